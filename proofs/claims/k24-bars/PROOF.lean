import PyProof.Rows.All
import Wide.All
import OpenK.AllK
import Wide.FinOn
import PyProof.EqAt
import PyProof.EqKinds
import PyProof.TupleCall
import HandS.Base
import HandS.Call
import HandS.List
import HandS.Dict
import HandS.More
import HandS.Slots
import HandS.ClsMeth
import KE.KStateDown
import HandS.Exc
import HandS.IsInst
import HandS.Defaults
import HandS.HeadHook1
import HandS.HeadHook2
import HandS.Head0
import HandS.Head1
import HandS.Head2
import HandS.HeadEnd
import HandS.ForMost
import HandS.Walk
import PyProof.NeKinds
import PyProof.StrBlock2
import HandS.Sort
import HandS.Text
import PyProof.DictUpdate
import HandS.Iter
import HandS.Conv
import HandS.Flow
import HandS.Style
import HandS.Steps
import PySem.Challenge.RW_recordyard_k24_bars_and_disabled
set_option Elab.async false
set_option linter.all false
set_option maxRecDepth 100000
set_option maxHeartbeats 4000000
/-! Rules beyond the layer: == and != of instances of classes without an own __eq__ (by identity), in and not in over lists of such, a def read off its class. -/
namespace RA
open PySem PySem.Spec PyProof.Rows PySem.SeqAt
/-- a class whose instances are equal by identity -/
structure PlainC (K : PySem.W.Frag) (C : Addr) : Prop where
  mro : PySem.W.mroIn K C (.type "object") = some true
  eq : PySem.W.findIn K (.ref C) "__eq__" = some (some (.builtin "object.__eq__"))
  ne : PySem.W.findIn K (.ref C) "__ne__" = some (some (.builtin "object.__ne__"))
def PairC (K : PySem.W.Frag) (C D : Addr) : Prop := C = D ∨ ∃ b, PySem.W.subIn K (.ref D) (.ref C) = some b
section
variable {M : Model} {prog : Program} {w : World} {A : Around} {E : Value → Shared → Prop} {s : Shared} {K : PySem.W.Frag} {x y C D : Addr} {ox oy : Obj} {od od' : Option Obj}
theorem inst_get (I : PySem.W.InstAt s.heap x ox C od) : s.heap.get? x = some ox := I.at_
theorem inst_notup (I : PySem.W.InstAt s.heap x ox C od) : ox.cls ≠ .type "tuple" := by
  rw [I.cls]; intro z; cases z
theorem eq_same {Q : Value → Shared → Prop} (X : K.In s.heap) (I : PySem.W.InstAt s.heap x ox C od) (hm : PySem.W.mroIn K C (.type "object") = some true) (hq : Q (.bool true) s) :
    wpAny (model prog w) A (call (.builtin "object.__eq__") [.ref x, .ref x]) Q E s :=
  wpAny_call (codeAny_call_builtin F.cmp_object.eq.plain F.cmpEntry_eq (PySem.W.check_slot F.cmpKind_eq F.cmpSplit_eq (I.type.andThen (PySem.W.looks_mroIn X hm)) (F.cmpArgs_eq _ _) (objEq_entry_same hq)))
theorem eq_other {Q : Value → Shared → Prop} (X : K.In s.heap) (I : PySem.W.InstAt s.heap x ox C od) (hm : PySem.W.mroIn K C (.type "object") = some true) (hy : s.heap.get? y = some oy) (hxy : x ≠ y) (hq : Q .notImplemented s) :
    wpAny (model prog w) A (call (.builtin "object.__eq__") [.ref x, .ref y]) Q E s :=
  wpAny_call (codeAny_call_builtin F.cmp_object.eq.plain F.cmpEntry_eq (PySem.W.check_slot F.cmpKind_eq F.cmpSplit_eq (I.type.andThen (PySem.W.looks_mroIn X hm)) (F.cmpArgs_eq _ _) (objEq_entry_other hxy (inst_get I) hy (inst_notup I) hq)))
theorem ifB_ne {args : List Value} {Q : Option Value → Shared → Prop} (X : K.In s.heap) (I : PySem.W.InstAt s.heap x ox C od) (hs : PySem.W.findIn K (.ref C) "__ne__" = some (some (.builtin "object.__ne__")))
    (h : wpAny M A (call (.builtin "object.__ne__") (.ref x :: args)) (fun v => Q (some v)) E s) : wpAny M A (callSpecialIfBound? (.ref x) "__ne__" args) Q E s := by
  simp only [callSpecialIfBound?, bindSpecialIfBound?]
  refine wpAny_holding (wpAny_bind (wpAny_bind (wpAny_bind (I.type.here ((PySem.W.looks_findIn X hs).here ?_)))))
  refine wpAny_bind (wpAny_askSetting (wpAny_ite ?_))
  have fin : wpAny M A (call (.builtin "object.__ne__") ([.ref x] ++ args) >>= fun v => pure (some v)) Q E s := wpAny_bind (wpAny_mono h (fun v s' h' => wpAny_pure h') fun _ _ h' => h')
  split
  · exact wpAny_bind (wpAny_of_eq (F.cmp_object.ne.bind _) (wpAny_pure (by exact fin)))
  · exact wpAny_tryCatch (wpAny_bind (wpAny_of_eq (F.cmp_object.ne.bind _) (wpAny_pure (by exact fin))))
theorem ne_entry_same {Q : Fin → Shared → Prop} (X : K.In s.heap) (I : PySem.W.InstAt s.heap x ox C od) (P : PlainC K C) (hu : A.units < cLine) (hq : Q (.done (.ret (.bool false))) s) :
    wpAny (model prog w) A (Builtin.«object.__ne__» ⟨[.ref x, .ref x], []⟩) Q E s := by
  unfold Builtin.«object.__ne__»
  repeat (first | with_reducible refine wpAny_cRoomFor hu ?_ | with_reducible refine HN.ifBound_objEq X I P.eq (eq_same X I P.mro ?_) | wp_step)
  exact hq
theorem ne_entry_other {Q : Fin → Shared → Prop} (X : K.In s.heap) (I : PySem.W.InstAt s.heap x ox C od) (P : PlainC K C) (hy : s.heap.get? y = some oy) (hxy : x ≠ y) (hu : A.units < cLine) (hq : Q (.done (.ret .notImplemented)) s) :
    wpAny (model prog w) A (Builtin.«object.__ne__» ⟨[.ref x, .ref y], []⟩) Q E s := by
  unfold Builtin.«object.__ne__»
  repeat (first | with_reducible refine wpAny_cRoomFor hu ?_ | with_reducible refine HN.ifBound_objEq X I P.eq (eq_other X I P.mro hy hxy ?_) | wp_step)
  exact hq
theorem try_eq_same {Q : Option Value → Shared → Prop} (X : K.In s.heap) (I : PySem.W.InstAt s.heap x ox C od) (P : PlainC K C) (h : Q (some (.bool true)) s) : wpAny (model prog w) A (tryCompare (.ref x) "__eq__" (.ref x)) Q E s := by
  unfold tryCompare
  exact wpAny_bind (HN.ifBound_objEq X I P.eq (eq_same X I P.mro (wpAny_pure h)))
theorem try_eq_other {Q : Option Value → Shared → Prop} (X : K.In s.heap) (I : PySem.W.InstAt s.heap x ox C od) (P : PlainC K C) (hy : s.heap.get? y = some oy) (hxy : x ≠ y) (h : Q none s) : wpAny (model prog w) A (tryCompare (.ref x) "__eq__" (.ref y)) Q E s := by
  unfold tryCompare
  exact wpAny_bind (HN.ifBound_objEq X I P.eq (eq_other X I P.mro hy hxy (wpAny_pure h)))
theorem try_ne_same {Q : Option Value → Shared → Prop} (hu : A.units + 1 < cLine) (X : K.In s.heap) (I : PySem.W.InstAt s.heap x ox C od) (P : PlainC K C) (h : Q (some (.bool false)) s) : wpAny (model prog w) A (tryCompare (.ref x) "__ne__" (.ref x)) Q E s := by
  unfold tryCompare
  refine wpAny_bind (ifB_ne X I P.ne (wpAny_call (codeAny_call_builtin F.cmp_object.ne.plain F.cmpEntry_ne (PySem.W.check_slot F.cmpKind_ne F.cmpSplit_ne (I.type.andThen (PySem.W.looks_mroIn X P.mro)) (F.cmpArgs_ne _ _) (ne_entry_same (A := A.in1) X I P hu ?_)))))
  exact wpAny_pure h
theorem try_ne_other {Q : Option Value → Shared → Prop} (hu : A.units + 1 < cLine) (X : K.In s.heap) (I : PySem.W.InstAt s.heap x ox C od) (P : PlainC K C) (hy : s.heap.get? y = some oy) (hxy : x ≠ y) (h : Q none s) : wpAny (model prog w) A (tryCompare (.ref x) "__ne__" (.ref y)) Q E s := by
  unfold tryCompare
  refine wpAny_bind (ifB_ne X I P.ne (wpAny_call (codeAny_call_builtin F.cmp_object.ne.plain F.cmpEntry_ne (PySem.W.check_slot F.cmpKind_ne F.cmpSplit_ne (I.type.andThen (PySem.W.looks_mroIn X P.mro)) (F.cmpArgs_ne _ _) (ne_entry_other (A := A.in1) X I P hy hxy hu ?_)))))
  exact wpAny_pure h
theorem rc_same (hu : A.units < cLine) (X : K.In s.heap) (I : PySem.W.InstAt s.heap x ox C od) (P : PlainC K C) : RcAt A s (.ref x) (.ref x) true := fun prog w E Q h => by
  simp only [richCompare, cmpInfo_Eq, oneThing_ref]
  refine wpAny_holding (wpAny_bind (wpAny_cRoomFor hu ?_))
  refine wpAny_bind (I.type.here (wpAny_bind (I.type.here ?_)))
  rw [if_neg (by simp)]
  refine wpAny_bind (wpAny_pure ?_)
  simp only [Bool.false_eq_true, if_false]
  exact wpAny_bind (try_eq_same X I P (wpAny_pure h))
theorem rcn_same (hu : A.units + 1 < cLine) (X : K.In s.heap) (I : PySem.W.InstAt s.heap x ox C od) (P : PlainC K C) {Q : Value → Shared → Prop} (h : Q (.bool false) s) : wpAny (model prog w) A (richCompare .NotEq (.ref x) (.ref x)) Q E s := by
  simp only [richCompare, cmpInfo_NotEq, oneThing_ref]
  refine wpAny_holding (wpAny_bind (wpAny_cRoomFor (Nat.lt_of_succ_lt hu) ?_))
  refine wpAny_bind (I.type.here (wpAny_bind (I.type.here ?_)))
  rw [if_neg (by simp)]
  refine wpAny_bind (wpAny_pure ?_)
  simp only [Bool.false_eq_true, if_false]
  exact wpAny_bind (try_ne_same hu X I P (wpAny_pure h))
theorem rc_other (hu : A.units < cLine) (X : K.In s.heap) (I : PySem.W.InstAt s.heap x ox C od) (J : PySem.W.InstAt s.heap y oy D od') (P : PlainC K C) (P' : PlainC K D) (hp : PairC K C D) (hxy : x ≠ y) : RcAt A s (.ref x) (.ref y) false := fun prog w E Q h => by
  have fin : ∀ (tag : String), wpAny (model prog w) A (rule tag >>= fun _ => isSame (.ref x) (.ref y) >>= fun b => pure (Value.bool b)) Q E s := fun tag =>
    wpAny_bind (wpAny_rule (wpAny_bind (wpAny_isSame_ref_other hxy (inst_get I) (inst_get J) (inst_notup I) (wpAny_pure h))))
  simp only [richCompare, cmpInfo_Eq, oneThing_ref]
  refine wpAny_holding (wpAny_bind (wpAny_cRoomFor hu ?_))
  refine wpAny_bind (I.type.here (wpAny_bind (J.type.here ?_)))
  by_cases hCD : C = D
  · subst hCD
    rw [if_neg (by simp)]
    refine wpAny_bind (wpAny_pure ?_)
    simp only [Bool.false_eq_true, if_false, Bool.not_false, if_true]
    refine wpAny_bind (try_eq_other X I P (inst_get J) hxy ?_)
    refine wpAny_bind (try_eq_other X J P' (inst_get I) (Ne.symm hxy) ?_)
    exact fin _
  · rw [if_pos (by simp [hCD])]
    obtain ⟨b, hb⟩ := hp.resolve_left hCD
    refine wpAny_bind ((PySem.W.looks_subIn X hb).here ?_)
    cases b with
    | false =>
      simp only [Bool.false_eq_true, if_false, Bool.not_false, if_true]
      refine wpAny_bind (try_eq_other X I P (inst_get J) hxy ?_)
      refine wpAny_bind (try_eq_other X J P' (inst_get I) (Ne.symm hxy) ?_)
      exact fin _
    | true =>
      simp only [Bool.not_true, Bool.false_eq_true, if_false, if_true]
      refine wpAny_bind (try_eq_other X J P' (inst_get I) (Ne.symm hxy) ?_)
      refine wpAny_bind (try_eq_other X I P (inst_get J) hxy ?_)
      exact fin _
theorem rcn_other (hu : A.units + 1 < cLine) (X : K.In s.heap) (I : PySem.W.InstAt s.heap x ox C od) (J : PySem.W.InstAt s.heap y oy D od') (P : PlainC K C) (P' : PlainC K D) (hp : PairC K C D) (hxy : x ≠ y) {Q : Value → Shared → Prop} (h : Q (.bool true) s) :
    wpAny (model prog w) A (richCompare .NotEq (.ref x) (.ref y)) Q E s := by
  have fin : ∀ (tag : String), wpAny (model prog w) A (rule tag >>= fun _ => isSame (.ref x) (.ref y) >>= fun b => pure (Value.bool (!b))) Q E s := fun tag =>
    wpAny_bind (wpAny_rule (wpAny_bind (wpAny_isSame_ref_other hxy (inst_get I) (inst_get J) (inst_notup I) (wpAny_pure h))))
  simp only [richCompare, cmpInfo_NotEq, oneThing_ref]
  refine wpAny_holding (wpAny_bind (wpAny_cRoomFor (Nat.lt_of_succ_lt hu) ?_))
  refine wpAny_bind (I.type.here (wpAny_bind (J.type.here ?_)))
  by_cases hCD : C = D
  · subst hCD
    rw [if_neg (by simp)]
    refine wpAny_bind (wpAny_pure ?_)
    simp only [Bool.false_eq_true, if_false, Bool.not_false, if_true]
    refine wpAny_bind (try_ne_other hu X I P (inst_get J) hxy ?_)
    refine wpAny_bind (try_ne_other hu X J P' (inst_get I) (Ne.symm hxy) ?_)
    exact fin _
  · rw [if_pos (by simp [hCD])]
    obtain ⟨b, hb⟩ := hp.resolve_left hCD
    refine wpAny_bind ((PySem.W.looks_subIn X hb).here ?_)
    cases b with
    | false =>
      simp only [Bool.false_eq_true, if_false, Bool.not_false, if_true]
      refine wpAny_bind (try_ne_other hu X I P (inst_get J) hxy ?_)
      refine wpAny_bind (try_ne_other hu X J P' (inst_get I) (Ne.symm hxy) ?_)
      exact fin _
    | true =>
      simp only [Bool.not_true, Bool.false_eq_true, if_false, if_true]
      refine wpAny_bind (try_ne_other hu X J P' (inst_get I) (Ne.symm hxy) ?_)
      refine wpAny_bind (try_ne_other hu X I P (inst_get J) hxy ?_)
      exact fin _
end
end RA
namespace RA
open PySem PySem.Spec PyProof.Rows PySem.SeqAt L2
/-- an instance of a plain class stands there -/
def InsP (K : PySem.W.Frag) (H : Hp) (a C : Addr) : Prop := (∃ dx fs, H a = some (.ins C dx fs)) ∧ PlainC K C
theorem InsP.of {K : PySem.W.Frag} {H : Hp} {a C dx : Addr} {fs : List (Str × V)} (h : H a = some (.ins C dx fs)) (p : PlainC K C) : InsP K H a C := ⟨⟨dx, fs, h⟩, p⟩
section
variable {X : Cx} {pins : List (Addr × Obj)} {σ : L2.St} {H : Hp} {s : Shared}
theorem insp_at {a C : Addr} (I : Inv X pins σ H s) (h : InsP X.K H a C) : ∃ ox od, PySem.W.InstAt s.heap a ox C od := by
  obtain ⟨⟨dx, fs, ha⟩, _⟩ := h
  obtain ⟨mA, O, _⟩ := ins_get I.hok ha
  obtain ⟨od, J, _⟩ := O.look
  exact ⟨_, _, J⟩
/-- x == y: y an instance, None, or a number, a text, a truth -/
def rEqP (K : PySem.W.Frag) : R2 := fun x y H Q => ∃ a C, x = .ref a ∧ InsP K H a C ∧ ((y = .non ∧ Q (.bl false) H) ∨ ∃ b D, y = .ref b ∧ InsP K H b D ∧ PairC K C D ∧ Q (.bl (decide (a = b))) H)
def rNeP (K : PySem.W.Frag) : R2 := fun x y H Q => ∃ a C b D, x = .ref a ∧ InsP K H a C ∧ y = .ref b ∧ InsP K H b D ∧ PairC K C D ∧ Q (.bl (!decide (a = b))) H
theorem op_eqP (hu : X.A.units < cLine) : OpR X (compareOp .Eq) (rEqP X.K) := by
  intro pins s σ H x y v u Q I rx ry h
  obtain ⟨a, C, rfl, ha, h⟩ := h
  cases rx
  obtain ⟨ox, od, Ia⟩ := insp_at I ha
  rcases h with ⟨rfl, q⟩ | ⟨b, D, rfl, hb, hp, q⟩
  · cases ry
    exact HN.rc_none hu I.kIn Ia ha.2.mro ha.2.eq _ _ _ _ (fin_bl I q rfl)
  · cases ry
    obtain ⟨oy, od', Ib⟩ := insp_at I hb
    by_cases z : a = b
    · subst z
      have e : C = D := by
        have h1 := Ia.cls.symm.trans ((congrArg Obj.cls (Option.some.inj (Ia.at_.symm.trans Ib.at_))).trans Ib.cls)
        exact Value.ref.inj h1
      subst e
      exact rc_same hu I.kIn Ia ha.2 _ _ _ _ (fin_bl I q (by simp))
    · exact rc_other hu I.kIn Ia Ib ha.2 hb.2 hp z _ _ _ _ (fin_bl I q (by simp [z]))
theorem op_neP (hu : X.A.units + 1 < cLine) : OpR X (compareOp .NotEq) (rNeP X.K) := by
  intro pins s σ H x y v u Q I rx ry h
  obtain ⟨a, C, b, D, rfl, ha, rfl, hb, hp, q⟩ := h
  cases rx
  cases ry
  obtain ⟨ox, od, Ia⟩ := insp_at I ha
  obtain ⟨oy, od', Ib⟩ := insp_at I hb
  by_cases z : a = b
  · subst z
    exact rcn_same hu I.kIn Ia ha.2 (fin_bl I q (by simp))
  · exact rcn_other hu I.kIn Ia Ib ha.2 hb.2 hp z (fin_bl I q (by simp [z]))
/-- x in l: x an instance, the items instances -/
def rInP (K : PySem.W.Frag) (neg : Bool) : R2 := fun x y H Q => ∃ (a C p : Addr) (as : List Addr), x = .ref a ∧ InsP K H a C ∧ y = .ref p ∧ SqL K H p (as.map V.ref) ∧ (∀ b ∈ as, ∃ D, InsP K H b D ∧ PairC K D C) ∧ Q (.bl (if neg then !decide (a ∈ as) else decide (a ∈ as))) H
theorem eqAt_ref {A : Around} {a b C D : Addr} (I : Inv X pins σ H s) (hu : A.units < cLine) (ha : InsP X.K H a C) (hb : InsP X.K H b D) (hp : PairC X.K D C) : EqAt A s (.ref b) (.ref a) (decide (b = a)) := by
  by_cases z : b = a
  · subst z
    rw [decide_eq_true rfl]
    exact EqAt.same _
  · rw [decide_eq_false z]
    obtain ⟨ox, od, Ia⟩ := insp_at I ha
    obtain ⟨oy, od', Ib⟩ := insp_at I hb
    intro prog w E Q h
    unfold eqBool
    refine wpAny_holding ?_
    refine wpAny_ite_split (fun hab => absurd (eq_of_beq hab) (fun e => z (Value.ref.inj e))) (fun _ => ?_)
    exact wpAny_bind (rc_other hu I.kIn Ib Ia hb.2 ha.2 hp z prog w E _ (wpAny_truthy_bool h))
theorem any_refs {a : Addr} : ∀ {as : List Addr} {us : List Value}, Vals (as.map V.ref) us → us.any (fun u => u == .ref a) = decide (a ∈ as)
  | [], _, .nil => by simp
  | b :: as, u :: us, .cons r t => by
    cases (show u = Value.ref b from r)
    rw [List.any_cons, any_refs t]
    by_cases z : b = a
    · subst z; simp
    · have z' : ¬ a = b := fun e => z e.symm
      simp [z, z']
theorem mem_refs {A : Around} {a C : Addr} (I : Inv X pins σ H s) (hu : A.units < cLine) (ha : InsP X.K H a C) : ∀ {as : List Addr} {us : List Value}, Vals (as.map V.ref) us → (∀ b ∈ as, ∃ D, InsP X.K H b D ∧ PairC X.K D C) → ∀ u ∈ us, EqAt A s u (.ref a) (u == .ref a)
  | [], _, .nil, _ => fun u hu' => by cases hu'
  | b :: as, u :: us, .cons r t, f => fun u' hu' => by
    rcases List.mem_cons.mp hu' with e | hu'
    · subst e
      cases (show u' = Value.ref b from r)
      obtain ⟨D, hb, hp⟩ := f b (List.mem_cons_self ..)
      have e2 : (Value.ref b == Value.ref a) = decide (b = a) := by
        by_cases z : b = a <;> simp [z]
      rw [e2]
      exact eqAt_ref I hu ha hb hp
    · exact mem_refs I hu ha t (fun z hz => f z (List.mem_cons_of_mem _ hz)) u' hu'
theorem op_inP (hu : X.A.units + 64 < cLine) : OpR X (compareOp .In) (rInP X.K false) := by
  intro pins s σ H x y v u Q I rx ry h
  obtain ⟨a, C, p, as, rfl, ha, rfl, hq, f, q⟩ := h
  cases rx
  cases ry
  obtain ⟨its, rv, hl, _⟩ := I.list hq
  have hu1 : X.A.in1.units < cLine := by show X.A.units + 1 < cLine; omega
  refine SeqAt.in_listAt (fun u => u == .ref a) hl.isList (fun z hz => mem_refs I hu1 ha rv f z (by simpa using hz)) ⟨.bl _, H, I, rfl, ?_⟩
  rw [show its.toArray.any (fun u => u == .ref a) = its.any (fun u => u == .ref a) by simp, any_refs rv]
  exact q
theorem op_notInP (hu : X.A.units + 64 < cLine) : OpR X (compareOp .NotIn) (rInP X.K true) := by
  intro pins s σ H x y v u Q I rx ry h
  obtain ⟨a, C, p, as, rfl, ha, rfl, hq, f, q⟩ := h
  cases rx
  cases ry
  obtain ⟨its, rv, hl, _⟩ := I.list hq
  have hu1 : X.A.in1.units < cLine := by show X.A.units + 1 < cLine; omega
  refine SeqAt.notIn_listAt (fun u => u == .ref a) hl.isList (fun z hz => mem_refs I hu1 ha rv f z (by simpa using hz)) ⟨.bl _, H, I, rfl, ?_⟩
  rw [show its.toArray.any (fun u => u == .ref a) = its.any (fun u => u == .ref a) by simp, any_refs rv]
  exact q
/-! ### a def read off its class: C.m(x, ..) -/
structure CFun (K : PySem.W.Frag) (C : Addr) (m : Str) (f : Addr) : Prop where
  ga : PySem.W.specialIn K (.ref C) "__getattribute__" = some (some (.builtin "type.__getattribute__"))
  rd : PySem.W.readsIn K C (.type "type") = true
  at_ : PySem.W.findCls K (.ref C) (.type "type") m = some (.val (.ref f))
  kp : PySem.W.keepIn K (.ref f) = true
def tCFun (C : Addr) (sp : Sp) (dvs : List V) (E : XK) (ta : TE) (t : TA) : TE := fun σ H Q => ta σ H fun x H1 => x = .ref C ∧ t σ H1 fun vs H2 => sp (vs ++ dvs) H2 Q E
theorem pe_cfun {CX : CXT} {k : Nat} {C f : Addr} {fd : FuncData} {ps : List Str} {sp : Sp} {dvs : List V} {ds : List Value} {E : XK} {o e : Expr} {es : List Expr} {m : Str} {pos apos : Pos} {ta : TE} {t : TA} {pl : Sem Bool}
    (he : PE X o ta) (c : CFun X.K C m f) (F : FnOk X.prog X.w X.K X.mg X.base CX k f fd ps sp) (hr : Room k X.A) (hb : Binds X.K fd ps ds) (hd : Vals dvs ds) (hx : Passes CX X E) (ha : PA X (e :: es) t)
    (hst : starEach (e :: es) X.env = (false, eval e X.env) :: starEach es X.env := by rfl) (hpl : (backTo pos (starEach es X.env)).any (·.1) = false := by rfl)
    (ht : eval (.Call (.Attribute o m apos) (e :: es) [] pos) X.env = (do
      let ov ← eval o X.env
      standAt apos.atName
      let (f, first) ← holding [ov] (getMethod ov m pl)
      callWith pos f first (backTo pos (starEach (e :: es) X.env)) (backToKw pos (keywordEach [] X.env))) := by rfl) :
    PE X (.Call (.Attribute o m apos) (e :: es) [] pos) (tCFun C sp dvs E ta t) := by
  refine ⟨fun pins s σ H Q I h => ?_⟩
  refine PySem.W.methodCall_KW (pl := pl) (thn (he.run pins s σ H _ I h) fun u s1 ⟨x, H1, I1, rx, ex, q⟩ => ?_) ht
  subst ex
  obtain rfl : u = Value.ref C := rx
  refine PySem.W.method_cls I1.kIn c.ga (PySem.W.cls_value I1.kIn c.rd c.at_ (handed_of (v := .ref f) rfl) ?_)
  have I2 := I1.tok (s1.toks + 1)
  refine PySem.W.callWith_K (first := []) (h₀ := X.base) I2.ok.mod.kin c.kp (thn (ha.run pos pins _ σ H1 _ I2 q) fun us s2 ⟨vs, H2, I3, r, q2⟩ => ⟨I3.kIn, ?_⟩) hst hpl
  exact run_fn F hr hb hd hx I3 r q2
/-! ### one of two rules -/
theorem PE.or {e : Expr} {t t' : TE} (h : PE X e t) (h' : PE X e t') : PE X e (fun σ H Q => t σ H Q ∨ t' σ H Q) := ⟨fun pins s σ H Q I q => by
  rcases q with q | q
  · exact h.run pins s σ H Q I q
  · exact h'.run pins s σ H Q I q⟩
/-- any of many rules for one expression -/
theorem PE.any {ι : Type} {e : Expr} {t : ι → TE} (S : ι → Prop) (h : ∀ i, S i → PE X e (t i)) : PE X e (fun σ H Q => ∃ i, S i ∧ t i σ H Q) := ⟨fun pins s σ H Q I ⟨i, hi, q⟩ => (h i hi).run pins s σ H Q I q⟩
end
end RA

set_option Elab.async false
set_option linter.all false
set_option maxRecDepth 100000
set_option maxHeartbeats 4000000
/-! The head's facts: He.Fa and He.DefD, further facts of classes, dicts of the top with their items. -/
namespace RB
open PySem PySem.Spec PyProof.Rows L2 He
/-- what isinstance asks of a value's own class -/
structure TyC (K : PySem.W.Frag) (C : Addr) : Prop where
  ha : PySem.W.findIn K (.ref C) "__class__" = some (some (.builtin "object.__class__"))
  hn : PySem.W.specialIn K (.builtin "object.__class__") "__get__" = some (some (.builtin "getset_descriptor.__get__"))
  ht : PySem.W.takesIn K (.builtin "object.__class__") = some true
  hm : PySem.W.mroIn K C (.type "object") = some true
inductive Fx where
  | pl (x : Str)
  | sub (x y : Str)
  | cf (x m : Str)
  | ty (x : Str)
  | kit (x y : Str) (b : Bool)
  | kib (n : String) (y : Str) (b : Bool)
  | dtup (p : Str × Option Str) (i : Nat)
def Fx.ok (K : PySem.W.Frag) : Fx → Bool
  | .pl x => decide (PySem.W.mroIn K (ga K x) (.type "object") = some true) && (eqO (PySem.W.findIn K (.ref (ga K x)) "__eq__") (some (some (.builtin "object.__eq__"))) && eqO (PySem.W.findIn K (.ref (ga K x)) "__ne__") (some (some (.builtin "object.__ne__"))))
  | .sub x y => decide (ga K x = ga K y) || (PySem.W.subIn K (.ref (ga K y)) (.ref (ga K x))).isSome
  | .cf x m => eqO (PySem.W.specialIn K (.ref (ga K x)) "__getattribute__") (some (some (.builtin "type.__getattribute__"))) && (PySem.W.readsIn K (ga K x) (.type "type") && ((match PySem.W.findCls K (.ref (ga K x)) (.type "type") m with
    | some (.val (.ref f)) => decide (f = ma K (ga K x) m)
    | _ => false) && PySem.W.keepIn K (.ref (ma K (ga K x) m))))
  | .ty x => eqO (PySem.W.findIn K (.ref (ga K x)) "__class__") (some (some (.builtin "object.__class__"))) && (eqO (PySem.W.specialIn K (.builtin "object.__class__") "__get__") (some (some (.builtin "getset_descriptor.__get__"))) && (decide (PySem.W.takesIn K (.builtin "object.__class__") = some true) && decide (PySem.W.mroIn K (ga K x) (.type "object") = some true)))
  | .kit x y b => decide (PySem.W.kitOne K (.ref (ga K x)) (.ref (ga K y)) = some b)
  | .kib n y b => decide (PySem.W.kitOne K (.type n) (.ref (ga K y)) = some b)
  | .dtup p i => (match K.lookup (dflAt p i K) with
    | some ⟨.type c, _, .seq its _, _⟩ => decide (c = "tuple") && its.isEmpty
    | _ => false)
section
variable {K : PySem.W.Frag}
theorem pl_ok {x : Str} (c : (Fx.pl x).ok K = true) : RA.PlainC K (ga K x) := by
  obtain ⟨c1, c⟩ := ba c
  obtain ⟨c2, c3⟩ := ba c
  exact ⟨of_decide_eq_true c1, eqO_ok c2, eqO_ok c3⟩
theorem sub_ok {x y : Str} (c : (Fx.sub x y).ok K = true) : RA.PairC K (ga K x) (ga K y) := by
  rcases Bool.or_eq_true_iff.mp c with c | c
  · exact .inl (of_decide_eq_true c)
  · exact .inr (Option.isSome_iff_exists.mp c)
theorem cf_ok {x m : Str} (c : (Fx.cf x m).ok K = true) : RA.CFun K (ga K x) m (ma K (ga K x) m) := by
  obtain ⟨c1, c⟩ := ba c
  obtain ⟨c2, c⟩ := ba c
  obtain ⟨c3, c4⟩ := ba c
  refine ⟨eqO_ok c1, c2, ?_, c4⟩
  cases e : PySem.W.findCls K (.ref (ga K x)) (.type "type") m with
  | none => rw [e] at c3; cases c3
  | some r =>
    rw [e] at c3
    cases r with
    | get _ _ _ _ => cases c3
    | val v =>
      cases v with
      | ref f => rw [of_decide_eq_true c3]
      | _ => cases c3
theorem ty_ok {x : Str} (c : (Fx.ty x).ok K = true) : TyC K (ga K x) := by
  obtain ⟨c1, c⟩ := ba c
  obtain ⟨c2, c⟩ := ba c
  obtain ⟨c3, c4⟩ := ba c
  exact ⟨eqO_ok c1, eqO_ok c2, of_decide_eq_true c3, of_decide_eq_true c4⟩
theorem kit_ok {x y : Str} {b : Bool} (c : (Fx.kit x y b).ok K = true) : PySem.W.kitOne K (.ref (ga K x)) (.ref (ga K y)) = some b := of_decide_eq_true c
theorem kib_ok {n : String} {y : Str} {b : Bool} (c : (Fx.kib n y b).ok K = true) : PySem.W.kitOne K (.type n) (.ref (ga K y)) = some b := of_decide_eq_true c
theorem dtup_ok {p : Str × Option Str} {i : Nat} (h : (Fx.dtup p i).ok K = true) (H : Hp) : SqT K H (dflAt p i K) [] := by
  have h1 : (match K.lookup (dflAt p i K) with
    | some ⟨.type c, _, .seq its _, _⟩ => decide (c = "tuple") && its.isEmpty
    | _ => false) = true := h
  cases q : K.lookup (dflAt p i K) with
  | none => rw [q] at h1; cases h1
  | some o =>
    obtain ⟨oc, od, dt, osl⟩ := o
    rw [q] at h1
    cases oc with
    | type c =>
      cases dt with
      | seq its n =>
        obtain ⟨h2, h3⟩ := ba (show (decide (c = "tuple") && its.isEmpty) = true from h1)
        have e3 : its = #[] := Array.isEmpty_iff.mp h3
        subst e3
        exact .inr ⟨_, #[], n, q, congrArg Value.type (of_decide_eq_true h2), rfl, Nat.zero_le _, .nil⟩
      | _ => cases h1
    | _ => cases dt <;> cases h1
theorem TyC.tyx {C a dx : Addr} {H : Hp} {fs : List (Str × V)} (t : TyC K C) (c : Cls K C) (e : H a = some (.ins C dx fs)) : TyX K H (.ref a) (.ref C) := .base (.ins e c t.ha t.hn t.ht t.hm)
end
/-! ### dicts of the top -/
def keyE (e : DictEntry) : Option (Key × Int) := match e.key with
  | .int i _ => some (Sum.inl i, e.hash)
  | .str x _ => some (Sum.inr x, e.hash)
  | _ => none
def keyHP (P : Params) : Key → Int
  | .inl i => hashInt i
  | .inr x => PyData.keyHash P x
abbrev Tb : Type := Str × List (Key × Dv)
def tbRow (K : PySem.W.Frag) (x : Str) : Option (List (Option (Key × Int))) := match K.lookup (ga K x) with
  | some ⟨.type c, none, .dict es _, sl⟩ => (match decide (c = "dict") && (sl.isEmpty && !(ga K x == sysModules)) with
    | true => some (es.toList.map keyE)
    | false => none)
  | _ => none
def tbWant (P : Params) (kvs : List (Key × Dv)) : Option (List (Option (Key × Int))) := some (kvs.map fun q => some (q.1, keyHP P q.1))
def tbVals (K : PySem.W.Frag) (t : Tb) : Bool := decide ((t.2.map (·.1)).Nodup) && (decide (t.2.length ≤ sizeLine) && (match K.lookup (ga K t.1) with
  | some ⟨_, _, .dict es _, _⟩ => relAll (t.2.map fun q => q.2.v K) (es.toList.map (·.val))
  | _ => false))
/-- a dict of the top with these items -/
structure KD (P : Program) (w : World) (K : PySem.W.Frag) (a : Addr) (kvs : List (Key × V)) : Prop where
  low : (a == sysModules) = false
  len : kvs.length ≤ sizeLine
  at_ : ∃ vs, KV kvs vs ∧ ∀ h : Heap, K.In h → h.DictOf (mixKind P w) a vs
theorem rows_pairs {P : Program} {w : World} : ∀ {es : List DictEntry} {kvs : List (Key × V)}, es.map keyE = kvs.map (fun q => some (q.1, keyHP w.params q.1)) → relAll (kvs.map (·.2)) (es.map (·.val)) = true →
    ∃ vs, KV kvs vs ∧ Pairs (mixKind P w) es vs ∧ vs.map (·.1) = kvs.map (·.1) ∧ ∀ e ∈ es, ∃ k, (mixKind P w).is k e.key = true ∧ e.hash = (mixKind P w).hash k
  | [], [], _, _ => ⟨[], .nil, .nil, rfl, fun _ h => nomatch h⟩
  | [], _ :: _, h, _ => by cases h
  | _ :: _, [], h, _ => by cases h
  | e :: es, q :: kvs, h, hv => by
    rw [List.map_cons, List.map_cons] at h
    injection h with h1 h2
    obtain ⟨v1, v2⟩ := ba (show (relB q.2 e.val && relAll (kvs.map (·.2)) (es.map (·.val))) = true from hv)
    obtain ⟨vs, r, p, n, kk⟩ := rows_pairs (P := P) h2 v2
    have key : (mixKind P w).is q.1 e.key = true ∧ e.hash = (mixKind P w).hash q.1 := by
      unfold keyE at h1
      split at h1
      · rename_i i t ek
        have h3 := Prod.mk.inj (Option.some.inj h1)
        rw [← h3.1, ek]
        refine ⟨mixKind_int P w i t, ?_⟩
        rw [h3.2, ← h3.1]; rfl
      · rename_i x t ek
        have h3 := Prod.mk.inj (Option.some.inj h1)
        rw [← h3.1, ek]
        refine ⟨mixKind_str P w x t, ?_⟩
        rw [h3.2, ← h3.1]; rfl
      · cases h1
    refine ⟨(q.1, e.val) :: vs, .cons ⟨rfl, relB_ok v1⟩ r, .cons key.1 rfl p, by rw [List.map_cons, List.map_cons, n], fun e' he => ?_⟩
    rcases List.mem_cons.mp he with rfl | he
    · exact ⟨q.1, key⟩
    · exact kk e' he
theorem kd_of {P : Program} {w : World} {K : PySem.W.Frag} {t : Tb} (h1 : tbRow K t.1 = tbWant w.params t.2) (h2 : tbVals K t = true) : KD P w K (ga K t.1) (t.2.map fun q => (q.1, q.2.v K)) := by
  obtain ⟨nd, h2⟩ := ba h2
  obtain ⟨ln, h2⟩ := ba h2
  unfold tbRow tbWant at h1
  cases q : K.lookup (ga K t.1) with
  | none => rw [q] at h1; cases h1
  | some o =>
    obtain ⟨oc, od, dt, osl⟩ := o
    rw [q] at h1 h2
    cases oc with
    | type c =>
      cases od with
      | none =>
        cases dt with
        | dict es n =>
          have h3 : (match decide (c = "dict") && (osl.isEmpty && !(ga K t.1 == sysModules)) with
            | true => some (es.toList.map keyE)
            | false => none) = some (t.2.map fun q => some (q.1, keyHP w.params q.1)) := h1
          cases z : decide (c = "dict") && (osl.isEmpty && !(ga K t.1 == sysModules)) with
          | false => rw [z] at h3; cases h3
          | true =>
            rw [z] at h3
            obtain ⟨z1, z2⟩ := ba z
            obtain ⟨z3, z4⟩ := ba z2
            have e1 : c = "dict" := of_decide_eq_true z1
            have e2 : osl = #[] := Array.isEmpty_iff.mp z3
            have e3 : (ga K t.1 == sysModules) = false := by
              cases y : (ga K t.1 == sysModules) with
              | false => rfl
              | true => rw [y] at z4; cases z4
            subst e1 e2
            have h4 : es.toList.map keyE = (t.2.map fun q => (q.1, q.2.v K)).map (fun q => some (q.1, keyHP w.params q.1)) := by
              rw [List.map_map]
              exact Option.some.inj h3
            have h5 : relAll ((t.2.map fun q => (q.1, q.2.v K)).map (·.2)) (es.toList.map (·.val)) = true := by
              rw [List.map_map]
              exact h2
            obtain ⟨vs, r, p, nm, kk⟩ := rows_pairs (P := P) h4 h5
            refine ⟨e3, by rw [List.length_map]; exact of_decide_eq_true ln, vs, r, fun h X => ⟨_, es, n, X _ _ q, ⟨rfl, rfl, rfl⟩, rfl, fun e he => kk e (Array.mem_toList_iff.mpr he), p, ?_⟩⟩
            rw [nm, List.map_map]
            exact of_decide_eq_true nd
        | _ => cases h1
      | some d => cases dt <;> cases h1
    | _ => cases od <;> cases dt <;> cases h1
section
variable {X : Cx}
/-- dict(D), D a dict of the top: a new one -/
theorem call_dictK {D : Addr} {kvs : List (Key × V)} (k : KD X.prog X.w X.K D kvs) : CallR X (.type "dict") (fun xs H Q => xs = [.ref D] ∧ ∀ p, H p = none → Q (.ref p) (upd H p (.dK kvs))) := by
  intro pins s σ H xs us Q I r q
  obtain ⟨ex, q⟩ := q
  subst ex
  obtain ⟨u, eu, rx⟩ := vals1 r
  subst eu
  cases rx
  obtain ⟨vs, rel, dd⟩ := k.at_
  refine kt_call_dict k.low (dd _ I.kIn) (by rw [← rel.length]; exact k.len) fun h' d' hs => ?_
  have hm : (s.heap.objs.size == sysModules) = false := beq_eq_false_iff_ne.mpr (Nat.ne_of_gt I.big)
  exact ⟨.ref s.heap.objs.size, upd H s.heap.objs.size (.dK kvs), I.laid (t' := s.toks) (fun b u e => (hs.2 b (Nat.ne_of_lt (Heap.lt_size e))).trans (Heap.get?_push_of_some _ e)) (Nat.le_refl _)
    (show ObjOk X.prog X.w _ _ _ (.dK kvs) from ⟨k.len, hm, vs, rel, d'⟩), rfl, q _ (I.hok.fresh (Nat.le_refl _))⟩
end
/-! ### the Hook -/
abbrev AlB : Type := AlD × List (Option (List (Option (Key × Int)))) × Bool
def obsB (fa : List Fa) (fx : List Fx) (fn : List DefD) (ts : List Tb) (K : PySem.W.Frag) : AlB := (obsD fa fn K, ts.map fun t => tbRow K t.1, (fx.all fun f => f.ok K) && ts.all fun t => tbVals K t)
def valB (fn : List DefD) (ts : List Tb) (w : World) : AlB := (valD fn, ts.map fun t => tbWant w.params t.2, true)
def SaysB (fa : List Fa) (fx : List Fx) (fn : List DefD) (ts : List Tb) (w : World) (K : PySem.W.Frag) : Prop := obsB fa fx fn ts K = valB fn ts w
/-- and the objects that are defaults: one step further, for those alone -/
def extraB (g : Addr → Option Obj) (fx : List Fx) (as : List Addr) : List Addr := cStatics :: (as ++ fx.filterMap fun
  | .dtup p i => some (dflAt p i (frG g as))
  | _ => none)
def obsBG (n : Nat) (fa : List Fa) (fx : List Fx) (fn : List DefD) (ts : List Tb) (g : Addr → Option Obj) : AlB := obsB fa fx fn ts (frG g (extraB g fx (asD g n)))
def hookB (n : Nat) (fa : List Fa) (fx : List Fx) (fn : List DefD) (ts : List Tb) : PySem.W.Hook where
  α := AlB
  obs := fun s => obsBG n fa fx fn ts s.heap.get?
  val := fun w => valB fn ts w
  says := fun w h => ∃ K : PySem.W.Frag, K.In h ∧ SaysB fa fx fn ts w K
  of := fun _ _ e => ⟨_, frG_in, e⟩
  keeps := fun _ _ _ ⟨K, hK, c⟩ k => ⟨K, PySem.W.Frag.In.keeps hK k, c⟩
theorem obsBG_eq {n : Nat} {fa : List Fa} {fx : List Fx} {fn : List DefD} {ts : List Tb} {g : Addr → Option Obj} {s : Shared} (h : ∀ a, g a = s.heap.get? a) : obsBG n fa fx fn ts g = (hookB n fa fx fn ts).obs s := by
  have e : g = s.heap.get? := funext h
  rw [e] <;> rfl
section
variable {fa : List Fa} {fx : List Fx} {fn : List DefD} {ts : List Tb} {w : World} {K : PySem.W.Frag}
theorem SaysB.d (c : SaysB fa fx fn ts w K) : SaysD fa fn K := congrArg (fun z : AlB => z.1) c
theorem SaysB.fact (c : SaysB fa fx fn ts w K) (i : Nat) {f : Fa} (h : fa[i]? = some f := by rfl) : f.ok K = true := c.d.fact i h
theorem SaysB.more (c : SaysB fa fx fn ts w K) (i : Nat) {f : Fx} (h : fx[i]? = some f := by rfl) : f.ok K = true := by
  have c1 := (ba (show ((fx.all fun f => f.ok K) && ts.all fun t => tbVals K t) = true from congrArg (fun z : AlB => z.2.2) c)).1
  exact List.all_eq_true.mp c1 f (List.mem_of_getElem? h)
theorem SaysB.tb (c : SaysB fa fx fn ts w K) (i : Nat) {t : Tb} (h : ts[i]? = some t := by rfl) (P : Program) : KD P w K (ga K t.1) (t.2.map fun q => (q.1, q.2.v K)) := by
  have c1 := (ba (show ((fx.all fun f => f.ok K) && ts.all fun t => tbVals K t) = true from congrArg (fun z : AlB => z.2.2) c)).2
  have e : ts.map (fun t => tbRow K t.1) = ts.map fun t => tbWant w.params t.2 := congrArg (fun z : AlB => z.2.1) c
  have e2 : (ts.map fun t => tbRow K t.1)[i]? = (ts.map fun t => tbWant w.params t.2)[i]? := by rw [e]
  rw [List.getElem?_map, List.getElem?_map, h] at e2
  exact kd_of (Option.some.inj e2) (List.all_eq_true.mp c1 t (List.mem_of_getElem? h))
end
end RB

set_option Elab.async false
set_option linter.all false
set_option maxRecDepth 100000
set_option maxHeartbeats 4000000
/-! What a caller needs of a def, in one word; the stream of draws. -/
namespace RC
open PySem PySem.Spec PyProof.Rows L2 He
/-- the def at f may be called with all parameters but the last ones, whose defaults are dvs -/
def Callable (P : Program) (w : World) (K : PySem.W.Frag) (mg : Str → Option Value) (base : Heap) (k : Nat) (f : Addr) (ps : List Str) (dvs : List V) (sp : Sp) : Prop :=
  ∃ fd ds, FnOk P w K mg base CX0 k f fd ps sp ∧ Vals dvs ds ∧ Binds K fd ps ds ∧ PySem.W.keepIn K (.ref f) = true
section
variable {X : Cx} {k : Nat} {f C : Addr} {ps : List Str} {sp : Sp} {dvs : List V} {x m : Str} {p pos apos : Pos} {e o : Expr} {es : List Expr} {ta : TE} {t : TA} {pl : Sem Bool}
theorem pe_fn (hm : X.mg x = some (.ref f)) (c : Callable X.prog X.w X.K X.mg X.base k f ps dvs sp) (hr : Room k X.A) (hg : Gl X x) (ha : PA X (e :: es) t) (hdb : (x == ("__debug__" : Str)) = false := by decide)
    (he : starEach (e :: es) X.env = (false, eval e X.env) :: starEach es X.env := by rfl) (hpl : (backTo pos (starEach es X.env)).any (·.1) = false := by rfl) : PE X (.Call (.Name x p) (e :: es) [] pos) (tCall sp dvs E0 t) := by
  obtain ⟨fd, ds, F, hd, hb, hk⟩ := c
  exact pe_call F hr hg hm hk hb hd pass0 ha hdb he hpl
theorem pe_fn0 (hm : X.mg x = some (.ref f)) (c : Callable X.prog X.w X.K X.mg X.base k f ps dvs sp) (hr : Room k X.A) (hg : Gl X x) (hdb : (x == ("__debug__" : Str)) = false := by decide) : PE X (.Call (.Name x p) [] [] pos) (tCall sp dvs E0 tNil) := by
  obtain ⟨fd, ds, F, hd, hb, hk⟩ := c
  exact pe_call0 F hr hg hm hk hb hd pass0 hdb
theorem pe_mt (cl : Cls X.K C) (hm : Meth X.K C m f) (c : Callable X.prog X.w X.K X.mg X.base k f ps dvs sp) (hr : Room k X.A) (he : PE X o ta) (ha : PA X (e :: es) t)
    (hst : starEach (e :: es) X.env = (false, eval e X.env) :: starEach es X.env := by rfl) (hpl : (backTo pos (starEach es X.env)).any (·.1) = false := by rfl)
    (ht : eval (.Call (.Attribute o m apos) (e :: es) [] pos) X.env = (do
      let ov ← eval o X.env
      standAt apos.atName
      let (f, first) ← holding [ov] (getMethod ov m pl)
      callWith pos f first (backTo pos (starEach (e :: es) X.env)) (backToKw pos (keywordEach [] X.env))) := by rfl) :
    PE X (.Call (.Attribute o m apos) (e :: es) [] pos) (tMeth C m sp dvs E0 ta t) := by
  obtain ⟨fd, ds, F, hd, hb, hk⟩ := c
  exact pe_meth he cl hm F hr hb hd pass0 ha hst hpl ht
theorem pe_mt0 (cl : Cls X.K C) (hm : Meth X.K C m f) (c : Callable X.prog X.w X.K X.mg X.base k f ps dvs sp) (hr : Room k X.A) (he : PE X o ta)
    (ht : eval (.Call (.Attribute o m apos) [] [] pos) X.env = (do
      let ov ← eval o X.env
      standAt apos.atName
      let (f, first) ← holding [ov] (getMethod ov m pl)
      callWith pos f first (backTo pos (starEach [] X.env)) (backToKw pos (keywordEach [] X.env))) := by rfl) :
    PE X (.Call (.Attribute o m apos) [] [] pos) (tMeth C m sp dvs E0 ta tNil) := by
  obtain ⟨fd, ds, F, hd, hb, hk⟩ := c
  exact pe_meth0 he cl hm F hr hb hd pass0 ht
theorem pe_mk (M : Mk X.K C f) (hm : X.mg x = some (.ref C)) (c : Callable X.prog X.w X.K X.mg X.base k f ps dvs sp) (hr : Room (k + 1) X.A) (hg : Gl X x) (ha : PA X (e :: es) t) (hdb : (x == ("__debug__" : Str)) = false := by decide)
    (he : starEach (e :: es) X.env = (false, eval e X.env) :: starEach es X.env := by rfl) (hpl : (backTo pos (starEach es X.env)).any (·.1) = false := by rfl) : PE X (.Call (.Name x p) (e :: es) [] pos) (tMake C sp dvs E0 t) := by
  obtain ⟨fd, ds, F, hd, hb, hk⟩ := c
  exact pe_make M F hr hg hm hb hd pass0 ha hdb he hpl
theorem pe_mk0 (M : Mk X.K C f) (hm : X.mg x = some (.ref C)) (c : Callable X.prog X.w X.K X.mg X.base k f ps dvs sp) (hr : Room (k + 1) X.A) (hg : Gl X x) (hdb : (x == ("__debug__" : Str)) = false := by decide) : PE X (.Call (.Name x p) [] [] pos) (tMake C sp dvs E0 tNil) := by
  obtain ⟨fd, ds, F, hd, hb, hk⟩ := c
  exact pe_make0 M F hr hg hm hb hd pass0 hdb
theorem pe_cf (cf : RA.CFun X.K C m f) (c : Callable X.prog X.w X.K X.mg X.base k f ps dvs sp) (hr : Room k X.A) (he : PE X o ta) (ha : PA X (e :: es) t)
    (hst : starEach (e :: es) X.env = (false, eval e X.env) :: starEach es X.env := by rfl) (hpl : (backTo pos (starEach es X.env)).any (·.1) = false := by rfl)
    (ht : eval (.Call (.Attribute o m apos) (e :: es) [] pos) X.env = (do
      let ov ← eval o X.env
      standAt apos.atName
      let (f, first) ← holding [ov] (getMethod ov m pl)
      callWith pos f first (backTo pos (starEach (e :: es) X.env)) (backToKw pos (keywordEach [] X.env))) := by rfl) :
    PE X (.Call (.Attribute o m apos) (e :: es) [] pos) (RA.tCFun C sp dvs E0 ta t) := by
  obtain ⟨fd, ds, F, hd, hb, hk⟩ := c
  exact RA.pe_cfun he cf F hr hb hd pass0 ha hst hpl ht
end
section
variable {P : Program} {w : World} {K : PySem.W.Frag} {mg : Str → Option Value} {base : Heap} {x qual : Str} {params : Arguments} {body : List Stmt} {scope : Scope} {dvs : List V} {f : Addr} {k : Nat} {N ps : List Str} {sp : Sp}
/-- a def that stands there -/
def Stands (K : PySem.W.Frag) (x qual : Str) (st : Stmt) (dvs : List V) (f : Addr) : Prop := ∃ fd, FunD K x qual (defArgs st) (defBody st) (defScope st) dvs [] f fd
/-- THE RULE for a def, whatever its defaults: what it promises of every call; bind: how its arguments bind with the first n parameters given -/
theorem Stands.call {st : Stmt} (F : Stands K x qual st dvs f) (S : FnScope N ps (defScope st)) (n j : Nat) (len : ∀ vs H Q E, sp vs H Q E → vs.length = ps.length)
    (hbody : ∀ (cdv : Value) (A : Around) (outer : List Env) (s : Shared) (H : Hp) (vs : List V) (Q : VK) (E : XK), Room k (A.deeper (envOfC qual (defScope st) s.heap.objs.size f cdv)) → sp vs H Q E →
      ∃ t, PSs (cxOf CX0 P w K mg base N qual (defScope st) f cdv A outer s H E).nox (defBody st) t ∧ t { nx := fun _ H' => Q .non H', rt := Q } (start N vs) H)
    (h0 : dvs = [] → n = ps.length ∧ ∀ (kV doc pm : Value) (an : Option Addr) (cdv ct : Value) (us : List Value), us.length = ps.length → bindArgs (PySem.W.fnOf x qual (defArgs st) (defBody st) (defScope st) .none kV doc pm an cdv ct) ⟨us, []⟩ = pure (ps.zip us))
    (h1 : dvs ≠ [] → n + (dvs.length - j) = ps.length ∧ ∀ (T : Addr) (kV doc pm : Value) (an : Option Addr) (cdv ct : Value) (us its : List Value), us.length = n → its.length = dvs.length →
      ∃ k, bindArgs (PySem.W.fnOf x qual (defArgs st) (defBody st) (defScope st) (.ref T) kV doc pm an cdv ct) ⟨us, []⟩ = seqItems? (.ref T) >>= k ∧ k (some its.toArray) = pure (ps.zip (us ++ its.drop j))) :
    Callable P w K mg base (k + 1) f ps (dvs.drop j) sp := by
  obtain ⟨fd, F⟩ := F
  have ok : FnOk P w K mg base CX0 (k + 1) f fd ps sp := F.ok S len fun cdv A outer s H vs Q E hr hsp => by
    obtain ⟨t, h, q⟩ := hbody cdv A outer s H vs Q E hr hsp
    exact ⟨t, h.nox, q⟩
  by_cases hd : dvs = []
  · subst hd
    exact ⟨fd, [], ok, by rw [List.drop_nil]; exact .nil, F.bindsN (h0 rfl).2, F.kp⟩
  · obtain ⟨ds, hv, hb⟩ := F.binds1 n j hd (h1 hd).1 (h1 hd).2
    exact ⟨fd, ds, ok, hv, hb, F.kp⟩
/-- no defaults -/
theorem Stands.call0 {st : Stmt} (F : Stands K x qual st [] f) (S : FnScope N ps (defScope st)) (len : ∀ vs H Q E, sp vs H Q E → vs.length = ps.length)
    (hbody : ∀ (cdv : Value) (A : Around) (outer : List Env) (s : Shared) (H : Hp) (vs : List V) (Q : VK) (E : XK), Room k (A.deeper (envOfC qual (defScope st) s.heap.objs.size f cdv)) → sp vs H Q E →
      ∃ t, PSs (cxOf CX0 P w K mg base N qual (defScope st) f cdv A outer s H E).nox (defBody st) t ∧ t { nx := fun _ H' => Q .non H', rt := Q } (start N vs) H)
    (h0 : ∀ (kV doc pm : Value) (an : Option Addr) (cdv ct : Value) (us : List Value), us.length = ps.length → bindArgs (PySem.W.fnOf x qual (defArgs st) (defBody st) (defScope st) .none kV doc pm an cdv ct) ⟨us, []⟩ = pure (ps.zip us)) :
    Callable P w K mg base (k + 1) f ps [] sp := by
  obtain ⟨fd, F⟩ := F
  have ok : FnOk P w K mg base CX0 (k + 1) f fd ps sp := F.ok S len fun cdv A outer s H vs Q E hr hsp => by
    obtain ⟨t, h, q⟩ := hbody cdv A outer s H vs Q E hr hsp
    exact ⟨t, h.nox, q⟩
  exact ⟨fd, [], ok, .nil, F.bindsN h0, F.kp⟩
theorem Callable.imp {sp' : Sp} {dv : List V} (c : Callable P w K mg base k f ps dv sp) (h : ∀ vs H Q E, sp' vs H Q E → sp vs H Q E) : Callable P w K mg base k f ps dv sp' :=
  let ⟨fd, ds, F, r⟩ := c
  ⟨fd, ds, F.imp h, r⟩
theorem Callable.up {j : Nat} {dv : List V} (c : Callable P w K mg base j f ps dv sp) (h : j ≤ k) : Callable P w K mg base k f ps dv sp :=
  let ⟨fd, ds, F, r⟩ := c
  ⟨fd, ds, F.mono h, r⟩
end
/-! ### heaps -/
theorem same_new {H : Hp} {p : Addr} (h : H p = none) (o : HO) : Same H (upd H p o) := fun b u q => by rw [upd_ne (ne_of_none q h)]; exact q
theorem _root_.L2.Same.seqT {K : PySem.W.Frag} {H H' : Hp} {a : Addr} {xs : List V} (e : Same H H') (h : SqT K H a xs) : SqT K H' a xs := by
  rcases h with (h | ⟨o, h⟩) | h
  · exact .inl (.inl (e _ _ h))
  · exact .inl (.inr ⟨o, e _ _ h⟩)
  · exact .inr h
theorem upd_none {H : Hp} {a p : Addr} {o : HO} (h : upd H a o p = none) : p ≠ a ∧ H p = none := by
  by_cases e : p = a
  · subst e; rw [upd_same] at h; cases h
  · rw [upd_ne e] at h; exact ⟨e, h⟩
/-! ### the stream of draws -/
/-- the law's stream at s: its list of ints at l, the number at hand, how many were made up, the seed; n: a bound of those made up -/
def Stm (H : Hp) (s l : Addr) (n : Nat) : Prop := s ≠ l ∧ ∃ (ns : List Int) (x c d : Int), H s = some (.lst [.ref l, .int x, .int c, .int d]) ∧ H l = some (.lst (ns.map V.int)) ∧ ns.length ≤ 63 ∧ 0 ≤ x ∧ 0 ≤ c ∧ c ≤ n ∧ 0 ≤ d ∧ d < 2147483647
theorem Stm.mono {H : Hp} {s l : Addr} {n m : Nat} (h : Stm H s l n) (k : n ≤ m) : Stm H s l m := by
  obtain ⟨ne, ns, x, c, d, h1, h2, h3, h4, h5, h6, h7, h8⟩ := h
  exact ⟨ne, ns, x, c, d, h1, h2, h3, h4, h5, by omega, h7, h8⟩
theorem Stm.same {H H' : Hp} {s l : Addr} {n : Nat} (h : Stm H s l n) (k : Same H H') : Stm H' s l n := by
  obtain ⟨ne, ns, x, c, d, h1, h2, h3⟩ := h
  exact ⟨ne, ns, x, c, d, k _ _ h1, k _ _ h2, h3⟩
/-- all but the stream is as it was -/
def But (s l : Addr) (H H' : Hp) : Prop := ∀ b, b ≠ s → b ≠ l → H' b = H b
/-- all that was there but the stream is as it was -/
def Old (s l : Addr) (H H' : Hp) : Prop := ∀ b o, b ≠ s → b ≠ l → H b = some o → H' b = some o
theorem But.old {s l : Addr} {H H' : Hp} (h : But s l H H') : Old s l H H' := fun b o h1 h2 e => by rw [h b h1 h2]; exact e
theorem Old.refl {s l : Addr} (H : Hp) : Old s l H H := fun _ _ _ _ e => e
theorem Old.trans {s l : Addr} {H H1 H2 : Hp} (a : Old s l H H1) (b : Old s l H1 H2) : Old s l H H2 := fun c o h1 h2 e => b c o h1 h2 (a c o h1 h2 e)
theorem Old.of_same {s l : Addr} {H H' : Hp} (h : Same H H') : Old s l H H' := fun b o _ _ e => h b o e
section
variable {X : Cx} {x : Str} {pos : Pos}
theorem pe_gi {i : Int} (hg : Gl X x) (hm : ∃ t, X.mg x = some (.int i t)) (hd : (x == ("__debug__" : Str)) = false := by decide) : PE X (.Name x pos) (tC (.int i)) := by
  obtain ⟨t, h⟩ := hm
  exact pe_glob hg h ⟨t, rfl⟩ (by first | assumption | exact hd)
theorem pe_gs {z : Str} (hg : Gl X x) (hm : ∃ t, X.mg x = some (.str z t)) (hd : (x == ("__debug__" : Str)) = false := by decide) : PE X (.Name x pos) (tC (.str z)) := by
  obtain ⟨t, h⟩ := hm
  exact pe_glob hg h ⟨t, rfl⟩ (by first | assumption | exact hd)
end
/-! ### in a comprehension's block the written part is the def's own: rules that name it -/
section
variable {X : Cx} {K : PySem.W.Frag}
theorem opK (r : PySem.W.Frag → R2) {f : Value → Value → Sem Value} (h : OpR X f (r X.K)) (e : X.K = K := by rfl) : OpR X f (r K) := e ▸ h
theorem callK (r : PySem.W.Frag → List V → Hp → VK → Prop) {f : Value} (h : CallR X f (r X.K)) (e : X.K = K := by rfl) : CallR X f (r K) := e ▸ h
theorem ixK (r : PySem.W.Frag → R2) (h : IxR X (r X.K)) (e : X.K = K := by rfl) : IxR X (r K) := e ▸ h
theorem pe_fldK {e : Expr} {f : Str} {pos : Pos} {ta : TE} (he : PE X e ta) (hb : attributeBase e f X.env (eval e X.env) = eval e X.env) (z : X.K = K := by rfl) : PE X (.Attribute e f pos) (tFld K ta f) := z ▸ pe_fld he hb
end
/-- an expression that is never reached -/
def tNo : TE := fun _ _ _ => False
theorem pe_never {X : Cx} {e : Expr} : PE X e tNo := ⟨fun _ _ _ _ _ _ h => h.elim⟩
def tNoT : TT := fun _ _ _ => False
theorem pt_never {X : Cx} {e : Expr} : PT X e tNoT := ⟨fun _ _ _ _ _ _ h => h.elim⟩
theorem tyx_tup {K : PySem.W.Frag} {H : Hp} {a : Addr} {xs : List V} (h : SqT K H a xs) : TyX K H (.ref a) (.type "tuple") := by
  rcases h with (h | ⟨o, h⟩) | ⟨o, its, n, h, c, _⟩
  · exact .base (.tup h)
  · exact .fTuple h
  · exact .kTuple h c
theorem tyx_lst {K : PySem.W.Frag} {H : Hp} {a : Addr} {xs : List V} (h : SqL K H a xs) : TyX K H (.ref a) (.type "list") := by
  rcases h with (h | ⟨o, h⟩) | ⟨o, its, n, h, c, _⟩
  · exact .base (.lst h)
  · exact .base (.frz h)
  · exact .kList h c
/-- behind a lock all is as it was but the new -/
theorem unlock {H : Hp} {d D : Addr} {f u o : HO} (hd : H d = some u) (hD : upd H d f D = none) : upd (upd (upd H d f) D o) d u = upd H D o := by
  have ne : D ≠ d := (upd_none hD).1
  funext b
  by_cases e : b = d
  · subst e; rw [upd_same, upd_ne (Ne.symm ne)]; exact hd.symm
  · rw [upd_ne e]
    by_cases z : b = D
    · subst z; rw [upd_same, upd_same]
    · rw [upd_ne z, upd_ne z, upd_ne e]
theorem iteT' {c : Bool} {A B : Prop} (hc : c = true) (h : A) : if c = true then A else B := by rw [if_pos hc]; exact h
theorem iteF' {c : Bool} {A B : Prop} (hc : c = false) (h : B) : if c = true then A else B := by rw [if_neg (by rw [hc]; exact Bool.false_ne_true)]; exact h
end RC

set_option Elab.async false
set_option linter.all false
set_option maxRecDepth 100000
set_option maxHeartbeats 4000000
/-! Further rules: two lists of the same objects are equal; a text times an int. -/
namespace RD
open PySem PySem.Spec PyProof.Rows PySem.SeqAt L2
def rNeRefs (K : PySem.W.Frag) : R2 := fun x y H Q => ∃ (a b : Addr) (as : List Addr), x = .ref a ∧ y = .ref b ∧ SqL K H a (as.map V.ref) ∧ SqL K H b (as.map V.ref) ∧ Q (.bl false) H
def rEqRefs (K : PySem.W.Frag) : R2 := fun x y H Q => ∃ (a b : Addr) (as : List Addr), x = .ref a ∧ y = .ref b ∧ SqL K H a (as.map V.ref) ∧ SqL K H b (as.map V.ref) ∧ Q (.bl true) H
def rMulS : R2 := fun x y H Q => ∃ (i : Str) (k : Int), x = .str i ∧ y = .int k ∧ PySem.MulOk i k ∧ Q (.str (Txt.mul i k)) H
section
variable {X : Cx}
theorem vals_refs : ∀ {as : List Addr} {us : List Value}, Vals (as.map V.ref) us → us = as.map Value.ref
  | [], _, .nil => rfl
  | a :: as, _, .cons r t => by
    cases r
    rw [vals_refs t]; rfl
theorem all_true (n : Nat) : (List.range n).all (fun _ => true) = true := by simp
theorem op_neRefs (hu : X.A.units < cLine) : OpR X (compareOp .NotEq) (rNeRefs X.K) := by
  intro pins s σ H x y v u Q I rx ry h
  obtain ⟨a, b, as, rfl, rfl, ha, hb, q⟩ := h
  cases rx
  cases ry
  obtain ⟨its, rv, hl, _⟩ := I.list ha
  obtain ⟨its2, rv2, hl2, _⟩ := I.list hb
  obtain rfl := vals_refs rv
  obtain rfl := vals_refs rv2
  refine RcNeAt.lists (e := fun _ => true) hl.isList hl2.isList rfl hu (fun j h1 h2 => EqAt.same _) X.prog X.w X.xe _ ?_
  rw [all_true]
  exact fin_bl I q rfl
theorem op_eqRefs (hu : X.A.units < cLine) : OpR X (compareOp .Eq) (rEqRefs X.K) := by
  intro pins s σ H x y v u Q I rx ry h
  obtain ⟨a, b, as, rfl, rfl, ha, hb, q⟩ := h
  cases rx
  cases ry
  obtain ⟨its, rv, hl, _⟩ := I.list ha
  obtain ⟨its2, rv2, hl2, _⟩ := I.list hb
  obtain rfl := vals_refs rv
  obtain rfl := vals_refs rv2
  refine eq_listAt (e := fun _ => true) hl.isList hl2.isList rfl hu (fun j h1 h2 => EqAt.same _) ?_
  rw [all_true]
  exact fin_bl I q rfl
theorem op_mulS : OpR X (binaryOp .Mult) rMulS := by
  intro pins s σ H x y v u Q I rx ry h
  obtain ⟨i, k, rfl, rfl, hk, q⟩ := h
  obtain ⟨t, rfl⟩ := rx
  obtain ⟨t', rfl⟩ := ry
  exact PySem.SB.mul hk fun t2 k2 => ⟨.str (Txt.mul i k), H, I.tok k2, ⟨_, rfl⟩, q⟩
end
end RD

set_option Elab.async false
set_option linter.all false
set_option maxRecDepth 100000
set_option maxHeartbeats 4000000
/-! Rows of texts in order: there is one alone. -/
namespace RE
open PySem PySem.Spec PyProof.Rows L2
def le (a b : List Nat) : Prop := ltCps b a = false
theorem lt_split : ∀ (a b c : List Nat), ltCps a c = true → ltCps a b = true ∨ ltCps b c = true
  | [], [], c, h => .inr h
  | [], _ :: _, _, _ => .inl rfl
  | _ :: _, _, [], h => nomatch h
  | x :: a, [], z :: c, h => .inr rfl
  | x :: a, y :: b, z :: c, h => by
    have h : (decide (x < z) || (x == z && ltCps a c)) = true := h
    show (decide (x < y) || (x == y && ltCps a b)) = true ∨ (decide (y < z) || (y == z && ltCps b c)) = true
    rcases Nat.lt_trichotomy x y with h1 | h1 | h1
    · exact .inl (by rw [decide_eq_true h1]; rfl)
    · subst h1
      rcases Bool.or_eq_true_iff.mp h with h2 | h2
      · exact .inr (by rw [h2]; rfl)
      · obtain ⟨h3, h4⟩ := Bool.and_eq_true_iff.mp h2
        rcases lt_split a b c h4 with h5 | h5
        · exact .inl (by rw [h5]; simp)
        · exact .inr (by rw [h3, h5]; simp)
    · have h6 : y < z := by
        rcases Bool.or_eq_true_iff.mp h with h2 | h2
        · exact Nat.lt_trans h1 (of_decide_eq_true h2)
        · obtain ⟨h3, _⟩ := Bool.and_eq_true_iff.mp h2
          rw [← eq_of_beq h3]; exact h1
      exact .inr (by rw [decide_eq_true h6]; rfl)
theorem le_trans {a b c : List Nat} (h1 : le a b) (h2 : le b c) : le a c := by
  unfold le at *
  cases e : ltCps c a with
  | false => rfl
  | true =>
    rcases lt_split c b a e with h | h
    · rw [h2] at h; cases h
    · rw [h1] at h; cases h
theorem le_anti : ∀ {a b : List Nat}, le a b → le b a → a = b
  | [], [], _, _ => rfl
  | [], _ :: _, _, h => nomatch h
  | _ :: _, [], h, _ => nomatch h
  | x :: a, y :: b, h1, h2 => by
    have h1 : (decide (y < x) || (y == x && ltCps b a)) = false := h1
    have h2 : (decide (x < y) || (x == y && ltCps a b)) = false := h2
    rw [Bool.or_eq_false_iff] at h1 h2
    have e : x = y := by
      have a1 := of_decide_eq_false h1.1
      have a2 := of_decide_eq_false h2.1
      omega
    subst e
    have h3 : ltCps b a = false := by have := h1.2; simpa using this
    have h4 : ltCps a b = false := by have := h2.2; simpa using this
    rw [le_anti (a := a) (b := b) h3 h4]
def leS (a b : Str) : Prop := le (TL.tl a) (TL.tl b)
theorem rising : ∀ (p : Str) (l : List Str), risingS p l = true → (p :: l).Pairwise leS
  | p, [], _ => List.pairwise_singleton _ _
  | p, x :: r, h => by
    have h : (!ltCps x.cps.toList p.cps.toList && risingS x r) = true := h
    obtain ⟨h1, h2⟩ := Bool.and_eq_true_iff.mp h
    have i := rising x r h2
    refine List.pairwise_cons.mpr ⟨fun z hz => ?_, i⟩
    have a : leS p x := by
      show ltCps (TL.tl x) (TL.tl p) = false
      have h1 : (!ltCps (TL.tl x) (TL.tl p)) = true := h1
      cases e : ltCps (TL.tl x) (TL.tl p) with
      | false => rfl
      | true => rw [e] at h1; cases h1
    rcases List.mem_cons.mp hz with rfl | hz
    · exact a
    · exact le_trans a ((List.pairwise_cons.mp i).1 z hz)
theorem sorted_pw : ∀ {l : List Str}, sortedS l = true → l.Pairwise leS
  | [], _ => List.Pairwise.nil
  | x :: r, h => rising x r h
theorem uniq : ∀ {l m : List Str}, l.Perm m → l.Pairwise leS → m.Pairwise leS → l = m
  | [], m, hp, _, _ => by rw [List.nil_perm.mp hp]
  | x :: r, m, hp, h1, h2 => by
    cases m with
    | nil => exact absurd hp.length_eq (by simp)
    | cons y t =>
      obtain ⟨a1, a2⟩ := List.pairwise_cons.mp h1
      obtain ⟨b1, b2⟩ := List.pairwise_cons.mp h2
      have e : x = y := by
        have hx : x ∈ y :: t := hp.mem_iff.mp List.mem_cons_self
        have hy : y ∈ x :: r := hp.mem_iff.mpr List.mem_cons_self
        rcases List.mem_cons.mp hx with rfl | hx
        · rfl
        rcases List.mem_cons.mp hy with rfl | hy
        · rfl
        exact TL.ext_tl (le_anti (a1 y hy) (b1 x hx))
      subst e
      rw [uniq ((List.perm_cons x).mp hp) a2 b2]
/-- a sorted row's part is that part, sorted -/
theorem sorted_filter {xs ys zs : List Str} {p : Str → Bool} (h1 : ys.Perm xs) (h2 : sortedS ys = true) (h3 : zs.Perm (xs.filter p)) (h4 : sortedS zs = true) : zs = ys.filter p :=
  uniq (h3.trans (h1.symm.filter p)) (sorted_pw h4) ((sorted_pw h2).filter p)
end RE

set_option Elab.async false
set_option linter.all false
set_option maxRecDepth 100000
set_option maxHeartbeats 4000000
/-! Further rules of dicts: d.update(d2). -/
namespace RF
open PySem PySem.Spec PyProof.Rows L2
def rUpdD : V → List V → Hp → VK → Prop := fun x xs H Q => ∃ (d o : Addr) (kvs more : List (Key × V)), x = .ref d ∧ xs = [.ref o] ∧ H d = some (.dK kvs) ∧ Rd H o (.dK more) ∧ d ≠ o ∧ kvs.length + more.length ≤ sizeLine ∧ (mergeK kvs more).length ≤ sizeLine ∧ Q .non (upd H d (.dK (mergeK kvs more)))
theorem mt_updD {X : Cx} : MtR X "dict.update" rUpdD := by
  intro pins s σ H x xs v us Q I rx rxs h
  obtain ⟨d, o, kvs, more, rfl, rfl, hd, ho, hne, hl, hl2, q⟩ := h
  cases rx
  obtain rfl := Vals.ref1 rxs
  obtain ⟨z, lo, vs, rel, dd⟩ := dk_of I.hok hd
  obtain ⟨z2, lo2, vs2, rel2, dd2⟩ := dk_rd I.hok ho
  refine call_meetsIn PySem.F.slot_dict_update dd.typeIs PySem.F.entry_dict_update (PySem.F.args_dict_update_2 _ _) (meets_dict_update (mixKind X.prog X.w) d o hne lo2)
    ⟨vs, vs2, dd, dd2, (by rw [← rel.length, ← rel2.length]; exact hl), fun h' hmm _ hs => ?_⟩
  have he : ∃ q, h'.get? d = some q := let ⟨q, _, _, hq, _⟩ := hmm; ⟨q, hq⟩
  refine d_write I (by rw [hd]; exact True.intro) hs he (dk_new hl2 lo (KV.merge rel2 rel) hmm) |> fun I' => ⟨.non, _, I', rfl, q⟩
/-- list(o.values()) -/
def tListVals (td : TE) : TE := fun σ H Q => td σ H fun x H1 => ∃ a kvs, x = V.ref a ∧ H1 a = some (.dK kvs) ∧ ∀ q, H1 q = none → Q (.ref q) (upd H1 q (.lst (kvs.map (·.2))))
section
variable {X : Cx} {o : Expr} {p pos apos mpos : Pos} {td : TE}
theorem pe_listVals (hc : X.calm = true) (hg : Gl X "list") (hm : X.mg "list" = none) (hd : PE X o td) (hbase : attributeBase o "values" X.env (eval o X.env) = eval o X.env := by rfl) (hline : (apos.endLine == mpos.line) = true := by rfl)
    (hse : starEach [Expr.Call (.Attribute o "values" apos) [] [] mpos] X.env = [(false, eval (Expr.Call (.Attribute o "values" apos) [] [] mpos) X.env)] := by rfl) :
    PE X (.Call (.Name "list" p) [.Call (.Attribute o "values" apos) [] [] mpos] [] pos) (tListVals td) := by
  refine ⟨fun pins s σ H Q I h => ?_⟩
  refine wpAny_Call_Name_kw (ld_blt I hg hm (u := .type "list") (by first | rfl | decide +kernel) ?_ (by first | decide +kernel | decide) (by first | decide +kernel | decide))
  rw [hse]
  refine PySem.callWith_type1 (wpAny_Call_method0_late hbase hline (thn (hd.run pins s σ H _ I h) fun v s1 ⟨x, H1, I1, r1, a, kvs, ex, ha, q⟩ => ?_))
  subst ex
  obtain rfl : v = Value.ref a := r1
  obtain ⟨z, hsys, vs, rel, dof⟩ := dk_of I1.hok ha
  obtain ⟨ep, dat⟩ := dof.dictAt
  have dat' := dat
  obtain ⟨ob, es, ho, ex, hdat, hko, hpr, hnd⟩ := dat'
  refine ⟨"dict", "dict.values", F.plainAttrs_dict, F.slot_dict_values, F.type_dict_values, ⟨ob, ho, ex.1⟩, fun b e => ?_, Calls.callWith_builtin rfl (PySem.evalArgs_none ?_)⟩
  · cases e
    exact ⟨ob, ho, ex.2.1⟩
  refine call_meetsIn F.slot_dict_values ⟨ob, ho, ex.1⟩ F.entry_dict_values (F.args_dict_values_1 _) (meets_dict_values (mixKind X.prog X.w) a hsys) ⟨⟨vs, dof⟩, ?_⟩
  have k1 : ∀ b u, s1.heap.get? b = some u → (s1.heap.push { cls := .type "dict_values", data := .fields #[.ref a] }).get? b = some u := fun b u e => Heap.get?_push_of_some _ e
  have dat1 : (s1.heap.push { cls := .type "dict_values", data := .fields #[.ref a] }).DictAt (mixKind X.prog X.w) a vs ep := dat.keep k1
  have I2 : Inv X pins σ H1 { s1 with heap := s1.heap.push { cls := .type "dict_values", data := .fields #[.ref a] } } := I1.kept (t' := s1.toks) k1
  have hl : kvs.length = vs.length := Paired.length rel
  refine PySem.W.kdl_call (PySem.W.kdl_values (knd := mixKind X.prog X.w) (r := s1.heap.objs.size) (d := a) (kvs := vs) (ep := ep)) (I1.ok.hd hc) ⟨⟨_, Heap.get?_push_size _ rfl, rfl, rfl⟩, dat1⟩ (by rw [← hl]; exact z) fun h' tk acc' c' hkeep hS hacc => ?_
  refine ⟨.ref _, upd H1 _ (.lst (kvs.map (·.2))), I2.laid hkeep (Nat.le_refl _) (show ObjOk X.prog X.w _ _ _ (.lst (kvs.map (·.2))) from ⟨?_, acc'.toList, c', ?_, ?_⟩), rfl, q _ (I2.hok.fresh (Nat.le_refl _))⟩
  · rw [List.length_map]; exact z
  · have el : acc'.toList.length = acc'.size := by simp
    refine vals_of_at (by rw [List.length_map, el, hacc.1, hl]) fun j x w h1 h2 => ?_
    obtain ⟨k, hk⟩ := hacc.2 j w (by rw [← Array.getElem?_toList]; exact h2)
    obtain ⟨x', h3, h4⟩ := KV.at' rel hk
    rw [List.getElem?_map, h3] at h1
    cases h1
    exact h4
  · rw [Array.toArray_toList]; exact hS
end
/-- d[i] = v as one of several targets -/
def rSetD : TSet := fun o i v H Q => ∃ (a : Addr) (H' : Hp), o = .ref a ∧ DPut H a i v H' ∧ Q H'
theorem set_dict {X : Cx} (hu : X.A.units + 1 < cLine) : PSet X rSetD := by
  intro pins s σ H o i v ov iv u Q I ro ri rv h
  obtain ⟨a, H', rfl, g, q⟩ := h
  cases ro
  exact d_setItem hu I g ri rv fun s' I' => ⟨H', I', q⟩
end RF

set_option Elab.async false
set_option linter.all false
set_option maxRecDepth 100000
set_option maxHeartbeats 4000000
/-! Rules that name the written part, for a comprehension's block. -/
namespace RG
open PySem PySem.Spec PyProof.Rows L2
theorem pg_tupK {X : Cx} {K : PySem.W.Frag} {es : List Expr} {k n : Nat} {pos : Pos} {t : TGs} (hc : X.calm = true) (h : PGs X es t) (hn : (assignEach es X.env).length = n := by rfl) (hst : (assignEach es X.env).findIdx? (·.1) = none := by rfl) (z : X.K = K := by rfl) :
    PG X (.Tuple es k pos) (gTup K n t) := z ▸ pg_tup hc h hn hst
end RG

set_option Elab.async false
set_option linter.all false
set_option maxRecDepth 100000
set_option maxHeartbeats 4000000
/-! What a walk by itself leans on: facts of the heap carried over changes. -/
namespace RW
open PySem PySem.Spec PyProof.Rows L2 RC
section
variable {H H1 H2 : Hp} {p q s l : Addr} {o o' u : HO}
theorem at_same (e : Same H H1) (h : H p = some o) : H1 p = some o := e _ _ h
theorem at_old (e : Old s l H H1) (h1 : p ≠ s) (h2 : p ≠ l) (h : H p = some o) : H1 p = some o := e _ _ h1 h2 h
theorem at_upd (n : q ≠ p) (h : H q = some u) : upd H p o q = some u := by rw [upd_ne n]; exact h
theorem no_upd (n : q ≠ p) (h : H q = none) : upd H p o q = none := by rw [upd_ne n]; exact h
theorem ne_new (h : H p = none) (h2 : H q = some u) : q ≠ p := ne_of_none h2 h
theorem ne_new' (h : H p = none) (h2 : H q = some u) : p ≠ q := Ne.symm (ne_of_none h2 h)
theorem ne_kind (h : H p = some o) (h' : H q = some u) (n : o ≠ u) : p ≠ q := fun z => n (by rw [z] at h; exact Option.some.inj (h.symm.trans h'))
theorem same_put_new (e : Same H H1) (h : H1 p = none) : Same H (upd H1 p o) := e.trans (same_new h o)
theorem same_put (e : Same H H1) (h : H p = none) : Same H (upd H1 p o) := fun b x hb => by rw [upd_ne (ne_of_none hb h)]; exact e _ _ hb
theorem same_then (h : Same H1 H2) (e : Same H H1) : Same H H2 := e.trans h
theorem free_same (e : Same H H1) (h : H1 p = none) : H p = none := e.free h
theorem free_upd (h : upd H p o q = none) : H q = none := (upd_none h).2
theorem ne_upd (h : upd H p o q = none) : q ≠ p := (upd_none h).1
theorem some_ref {xs : List V} {K : PySem.W.Frag} (h : H p = some (.lst xs)) : SqL K H p xs := SqL.of h
theorem rd_of (h : H p = some o) : Rd H p o := .inl h
theorem fr {R : Addr → Prop} (h : ∀ x, H x = none → x ≠ p → R x) : ∀ x, upd H p o x = none → R x := fun x hx => h x (upd_none hx).2 (upd_none hx).1
theorem fr_same {R : Addr → Prop} (e : Same H H1) (h : ∀ x, H x = none → H1 x = none → R x) : ∀ x, H1 x = none → R x := fun x hx => h x (e.free hx) hx
theorem gHp (h : H p = some o) : H p = some o := h
theorem gStm {n : Nat} (h : Stm H s l n) : Stm H s l n := h
theorem stm_upd {n : Nat} (h1 : p ≠ s) (h2 : p ≠ l) (h : Stm H s l n) : Stm (upd H p o) s l n := by
  obtain ⟨ne, ns, x, c, d, g1, g2, g3⟩ := h
  exact ⟨ne, ns, x, c, d, by rw [upd_ne (Ne.symm h1)]; exact g1, by rw [upd_ne (Ne.symm h2)]; exact g2, g3⟩
theorem stm_at {n : Nat} (h : Stm H s l n) : (∃ o, H s = some o) ∧ (∃ o, H l = some o) ∧ s ≠ l := by
  obtain ⟨ne, ns, x, c, d, g1, g2, g3⟩ := h
  exact ⟨⟨_, g1⟩, ⟨_, g2⟩, ne⟩
theorem stm_same {n : Nat} (h : Stm H s l n) (e : Same H H1) : Stm H1 s l n := h.same e
theorem old_upd (e : Old s l H H1) (h : H p = none) : Old s l H (upd H1 p o) := fun b x h1 h2 hb => by rw [upd_ne (ne_of_none hb h)]; exact e _ _ h1 h2 hb
theorem old_same (e : Old s l H H1) (h : Same H1 H2) : Old s l H H2 := fun b x h1 h2 hb => h _ _ (e _ _ h1 h2 hb)
theorem old_then (h : Old s l H1 H2) (e : Old s l H H1) : Old s l H H2 := e.trans h
theorem old_of (e : Same H H1) : Old s l H H1 := Old.of_same e
theorem gOld (h : Old s l H H1) : Old s l H H1 := h
theorem gCp {i j : Int} (h : 0 ≤ j ∧ j ≤ 1000000 ∧ i.natAbs < 2 ^ 64) : CPow i j := h
theorem gNe (h : p ≠ q) : p ≠ q := h
theorem isMut {d : Addr} {w : HO} {R : Prop} (h : H d = some w ∧ Mut (H d) ∧ R) : H d = some w ∧ Mut (H d) ∧ R := h
theorem isMut2 {d : Addr} {w : HO} {R : Prop} (h : H d = some w ∧ Mut (some w) ∧ R) : H d = some w ∧ Mut (some w) ∧ R := h
theorem gSm (h : Same H H1) : Same H H1 := h
theorem gCls {K : PySem.W.Frag} {C : Addr} (h : Cls K C) : Cls K C := h
theorem gNo {K : PySem.W.Frag} {C : Addr} {f : Str} (h : NoAttr K C f) : NoAttr K C f := h
theorem gCv {c : V} {u : Value} (h : ClsV c u) : ClsV c u := h
theorem gTy {K : PySem.W.Frag} {c : V} {u : Value} (h : TyX K H c u) : TyX K H c u := h
theorem gKit {K : PySem.W.Frag} {t c : Value} {b : Bool} (h : PySem.W.kitOne K t c = some b) : PySem.W.kitOne K t c = some b := h
theorem gKita {K : PySem.W.Frag} {t : Value} {c : List Value} {b : Bool} (h : PySem.W.kitAny K t c = some b) : PySem.W.kitAny K t c = some b := h
theorem gSl {K : PySem.W.Frag} {xs : List V} (h : SqL K H p xs) : SqL K H p xs := h
theorem gSt {K : PySem.W.Frag} {xs : List V} (h : SqT K H p xs) : SqT K H p xs := h
theorem gPr {cs : List V} {us : List Value} (h : Paired ClsV cs us) : Paired ClsV cs us := h
theorem gKi {K : PySem.W.Frag} {t : Value} {b : Bool} (h : PySem.W.kitOne K t (.type "int") = some b) : PySem.W.kitOne K t (.type "int") = some b := h
theorem gKb {K : PySem.W.Frag} {t : Value} {b : Bool} (h : PySem.W.kitOne K t (.type "bool") = some b) : PySem.W.kitOne K t (.type "bool") = some b := h
theorem gKs {K : PySem.W.Frag} {t : Value} {b : Bool} (h : PySem.W.kitOne K t (.type "str") = some b) : PySem.W.kitOne K t (.type "str") = some b := h
theorem gKl {K : PySem.W.Frag} {t : Value} {b : Bool} (h : PySem.W.kitOne K t (.type "list") = some b) : PySem.W.kitOne K t (.type "list") = some b := h
theorem gKt {K : PySem.W.Frag} {t : Value} {b : Bool} (h : PySem.W.kitOne K t (.type "tuple") = some b) : PySem.W.kitOne K t (.type "tuple") = some b := h
theorem gKd {K : PySem.W.Frag} {t : Value} {b : Bool} (h : PySem.W.kitOne K t (.type "dict") = some b) : PySem.W.kitOne K t (.type "dict") = some b := h
theorem cxK {P : Program} {w : World} {K : PySem.W.Frag} {mg : Str → Option Value} {base : Heap} {N : List Str} {qual : Str} {scope : Scope} {f : Addr} {cd : Value} {A : Around} {outer : List Env} {sh : Shared} {E : XK} :
    (cxOf CX0 P w K mg base N qual scope f cd A outer sh H E).nox.K = K := rfl
end
section
variable {H : Hp} {K : PySem.W.Frag} {a p : Addr} {kvs : List (Key × V)} {x y : Str} {i j : Int} {o : Option V} {od : Obj} {v : V} {xs : List V}
theorem dget_s (h : H a = some (.dK kvs)) (e : valV kvs (Sum.inr x) = o) : DGet H a (.str x) o := .inl ⟨kvs, Sum.inr x, .inl h, rfl, e.symm⟩
theorem dget_i (h : H a = some (.dK kvs)) (e : valV kvs (Sum.inl i) = o) : DGet H a (.int i) o := .inl ⟨kvs, Sum.inl i, .inl h, rfl, e.symm⟩
theorem dget_sF (h : H a = some (.frz od (.dK kvs))) (e : valV kvs (Sum.inr x) = o) : DGet H a (.str x) o := .inl ⟨kvs, Sum.inr x, .inr ⟨od, h⟩, rfl, e.symm⟩
theorem dget_sR (h : Rd H a (.dK kvs)) (e : valV kvs (Sum.inr x) = o) : DGet H a (.str x) o := .inl ⟨kvs, Sum.inr x, h, rfl, e.symm⟩
theorem dput_s (h : H a = some (.dK kvs)) (hl : kvs.length < sizeLine) : DPut H a (.str x) v (upd H a (.dK (putK kvs (Sum.inr x) v))) := DPut.k (k := Sum.inr x) h hl
theorem dput_i (h : H a = some (.dK kvs)) (hl : kvs.length < sizeLine) : DPut H a (.int i) v (upd H a (.dK (putK kvs (Sum.inl i) v))) := DPut.k (k := Sum.inl i) h hl
theorem sql_of (h : H p = some (.lst xs)) : ∃ ys, SqL K H p ys := ⟨xs, SqL.of h⟩
theorem sqt_of (h : H p = some (.tup xs)) : ∃ ys, SqT K H p ys := ⟨xs, SqT.of h⟩
theorem disp1 {a0 : Str} {v0 : V} {R : List (Key × V) → Prop} (h : R [((Sum.inr a0 : Key), v0)]) : ∃ kvs : List (Key × V), [(V.str a0, v0)] = kvs.map (fun kv => (kV kv.1, kv.2)) ∧ kvs.length ≤ 15 ∧ R kvs := ⟨[((Sum.inr a0 : Key), v0)], rfl, Nat.le_of_ble_eq_true rfl, h⟩
theorem disp2 {a0 a1 : Str} {v0 v1 : V} {R : List (Key × V) → Prop} (h : R [((Sum.inr a0 : Key), v0), ((Sum.inr a1 : Key), v1)]) : ∃ kvs : List (Key × V), [(V.str a0, v0), (V.str a1, v1)] = kvs.map (fun kv => (kV kv.1, kv.2)) ∧ kvs.length ≤ 15 ∧ R kvs := ⟨[((Sum.inr a0 : Key), v0), ((Sum.inr a1 : Key), v1)], rfl, Nat.le_of_ble_eq_true rfl, h⟩
theorem disp3 {a0 a1 a2 : Str} {v0 v1 v2 : V} {R : List (Key × V) → Prop} (h : R [((Sum.inr a0 : Key), v0), ((Sum.inr a1 : Key), v1), ((Sum.inr a2 : Key), v2)]) : ∃ kvs : List (Key × V), [(V.str a0, v0), (V.str a1, v1), (V.str a2, v2)] = kvs.map (fun kv => (kV kv.1, kv.2)) ∧ kvs.length ≤ 15 ∧ R kvs := ⟨[((Sum.inr a0 : Key), v0), ((Sum.inr a1 : Key), v1), ((Sum.inr a2 : Key), v2)], rfl, Nat.le_of_ble_eq_true rfl, h⟩
theorem disp4 {a0 a1 a2 a3 : Str} {v0 v1 v2 v3 : V} {R : List (Key × V) → Prop} (h : R [((Sum.inr a0 : Key), v0), ((Sum.inr a1 : Key), v1), ((Sum.inr a2 : Key), v2), ((Sum.inr a3 : Key), v3)]) : ∃ kvs : List (Key × V), [(V.str a0, v0), (V.str a1, v1), (V.str a2, v2), (V.str a3, v3)] = kvs.map (fun kv => (kV kv.1, kv.2)) ∧ kvs.length ≤ 15 ∧ R kvs := ⟨[((Sum.inr a0 : Key), v0), ((Sum.inr a1 : Key), v1), ((Sum.inr a2 : Key), v2), ((Sum.inr a3 : Key), v3)], rfl, Nat.le_of_ble_eq_true rfl, h⟩
theorem disp5 {a0 a1 a2 a3 a4 : Str} {v0 v1 v2 v3 v4 : V} {R : List (Key × V) → Prop} (h : R [((Sum.inr a0 : Key), v0), ((Sum.inr a1 : Key), v1), ((Sum.inr a2 : Key), v2), ((Sum.inr a3 : Key), v3), ((Sum.inr a4 : Key), v4)]) : ∃ kvs : List (Key × V), [(V.str a0, v0), (V.str a1, v1), (V.str a2, v2), (V.str a3, v3), (V.str a4, v4)] = kvs.map (fun kv => (kV kv.1, kv.2)) ∧ kvs.length ≤ 15 ∧ R kvs := ⟨[((Sum.inr a0 : Key), v0), ((Sum.inr a1 : Key), v1), ((Sum.inr a2 : Key), v2), ((Sum.inr a3 : Key), v3), ((Sum.inr a4 : Key), v4)], rfl, Nat.le_of_ble_eq_true rfl, h⟩
theorem disp6 {a0 a1 a2 a3 a4 a5 : Str} {v0 v1 v2 v3 v4 v5 : V} {R : List (Key × V) → Prop} (h : R [((Sum.inr a0 : Key), v0), ((Sum.inr a1 : Key), v1), ((Sum.inr a2 : Key), v2), ((Sum.inr a3 : Key), v3), ((Sum.inr a4 : Key), v4), ((Sum.inr a5 : Key), v5)]) : ∃ kvs : List (Key × V), [(V.str a0, v0), (V.str a1, v1), (V.str a2, v2), (V.str a3, v3), (V.str a4, v4), (V.str a5, v5)] = kvs.map (fun kv => (kV kv.1, kv.2)) ∧ kvs.length ≤ 15 ∧ R kvs := ⟨[((Sum.inr a0 : Key), v0), ((Sum.inr a1 : Key), v1), ((Sum.inr a2 : Key), v2), ((Sum.inr a3 : Key), v3), ((Sum.inr a4 : Key), v4), ((Sum.inr a5 : Key), v5)], rfl, Nat.le_of_ble_eq_true rfl, h⟩
theorem disp7 {a0 a1 a2 a3 a4 a5 a6 : Str} {v0 v1 v2 v3 v4 v5 v6 : V} {R : List (Key × V) → Prop} (h : R [((Sum.inr a0 : Key), v0), ((Sum.inr a1 : Key), v1), ((Sum.inr a2 : Key), v2), ((Sum.inr a3 : Key), v3), ((Sum.inr a4 : Key), v4), ((Sum.inr a5 : Key), v5), ((Sum.inr a6 : Key), v6)]) : ∃ kvs : List (Key × V), [(V.str a0, v0), (V.str a1, v1), (V.str a2, v2), (V.str a3, v3), (V.str a4, v4), (V.str a5, v5), (V.str a6, v6)] = kvs.map (fun kv => (kV kv.1, kv.2)) ∧ kvs.length ≤ 15 ∧ R kvs := ⟨[((Sum.inr a0 : Key), v0), ((Sum.inr a1 : Key), v1), ((Sum.inr a2 : Key), v2), ((Sum.inr a3 : Key), v3), ((Sum.inr a4 : Key), v4), ((Sum.inr a5 : Key), v5), ((Sum.inr a6 : Key), v6)], rfl, Nat.le_of_ble_eq_true rfl, h⟩
theorem disp8 {a0 a1 a2 a3 a4 a5 a6 a7 : Str} {v0 v1 v2 v3 v4 v5 v6 v7 : V} {R : List (Key × V) → Prop} (h : R [((Sum.inr a0 : Key), v0), ((Sum.inr a1 : Key), v1), ((Sum.inr a2 : Key), v2), ((Sum.inr a3 : Key), v3), ((Sum.inr a4 : Key), v4), ((Sum.inr a5 : Key), v5), ((Sum.inr a6 : Key), v6), ((Sum.inr a7 : Key), v7)]) : ∃ kvs : List (Key × V), [(V.str a0, v0), (V.str a1, v1), (V.str a2, v2), (V.str a3, v3), (V.str a4, v4), (V.str a5, v5), (V.str a6, v6), (V.str a7, v7)] = kvs.map (fun kv => (kV kv.1, kv.2)) ∧ kvs.length ≤ 15 ∧ R kvs := ⟨[((Sum.inr a0 : Key), v0), ((Sum.inr a1 : Key), v1), ((Sum.inr a2 : Key), v2), ((Sum.inr a3 : Key), v3), ((Sum.inr a4 : Key), v4), ((Sum.inr a5 : Key), v5), ((Sum.inr a6 : Key), v6), ((Sum.inr a7 : Key), v7)], rfl, Nat.le_of_ble_eq_true rfl, h⟩
theorem len_sl (h : SqL K H p xs) : LenV K (.ref p) H xs.length := .inl ⟨xs, h, rfl⟩
theorem len_st (h : SqT K H p xs) : LenV K (.ref p) H xs.length := .inr ⟨xs, h, rfl⟩
theorem sql_same {H' : Hp} (h : SqL K H p xs) (e : Same H H') : SqL K H' p xs := e.seq h
theorem sqt_same {H' : Hp} (h : SqT K H p xs) (e : Same H H') : SqT K H' p xs := e.seqT h
theorem ka1 {t c : Value} {b : Bool} (h : PySem.W.kitOne K t c = some b) : PySem.W.kitAny K t [c] = some (b || false) := kitAny_cons h (fun e => by rw [e]; rfl) (fun e => by rw [e]; rfl)
theorem kac {t c : Value} {cs : List Value} {b r : Bool} (h : PySem.W.kitOne K t c = some b) (h2 : PySem.W.kitAny K t cs = some r) : PySem.W.kitAny K t (c :: cs) = some (b || r) := kitAny_cons h (fun e => by rw [e]; exact h2) (fun e => by rw [e]; rfl)
theorem ka2 {t c1 c2 : Value} {b1 b2 : Bool} (h1 : PySem.W.kitOne K t c1 = some b1) (h2 : PySem.W.kitOne K t c2 = some b2) : PySem.W.kitAny K t [c1, c2] = some (b1 || (b2 || false)) := kac h1 (ka1 h2)
theorem ka3 {t c1 c2 c3 : Value} {b1 b2 b3 : Bool} (h1 : PySem.W.kitOne K t c1 = some b1) (h2 : PySem.W.kitOne K t c2 = some b2) (h3 : PySem.W.kitOne K t c3 = some b3) : PySem.W.kitAny K t [c1, c2, c3] = some (b1 || (b2 || (b3 || false))) := kac h1 (ka2 h2 h3)
theorem ka4 {t c1 c2 c3 c4 : Value} {b1 b2 b3 b4 : Bool} (h1 : PySem.W.kitOne K t c1 = some b1) (h2 : PySem.W.kitOne K t c2 = some b2) (h3 : PySem.W.kitOne K t c3 = some b3) (h4 : PySem.W.kitOne K t c4 = some b4) : PySem.W.kitAny K t [c1, c2, c3, c4] = some (b1 || (b2 || (b3 || (b4 || false)))) := kac h1 (ka3 h2 h3 h4)
theorem ka5 {t c1 c2 c3 c4 c5 : Value} {b1 b2 b3 b4 b5 : Bool} (h1 : PySem.W.kitOne K t c1 = some b1) (h2 : PySem.W.kitOne K t c2 = some b2) (h3 : PySem.W.kitOne K t c3 = some b3) (h4 : PySem.W.kitOne K t c4 = some b4) (h5 : PySem.W.kitOne K t c5 = some b5) : PySem.W.kitAny K t [c1, c2, c3, c4, c5] = some (b1 || (b2 || (b3 || (b4 || (b5 || false))))) := kac h1 (ka4 h2 h3 h4 h5)
theorem len_l (h : H p = some (.lst xs)) : LenV K (.ref p) H xs.length := .inl ⟨xs, SqL.of h, rfl⟩
theorem isd (h : H a = some (.dK kvs)) : IsD H a := .inl ⟨kvs, .inl h⟩
theorem cSsT (h : x = y) : decide (V.str x = V.str y) = true := decide_eq_true (congrArg V.str h)
theorem cSsF (h : x ≠ y) : decide (V.str x = V.str y) = false := decide_eq_false fun z => h (V.str.inj z)
theorem cNsT (h : x ≠ y) : (!decide (V.str x = V.str y)) = true := by rw [cSsF h]; rfl
theorem cNsF (h : x = y) : (!decide (V.str x = V.str y)) = false := by rw [cSsT h]; rfl
theorem cSiT (h : i = j) : decide (V.int i = V.int j) = true := decide_eq_true (congrArg V.int h)
theorem cSiF (h : i ≠ j) : decide (V.int i = V.int j) = false := decide_eq_false fun z => h (V.int.inj z)
theorem cNiT (h : i ≠ j) : (!decide (V.int i = V.int j)) = true := by rw [cSiF h]; rfl
theorem cNiF (h : i = j) : (!decide (V.int i = V.int j)) = false := by rw [cSiT h]; rfl
theorem someT (h : o = some v) : o.isSome = true := by rw [h]; rfl
theorem someF (h : o = none) : o.isSome = false := by rw [h]; rfl
theorem nsomeT (h : o = none) : (!o.isSome) = true := by rw [h]; rfl
theorem nsomeF (h : o = some v) : (!o.isSome) = false := by rw [h]; rfl
end
theorem k_int_int {K : PySem.W.Frag} : PySem.W.kitOne K (.type "int") (.type "int") = some true := kit_ty (by decide +kernel)
theorem k_int_bool {K : PySem.W.Frag} : PySem.W.kitOne K (.type "int") (.type "bool") = some false := kit_ty (by decide +kernel)
theorem k_int_str {K : PySem.W.Frag} : PySem.W.kitOne K (.type "int") (.type "str") = some false := kit_ty (by decide +kernel)
theorem k_int_list {K : PySem.W.Frag} : PySem.W.kitOne K (.type "int") (.type "list") = some false := kit_ty (by decide +kernel)
theorem k_int_tuple {K : PySem.W.Frag} : PySem.W.kitOne K (.type "int") (.type "tuple") = some false := kit_ty (by decide +kernel)
theorem k_int_dict {K : PySem.W.Frag} : PySem.W.kitOne K (.type "int") (.type "dict") = some false := kit_ty (by decide +kernel)
theorem k_bool_int {K : PySem.W.Frag} : PySem.W.kitOne K (.type "bool") (.type "int") = some true := kit_ty (by decide +kernel)
theorem k_bool_bool {K : PySem.W.Frag} : PySem.W.kitOne K (.type "bool") (.type "bool") = some true := kit_ty (by decide +kernel)
theorem k_bool_str {K : PySem.W.Frag} : PySem.W.kitOne K (.type "bool") (.type "str") = some false := kit_ty (by decide +kernel)
theorem k_bool_list {K : PySem.W.Frag} : PySem.W.kitOne K (.type "bool") (.type "list") = some false := kit_ty (by decide +kernel)
theorem k_bool_tuple {K : PySem.W.Frag} : PySem.W.kitOne K (.type "bool") (.type "tuple") = some false := kit_ty (by decide +kernel)
theorem k_bool_dict {K : PySem.W.Frag} : PySem.W.kitOne K (.type "bool") (.type "dict") = some false := kit_ty (by decide +kernel)
theorem k_str_int {K : PySem.W.Frag} : PySem.W.kitOne K (.type "str") (.type "int") = some false := kit_ty (by decide +kernel)
theorem k_str_bool {K : PySem.W.Frag} : PySem.W.kitOne K (.type "str") (.type "bool") = some false := kit_ty (by decide +kernel)
theorem k_str_str {K : PySem.W.Frag} : PySem.W.kitOne K (.type "str") (.type "str") = some true := kit_ty (by decide +kernel)
theorem k_str_list {K : PySem.W.Frag} : PySem.W.kitOne K (.type "str") (.type "list") = some false := kit_ty (by decide +kernel)
theorem k_str_tuple {K : PySem.W.Frag} : PySem.W.kitOne K (.type "str") (.type "tuple") = some false := kit_ty (by decide +kernel)
theorem k_str_dict {K : PySem.W.Frag} : PySem.W.kitOne K (.type "str") (.type "dict") = some false := kit_ty (by decide +kernel)
theorem k_NoneType_int {K : PySem.W.Frag} : PySem.W.kitOne K (.type "NoneType") (.type "int") = some false := kit_ty (by decide +kernel)
theorem k_NoneType_bool {K : PySem.W.Frag} : PySem.W.kitOne K (.type "NoneType") (.type "bool") = some false := kit_ty (by decide +kernel)
theorem k_NoneType_str {K : PySem.W.Frag} : PySem.W.kitOne K (.type "NoneType") (.type "str") = some false := kit_ty (by decide +kernel)
theorem k_NoneType_list {K : PySem.W.Frag} : PySem.W.kitOne K (.type "NoneType") (.type "list") = some false := kit_ty (by decide +kernel)
theorem k_NoneType_tuple {K : PySem.W.Frag} : PySem.W.kitOne K (.type "NoneType") (.type "tuple") = some false := kit_ty (by decide +kernel)
theorem k_NoneType_dict {K : PySem.W.Frag} : PySem.W.kitOne K (.type "NoneType") (.type "dict") = some false := kit_ty (by decide +kernel)
theorem k_list_int {K : PySem.W.Frag} : PySem.W.kitOne K (.type "list") (.type "int") = some false := kit_ty (by decide +kernel)
theorem k_list_bool {K : PySem.W.Frag} : PySem.W.kitOne K (.type "list") (.type "bool") = some false := kit_ty (by decide +kernel)
theorem k_list_str {K : PySem.W.Frag} : PySem.W.kitOne K (.type "list") (.type "str") = some false := kit_ty (by decide +kernel)
theorem k_list_list {K : PySem.W.Frag} : PySem.W.kitOne K (.type "list") (.type "list") = some true := kit_ty (by decide +kernel)
theorem k_list_tuple {K : PySem.W.Frag} : PySem.W.kitOne K (.type "list") (.type "tuple") = some false := kit_ty (by decide +kernel)
theorem k_list_dict {K : PySem.W.Frag} : PySem.W.kitOne K (.type "list") (.type "dict") = some false := kit_ty (by decide +kernel)
theorem k_tuple_int {K : PySem.W.Frag} : PySem.W.kitOne K (.type "tuple") (.type "int") = some false := kit_ty (by decide +kernel)
theorem k_tuple_bool {K : PySem.W.Frag} : PySem.W.kitOne K (.type "tuple") (.type "bool") = some false := kit_ty (by decide +kernel)
theorem k_tuple_str {K : PySem.W.Frag} : PySem.W.kitOne K (.type "tuple") (.type "str") = some false := kit_ty (by decide +kernel)
theorem k_tuple_list {K : PySem.W.Frag} : PySem.W.kitOne K (.type "tuple") (.type "list") = some false := kit_ty (by decide +kernel)
theorem k_tuple_tuple {K : PySem.W.Frag} : PySem.W.kitOne K (.type "tuple") (.type "tuple") = some true := kit_ty (by decide +kernel)
theorem k_tuple_dict {K : PySem.W.Frag} : PySem.W.kitOne K (.type "tuple") (.type "dict") = some false := kit_ty (by decide +kernel)
theorem k_dict_int {K : PySem.W.Frag} : PySem.W.kitOne K (.type "dict") (.type "int") = some false := kit_ty (by decide +kernel)
theorem k_dict_bool {K : PySem.W.Frag} : PySem.W.kitOne K (.type "dict") (.type "bool") = some false := kit_ty (by decide +kernel)
theorem k_dict_str {K : PySem.W.Frag} : PySem.W.kitOne K (.type "dict") (.type "str") = some false := kit_ty (by decide +kernel)
theorem k_dict_list {K : PySem.W.Frag} : PySem.W.kitOne K (.type "dict") (.type "list") = some false := kit_ty (by decide +kernel)
theorem k_dict_tuple {K : PySem.W.Frag} : PySem.W.kitOne K (.type "dict") (.type "tuple") = some false := kit_ty (by decide +kernel)
theorem k_dict_dict {K : PySem.W.Frag} : PySem.W.kitOne K (.type "dict") (.type "dict") = some true := kit_ty (by decide +kernel)
end RW

set_option Elab.async false
set_option linter.all false
set_option maxRecDepth 100000
set_option maxHeartbeats 0
namespace K17
open PySem PySem.Spec PyProof.Rows L2 RC
/-! ### the text -/
def top (i : Nat) : Stmt := PySem.Challenge.pw_recordyard_k24_bars_and_disabled.main.body.getD i (.Pass ⟨0, 0, 0, 0⟩)
abbrev s_Filterer_init : Stmt := inClass (top 17) 0
abbrev nm_Filterer_init : List Str := ["self"]
theorem sc_Filterer_init : FnScope nm_Filterer_init ["self"] (defScope s_Filterer_init) := ⟨rfl, rfl, rfl, by decide +kernel, rfl, by decide +kernel, by decide +kernel⟩
def dd_Filterer_init : He.DefD := ⟨("Filterer", some "__init__"), "__init__", "Filterer.__init__", defArgs s_Filterer_init, defBody s_Filterer_init, defScope s_Filterer_init, [], []⟩
abbrev s_Handler_init : Stmt := inClass (top 19) 0
abbrev nm_Handler_init : List Str := ["self", "yard"]
theorem sc_Handler_init : FnScope nm_Handler_init ["self", "yard"] (defScope s_Handler_init) := ⟨rfl, rfl, rfl, by decide +kernel, rfl, by decide +kernel, by decide +kernel⟩
def dd_Handler_init : He.DefD := ⟨("Handler", some "__init__"), "__init__", "Handler.__init__", defArgs s_Handler_init, defBody s_Handler_init, defScope s_Handler_init, [], []⟩
abbrev s_StreamHandler_init : Stmt := inClass (top 20) 0
abbrev nm_StreamHandler_init : List Str := ["self", "yard", "stream"]
theorem sc_StreamHandler_init : FnScope nm_StreamHandler_init ["self", "yard", "stream"] (defScope s_StreamHandler_init) := ⟨rfl, rfl, rfl, by decide +kernel, rfl, by decide +kernel, by decide +kernel⟩
def dd_StreamHandler_init : He.DefD := ⟨("StreamHandler", some "__init__"), "__init__", "StreamHandler.__init__", defArgs s_StreamHandler_init, defBody s_StreamHandler_init, defScope s_StreamHandler_init, [.str "stderr"], []⟩
abbrev s_is_integer : Stmt := top 30
abbrev nm_is_integer : List Str := ["thing"]
theorem sc_is_integer : FnScope nm_is_integer ["thing"] (defScope s_is_integer) := ⟨rfl, rfl, rfl, by decide +kernel, rfl, by decide +kernel, by decide +kernel⟩
def dd_is_integer : He.DefD := ⟨("is_integer", none), "is_integer", "is_integer", defArgs s_is_integer, defBody s_is_integer, defScope s_is_integer, [], []⟩
abbrev s_is_part : Stmt := top 33
abbrev nm_is_part : List Str := ["text", "sign"]
theorem sc_is_part : FnScope nm_is_part ["text"] (defScope s_is_part) := ⟨rfl, rfl, rfl, by decide +kernel, rfl, by decide +kernel, by decide +kernel⟩
def dd_is_part : He.DefD := ⟨("is_part", none), "is_part", "is_part", defArgs s_is_part, defBody s_is_part, defScope s_is_part, [], []⟩
abbrev s_are_parts : Stmt := top 34
abbrev nm_are_parts : List Str := ["thing", "part"]
theorem sc_are_parts : FnScope nm_are_parts ["thing"] (defScope s_are_parts) := ⟨rfl, rfl, rfl, by decide +kernel, rfl, by decide +kernel, by decide +kernel⟩
def dd_are_parts : He.DefD := ⟨("are_parts", none), "are_parts", "are_parts", defArgs s_are_parts, defBody s_are_parts, defScope s_are_parts, [], []⟩
abbrev s_parent_of : Stmt := top 35
abbrev nm_parent_of : List Str := ["yard", "name", "parts", "many", "above"]
theorem sc_parent_of : FnScope nm_parent_of ["yard", "name"] (defScope s_parent_of) := ⟨rfl, rfl, rfl, by decide +kernel, rfl, by decide +kernel, by decide +kernel⟩
def dd_parent_of : He.DefD := ⟨("parent_of", none), "parent_of", "parent_of", defArgs s_parent_of, defBody s_parent_of, defScope s_parent_of, [], []⟩
abbrev s_place_loggers : Stmt := top 36
abbrev nm_place_loggers : List Str := ["yard", "name"]
theorem sc_place_loggers : FnScope nm_place_loggers ["yard"] (defScope s_place_loggers) := ⟨rfl, rfl, rfl, by decide +kernel, rfl, by decide +kernel, by decide +kernel⟩
def dd_place_loggers : He.DefD := ⟨("place_loggers", none), "place_loggers", "place_loggers", defArgs s_place_loggers, defBody s_place_loggers, defScope s_place_loggers, [], []⟩
abbrev s_Logger_init : Stmt := inClass (top 37) 0
abbrev nm_Logger_init : List Str := ["self", "yard", "name", "level"]
theorem sc_Logger_init : FnScope nm_Logger_init ["self", "yard", "name", "level"] (defScope s_Logger_init) := ⟨rfl, rfl, rfl, by decide +kernel, rfl, by decide +kernel, by decide +kernel⟩
def dd_Logger_init : He.DefD := ⟨("Logger", some "__init__"), "__init__", "Logger.__init__", defArgs s_Logger_init, defBody s_Logger_init, defScope s_Logger_init, [], []⟩
abbrev s_Logger_setLevel : Stmt := inClass (top 37) 1
abbrev nm_Logger_setLevel : List Str := ["self", "level"]
theorem sc_Logger_setLevel : FnScope nm_Logger_setLevel ["self", "level"] (defScope s_Logger_setLevel) := ⟨rfl, rfl, rfl, by decide +kernel, rfl, by decide +kernel, by decide +kernel⟩
def dd_Logger_setLevel : He.DefD := ⟨("Logger", some "setLevel"), "setLevel", "Logger.setLevel", defArgs s_Logger_setLevel, defBody s_Logger_setLevel, defScope s_Logger_setLevel, [], []⟩
abbrev s_Logger_setDisabled : Stmt := inClass (top 37) 3
abbrev nm_Logger_setDisabled : List Str := ["self", "flag"]
theorem sc_Logger_setDisabled : FnScope nm_Logger_setDisabled ["self", "flag"] (defScope s_Logger_setDisabled) := ⟨rfl, rfl, rfl, by decide +kernel, rfl, by decide +kernel, by decide +kernel⟩
def dd_Logger_setDisabled : He.DefD := ⟨("Logger", some "setDisabled"), "setDisabled", "Logger.setDisabled", defArgs s_Logger_setDisabled, defBody s_Logger_setDisabled, defScope s_Logger_setDisabled, [], []⟩
abbrev s_Logger_getEffectiveLevel : Stmt := inClass (top 37) 7
abbrev nm_Logger_getEffectiveLevel : List Str := ["self", "here"]
theorem sc_Logger_getEffectiveLevel : FnScope nm_Logger_getEffectiveLevel ["self"] (defScope s_Logger_getEffectiveLevel) := ⟨rfl, rfl, rfl, by decide +kernel, rfl, by decide +kernel, by decide +kernel⟩
def dd_Logger_getEffectiveLevel : He.DefD := ⟨("Logger", some "getEffectiveLevel"), "getEffectiveLevel", "Logger.getEffectiveLevel", defArgs s_Logger_getEffectiveLevel, defBody s_Logger_getEffectiveLevel, defScope s_Logger_getEffectiveLevel, [], []⟩
abbrev s_Logger_isEnabledFor : Stmt := inClass (top 37) 8
abbrev nm_Logger_isEnabledFor : List Str := ["self", "level"]
theorem sc_Logger_isEnabledFor : FnScope nm_Logger_isEnabledFor ["self", "level"] (defScope s_Logger_isEnabledFor) := ⟨rfl, rfl, rfl, by decide +kernel, rfl, by decide +kernel, by decide +kernel⟩
def dd_Logger_isEnabledFor : He.DefD := ⟨("Logger", some "isEnabledFor"), "isEnabledFor", "Logger.isEnabledFor", defArgs s_Logger_isEnabledFor, defBody s_Logger_isEnabledFor, defScope s_Logger_isEnabledFor, [], []⟩
abbrev s_Yard_init : Stmt := inClass (top 39) 0
abbrev nm_Yard_init : List Str := ["self", "now"]
theorem sc_Yard_init : FnScope nm_Yard_init ["self", "now"] (defScope s_Yard_init) := ⟨rfl, rfl, rfl, by decide +kernel, rfl, by decide +kernel, by decide +kernel⟩
def dd_Yard_init : He.DefD := ⟨("Yard", some "__init__"), "__init__", "Yard.__init__", defArgs s_Yard_init, defBody s_Yard_init, defScope s_Yard_init, [.int 0], []⟩
abbrev s_Yard_level_of : Stmt := inClass (top 39) 18
abbrev nm_Yard_level_of : List Str := ["self", "level"]
theorem sc_Yard_level_of : FnScope nm_Yard_level_of ["self", "level"] (defScope s_Yard_level_of) := ⟨rfl, rfl, rfl, by decide +kernel, rfl, by decide +kernel, by decide +kernel⟩
def dd_Yard_level_of : He.DefD := ⟨("Yard", some "level_of"), "level_of", "Yard.level_of", defArgs s_Yard_level_of, defBody s_Yard_level_of, defScope s_Yard_level_of, [], []⟩
abbrev s_Yard_getLogger : Stmt := inClass (top 39) 20
abbrev nm_Yard_getLogger : List Str := ["self", "name"]
theorem sc_Yard_getLogger : FnScope nm_Yard_getLogger ["self", "name"] (defScope s_Yard_getLogger) := ⟨rfl, rfl, rfl, by decide +kernel, rfl, by decide +kernel, by decide +kernel⟩
def dd_Yard_getLogger : He.DefD := ⟨("Yard", some "getLogger"), "getLogger", "Yard.getLogger", defArgs s_Yard_getLogger, defBody s_Yard_getLogger, defScope s_Yard_getLogger, [.str ""], []⟩
abbrev s_Yard_enrol : Stmt := inClass (top 39) 24
abbrev nm_Yard_enrol : List Str := ["self", "handler"]
theorem sc_Yard_enrol : FnScope nm_Yard_enrol ["self", "handler"] (defScope s_Yard_enrol) := ⟨rfl, rfl, rfl, by decide +kernel, rfl, by decide +kernel, by decide +kernel⟩
def dd_Yard_enrol : He.DefD := ⟨("Yard", some "enrol"), "enrol", "Yard.enrol", defArgs s_Yard_enrol, defBody s_Yard_enrol, defScope s_Yard_enrol, [], []⟩
abbrev s_Yard_disable : Stmt := inClass (top 39) 22
abbrev nm_Yard_disable : List Str := ["self", "level"]
theorem sc_Yard_disable : FnScope nm_Yard_disable ["self", "level"] (defScope s_Yard_disable) := ⟨rfl, rfl, rfl, by decide +kernel, rfl, by decide +kernel, by decide +kernel⟩
def dd_Yard_disable : He.DefD := ⟨("Yard", some "disable"), "disable", "Yard.disable", defArgs s_Yard_disable, defBody s_Yard_disable, defScope s_Yard_disable, [.int 50], []⟩
abbrev s_Yard_bar : Stmt := inClass (top 39) 23
abbrev nm_Yard_bar : List Str := ["self"]
theorem sc_Yard_bar : FnScope nm_Yard_bar ["self"] (defScope s_Yard_bar) := ⟨rfl, rfl, rfl, by decide +kernel, rfl, by decide +kernel, by decide +kernel⟩
def dd_Yard_bar : He.DefD := ⟨("Yard", some "bar"), "bar", "Yard.bar", defArgs s_Yard_bar, defBody s_Yard_bar, defScope s_Yard_bar, [], []⟩
abbrev s__law_draw : Stmt := top 41
abbrev nm__law_draw : List Str := ["_law_s", "_law_many", "_law_digit", "_law_mixed", "_law_last"]
theorem sc__law_draw : FnScope nm__law_draw ["_law_s", "_law_many"] (defScope s__law_draw) := ⟨rfl, rfl, rfl, by decide +kernel, rfl, by decide +kernel, by decide +kernel⟩
def dd__law_draw : He.DefD := ⟨("_law_draw", none), "_law_draw", "_law_draw", defArgs s__law_draw, defBody s__law_draw, defScope s__law_draw, [], []⟩
abbrev s__law_pick : Stmt := top 42
abbrev nm__law_pick : List Str := ["_law_s", "_law_some"]
theorem sc__law_pick : FnScope nm__law_pick ["_law_s", "_law_some"] (defScope s__law_pick) := ⟨rfl, rfl, rfl, by decide +kernel, rfl, by decide +kernel, by decide +kernel⟩
def dd__law_pick : He.DefD := ⟨("_law_pick", none), "_law_pick", "_law_pick", defArgs s__law_pick, defBody s__law_pick, defScope s__law_pick, [], []⟩
abbrev s__law_same : Stmt := top 43
abbrev nm__law_same : List Str := ["_law_found", "_law_due", "_law_one", "_law_two"]
theorem sc__law_same : FnScope nm__law_same ["_law_found", "_law_due"] (defScope s__law_same) := ⟨rfl, rfl, rfl, by decide +kernel, rfl, by decide +kernel, by decide +kernel⟩
def dd__law_same : He.DefD := ⟨("_law_same", none), "_law_same", "_law_same", defArgs s__law_same, defBody s__law_same, defScope s__law_same, [], []⟩
abbrev s__law_parent : Stmt := top 44
abbrev nm__law_parent : List Str := ["_law_names", "_law_name", "_law_parts", "_law_found", "_law_many", "_law_above"]
theorem sc__law_parent : FnScope nm__law_parent ["_law_names", "_law_name"] (defScope s__law_parent) := ⟨rfl, rfl, rfl, by decide +kernel, rfl, by decide +kernel, by decide +kernel⟩
def dd__law_parent : He.DefD := ⟨("_law_parent", none), "_law_parent", "_law_parent", defArgs s__law_parent, defBody s__law_parent, defScope s__law_parent, [], []⟩
abbrev s__law_chain : Stmt := top 45
abbrev nm__law_chain : List Str := ["_law_names", "_law_name", "_law_found"]
theorem sc__law_chain : FnScope nm__law_chain ["_law_names", "_law_name"] (defScope s__law_chain) := ⟨rfl, rfl, rfl, by decide +kernel, rfl, by decide +kernel, by decide +kernel⟩
def dd__law_chain : He.DefD := ⟨("_law_chain", none), "_law_chain", "_law_chain", defArgs s__law_chain, defBody s__law_chain, defScope s__law_chain, [], []⟩
abbrev s__law_tree : Stmt := top 46
abbrev nm__law_tree : List Str := ["_law_m"]
theorem sc__law_tree : FnScope nm__law_tree [] (defScope s__law_tree) := ⟨rfl, rfl, rfl, by decide +kernel, rfl, by decide +kernel, by decide +kernel⟩
def dd__law_tree : He.DefD := ⟨("_law_tree", none), "_law_tree", "_law_tree", defArgs s__law_tree, defBody s__law_tree, defScope s__law_tree, [], []⟩
abbrev s__law_made : Stmt := top 47
abbrev nm__law_made : List Str := ["_law_m", "_law_name"]
theorem sc__law_made : FnScope nm__law_made ["_law_m", "_law_name"] (defScope s__law_made) := ⟨rfl, rfl, rfl, by decide +kernel, rfl, by decide +kernel, by decide +kernel⟩
def dd__law_made : He.DefD := ⟨("_law_made", none), "_law_made", "_law_made", defArgs s__law_made, defBody s__law_made, defScope s__law_made, [], []⟩
abbrev s__law_effective : Stmt := top 48
abbrev nm__law_effective : List Str := ["_law_m", "_law_name", "_law_one"]
theorem sc__law_effective : FnScope nm__law_effective ["_law_m", "_law_name"] (defScope s__law_effective) := ⟨rfl, rfl, rfl, by decide +kernel, rfl, by decide +kernel, by decide +kernel⟩
def dd__law_effective : He.DefD := ⟨("_law_effective", none), "_law_effective", "_law_effective", defArgs s__law_effective, defBody s__law_effective, defScope s__law_effective, [], []⟩
abbrev s__law_are_right : Stmt := top 49
abbrev nm__law_are_right : List Str := ["_law_yard", "_law_known", "_law_m", "_law_name", "_law_least", "_law_number"]
theorem sc__law_are_right : FnScope nm__law_are_right ["_law_yard", "_law_known", "_law_m"] (defScope s__law_are_right) := ⟨rfl, rfl, rfl, by decide +kernel, rfl, by decide +kernel, by decide +kernel⟩
def dd__law_are_right : He.DefD := ⟨("_law_are_right", none), "_law_are_right", "_law_are_right", defArgs s__law_are_right, defBody s__law_are_right, defScope s__law_are_right, [], []⟩
abbrev s_law : Stmt := top 50
abbrev nm_law : List Str := ["_law_script", "_law_s", "_law_yards", "_law_trees", "_law_known", "_law_yard", "_law_turn", "_law_at", "_law_way", "_law_m", "_law_name", "_law_some", "_law_given", "_law_k"]
theorem sc_law : FnScope nm_law ["_law_script"] (defScope s_law) := ⟨rfl, rfl, rfl, by decide +kernel, rfl, by decide +kernel, by decide +kernel⟩
def dd_law : He.DefD := ⟨("law", none), "law", "law", defArgs s_law, defBody s_law, defScope s_law, [], []⟩
def kv_FIRST_NAMES : List (Key × He.Dv) := [(Sum.inl (50), .str "CRITICAL"), (Sum.inl (40), .str "ERROR"), (Sum.inl (30), .str "WARNING"), (Sum.inl (20), .str "INFO"), (Sum.inl (10), .str "DEBUG"), (Sum.inl (0), .str "NOTSET")]
def kv_FIRST_NUMBERS : List (Key × He.Dv) := [(Sum.inr "CRITICAL", .int (50)), (Sum.inr "FATAL", .int (50)), (Sum.inr "ERROR", .int (40)), (Sum.inr "WARNING", .int (30)), (Sum.inr "WARN", .int (30)), (Sum.inr "INFO", .int (20)), (Sum.inr "DEBUG", .int (10)), (Sum.inr "NOTSET", .int (0))]
def fa : List He.Fa := ([.glo "Filterer", .glo "Handler", .glo "StreamHandler", .glo "Logger", .glo "Yard", .glo "is_integer", .glo "is_part", .glo "are_parts", .glo "parent_of", .glo "place_loggers", .glo "_law_draw", .glo "_law_pick"] : List He.Fa) ++ ([.glo "_law_same", .glo "_law_parent", .glo "_law_chain", .glo "_law_tree", .glo "_law_made", .glo "_law_effective", .glo "_law_are_right", .glo "law", .int "WARNING" 30, .int "NOTSET" 0, .int "CRITICAL" 50, .glo "FIRST_NAMES"] : List He.Fa) ++ ([.glo "FIRST_NUMBERS", .str "SIGNS" "abcdefghijklmnopqrstuvwxyzABCDEFGHIJKLMNOPQRSTUVWXYZ0123456789_", .free "len", .free "isinstance", .free "int", .free "str", .free "list", .free "tuple", .free "bool", .free "dict", .free "range", .free "sorted"] : List He.Fa) ++ ([.free "all", .free "zip", .free "max", .cls "StreamHandler", .noat "StreamHandler" "filters", .noat "StreamHandler" "yard", .noat "StreamHandler" "level", .noat "StreamHandler" "formatter", .noat "StreamHandler" "name", .noat "StreamHandler" "terminator", .noat "StreamHandler" "closed", .noat "StreamHandler" "stream"] : List He.Fa) ++ ([.cls "Logger", .noat "Logger" "filters", .noat "Logger" "yard", .noat "Logger" "name", .noat "Logger" "level", .noat "Logger" "propagate", .noat "Logger" "disabled", .noat "Logger" "handlers", .noat "Logger" "parent", .cls "Yard", .noat "Yard" "clock", .noat "Yard" "stream_texts"] : List He.Fa) ++ ([.noat "Yard" "file_rows", .noat "Yard" "names_of", .noat "Yard" "numbers_of", .noat "Yard" "bar_level", .noat "Yard" "logger_map", .noat "Yard" "made", .noat "Yard" "handler_names", .noat "Yard" "failure_rows", .noat "Yard" "root", .noat "Yard" "last_resort", .meth "Logger" "setLevel", .meth "Logger" "setDisabled"] : List He.Fa) ++ ([.meth "Logger" "getEffectiveLevel", .meth "Logger" "isEnabledFor", .meth "Yard" "level_of", .meth "Yard" "getLogger", .meth "Yard" "enrol", .meth "Yard" "disable", .meth "Yard" "bar", .mkr "StreamHandler", .mkr "Logger", .mkr "Yard"] : List He.Fa)
def fx : List RB.Fx := ([.pl "Logger", .sub "Logger" "Logger", .cf "Filterer" "__init__", .cf "Handler" "__init__"] : List RB.Fx)
def fn : List He.DefD := ([dd_Filterer_init, dd_Handler_init, dd_StreamHandler_init, dd_is_integer, dd_is_part, dd_are_parts, dd_parent_of, dd_place_loggers, dd_Logger_init, dd_Logger_setLevel, dd_Logger_setDisabled, dd_Logger_getEffectiveLevel] : List He.DefD) ++ ([dd_Logger_isEnabledFor, dd_Yard_init, dd_Yard_level_of, dd_Yard_getLogger, dd_Yard_enrol, dd_Yard_disable, dd_Yard_bar, dd__law_draw, dd__law_pick, dd__law_same, dd__law_parent, dd__law_chain] : List He.DefD) ++ ([dd__law_tree, dd__law_made, dd__law_effective, dd__law_are_right, dd_law] : List He.DefD)
def ts : List RB.Tb := ([("FIRST_NAMES", kv_FIRST_NAMES), ("FIRST_NUMBERS", kv_FIRST_NUMBERS)] : List RB.Tb)
def names : List PySem.Str := (["_wall", "YardError", "BadLevel", "BadName", "BadExtra", "BadMessage", "BadField", "OWN_FIELDS", "copied_value", "message_of", "LogRecord", "is_below"] : List PySem.Str) ++ (["let_by", "Filter", "Filterer", "Handler", "StreamHandler", "CRITICAL", "ERROR", "WARNING", "INFO", "DEBUG", "NOTSET", "FIRST_NAMES"] : List PySem.Str) ++ (["FIRST_NUMBERS", "is_integer", "SIGNS", "is_part", "are_parts", "parent_of", "place_loggers", "Logger", "Yard", "_law_draw", "_law_pick", "_law_same"] : List PySem.Str) ++ (["_law_parent", "_law_chain", "_law_tree", "_law_made", "_law_effective", "_law_are_right"] : List PySem.Str)
/-- what the text is, behind the top -/
structure Txt (P : Program) (w : World) (K : PySem.W.Frag) (mg : Str → Option Value) : Prop where
  g_Filterer : mg "Filterer" = some (.ref (He.ga K "Filterer"))
  g_Handler : mg "Handler" = some (.ref (He.ga K "Handler"))
  g_StreamHandler : mg "StreamHandler" = some (.ref (He.ga K "StreamHandler"))
  g_Logger : mg "Logger" = some (.ref (He.ga K "Logger"))
  g_Yard : mg "Yard" = some (.ref (He.ga K "Yard"))
  g_is_integer : mg "is_integer" = some (.ref (He.ga K "is_integer"))
  g_is_part : mg "is_part" = some (.ref (He.ga K "is_part"))
  g_are_parts : mg "are_parts" = some (.ref (He.ga K "are_parts"))
  g_parent_of : mg "parent_of" = some (.ref (He.ga K "parent_of"))
  g_place_loggers : mg "place_loggers" = some (.ref (He.ga K "place_loggers"))
  g__law_draw : mg "_law_draw" = some (.ref (He.ga K "_law_draw"))
  g__law_pick : mg "_law_pick" = some (.ref (He.ga K "_law_pick"))
  g__law_same : mg "_law_same" = some (.ref (He.ga K "_law_same"))
  g__law_parent : mg "_law_parent" = some (.ref (He.ga K "_law_parent"))
  g__law_chain : mg "_law_chain" = some (.ref (He.ga K "_law_chain"))
  g__law_tree : mg "_law_tree" = some (.ref (He.ga K "_law_tree"))
  g__law_made : mg "_law_made" = some (.ref (He.ga K "_law_made"))
  g__law_effective : mg "_law_effective" = some (.ref (He.ga K "_law_effective"))
  g__law_are_right : mg "_law_are_right" = some (.ref (He.ga K "_law_are_right"))
  g_law : mg "law" = some (.ref (He.ga K "law"))
  g_WARNING : ∃ t, mg "WARNING" = some (.int 30 t)
  g_NOTSET : ∃ t, mg "NOTSET" = some (.int 0 t)
  g_CRITICAL : ∃ t, mg "CRITICAL" = some (.int 50 t)
  g_FIRST_NAMES : mg "FIRST_NAMES" = some (.ref (He.ga K "FIRST_NAMES"))
  g_FIRST_NUMBERS : mg "FIRST_NUMBERS" = some (.ref (He.ga K "FIRST_NUMBERS"))
  g_SIGNS : ∃ t, mg "SIGNS" = some (.str "abcdefghijklmnopqrstuvwxyzABCDEFGHIJKLMNOPQRSTUVWXYZ0123456789_" t)
  b_len : mg "len" = none
  b_isinstance : mg "isinstance" = none
  b_int : mg "int" = none
  b_str : mg "str" = none
  b_list : mg "list" = none
  b_tuple : mg "tuple" = none
  b_bool : mg "bool" = none
  b_dict : mg "dict" = none
  b_range : mg "range" = none
  b_sorted : mg "sorted" = none
  b_all : mg "all" = none
  b_zip : mg "zip" = none
  b_max : mg "max" = none
  c_StreamHandler : Cls K (He.ga K "StreamHandler")
  n_StreamHandler_filters : NoAttr K (He.ga K "StreamHandler") "filters"
  n_StreamHandler_yard : NoAttr K (He.ga K "StreamHandler") "yard"
  n_StreamHandler_level : NoAttr K (He.ga K "StreamHandler") "level"
  n_StreamHandler_formatter : NoAttr K (He.ga K "StreamHandler") "formatter"
  n_StreamHandler_name : NoAttr K (He.ga K "StreamHandler") "name"
  n_StreamHandler_terminator : NoAttr K (He.ga K "StreamHandler") "terminator"
  n_StreamHandler_closed : NoAttr K (He.ga K "StreamHandler") "closed"
  n_StreamHandler_stream : NoAttr K (He.ga K "StreamHandler") "stream"
  c_Logger : Cls K (He.ga K "Logger")
  n_Logger_filters : NoAttr K (He.ga K "Logger") "filters"
  n_Logger_yard : NoAttr K (He.ga K "Logger") "yard"
  n_Logger_name : NoAttr K (He.ga K "Logger") "name"
  n_Logger_level : NoAttr K (He.ga K "Logger") "level"
  n_Logger_propagate : NoAttr K (He.ga K "Logger") "propagate"
  n_Logger_disabled : NoAttr K (He.ga K "Logger") "disabled"
  n_Logger_handlers : NoAttr K (He.ga K "Logger") "handlers"
  n_Logger_parent : NoAttr K (He.ga K "Logger") "parent"
  c_Yard : Cls K (He.ga K "Yard")
  n_Yard_clock : NoAttr K (He.ga K "Yard") "clock"
  n_Yard_stream_texts : NoAttr K (He.ga K "Yard") "stream_texts"
  n_Yard_file_rows : NoAttr K (He.ga K "Yard") "file_rows"
  n_Yard_names_of : NoAttr K (He.ga K "Yard") "names_of"
  n_Yard_numbers_of : NoAttr K (He.ga K "Yard") "numbers_of"
  n_Yard_bar_level : NoAttr K (He.ga K "Yard") "bar_level"
  n_Yard_logger_map : NoAttr K (He.ga K "Yard") "logger_map"
  n_Yard_made : NoAttr K (He.ga K "Yard") "made"
  n_Yard_handler_names : NoAttr K (He.ga K "Yard") "handler_names"
  n_Yard_failure_rows : NoAttr K (He.ga K "Yard") "failure_rows"
  n_Yard_root : NoAttr K (He.ga K "Yard") "root"
  n_Yard_last_resort : NoAttr K (He.ga K "Yard") "last_resort"
  m_Logger_setLevel : Meth K (He.ga K "Logger") "setLevel" (He.ma K (He.ga K "Logger") "setLevel")
  m_Logger_setDisabled : Meth K (He.ga K "Logger") "setDisabled" (He.ma K (He.ga K "Logger") "setDisabled")
  m_Logger_getEffectiveLevel : Meth K (He.ga K "Logger") "getEffectiveLevel" (He.ma K (He.ga K "Logger") "getEffectiveLevel")
  m_Logger_isEnabledFor : Meth K (He.ga K "Logger") "isEnabledFor" (He.ma K (He.ga K "Logger") "isEnabledFor")
  m_Yard_level_of : Meth K (He.ga K "Yard") "level_of" (He.ma K (He.ga K "Yard") "level_of")
  m_Yard_getLogger : Meth K (He.ga K "Yard") "getLogger" (He.ma K (He.ga K "Yard") "getLogger")
  m_Yard_enrol : Meth K (He.ga K "Yard") "enrol" (He.ma K (He.ga K "Yard") "enrol")
  m_Yard_disable : Meth K (He.ga K "Yard") "disable" (He.ma K (He.ga K "Yard") "disable")
  m_Yard_bar : Meth K (He.ga K "Yard") "bar" (He.ma K (He.ga K "Yard") "bar")
  k_StreamHandler : Mk K (He.ga K "StreamHandler") (He.ma K (He.ga K "StreamHandler") "__init__")
  k_Logger : Mk K (He.ga K "Logger") (He.ma K (He.ga K "Logger") "__init__")
  k_Yard : Mk K (He.ga K "Yard") (He.ma K (He.ga K "Yard") "__init__")
  p_Logger : RA.PlainC K (He.ga K "Logger")
  sub_Logger_Logger : RA.PairC K (He.ga K "Logger") (He.ga K "Logger")
  cf_Filterer_init : RA.CFun K (He.ga K "Filterer") "__init__" (He.ma K (He.ga K "Filterer") "__init__")
  cf_Handler_init : RA.CFun K (He.ga K "Handler") "__init__" (He.ma K (He.ga K "Handler") "__init__")
  d_Filterer_init : Stands K "__init__" "Filterer.__init__" s_Filterer_init [] (He.fAd K ("Filterer", some "__init__"))
  d_Handler_init : Stands K "__init__" "Handler.__init__" s_Handler_init [] (He.fAd K ("Handler", some "__init__"))
  d_StreamHandler_init : Stands K "__init__" "StreamHandler.__init__" s_StreamHandler_init [(He.Dv.str "stderr" : He.Dv).v K] (He.fAd K ("StreamHandler", some "__init__"))
  d_is_integer : Stands K "is_integer" "is_integer" s_is_integer [] (He.fAd K ("is_integer", none))
  d_is_part : Stands K "is_part" "is_part" s_is_part [] (He.fAd K ("is_part", none))
  d_are_parts : Stands K "are_parts" "are_parts" s_are_parts [] (He.fAd K ("are_parts", none))
  d_parent_of : Stands K "parent_of" "parent_of" s_parent_of [] (He.fAd K ("parent_of", none))
  d_place_loggers : Stands K "place_loggers" "place_loggers" s_place_loggers [] (He.fAd K ("place_loggers", none))
  d_Logger_init : Stands K "__init__" "Logger.__init__" s_Logger_init [] (He.fAd K ("Logger", some "__init__"))
  d_Logger_setLevel : Stands K "setLevel" "Logger.setLevel" s_Logger_setLevel [] (He.fAd K ("Logger", some "setLevel"))
  d_Logger_setDisabled : Stands K "setDisabled" "Logger.setDisabled" s_Logger_setDisabled [] (He.fAd K ("Logger", some "setDisabled"))
  d_Logger_getEffectiveLevel : Stands K "getEffectiveLevel" "Logger.getEffectiveLevel" s_Logger_getEffectiveLevel [] (He.fAd K ("Logger", some "getEffectiveLevel"))
  d_Logger_isEnabledFor : Stands K "isEnabledFor" "Logger.isEnabledFor" s_Logger_isEnabledFor [] (He.fAd K ("Logger", some "isEnabledFor"))
  d_Yard_init : Stands K "__init__" "Yard.__init__" s_Yard_init [(He.Dv.int 0 : He.Dv).v K] (He.fAd K ("Yard", some "__init__"))
  d_Yard_level_of : Stands K "level_of" "Yard.level_of" s_Yard_level_of [] (He.fAd K ("Yard", some "level_of"))
  d_Yard_getLogger : Stands K "getLogger" "Yard.getLogger" s_Yard_getLogger [(He.Dv.str "" : He.Dv).v K] (He.fAd K ("Yard", some "getLogger"))
  d_Yard_enrol : Stands K "enrol" "Yard.enrol" s_Yard_enrol [] (He.fAd K ("Yard", some "enrol"))
  d_Yard_disable : Stands K "disable" "Yard.disable" s_Yard_disable [(He.Dv.int 50 : He.Dv).v K] (He.fAd K ("Yard", some "disable"))
  d_Yard_bar : Stands K "bar" "Yard.bar" s_Yard_bar [] (He.fAd K ("Yard", some "bar"))
  d__law_draw : Stands K "_law_draw" "_law_draw" s__law_draw [] (He.fAd K ("_law_draw", none))
  d__law_pick : Stands K "_law_pick" "_law_pick" s__law_pick [] (He.fAd K ("_law_pick", none))
  d__law_same : Stands K "_law_same" "_law_same" s__law_same [] (He.fAd K ("_law_same", none))
  d__law_parent : Stands K "_law_parent" "_law_parent" s__law_parent [] (He.fAd K ("_law_parent", none))
  d__law_chain : Stands K "_law_chain" "_law_chain" s__law_chain [] (He.fAd K ("_law_chain", none))
  d__law_tree : Stands K "_law_tree" "_law_tree" s__law_tree [] (He.fAd K ("_law_tree", none))
  d__law_made : Stands K "_law_made" "_law_made" s__law_made [] (He.fAd K ("_law_made", none))
  d__law_effective : Stands K "_law_effective" "_law_effective" s__law_effective [] (He.fAd K ("_law_effective", none))
  d__law_are_right : Stands K "_law_are_right" "_law_are_right" s__law_are_right [] (He.fAd K ("_law_are_right", none))
  d_law : Stands K "law" "law" s_law [] (He.fAd K ("law", none))
  t_FIRST_NAMES : RB.KD P w K (He.ga K "FIRST_NAMES") (kv_FIRST_NAMES.map fun q => (q.1, q.2.v K))
  t_FIRST_NUMBERS : RB.KD P w K (He.ga K "FIRST_NUMBERS") (kv_FIRST_NUMBERS.map fun q => (q.1, q.2.v K))
theorem Txt.of {P : Program} {w : World} {K : PySem.W.Frag} {h : Heap} {mg : Str → Option Value} (X : K.In h) (G : h.Ns mainGlobals mg) (c : RB.SaysB fa fx fn ts w K) : Txt P w K mg where
    g_Filterer := He.glo_ok X G (c.fact 0 (f := .glo "Filterer") (by rfl))
    g_Handler := He.glo_ok X G (c.fact 1 (f := .glo "Handler") (by rfl))
    g_StreamHandler := He.glo_ok X G (c.fact 2 (f := .glo "StreamHandler") (by rfl))
    g_Logger := He.glo_ok X G (c.fact 3 (f := .glo "Logger") (by rfl))
    g_Yard := He.glo_ok X G (c.fact 4 (f := .glo "Yard") (by rfl))
    g_is_integer := He.glo_ok X G (c.fact 5 (f := .glo "is_integer") (by rfl))
    g_is_part := He.glo_ok X G (c.fact 6 (f := .glo "is_part") (by rfl))
    g_are_parts := He.glo_ok X G (c.fact 7 (f := .glo "are_parts") (by rfl))
    g_parent_of := He.glo_ok X G (c.fact 8 (f := .glo "parent_of") (by rfl))
    g_place_loggers := He.glo_ok X G (c.fact 9 (f := .glo "place_loggers") (by rfl))
    g__law_draw := He.glo_ok X G (c.fact 10 (f := .glo "_law_draw") (by rfl))
    g__law_pick := He.glo_ok X G (c.fact 11 (f := .glo "_law_pick") (by rfl))
    g__law_same := He.glo_ok X G (c.fact 12 (f := .glo "_law_same") (by rfl))
    g__law_parent := He.glo_ok X G (c.fact 13 (f := .glo "_law_parent") (by rfl))
    g__law_chain := He.glo_ok X G (c.fact 14 (f := .glo "_law_chain") (by rfl))
    g__law_tree := He.glo_ok X G (c.fact 15 (f := .glo "_law_tree") (by rfl))
    g__law_made := He.glo_ok X G (c.fact 16 (f := .glo "_law_made") (by rfl))
    g__law_effective := He.glo_ok X G (c.fact 17 (f := .glo "_law_effective") (by rfl))
    g__law_are_right := He.glo_ok X G (c.fact 18 (f := .glo "_law_are_right") (by rfl))
    g_law := He.glo_ok X G (c.fact 19 (f := .glo "law") (by rfl))
    g_WARNING := He.int_ok X G (c.fact 20 (f := .int "WARNING" 30) (by rfl))
    g_NOTSET := He.int_ok X G (c.fact 21 (f := .int "NOTSET" 0) (by rfl))
    g_CRITICAL := He.int_ok X G (c.fact 22 (f := .int "CRITICAL" 50) (by rfl))
    g_FIRST_NAMES := He.glo_ok X G (c.fact 23 (f := .glo "FIRST_NAMES") (by rfl))
    g_FIRST_NUMBERS := He.glo_ok X G (c.fact 24 (f := .glo "FIRST_NUMBERS") (by rfl))
    g_SIGNS := He.str_ok X G (c.fact 25 (f := .str "SIGNS" "abcdefghijklmnopqrstuvwxyzABCDEFGHIJKLMNOPQRSTUVWXYZ0123456789_") (by rfl))
    b_len := He.free_ok X G (c.fact 26 (f := .free "len") (by rfl))
    b_isinstance := He.free_ok X G (c.fact 27 (f := .free "isinstance") (by rfl))
    b_int := He.free_ok X G (c.fact 28 (f := .free "int") (by rfl))
    b_str := He.free_ok X G (c.fact 29 (f := .free "str") (by rfl))
    b_list := He.free_ok X G (c.fact 30 (f := .free "list") (by rfl))
    b_tuple := He.free_ok X G (c.fact 31 (f := .free "tuple") (by rfl))
    b_bool := He.free_ok X G (c.fact 32 (f := .free "bool") (by rfl))
    b_dict := He.free_ok X G (c.fact 33 (f := .free "dict") (by rfl))
    b_range := He.free_ok X G (c.fact 34 (f := .free "range") (by rfl))
    b_sorted := He.free_ok X G (c.fact 35 (f := .free "sorted") (by rfl))
    b_all := He.free_ok X G (c.fact 36 (f := .free "all") (by rfl))
    b_zip := He.free_ok X G (c.fact 37 (f := .free "zip") (by rfl))
    b_max := He.free_ok X G (c.fact 38 (f := .free "max") (by rfl))
    c_StreamHandler := He.cls_ok (c.fact 39 (f := .cls "StreamHandler") (by rfl))
    n_StreamHandler_filters := He.noat_ok (c.fact 40 (f := .noat "StreamHandler" "filters") (by rfl))
    n_StreamHandler_yard := He.noat_ok (c.fact 41 (f := .noat "StreamHandler" "yard") (by rfl))
    n_StreamHandler_level := He.noat_ok (c.fact 42 (f := .noat "StreamHandler" "level") (by rfl))
    n_StreamHandler_formatter := He.noat_ok (c.fact 43 (f := .noat "StreamHandler" "formatter") (by rfl))
    n_StreamHandler_name := He.noat_ok (c.fact 44 (f := .noat "StreamHandler" "name") (by rfl))
    n_StreamHandler_terminator := He.noat_ok (c.fact 45 (f := .noat "StreamHandler" "terminator") (by rfl))
    n_StreamHandler_closed := He.noat_ok (c.fact 46 (f := .noat "StreamHandler" "closed") (by rfl))
    n_StreamHandler_stream := He.noat_ok (c.fact 47 (f := .noat "StreamHandler" "stream") (by rfl))
    c_Logger := He.cls_ok (c.fact 48 (f := .cls "Logger") (by rfl))
    n_Logger_filters := He.noat_ok (c.fact 49 (f := .noat "Logger" "filters") (by rfl))
    n_Logger_yard := He.noat_ok (c.fact 50 (f := .noat "Logger" "yard") (by rfl))
    n_Logger_name := He.noat_ok (c.fact 51 (f := .noat "Logger" "name") (by rfl))
    n_Logger_level := He.noat_ok (c.fact 52 (f := .noat "Logger" "level") (by rfl))
    n_Logger_propagate := He.noat_ok (c.fact 53 (f := .noat "Logger" "propagate") (by rfl))
    n_Logger_disabled := He.noat_ok (c.fact 54 (f := .noat "Logger" "disabled") (by rfl))
    n_Logger_handlers := He.noat_ok (c.fact 55 (f := .noat "Logger" "handlers") (by rfl))
    n_Logger_parent := He.noat_ok (c.fact 56 (f := .noat "Logger" "parent") (by rfl))
    c_Yard := He.cls_ok (c.fact 57 (f := .cls "Yard") (by rfl))
    n_Yard_clock := He.noat_ok (c.fact 58 (f := .noat "Yard" "clock") (by rfl))
    n_Yard_stream_texts := He.noat_ok (c.fact 59 (f := .noat "Yard" "stream_texts") (by rfl))
    n_Yard_file_rows := He.noat_ok (c.fact 60 (f := .noat "Yard" "file_rows") (by rfl))
    n_Yard_names_of := He.noat_ok (c.fact 61 (f := .noat "Yard" "names_of") (by rfl))
    n_Yard_numbers_of := He.noat_ok (c.fact 62 (f := .noat "Yard" "numbers_of") (by rfl))
    n_Yard_bar_level := He.noat_ok (c.fact 63 (f := .noat "Yard" "bar_level") (by rfl))
    n_Yard_logger_map := He.noat_ok (c.fact 64 (f := .noat "Yard" "logger_map") (by rfl))
    n_Yard_made := He.noat_ok (c.fact 65 (f := .noat "Yard" "made") (by rfl))
    n_Yard_handler_names := He.noat_ok (c.fact 66 (f := .noat "Yard" "handler_names") (by rfl))
    n_Yard_failure_rows := He.noat_ok (c.fact 67 (f := .noat "Yard" "failure_rows") (by rfl))
    n_Yard_root := He.noat_ok (c.fact 68 (f := .noat "Yard" "root") (by rfl))
    n_Yard_last_resort := He.noat_ok (c.fact 69 (f := .noat "Yard" "last_resort") (by rfl))
    m_Logger_setLevel := He.meth_ok (c.fact 70 (f := .meth "Logger" "setLevel") (by rfl))
    m_Logger_setDisabled := He.meth_ok (c.fact 71 (f := .meth "Logger" "setDisabled") (by rfl))
    m_Logger_getEffectiveLevel := He.meth_ok (c.fact 72 (f := .meth "Logger" "getEffectiveLevel") (by rfl))
    m_Logger_isEnabledFor := He.meth_ok (c.fact 73 (f := .meth "Logger" "isEnabledFor") (by rfl))
    m_Yard_level_of := He.meth_ok (c.fact 74 (f := .meth "Yard" "level_of") (by rfl))
    m_Yard_getLogger := He.meth_ok (c.fact 75 (f := .meth "Yard" "getLogger") (by rfl))
    m_Yard_enrol := He.meth_ok (c.fact 76 (f := .meth "Yard" "enrol") (by rfl))
    m_Yard_disable := He.meth_ok (c.fact 77 (f := .meth "Yard" "disable") (by rfl))
    m_Yard_bar := He.meth_ok (c.fact 78 (f := .meth "Yard" "bar") (by rfl))
    k_StreamHandler := He.mkr_ok (c.fact 79 (f := .mkr "StreamHandler") (by rfl))
    k_Logger := He.mkr_ok (c.fact 80 (f := .mkr "Logger") (by rfl))
    k_Yard := He.mkr_ok (c.fact 81 (f := .mkr "Yard") (by rfl))
    p_Logger := RB.pl_ok (c.more 0 (f := .pl "Logger") (by rfl))
    sub_Logger_Logger := RB.sub_ok (c.more 1 (f := .sub "Logger" "Logger") (by rfl))
    cf_Filterer_init := RB.cf_ok (c.more 2 (f := .cf "Filterer" "__init__") (by rfl))
    cf_Handler_init := RB.cf_ok (c.more 3 (f := .cf "Handler" "__init__") (by rfl))
    d_Filterer_init := c.d.def_ 0 (d := dd_Filterer_init) (by rfl)
    d_Handler_init := c.d.def_ 1 (d := dd_Handler_init) (by rfl)
    d_StreamHandler_init := c.d.def_ 2 (d := dd_StreamHandler_init) (by rfl)
    d_is_integer := c.d.def_ 3 (d := dd_is_integer) (by rfl)
    d_is_part := c.d.def_ 4 (d := dd_is_part) (by rfl)
    d_are_parts := c.d.def_ 5 (d := dd_are_parts) (by rfl)
    d_parent_of := c.d.def_ 6 (d := dd_parent_of) (by rfl)
    d_place_loggers := c.d.def_ 7 (d := dd_place_loggers) (by rfl)
    d_Logger_init := c.d.def_ 8 (d := dd_Logger_init) (by rfl)
    d_Logger_setLevel := c.d.def_ 9 (d := dd_Logger_setLevel) (by rfl)
    d_Logger_setDisabled := c.d.def_ 10 (d := dd_Logger_setDisabled) (by rfl)
    d_Logger_getEffectiveLevel := c.d.def_ 11 (d := dd_Logger_getEffectiveLevel) (by rfl)
    d_Logger_isEnabledFor := c.d.def_ 12 (d := dd_Logger_isEnabledFor) (by rfl)
    d_Yard_init := c.d.def_ 13 (d := dd_Yard_init) (by rfl)
    d_Yard_level_of := c.d.def_ 14 (d := dd_Yard_level_of) (by rfl)
    d_Yard_getLogger := c.d.def_ 15 (d := dd_Yard_getLogger) (by rfl)
    d_Yard_enrol := c.d.def_ 16 (d := dd_Yard_enrol) (by rfl)
    d_Yard_disable := c.d.def_ 17 (d := dd_Yard_disable) (by rfl)
    d_Yard_bar := c.d.def_ 18 (d := dd_Yard_bar) (by rfl)
    d__law_draw := c.d.def_ 19 (d := dd__law_draw) (by rfl)
    d__law_pick := c.d.def_ 20 (d := dd__law_pick) (by rfl)
    d__law_same := c.d.def_ 21 (d := dd__law_same) (by rfl)
    d__law_parent := c.d.def_ 22 (d := dd__law_parent) (by rfl)
    d__law_chain := c.d.def_ 23 (d := dd__law_chain) (by rfl)
    d__law_tree := c.d.def_ 24 (d := dd__law_tree) (by rfl)
    d__law_made := c.d.def_ 25 (d := dd__law_made) (by rfl)
    d__law_effective := c.d.def_ 26 (d := dd__law_effective) (by rfl)
    d__law_are_right := c.d.def_ 27 (d := dd__law_are_right) (by rfl)
    d_law := c.d.def_ 28 (d := dd_law) (by rfl)
    t_FIRST_NAMES := c.tb 0 (t := ("FIRST_NAMES", kv_FIRST_NAMES)) (by rfl) P
    t_FIRST_NUMBERS := c.tb 1 (t := ("FIRST_NUMBERS", kv_FIRST_NUMBERS)) (by rfl) P
end K17

set_option Elab.async false
set_option linter.all false
set_option maxRecDepth 100000
set_option maxHeartbeats 0
namespace K17
open PySem PySem.Spec PyProof.Rows L2 RC
/-! ### the head -/
abbrev R : PySem.W.OpenRow := PySem.W.OpenLaw.row PySem.Challenge.rw_recordyard_k24_bars_and_disabled
abbrev hk : PySem.W.Hook := RB.hookB 4 fa fx fn ts
def ob (s : PySem.W.SharedT) : RB.AlB := RB.obsBG 4 fa fx fn ts (HandSHeadRun.getT s)
theorem ob_eq (s : PySem.W.SharedT) : ob s = hk.obs s.abs := RB.obsBG_eq (HandSHeadRun.getT_eq s)
theorem run_f (w : World) : HandSHeadRun.RunEq R (PySem.W.view R.prog [50]) hk ob 9000 names (w.withFollow "special-get-raises" false) := by
  intro os
  kernel_rfl
theorem run_t (w : World) : HandSHeadRun.RunEq R (PySem.W.view R.prog [50]) hk ob 9000 names (w.withFollow "special-get-raises" true) := by
  intro os
  kernel_rfl
theorem run (w : World) : HandSHeadRun.RunEq R (PySem.W.view R.prog [50]) hk ob 9000 names w := PySem.W.byRow2 "special-get-raises" (P := fun w => HandSHeadRun.RunEq R (PySem.W.view R.prog [50]) hk ob 9000 names w) run_f run_t w
end K17

set_option Elab.async false
set_option linter.all false
set_option maxRecDepth 100000
set_option maxHeartbeats 0
namespace K17
open PySem PySem.Spec PyProof.Rows L2 RC
section
variable {P : Program} {w : World} {K : PySem.W.Frag} {mg : Str → Option Value} {base : Heap}
theorem dp_ints {K : PySem.W.Frag} {H : Hp} : ∀ ns : List Int, DpAll K H (ns.map V.int) (ns.map PyData.int)
  | [] => .nil
  | n :: r => .cons (.int n) (dp_ints r)
theorem can_ints : ∀ ns : List Int, PyData.canLayAll0 (ns.map PyData.int) = true
  | [] => by simp [PyData.canLayAll0]
  | n :: r => by simp [PyData.canLayAll0, PyData.canLay0, can_ints r]
theorem dep_ints : ∀ ns : List Int, PyData.depthAll (ns.map PyData.int) = 0
  | [] => by simp [PyData.depthAll]
  | n :: r => by simp [PyData.depthAll, PyData.depth, dep_ints r]
theorem sh_ints (ns : List Int) : SeqAt.shaped (.list (ns.map PyData.int)) = true := by
  unfold SeqAt.shaped
  simp [PyData.canLay0, PyData.depth, can_ints, dep_ints]
theorem seq0 (v : Int) (r : List Int) : seqIndex? 0 ((v :: r).map V.int).length = some 0 := by
  unfold seqIndex?
  simp
def spDraw : Sp := fun vs H Q _ => ∃ (s l : Addr) (n : Nat) (many : Int), vs = [.ref s, .int many] ∧ Stm H s l n ∧ n ≤ 1000000 ∧ 1 ≤ many ∧ many < 1073741824 ∧
  ∀ (H' : Hp) (d : Int), Old s l H H' → Stm H' s l (n + 1) → 0 ≤ d → d < many → Q (.int d) H'
theorem old_upd {s l : Addr} {H H' : Hp} {a : Addr} {o : HO} (h : Old s l H H') (ha : a = s ∨ a = l ∨ H' a = none) : Old s l H (upd H' a o) := fun b u h1 h2 e => by
  have e2 := h b u h1 h2 e
  have hb : b ≠ a := by
    rintro rfl
    rcases ha with z | z | z
    · exact h1 z
    · exact h2 z
    · rw [z] at e2; cases e2
  rw [upd_ne hb]; exact e2
theorem stm_small {d c : Int} (h : 0 ≤ d) (h1 : d < 2147483647) (h2 : 0 ≤ c) (h3 : c ≤ 1000001) : (d + 104729 * c + 17).natAbs < 2 ^ 64 := by omega
theorem stm_small2 {m c : Int} (h : 0 ≤ m) (h1 : m < 2147483629) (h2 : 0 ≤ c) (h3 : c ≤ 1000001) : (m * 48271 + 40503 * c * c + 13).natAbs < 2 ^ 64 := by
  have q1 : 0 ≤ 40503 * c * c := Int.mul_nonneg (by omega) h2
  have q2 : 40503 * c * c ≤ 40503 * c * 1000001 := Int.mul_le_mul_of_nonneg_left h3 (by omega)
  omega
theorem ok_draw {f : Addr} (T : Txt P w K mg) (F : Stands K "_law_draw" "_law_draw" s__law_draw [] f) : Callable P w K mg base 1 f ["_law_s", "_law_many"] [] spDraw := by
  refine F.call0 sc__law_draw (fun vs H Q E h => ?_) (fun cdv A outer s H vs Q E hr h => ?_) (fun _ _ _ _ _ _ us hl => match us, hl with | [_, _], _ => rfl)
  · obtain ⟨s, l, n, m, rfl, _⟩ := h
    rfl
  obtain ⟨p, l, n, many, rfl, hS, hn, hm1, hm2, hQ⟩ := h
  refine ⟨_, (pss_cons (ps_while PassesOwn.never (PW.pt (pw_and (pt_cmpR op_eq (pe_ix ix_list (pv 0) pe_int (fun _ _ => rfl)) pe_int (nomark _)) (pw_and1 (pt_cmpR (op_neD hr.units) (pe_ix ix_list (pv 0) pe_int (fun _ _ => rfl)) (pe_lst pa_nil) (nomark _))))) (pss_cons (ps_asg (pe_bm PySem.F.plainAttrs_list PySem.F.slot_list_pop PySem.F.type_list_pop mt_popAt (pe_ix ix_list (pv 0) pe_int (fun _ _ => rfl)) (pa_cons pe_int pa_nil)) (pg_sub (pv 0) pe_int set_list))
      (pss_one (ps_if (pt_cmpR op_lt (pe_ix ix_list (pv 0) pe_int (fun _ _ => rfl)) (pe_op op_pow pe_int pe_int) (nomark _)) (pss_cons (ps_asg (pe_op op_mod (pe_callTy call_int1 (by rfl) T.b_int (by decide +kernel) (pa_cons (pe_op op_add (pe_op op_add (pe_op op_mul (pe_ix ix_list (pv 0) pe_int (fun _ _ => rfl)) pe_int) (pe_ix ix_list (pv 0) pe_int (fun _ _ => rfl))) pe_int) pa_nil)) pe_int) (pg_sub (pv 0) pe_int set_list))
      (pss_one (ps_asg pe_int (pg_sub (pv 0) pe_int set_list)))) pss_nil))))
      (pss_cons (ps_if (pt_cmpR op_gt (pe_ix ix_list (pv 0) pe_int (fun _ _ => rfl)) pe_int (nomark _)) (pss_cons (ps_set (i := 2) sc__law_draw.nd rfl (by first | exact Or.inl rfl | exact Or.inr rfl) (pe_op op_mod (pe_callTy call_int1 (by rfl) T.b_int (by decide +kernel) (pa_cons (pe_ix ix_list (pv 0) pe_int (fun _ _ => rfl)) pa_nil)) (pv 1)))
      (pss_cons (ps_asg (pe_op op_fdiv (pe_ix ix_list (pv 0) pe_int (fun _ _ => rfl)) (pv 1)) (pg_sub (pv 0) pe_int set_list))
      (pss_one (ps_ret (pv 2))))) pss_nil)
      (pss_cons (ps_asg (pe_op op_add (pe_ix ix_list (pv 0) pe_int (fun _ _ => rfl)) pe_int) (pg_sub (pv 0) pe_int set_list))
      (pss_cons (ps_set (i := 3) sc__law_draw.nd rfl (by first | exact Or.inl rfl | exact Or.inr rfl) (pe_op op_mod (pe_callTy call_int1 (by rfl) T.b_int (by decide +kernel) (pa_cons (pe_op op_pow (pe_op op_add (pe_op op_add (pe_ix ix_list (pv 0) pe_int (fun _ _ => rfl)) (pe_op op_mul pe_int (pe_ix ix_list (pv 0) pe_int (fun _ _ => rfl)))) pe_int) pe_int) pa_nil)) pe_int))
      (pss_cons (ps_set (i := 4) sc__law_draw.nd rfl (by first | exact Or.inl rfl | exact Or.inr rfl) (pe_op op_mod (pe_callTy call_int1 (by rfl) T.b_int (by decide +kernel) (pa_cons (pe_op op_pow (pe_op op_add (pe_op op_add (pe_op op_mul (pv 3) pe_int) (pe_op op_mul (pe_op op_mul pe_int (pe_ix ix_list (pv 0) pe_int (fun _ _ => rfl))) (pe_ix ix_list (pv 0) pe_int (fun _ _ => rfl)))) pe_int) pe_int) pa_nil)) pe_int))
      (pss_one (ps_ret (pe_op op_mod (pe_callTy call_int1 (by rfl) T.b_int (by decide +kernel) (pa_cons (pv 4) pa_nil)) (pv 1))))))))), ?_⟩
  obtain ⟨hne, ns, x, c, d, h1, h2, h3, h4, h5, h6, h7, h8⟩ := hS
  refine ⟨fun m σ H' => σ = [some (.ref p), some (.int many), none, none, none] ∧ Old p l H H' ∧ ∃ (ns : List Int) (x c d : Int), m = ns.length ∧ H' p = some (.lst [.ref l, .int x, .int c, .int d]) ∧ H' l = some (.lst (ns.map V.int)) ∧ ns.length ≤ 63 ∧ 0 ≤ x ∧ 0 ≤ c ∧ c ≤ n ∧ 0 ≤ d ∧ d < 2147483647,
    ⟨_, rfl, Old.refl _, ns, x, c, d, rfl, h1, h2, h3, h4, h5, h6, h7, h8⟩, ?_⟩
  clear h1 h2 h3 h4 h5 h6 h7 h8 ns x c d
  rintro m σ H1 ⟨rfl, hO, ns, x, c, d, rfl, h1, h2, h3, h4, h5, h6, h7, h8⟩
  refine ⟨_, rfl, p, _, _, _, rfl, rfl, SqL.of h1, rfl, rfl, _, rfl, ?_⟩
  by_cases hx : x = 0
  · subst hx
    refine iteT' (decide_eq_true rfl) ?_
    refine ⟨_, rfl, p, _, _, _, rfl, rfl, SqL.of h1, rfl, (by show 0 ≤ sizeLine; decide), fun q hq => ?_⟩
    have g1 : upd H1 q (.lst []) p = some (.lst [.ref l, .int 0, .int c, .int d]) := by rw [upd_ne (ne_of_none h1 hq)]; exact h1
    have g2 : upd H1 q (.lst []) l = some (.lst (ns.map V.int)) := by rw [upd_ne (ne_of_none h2 hq)]; exact h2
    have gO : Old p l H (upd H1 q (.lst [])) := old_upd hO (.inr (.inr hq))
    refine ⟨_, _, Dp.lst (SqL.of g2) (dp_ints ns), Dp.lst (SqL.of upd_same) .nil, sh_ints ns, by decide +kernel, _, rfl, ?_⟩
    generalize upd H1 q (.lst []) = H2 at g1 g2 gO
    cases ns with
    | cons v r =>
      refine iteT' (by rfl) ?_
      refine ⟨fun σ' H' => ∃ m', m' < (v :: r).length ∧ (σ' = [some (.ref p), some (.int many), none, none, none] ∧ Old p l H H' ∧ ∃ (ns : List Int) (x c d : Int), m' = ns.length ∧ H' p = some (.lst [.ref l, .int x, .int c, .int d]) ∧ H' l = some (.lst (ns.map V.int)) ∧ ns.length ≤ 63 ∧ 0 ≤ x ∧ 0 ≤ c ∧ c ≤ n ∧ 0 ≤ d ∧ d < 2147483647), fun σ' H' z => z, ?_⟩
      -- s[1] = s[0].pop(0)
      refine ⟨_, rfl, p, _, _, _, rfl, rfl, SqL.of g1, rfl, .inl ⟨rfl, _, SqL.of g2⟩, l, (v :: r).map V.int, 0, 0, .int v, rfl, rfl, g2, by decide, by decide, seq0 _ _, rfl, ?_⟩
      generalize e3 : upd H2 l _ = H3
      have k1 : H3 p = some (.lst [.ref l, .int 0, .int c, .int d]) := by rw [← e3, upd_ne hne]; exact g1
      have kO : Old p l H H3 := by rw [← e3]; exact old_upd gO (.inr (.inl rfl))
      have k2 : H3 l = some (.lst (r.map V.int)) := by rw [← e3]; exact upd_same
      clear e3
      refine ⟨_, rfl, p, _, 1, 1, rfl, rfl, k1, rfl, ?_⟩
      generalize e4 : upd H3 p _ = H4
      have j1 : H4 p = some (.lst [.ref l, .int v, .int c, .int d]) := by rw [← e4]; exact upd_same
      have j2 : H4 l = some (.lst (r.map V.int)) := by rw [← e4, upd_ne (Ne.symm hne)]; exact k2
      have jO : Old p l H H4 := by rw [← e4]; exact old_upd kO (.inl rfl)
      clear e4
      have hl : r.length ≤ 63 := Nat.le_of_succ_le h3
      refine ⟨_, rfl, p, _, _, _, rfl, rfl, SqL.of j1, rfl, _, _, rfl, rfl, ⟨by decide, by decide, by decide⟩, _, _, rfl, rfl, _, rfl, ?_⟩
      refine ite2 (fun hv => ?_) (fun hv => ?_)
      · -- s[3] = int(..) % 2147483647
        refine ⟨_, rfl, p, _, _, _, rfl, rfl, SqL.of j1, rfl, _, _, rfl, rfl, .inr ⟨by decide, by decide⟩, _, rfl, p, _, _, _, rfl, rfl, SqL.of j1, rfl, _, _, rfl, rfl, _, _, rfl, rfl, .inl ⟨_, rfl, _, _, rfl, rfl, (by show (0 : Int) < 2147483647; decide), _, rfl, p, _, 3, 3, rfl, rfl, j1, rfl, ?_⟩⟩
        have m1 := Int.emod_nonneg (d * 31 + v + 7) (show (2147483647 : Int) ≠ 0 by decide)
        have m2 := Int.emod_lt_of_pos (d * 31 + v + 7) (show (0 : Int) < 2147483647 by decide)
        refine ⟨_, rfl, p, _, 1, 1, rfl, rfl, upd_same, rfl, r.length, Nat.lt_succ_self _, rfl, old_upd (old_upd jO (.inl rfl)) (.inl rfl), r, 0, c, (d * 31 + v + 7) % 2147483647, rfl, upd_same, ?_, hl, Int.le_refl 0, h5, h6, m1, m2⟩
        rw [upd_ne (Ne.symm hne), upd_ne (Ne.symm hne)]; exact j2
      · have hv : 10 ^ 18 ≤ v := by
          have z : ¬ v < 10 ^ (18 : Int).toNat := fun z => hv (decide_eq_true z)
          have e : (18 : Int).toNat = 18 := rfl
          rw [e] at z; omega
        exact ⟨r.length, Nat.lt_succ_self _, rfl, jO, r, v, c, d, rfl, j1, j2, hl, by omega, h5, h6, h7, h8⟩
    | nil =>
      refine iteF' (by rfl) ?_
      refine ⟨_, rfl, p, _, _, _, rfl, rfl, SqL.of g1, rfl, _, _, rfl, rfl, _, rfl, ?_⟩
      refine iteF' (by rfl) ?_
      -- s[2] = s[2] + 1
      refine ⟨_, rfl, p, _, _, _, rfl, rfl, SqL.of g1, rfl, _, _, rfl, rfl, _, rfl, p, _, 2, 2, rfl, rfl, g1, rfl, ?_⟩
      generalize e3 : upd H2 p _ = H3
      have a1 : H3 p = some (.lst [.ref l, .int 0, .int (c + 1), .int d]) := by rw [← e3]; exact upd_same
      have a2 : H3 l = some (.lst (([] : List Int).map V.int)) := by rw [← e3, upd_ne (Ne.symm hne)]; exact g2
      have aO : Old p l H H3 := by rw [← e3]; exact old_upd gO (.inl rfl)
      have hc : c + 1 ≤ 1000001 := by omega
      clear e3
      refine ⟨_, rfl, p, _, _, _, rfl, rfl, SqL.of a1, rfl, _, rfl, p, _, _, _, rfl, rfl, SqL.of a1, rfl, _, _, rfl, rfl, .inl ⟨by decide, by decide⟩, _, _, rfl, rfl, _, _, rfl, rfl, _, _, rfl, rfl, ⟨by decide, by decide, stm_small h7 h8 (by omega) hc⟩, .inl ⟨_, rfl, _, _, rfl, rfl, (by show (0 : Int) < 2147483629; decide), ?_⟩⟩
      have m1 := Int.emod_nonneg ((d + 104729 * (c + 1) + 17) ^ (5 : Int).toNat) (show (2147483629 : Int) ≠ 0 by decide)
      have m2 := Int.emod_lt_of_pos ((d + 104729 * (c + 1) + 17) ^ (5 : Int).toNat) (show (0 : Int) < 2147483629 by decide)
      refine ⟨_, rfl, _, _, rfl, rfl, .inr ⟨by decide, by decide⟩, _, rfl, p, _, _, _, rfl, rfl, SqL.of a1, rfl, _, _, rfl, rfl, .inl ⟨by decide, by decide⟩, _, rfl, p, _, _, _, rfl, rfl, SqL.of a1, rfl, _, _, rfl, rfl, .inr ⟨by omega, by omega⟩, _, _, rfl, rfl, _, _, rfl, rfl, _, _, rfl, rfl, ⟨by decide, by decide, stm_small2 m1 m2 (by omega) hc⟩, .inl ⟨_, rfl, _, _, rfl, rfl, (by show (0 : Int) < 1000000007; decide), ?_⟩⟩
      refine ⟨_, rfl, .inl ⟨_, rfl, _, rfl, _, _, rfl, rfl, (by show (0 : Int) < many; omega), ?_⟩⟩
      exact hQ _ _ aO ⟨hne, [], 0, c + 1, d, a1, a2, Nat.zero_le _, Int.le_refl 0, by omega, by omega, h7, h8⟩ (Int.emod_nonneg _ (by omega)) (Int.emod_lt_of_pos _ (by omega))
  · refine iteF' (decide_eq_false fun z => hx (V.int.inj z)) ?_
    have hx1 : 0 < x := by omega
    refine ⟨_, rfl, p, _, _, _, rfl, rfl, SqL.of h1, rfl, _, _, rfl, rfl, _, rfl, ?_⟩
    refine iteT' (decide_eq_true hx1) ?_
    refine ⟨_, rfl, p, _, _, _, rfl, rfl, SqL.of h1, rfl, .inl ⟨_, rfl, _, rfl, _, _, rfl, rfl, (by show (0 : Int) < many; omega), ?_⟩⟩
    refine ⟨_, rfl, p, _, _, _, rfl, rfl, SqL.of h1, rfl, _, rfl, _, _, rfl, rfl, ⟨by omega, by omega⟩, _, rfl, p, _, 1, 1, rfl, rfl, h1, rfl, _, rfl, ?_⟩
    refine hQ _ _ (old_upd hO (.inl rfl)) ⟨hne, ns, x / many, c, d, upd_same, by rw [upd_ne (Ne.symm hne)]; exact h2, h3, Int.ediv_nonneg h4 (by omega), h5, by omega, h7, h8⟩ (Int.emod_nonneg _ (by omega)) (Int.emod_lt_of_pos _ (by omega))
end
end K17

set_option Elab.async false
set_option linter.all false
set_option maxRecDepth 100000
set_option maxHeartbeats 0
namespace K17
open PySem PySem.Spec PyProof.Rows L2 RC
section
variable {P : Program} {w : World} {K : PySem.W.Frag} {mg : Str → Option Value} {base : Heap}
/-- all but p is as it was -/
def SameBut (p : Addr) (H H' : Hp) : Prop := ∀ b o, b ≠ p → H b = some o → H' b = some o
theorem SameBut.trans {p : Addr} {H H1 H2 : Hp} (a : SameBut p H H1) (b : SameBut p H1 H2) : SameBut p H H2 := fun c o h e => b c o h (a c o h e)
theorem SameBut.of {p : Addr} {H H' : Hp} (a : Same H H') : SameBut p H H' := fun c o _ e => a c o e
theorem SameBut.put {p : Addr} {H : Hp} {o : HO} : SameBut p H (upd H p o) := fun c u h e => by rw [upd_ne h]; exact e
theorem made_same {H H' : Hp} {x dx C : Addr} {o : HO} {fs : List (Str × V)} (hx : H x = none) (hd : H dx = none) (b : SameBut x (upd (upd H dx o) x (.ins C dx fs)) H') : Same H H' := fun c u e => by
  have h1 : c ≠ x := ne_of_none e hx
  have h2 : c ≠ dx := ne_of_none e hd
  exact b c u h1 (by rw [upd_ne h1, upd_ne h2]; exact e)
def spFiltererInit (K : PySem.W.Frag) : Sp := fun vs H Q _ => ∃ (C p dx : Addr) (fs : List (Str × V)), vs = [.ref p] ∧ H p = some (.ins C dx fs) ∧ Cls K C ∧ NoAttr K C "filters" ∧ fs.length < 100 ∧ ∀ l, H l = none → Q .non (upd (upd H l (.lst [])) p (.ins C dx (putF "filters" (.ref l) fs)))
theorem ok_filterer_init {f : Addr} (T : Txt P w K mg) (F : Stands K "__init__" "Filterer.__init__" s_Filterer_init [] f) : Callable P w K mg base 1 f ["self"] [] (spFiltererInit K) := by
  refine F.call0 sc_Filterer_init (fun vs H Q E h => ?_) (fun cdv A outer s H vs Q E hr h => ?_) (fun _ _ _ _ _ _ us hl => match us, hl with | [_], _ => rfl)
  · obtain ⟨C, p, dx, fs, rfl, _⟩ := h; rfl
  obtain ⟨C, p, dx, fs, rfl, hp, c, n, hl, hQ⟩ := h
  refine ⟨_, (pss_one (ps_fld (pv 0) (pe_lst pa_nil) rfl)), ?_⟩
  refine ⟨(by show 0 ≤ sizeLine; decide), fun l hl' => ?_⟩
  exact ⟨_, rfl, p, C, dx, fs, rfl, (by rw [upd_ne (ne_of_none hp hl')]; exact hp), c, n, (by omega), hQ l hl'⟩
end
end K17

set_option Elab.async false
set_option linter.all false
set_option maxRecDepth 100000
set_option maxHeartbeats 0
namespace K17
open PySem PySem.Spec PyProof.Rows L2 RC
section
variable {P : Program} {w : World} {K : PySem.W.Frag} {mg : Str → Option Value} {base : Heap}
/-! ### what is made -/
abbrev CY (K : PySem.W.Frag) : Addr := He.ga K "Yard"
abbrev CL (K : PySem.W.Frag) : Addr := He.ga K "Logger"
def spEnrol (K : PySem.W.Frag) : Sp := fun vs H Q _ => ∃ (y h dy m : Addr) (fs : List (Str × V)) (xs : List V), vs = [.ref y, .ref h] ∧ H y = some (.ins (CY K) dy fs) ∧ fs.lookup ("made" : Str) = some (.ref m) ∧ H m = some (.lst xs) ∧ xs.length ≤ 1000 ∧ Q .non (upd H m (.lst (xs ++ [.ref h])))
theorem ok_enrol {f : Addr} (T : Txt P w K mg) (F : Stands K "enrol" "Yard.enrol" s_Yard_enrol [] f) : Callable P w K mg base 1 f ["self", "handler"] [] (spEnrol K) := by
  refine F.call0 sc_Yard_enrol (fun vs H Q E h => ?_) (fun cdv A outer s H vs Q E hr h => ?_) (fun _ _ _ _ _ _ us hl => match us, hl with | [_, _], _ => rfl)
  · obtain ⟨y, h, dy, m, fs, xs, rfl, _⟩ := h; rfl
  obtain ⟨y, h, dy, m, fs, xs, rfl, h1, h2, h3, h4, hQ⟩ := h
  refine ⟨_, (pss_one (ps_expr (pe_bm PySem.F.plainAttrs_list PySem.F.slot_list_append PySem.F.type_list_append mt_append (pe_fld (pv 0) rfl) (pa_cons (pv 1) pa_nil)))), ?_⟩
  exact ⟨_, rfl, y, _, dy, fs, _, rfl, h1, T.c_Yard, T.n_Yard_made, h2, .inl ⟨rfl, _, SqL.of h3⟩, _, rfl, m, _, _, rfl, rfl, h3, (by rw [sizeLine_eq]; omega), hQ⟩
/-- what the text says of a class of handlers -/
structure HCls (K : PySem.W.Frag) (C : Addr) : Prop where
  c : Cls K C
  n1 : NoAttr K C "filters"
  n2 : NoAttr K C "yard"
  n3 : NoAttr K C "level"
  n4 : NoAttr K C "formatter"
  n5 : NoAttr K C "name"
  n6 : NoAttr K C "terminator"
  n7 : NoAttr K C "closed"
def hF (l y : Addr) : List (Str × V) := [("filters", .ref l), ("yard", .ref y), ("level", .int 0), ("formatter", .non), ("name", .non), ("terminator", .str "\n"), ("closed", .bl false)]
/-- a handler at p was made: its filters at l; the yard's list of what was made, at m, has it at its end -/
def HMade (K : PySem.W.Frag) (H : Hp) (p C dx y m : Addr) (xs : List V) (H' : Hp) : Prop := ∃ l, (∀ b o, b ≠ p → b ≠ m → H b = some o → H' b = some o) ∧ H l = none ∧ H' p = some (.ins C dx (hF l y)) ∧ H' l = some (.lst []) ∧ H' m = some (.lst (xs ++ [.ref p]))
def spHandlerInit (K : PySem.W.Frag) : Sp := fun vs H Q _ => ∃ (p C dx y dy m : Addr) (fs : List (Str × V)) (xs : List V), vs = [.ref p, .ref y] ∧ H p = some (.ins C dx []) ∧ HCls K C ∧ p ≠ y ∧ H y = some (.ins (CY K) dy fs) ∧ fs.lookup ("made" : Str) = some (.ref m) ∧ fs.lookup ("enrol" : Str) = none ∧ H m = some (.lst xs) ∧ xs.length ≤ 1000 ∧
  ∀ H', HMade K H p C dx y m xs H' → Q .non H'
theorem ok_handler_init {f : Addr} (T : Txt P w K mg) (F : Stands K "__init__" "Handler.__init__" s_Handler_init [] f) (c_Filterer_init : Callable P w K mg base 1 (He.ma K (He.ga K "Filterer") "__init__") ["self"] [] (spFiltererInit K))
    (c_Yard_enrol : Callable P w K mg base 1 (He.ma K (He.ga K "Yard") "enrol") ["self", "handler"] [] (spEnrol K)) : Callable P w K mg base 2 f ["self", "yard"] [] (spHandlerInit K) := by
  refine F.call0 sc_Handler_init (fun vs H Q E h => ?_) (fun cdv A outer s H vs Q E hr h => ?_) (fun _ _ _ _ _ _ us hl => match us, hl with | [_, _], _ => rfl)
  · obtain ⟨p, C, dx, y, dy, m, fs, xs, rfl, _⟩ := h; rfl
  obtain ⟨p, C, dx, y, dy, m, fs, xs, rfl, hp, c, npy, hy, hm, he, hmm, hxs, hQ⟩ := h
  refine ⟨_, (pss_cons (ps_expr (pe_cf T.cf_Filterer_init c_Filterer_init (hr.mono (by first | decide | exact Nat.le_refl _)) (pe_glob (v := .ref _) (by rfl) T.g_Filterer rfl) (pa_cons (pv 0) pa_nil)))
      (pss_cons (ps_fld (pv 0) (pv 1) rfl)
      (pss_cons (ps_fld (pv 0) pe_int rfl)
      (pss_cons (ps_fld (pv 0) pe_non rfl)
      (pss_cons (ps_fld (pv 0) pe_non rfl)
      (pss_cons (ps_fld (pv 0) pe_str rfl)
      (pss_cons (ps_fld (pv 0) pe_bl rfl)
      (pss_one (ps_expr (pe_mt T.c_Yard T.m_Yard_enrol c_Yard_enrol (hr.mono (by first | decide | exact Nat.le_refl _)) (pv 1) (pa_cons (pv 0) pa_nil))))))))))), ?_⟩
  refine ⟨rfl, _, rfl, C, p, dx, [], rfl, hp, c.c, c.n1, (by decide), fun l hl => ?_⟩
  refine ⟨_, rfl, _, rfl, p, C, dx, _, rfl, upd_same, c.c, c.n2, (by show 1 < 1000; decide), ?_⟩
  rw [upd_upd]
  refine ⟨_, rfl, p, C, dx, _, rfl, upd_same, c.c, c.n3, (by show 2 < 1000; decide), ?_⟩
  rw [upd_upd]
  refine ⟨_, rfl, p, C, dx, _, rfl, upd_same, c.c, c.n4, (by show 3 < 1000; decide), ?_⟩
  rw [upd_upd]
  refine ⟨_, rfl, p, C, dx, _, rfl, upd_same, c.c, c.n5, (by show 4 < 1000; decide), ?_⟩
  rw [upd_upd]
  refine ⟨_, rfl, p, C, dx, _, rfl, upd_same, c.c, c.n6, (by show 5 < 1000; decide), ?_⟩
  rw [upd_upd]
  refine ⟨_, rfl, p, C, dx, _, rfl, upd_same, c.c, c.n7, (by show 6 < 1000; decide), ?_⟩
  rw [upd_upd]
  generalize e1 : upd (upd H l (.lst [])) p _ = H1
  have nlp : l ≠ p := fun z => by rw [z, hp] at hl; cases hl
  have npm : p ≠ m := fun z => by rw [z, hmm] at hp; cases hp
  have nlm : l ≠ m := fun z => by rw [z, hmm] at hl; cases hl
  have q1 : H1 p = some (.ins C dx (hF l y)) := by rw [← e1]; exact upd_same
  have q2 : H1 l = some (.lst []) := by rw [← e1, upd_ne nlp]; exact upd_same
  have q3 : ∀ b o, b ≠ p → H b = some o → H1 b = some o := fun b o h1 h2 => by rw [← e1, upd_ne h1]; exact same_new hl _ b o h2
  clear e1
  refine ⟨_, rfl, y, dy, fs, rfl, q3 _ _ (Ne.symm npy) hy, he, _, rfl, y, p, dy, m, fs, xs, rfl, q3 _ _ (Ne.symm npy) hy, hm, q3 _ _ (Ne.symm npm) hmm, hxs, ?_⟩
  exact hQ _ ⟨l, fun b o h1 h2 h3 => by rw [upd_ne h2]; exact q3 b o h1 h3, hl, by rw [upd_ne npm]; exact q1, by rw [upd_ne nlm]; exact q2, upd_same⟩
def spStreamInit (K : PySem.W.Frag) : Sp := fun vs H Q _ => ∃ (p dx y dy m : Addr) (st : Str) (fs : List (Str × V)) (xs : List V), vs = [.ref p, .ref y, .str st] ∧ H p = some (.ins (He.ga K "StreamHandler") dx []) ∧ p ≠ y ∧ H y = some (.ins (CY K) dy fs) ∧ fs.lookup ("made" : Str) = some (.ref m) ∧ fs.lookup ("enrol" : Str) = none ∧ H m = some (.lst xs) ∧ xs.length ≤ 1000 ∧
  ∀ (H' : Hp) (l : Addr), (∀ b o, b ≠ p → b ≠ m → H b = some o → H' b = some o) → H l = none → H' p = some (.ins (He.ga K "StreamHandler") dx (hF l y ++ ([("stream", .str st)] : List (Str × V)))) → H' l = some (.lst []) → H' m = some (.lst (xs ++ [.ref p])) → Q .non H'
theorem ok_stream_init {f : Addr} (T : Txt P w K mg) (F : Stands K "__init__" "StreamHandler.__init__" s_StreamHandler_init [.str "stderr"] f) (c_Handler_init : Callable P w K mg base 2 (He.ma K (He.ga K "Handler") "__init__") ["self", "yard"] [] (spHandlerInit K)) :
    Callable P w K mg base 3 f ["self", "yard", "stream"] [.str "stderr"] (spStreamInit K) := by
  refine F.call sc_StreamHandler_init 2 0 (fun vs H Q E h => ?_) (fun cdv A outer s H vs Q E hr h => ?_) (fun z => nomatch z) fun _ => ⟨rfl, fun _ _ _ _ _ _ _ us its hl hi => match us, hl, its, hi with | [_, _], _, [_], _ => ⟨_, rfl, rfl⟩⟩
  · obtain ⟨p, dx, y, dy, m, st, fs, xs, rfl, _⟩ := h; rfl
  obtain ⟨p, dx, y, dy, m, st, fs, xs, rfl, hp, npy, hy, hm, he, hmm, hxs, hQ⟩ := h
  refine ⟨_, (pss_cons (ps_expr (pe_cf T.cf_Handler_init c_Handler_init (hr.mono (by first | decide | exact Nat.le_refl _)) (pe_glob (v := .ref _) (by rfl) T.g_Handler rfl) (pa_cons (pv 0) (pa_cons (pv 1) pa_nil))))
      (pss_one (ps_fld (pv 0) (pv 2) rfl))), ?_⟩
  have c : HCls K (He.ga K "StreamHandler") := ⟨T.c_StreamHandler, T.n_StreamHandler_filters, T.n_StreamHandler_yard, T.n_StreamHandler_level, T.n_StreamHandler_formatter, T.n_StreamHandler_name, T.n_StreamHandler_terminator, T.n_StreamHandler_closed⟩
  refine ⟨rfl, _, rfl, _, rfl, p, _, dx, y, dy, m, fs, xs, rfl, hp, c, npy, hy, hm, he, hmm, hxs, fun H1 hM => ?_⟩
  obtain ⟨l, k1, k2, k3, k4, k5⟩ := hM
  have nlp : l ≠ p := fun z => by rw [z, hp] at k2; cases k2
  have npm : m ≠ p := fun z => by rw [z, hp] at hmm; cases hmm
  refine ⟨_, rfl, _, rfl, p, _, dx, _, rfl, k3, T.c_StreamHandler, T.n_StreamHandler_stream, (by show 7 < 1000; decide), ?_⟩
  exact hQ _ l (fun b o h1 h2 h3 => by rw [upd_ne h1]; exact k1 b o h1 h2 h3) k2 upd_same (by rw [upd_ne nlp]; exact k4) (by rw [upd_ne npm]; exact k5)
def lF (l y : Addr) (name : Str) (lev : Int) (h : Addr) (par : V) : List (Str × V) := [("filters", .ref l), ("yard", .ref y), ("name", .str name), ("level", .int lev), ("propagate", .bl true), ("disabled", .bl false), ("handlers", .ref h), ("parent", par)]
def spLoggerInit (K : PySem.W.Frag) : Sp := fun vs H Q _ => ∃ (p dx y : Addr) (name : Str) (lev : Int), vs = [.ref p, .ref y, .str name, .int lev] ∧ H p = some (.ins (CL K) dx []) ∧
  ∀ (H' : Hp) (l h : Addr), SameBut p H H' → H l = none → H h = none → l ≠ h → H' p = some (.ins (CL K) dx (lF l y name lev h .non)) → H' l = some (.lst []) → H' h = some (.lst []) → Q .non H'
theorem ok_logger_init {f : Addr} (T : Txt P w K mg) (F : Stands K "__init__" "Logger.__init__" s_Logger_init [] f) (c_Filterer_init : Callable P w K mg base 1 (He.ma K (He.ga K "Filterer") "__init__") ["self"] [] (spFiltererInit K)) :
    Callable P w K mg base 2 f ["self", "yard", "name", "level"] [] (spLoggerInit K) := by
  refine F.call0 sc_Logger_init (fun vs H Q E h => ?_) (fun cdv A outer s H vs Q E hr h => ?_) (fun _ _ _ _ _ _ us hl => match us, hl with | [_, _, _, _], _ => rfl)
  · obtain ⟨p, dx, y, name, lev, rfl, _⟩ := h; rfl
  obtain ⟨p, dx, y, name, lev, rfl, hp, hQ⟩ := h
  refine ⟨_, (pss_cons (ps_expr (pe_cf T.cf_Filterer_init c_Filterer_init (hr.mono (by first | decide | exact Nat.le_refl _)) (pe_glob (v := .ref _) (by rfl) T.g_Filterer rfl) (pa_cons (pv 0) pa_nil)))
      (pss_cons (ps_fld (pv 0) (pv 1) rfl)
      (pss_cons (ps_fld (pv 0) (pv 2) rfl)
      (pss_cons (ps_fld (pv 0) (pv 3) rfl)
      (pss_cons (ps_fld (pv 0) pe_bl rfl)
      (pss_cons (ps_fld (pv 0) pe_bl rfl)
      (pss_cons (ps_fld (pv 0) (pe_lst pa_nil) rfl)
      (pss_one (ps_fld (pv 0) pe_non rfl))))))))), ?_⟩
  refine ⟨rfl, _, rfl, _, p, dx, [], rfl, hp, T.c_Logger, T.n_Logger_filters, (by decide), fun l hl => ?_⟩
  refine ⟨_, rfl, _, rfl, p, _, dx, _, rfl, upd_same, T.c_Logger, T.n_Logger_yard, (by show 1 < 1000; decide), ?_⟩
  rw [upd_upd]
  refine ⟨_, rfl, _, rfl, p, _, dx, _, rfl, upd_same, T.c_Logger, T.n_Logger_name, (by show 2 < 1000; decide), ?_⟩
  rw [upd_upd]
  refine ⟨_, rfl, _, rfl, p, _, dx, _, rfl, upd_same, T.c_Logger, T.n_Logger_level, (by show 3 < 1000; decide), ?_⟩
  rw [upd_upd]
  refine ⟨_, rfl, p, _, dx, _, rfl, upd_same, T.c_Logger, T.n_Logger_propagate, (by show 4 < 1000; decide), ?_⟩
  rw [upd_upd]
  refine ⟨_, rfl, p, _, dx, _, rfl, upd_same, T.c_Logger, T.n_Logger_disabled, (by show 5 < 1000; decide), ?_⟩
  rw [upd_upd]
  refine ⟨(by show 0 ≤ sizeLine; decide), fun h hh => ?_⟩
  obtain ⟨nhp, hh1⟩ := upd_none hh
  obtain ⟨nhl, hh2⟩ := upd_none hh1
  refine ⟨_, rfl, p, _, dx, _, rfl, (by rw [upd_ne (Ne.symm nhp)]; exact upd_same), T.c_Logger, T.n_Logger_handlers, (by show 6 < 1000; decide), ?_⟩
  refine ⟨_, rfl, p, _, dx, _, rfl, upd_same, T.c_Logger, T.n_Logger_parent, (by show 7 < 1000; decide), ?_⟩
  rw [upd_upd]
  have nlp : l ≠ p := fun z => by rw [z, hp] at hl; cases hl
  refine hQ _ l h (fun b o h1 h2 => ?_) hl hh2 (Ne.symm nhl) upd_same ?_ ?_
  · have n1 : b ≠ h := ne_of_none h2 hh2
    have n2 : b ≠ l := ne_of_none h2 hl
    rw [upd_ne h1, upd_ne n1, upd_ne h1, upd_ne n2]; exact h2
  · rw [upd_ne nlp, upd_ne (Ne.symm nhl), upd_ne nlp]; exact upd_same
  · rw [upd_ne nhp]; exact upd_same
end
end K17

set_option Elab.async false
set_option linter.all false
set_option maxRecDepth 100000
set_option maxHeartbeats 0
namespace K17
open PySem PySem.Spec PyProof.Rows L2 RC
section
variable {P : Program} {w : World} {K : PySem.W.Frag} {mg : Str → Option Value} {base : Heap}
/-! ### a yard is made -/
/-- H came from H0; ns: what is still being changed; L: what was laid since -/
structure Fr (H0 : Hp) (p : Addr) (ns : List Addr) (L : List (Addr × HO)) (H : Hp) : Prop where
  kp : ∀ b o, b ≠ p → H0 b = some o → H b = some o
  has : ∀ x ∈ L, x.1 ∉ ns ∧ H0 x.1 = none ∧ H x.1 = some x.2
  live : ∀ n ∈ ns, ∃ o, H n = some o
  old : ∀ n ∈ ns, n = p ∨ H0 n = none
  mem : p ∈ ns
section
variable {H0 H H2 : Hp} {p : Addr} {ns : List Addr} {L : List (Addr × HO)}
theorem Fr.none (F : Fr H0 p ns L H) {q : Addr} (h : H q = none) : H0 q = none := by
  cases e : H0 q with
  | none => rfl
  | some o =>
    by_cases c : q = p
    · subst c; obtain ⟨o', e'⟩ := F.live _ F.mem; rw [e'] at h; cases h
    · rw [F.kp q o c e] at h; cases h
theorem Fr.notin (F : Fr H0 p ns L H) {q : Addr} (h : H q = Option.none) : q ∉ ns := fun z => by obtain ⟨o, e⟩ := F.live q z; rw [e] at h; cases h
theorem Fr.to (F : Fr H0 p ns L H) (k : ∀ b o, b ∉ ns → H b = some o → H2 b = some o) (l : ∀ n ∈ ns, ∃ o, H2 n = some o) : Fr H0 p ns L H2 where
  kp := fun b o hb e => k b o (fun z => by rcases F.old b z with c | c; exact hb c; rw [c] at e; cases e) (F.kp b o hb e)
  has := fun x hx => ⟨(F.has x hx).1, (F.has x hx).2.1, k _ _ (F.has x hx).1 (F.has x hx).2.2⟩
  live := l
  old := F.old
  mem := F.mem
theorem Fr.cons (F : Fr H0 p ns L H) {q : Addr} {o : HO} (h1 : q ∉ ns) (h2 : H0 q = Option.none) (h3 : H q = some o) : Fr H0 p ns ((q, o) :: L) H where
  kp := F.kp
  has := fun x hx => by
    rcases List.mem_cons.mp hx with c | c
    · subst c; exact ⟨h1, h2, h3⟩
    · exact F.has x c
  live := F.live
  old := F.old
  mem := F.mem
theorem Fr.set (F : Fr H0 p ns L H) {o : HO} {q : Addr} (hq : q ∈ ns) (e : upd H q o = H2) : Fr H0 p ns L H2 := by
  subst e
  refine F.to (fun b u h1 h2 => ?_) (fun n hn => ?_)
  · rw [upd_ne (fun z => h1 (by rw [z]; exact hq))]; exact h2
  · by_cases c : n = q
    · subst c; exact ⟨_, upd_same⟩
    · rw [upd_ne c]; exact F.live n hn
theorem Fr.new (F : Fr H0 p ns L H) {o : HO} {q : Addr} (hq : H q = Option.none) (e : upd H q o = H2) : Fr H0 p ns ((q, o) :: L) H2 := by
  subst e
  refine (F.to (H2 := upd H q o) (fun b u h1 h2 => same_new hq _ _ _ h2) (fun n hn => ?_)).cons (F.notin hq) (F.none hq) upd_same
  obtain ⟨u, hu⟩ := F.live n hn
  exact ⟨u, same_new hq _ _ _ hu⟩
/-- one more is being changed -/
theorem Fr.own (F : Fr H0 p ns L H) {o : HO} {q : Addr} (hq : H q = Option.none) (e : upd H q o = H2) : Fr H0 p (q :: ns) L H2 := by
  have G := F.new hq e
  subst e
  refine ⟨G.kp, fun x hx => ?_, fun n hn => ?_, fun n hn => ?_, List.mem_cons_of_mem _ F.mem⟩
  · have g := F.has x hx
    refine ⟨fun z => ?_, g.2.1, (G.has x (List.mem_cons_of_mem _ hx)).2.2⟩
    rcases List.mem_cons.mp z with c | c
    · rw [c, hq] at g; cases g.2.2
    · exact g.1 c
  · rcases List.mem_cons.mp hn with c | c
    · subst c; exact ⟨_, upd_same⟩
    · exact G.live n c
  · rcases List.mem_cons.mp hn with c | c
    · subst c; exact .inr (F.none hq)
    · exact F.old n c
theorem Fr.get (F : Fr H0 p ns L H) {x : Addr × HO} (h : x ∈ L) : H x.1 = some x.2 := (F.has x h).2.2
theorem Fr.putf (F : Fr H0 p ns L H) {o o' : HO} {q : Addr} (hq : H q = Option.none) (e : upd (upd H q o) p o' = H2) : Fr H0 p ns ((q, o) :: L) H2 := (F.new hq rfl).set F.mem e
theorem Fr.ownf (F : Fr H0 p ns L H) {o o' : HO} {q : Addr} (hq : H q = Option.none) (e : upd (upd H q o) p o' = H2) : Fr H0 p (q :: ns) L H2 ∧ H2 q = some o := by
  have G := F.own hq (o := o) rfl
  refine ⟨G.set (List.mem_cons_of_mem _ F.mem) e, ?_⟩
  have n : q ≠ p := fun z => F.notin hq (by rw [z]; exact F.mem)
  rw [← e, upd_ne n]; exact upd_same
theorem Fr.same (F : Fr H0 p ns L H) (s : Same H H2) : Fr H0 p ns L H2 := F.to (fun b o _ e => s b o e) (fun n hn => let ⟨o, e⟩ := F.live n hn; ⟨o, s _ _ e⟩)
theorem Fr.start {o : HO} (h : H0 p = some o) : Fr H0 p [p] [] H0 where
  kp := fun _ _ _ e => e
  has := fun _ h => nomatch h
  live := fun n hn => by cases List.mem_singleton.mp hn; exact ⟨o, h⟩
  old := fun n hn => .inl (List.mem_singleton.mp hn)
  mem := List.mem_singleton.mpr rfl
end
def yF (clk : Int) (st fi na nu lm md hn fr rt lr : Addr) : List (Str × V) := [("clock", .int clk), ("stream_texts", .ref st), ("file_rows", .ref fi), ("names_of", .ref na), ("numbers_of", .ref nu), ("bar_level", .int 0), ("logger_map", .ref lm), ("made", .ref md), ("handler_names", .ref hn), ("failure_rows", .ref fr), ("root", .ref rt), ("last_resort", .ref lr)]
/-- where the parts of a yard lie -/
structure YParts where
  (st fi na nu lm md hn fr rt lr rl rh ll : Addr)
def YParts.L (K : PySem.W.Frag) (y : Addr) (q : YParts) (rd ld : Addr) : List (Addr × HO) := [(q.ll, .lst []), (q.lr, .ins (He.ga K "StreamHandler") ld (hF q.ll y ++ ([("stream", .str "stderr")] : List (Str × V)))), (q.rh, .lst []), (q.rl, .lst []), (q.rt, .ins (CL K) rd (lF q.rl y "root" 30 q.rh .non)), (q.fr, .lst []), (q.hn, .dK []), (q.lm, .dK []), (q.nu, .dK (kv_FIRST_NUMBERS.map fun q => (q.1, q.2.v K))), (q.na, .dK (kv_FIRST_NAMES.map fun q => (q.1, q.2.v K))), (q.fi, .dK []), (q.st, .dK [])]
structure YNew (K : PySem.W.Frag) (H0 H : Hp) (y dy : Addr) (clk : Int) (q : YParts) : Prop where
  fr : ∃ rd ld, Fr H0 y [q.md, y] (q.L K y rd ld) H
  y : H y = some (.ins (CY K) dy (yF clk q.st q.fi q.na q.nu q.lm q.md q.hn q.fr q.rt q.lr))
  md : H q.md = some (.lst [])
def spYardInit (K : PySem.W.Frag) : Sp := fun vs H Q _ => ∃ (p dx : Addr) (clk : Int), vs = [.ref p, .int clk] ∧ H p = some (.ins (CY K) dx []) ∧ ∀ (H' : Hp) (q : YParts), YNew K H H' p dx clk q → Q .non H'
theorem ok_yard_init {f : Addr} (T : Txt P w K mg) (F : Stands K "__init__" "Yard.__init__" s_Yard_init [.int 0] f)
    (c_Logger_init : Callable P w K mg base 2 (He.ma K (He.ga K "Logger") "__init__") ["self", "yard", "name", "level"] [] (spLoggerInit K))
    (c_StreamHandler_init_d1 : Callable P w K mg base 3 (He.ma K (He.ga K "StreamHandler") "__init__") ["self", "yard", "stream"] [.str "stderr"] (spStreamInit K)) :
    Callable P w K mg base 5 f ["self", "now"] [.int 0] (spYardInit K) := by
  refine F.call sc_Yard_init 1 0 (fun vs H Q E h => ?_) (fun cdv A outer s H vs Q E hr h => ?_) (fun z => nomatch z) fun _ => ⟨rfl, fun _ _ _ _ _ _ _ us its hl hi => match us, hl, its, hi with | [_], _, [_], _ => ⟨_, rfl, rfl⟩⟩
  · obtain ⟨p, dx, clk, rfl, _⟩ := h; rfl
  obtain ⟨p, dx, clk, rfl, hp, hQ⟩ := h
  refine ⟨_, (pss_cons (ps_fld (pv 0) (pv 1) rfl)
      (pss_cons (ps_fld (pv 0) pe_dnewK rfl)
      (pss_cons (ps_fld (pv 0) pe_dnewK rfl)
      (pss_cons (ps_fld (pv 0) (pe_callTy (RB.call_dictK T.t_FIRST_NAMES) (by rfl) T.b_dict (by decide +kernel) (pa_cons (pe_glob (v := .ref _) (by rfl) T.g_FIRST_NAMES rfl) pa_nil)) rfl)
      (pss_cons (ps_fld (pv 0) (pe_callTy (RB.call_dictK T.t_FIRST_NUMBERS) (by rfl) T.b_dict (by decide +kernel) (pa_cons (pe_glob (v := .ref _) (by rfl) T.g_FIRST_NUMBERS rfl) pa_nil)) rfl)
      (pss_cons (ps_fld (pv 0) pe_int rfl)
      (pss_cons (ps_fld (pv 0) pe_dnewK rfl)
      (pss_cons (ps_fld (pv 0) (pe_lst pa_nil) rfl)
      (pss_cons (ps_fld (pv 0) pe_dnewK rfl)
      (pss_cons (ps_fld (pv 0) (pe_lst pa_nil) rfl)
      (pss_cons (ps_fld (pv 0) (pe_mk T.k_Logger T.g_Logger c_Logger_init (hr.mono (by first | decide | exact Nat.le_refl _)) (by rfl) (pa_cons (pv 0) (pa_cons pe_str (pa_cons (pe_gi (by rfl) T.g_WARNING) pa_nil)))) rfl)
      (pss_cons (ps_fld (pv 0) (pe_mk T.k_StreamHandler T.g_StreamHandler c_StreamHandler_init_d1 (hr.mono (by first | decide | exact Nat.le_refl _)) (by rfl) (pa_cons (pv 0) pa_nil)) rfl)
      (pss_one (ps_expr (pe_bm0 PySem.F.plainAttrs_list PySem.F.slot_list_pop PySem.F.type_list_pop mt_pop (pe_fld (pv 0) rfl)))))))))))))))), ?_⟩
  have F0 := Fr.start hp
  refine ⟨_, rfl, _, rfl, p, _, dx, _, rfl, hp, T.c_Yard, T.n_Yard_clock, (by show 0 < 1000; decide), ?_⟩
  generalize e1 : upd H p _ = H1
  have F1 := F0.set List.mem_cons_self e1
  have p1 := congrFun e1.symm p; rw [upd_same] at p1
  clear e1
  intro st h_st
  refine ⟨_, rfl, p, _, dx, _, rfl, same_new h_st _ _ _ p1, T.c_Yard, T.n_Yard_stream_texts, (by show 1 < 1000; decide), ?_⟩
  generalize e : upd (upd H1 st _) p _ = H2
  have F2 := F1.putf h_st e
  have p2 := congrFun e.symm p; rw [upd_same] at p2
  clear e
  intro fi h_fi
  refine ⟨_, rfl, p, _, dx, _, rfl, same_new h_fi _ _ _ p2, T.c_Yard, T.n_Yard_file_rows, (by show 2 < 1000; decide), ?_⟩
  generalize e : upd (upd H2 fi _) p _ = H3
  have F3 := F2.putf h_fi e
  have p3 := congrFun e.symm p; rw [upd_same] at p3
  clear e
  refine ⟨rfl, fun na h_na => ?_⟩
  refine ⟨_, rfl, p, _, dx, _, rfl, same_new h_na _ _ _ p3, T.c_Yard, T.n_Yard_names_of, (by show 3 < 1000; decide), ?_⟩
  generalize e : upd (upd H3 na _) p _ = H4
  have F4 := F3.putf h_na e
  have p4 := congrFun e.symm p; rw [upd_same] at p4
  clear e
  refine ⟨rfl, fun nu h_nu => ?_⟩
  refine ⟨_, rfl, p, _, dx, _, rfl, same_new h_nu _ _ _ p4, T.c_Yard, T.n_Yard_numbers_of, (by show 4 < 1000; decide), ?_⟩
  generalize e : upd (upd H4 nu _) p _ = H5
  have F5 := F4.putf h_nu e
  have p5 := congrFun e.symm p; rw [upd_same] at p5
  clear e
  refine ⟨_, rfl, p, _, dx, _, rfl, p5, T.c_Yard, T.n_Yard_bar_level, (by show 5 < 1000; decide), ?_⟩
  generalize e : upd H5 p _ = H6
  have F6 := F5.set F5.mem e
  have p6 := congrFun e.symm p; rw [upd_same] at p6
  clear e
  intro lm h_lm
  refine ⟨_, rfl, p, _, dx, _, rfl, same_new h_lm _ _ _ p6, T.c_Yard, T.n_Yard_logger_map, (by show 6 < 1000; decide), ?_⟩
  generalize e : upd (upd H6 lm _) p _ = H7
  have F7 := F6.putf h_lm e
  have p7 := congrFun e.symm p; rw [upd_same] at p7
  clear e
  refine ⟨(by show 0 ≤ sizeLine; decide), fun md h_md => ?_⟩
  refine ⟨_, rfl, p, _, dx, _, rfl, same_new h_md _ _ _ p7, T.c_Yard, T.n_Yard_made, (by show 7 < 1000; decide), ?_⟩
  generalize e : upd (upd H7 md _) p _ = H8
  obtain ⟨F8, m8⟩ := F7.ownf h_md e
  have p8 := congrFun e.symm p; rw [upd_same] at p8
  have nmp : md ≠ p := fun z => F7.notin h_md (by rw [z]; exact F7.mem)
  clear e
  intro hn h_hn
  refine ⟨_, rfl, p, _, dx, _, rfl, same_new h_hn _ _ _ p8, T.c_Yard, T.n_Yard_handler_names, (by show 8 < 1000; decide), ?_⟩
  generalize e : upd (upd H8 hn _) p _ = H9
  have F9 := F8.putf h_hn e
  have p9 := congrFun e.symm p; rw [upd_same] at p9
  have m9 : H9 md = some (.lst []) := by rw [← e, upd_ne nmp]; exact same_new h_hn _ _ _ m8
  clear e
  refine ⟨(by show 0 ≤ sizeLine; decide), fun fr h_fr => ?_⟩
  refine ⟨_, rfl, p, _, dx, _, rfl, same_new h_fr _ _ _ p9, T.c_Yard, T.n_Yard_failure_rows, (by show 9 < 1000; decide), ?_⟩
  generalize e : upd (upd H9 fr _) p _ = H10
  have F10 := F9.putf h_fr e
  have p10 := congrFun e.symm p; rw [upd_same] at p10
  have m10 : H10 md = some (.lst []) := by rw [← e, upd_ne nmp]; exact same_new h_fr _ _ _ m9
  clear e
  -- root
  refine ⟨_, rfl, fun rt rd h_rt h_rd hne => ?_⟩
  refine ⟨rt, rd, p, "root", 30, rfl, upd_same, fun Hr rl rh k1 k2 k3 k4 k5 k6 k7 => ⟨rfl, ?_⟩⟩
  have sr : Same H10 Hr := made_same h_rt h_rd k1
  obtain ⟨k2a, k2⟩ := upd_none k2
  obtain ⟨k3a, k3⟩ := upd_none k3
  have k2 := (upd_none k2).2
  have k3 := (upd_none k3).2
  have Fr1 := (((F10.same sr).cons (F10.notin h_rt) (F10.none h_rt) k5).cons (F10.notin k2) (F10.none k2) k6).cons (F10.notin k3) (F10.none k3) k7
  have pr := sr _ _ p10
  have mr := sr _ _ m10
  refine ⟨_, rfl, p, _, dx, _, rfl, pr, T.c_Yard, T.n_Yard_root, (by show 10 < 1000; decide), ?_⟩
  generalize e : upd Hr p _ = H11
  have F11 := Fr1.set Fr1.mem e
  have p11 := congrFun e.symm p; rw [upd_same] at p11
  have m11 : H11 md = some (.lst []) := by rw [← e, upd_ne nmp]; exact mr
  clear e
  -- last_resort
  refine ⟨_, rfl, fun lr ld h_lr h_ld hne2 => ?_⟩
  have npl : lr ≠ p := fun z => by rw [z, p11] at h_lr; cases h_lr
  have nml : lr ≠ md := fun z => by rw [z, m11] at h_lr; cases h_lr
  have t1 : ∀ C fs, Same H11 (upd (upd H11 ld (.own lr)) lr (.ins C ld fs)) := fun C fs => made_same h_lr h_ld (fun _ _ _ e => e)
  refine ⟨lr, ld, p, dx, md, "stderr", _, [], rfl, upd_same, npl, t1 _ _ _ _ p11, rfl, rfl, t1 _ _ _ _ m11, (by decide), fun Hl ll l1 l2 l3 l4 l5 => ⟨rfl, ?_⟩⟩
  have l2b : H11 ll = none := (upd_none (upd_none l2).2).2
  have f12 : ∀ b o, b ∉ [md, p] → H11 b = some o → Hl b = some o := fun b o hb e => l1 b o (ne_of_none e h_lr) (fun z => hb (by rw [z]; exact List.mem_cons_self)) (t1 _ _ _ _ e)
  have p12 := l1 p _ (Ne.symm npl) (Ne.symm nmp) (t1 _ _ _ _ p11)
  have F12 := ((F11.to f12 (fun n hn => by
    rcases List.mem_cons.mp hn with c | c
    · subst c; exact ⟨_, l5⟩
    · cases List.mem_singleton.mp c; exact ⟨_, p12⟩)).cons (F11.notin h_lr) (F11.none h_lr) l3).cons (F11.notin l2b) (F11.none l2b) l4
  refine ⟨_, rfl, p, _, dx, _, rfl, p12, T.c_Yard, T.n_Yard_last_resort, (by show 11 < 1000; decide), ?_⟩
  generalize e : upd Hl p _ = H13
  have F13 := F12.set F12.mem e
  have p13 := congrFun e.symm p; rw [upd_same] at p13
  have m13 : H13 md = some (.lst [.ref lr]) := by rw [← e, upd_ne nmp]; exact l5
  clear e
  refine ⟨_, rfl, p, _, dx, _, _, rfl, p13, T.c_Yard, T.n_Yard_made, rfl, .inl ⟨rfl, _, SqL.of m13⟩, md, _, _, rfl, rfl, m13, rfl, ?_⟩
  have F14 := F13.set (o := .lst []) List.mem_cons_self rfl
  refine hQ _ ⟨st, fi, na, nu, lm, md, hn, fr, rt, lr, rl, rh, ll⟩ ⟨⟨rd, ld, F14⟩, ?_, upd_same⟩
  rw [upd_ne (Ne.symm nmp)]; exact p13
end
end K17

set_option Elab.async false
set_option linter.all false
set_option maxRecDepth 100000
set_option maxHeartbeats 0
namespace K17
open PySem PySem.Spec PyProof.Rows L2 RC
section
variable {P : Program} {w : World} {K : PySem.W.Frag} {mg : Str → Option Value} {base : Heap}
/-! ### names of loggers -/
def signs : Str := "abcdefghijklmnopqrstuvwxyzABCDEFGHIJKLMNOPQRSTUVWXYZ0123456789_"
def partB (t : Str) : Bool := decide (t ≠ "") && t.cps.toList.all fun c => decide (c ∈ signs.cps.toList)
theorem take_more {α : Type} {l : List α} {i : Nat} {c : α} (h : l[i]? = some c) : l.take (i + 1) = l.take i ++ [c] := by
  rw [List.take_add_one, h]; rfl
theorem yes_if {σ : L2.St} {H : Hp} {A B : Hp → Prop} (h : A H) : tYes σ H (fun b H3 => if b = true then A H3 else B H3) := by
  show (if true = true then A H else B H)
  rw [if_pos rfl]; exact h
def spIsPart : Sp := fun vs H Q _ => ∃ t : Str, vs = [.str t] ∧ t.cps.size ≤ 1000000 ∧ ∀ H', Same H H' → Q (.bl (partB t)) H'
theorem ok_is_part {f : Addr} (T : Txt P w K mg) (F : Stands K "is_part" "is_part" s_is_part [] f) : Callable P w K mg base 1 f ["text"] [] spIsPart := by
  refine F.call0 sc_is_part (fun vs H Q E h => ?_) (fun cdv A outer s H vs Q E hr h => ?_) (fun _ _ _ _ _ _ us hl => match us, hl with | [_], _ => rfl)
  · obtain ⟨t, rfl, _⟩ := h; rfl
  obtain ⟨t, rfl, ht, hQ⟩ := h
  refine ⟨_, (pss_one (ps_ret (pe_and (pe_cmpR op_ne (pv 0) pe_str (nomark _)) (pe_one (pe_callB (cr_all rfl) (by rfl) T.b_all (by decide +kernel) (pa_cons (pe_lc (own := [("sign", 1)]) (by rfl) sc_is_part.nd (pi_str (pv 0)) (blkOk_by (own := [("sign", 1)]) (N := nm_is_part) (sc := defScope s_is_part) (by decide +kernel)) (fun _ _ _ _ _ => (pg_name (i := 1) sc_is_part.nd rfl (by first | exact Or.inl rfl | exact Or.inr rfl))) (fun _ _ _ _ _ => pts_nil) (fun _ _ _ _ _ => (pe_cmpR op_inS (pv 1) (pe_gs (by rfl) T.g_SIGNS) (by rfl)))) pa_nil)))))), ?_⟩
  refine ⟨_, rfl, rfl, _, rfl, ?_⟩
  by_cases e : t = ""
  · subst e
    exact iteF' (by decide +kernel) (hQ H (Same.refl H))
  refine iteT' (by simp [e]) ?_
  refine ⟨_, rfl, t, rfl, fun D hD => ?_⟩
  refine lc_it walk_str (fun i H' => H' = upd H D (.lst ((t.cps.toList.take i).map fun c => V.bl (decide (c ∈ signs.cps.toList))))) rfl (fun _ _ _ _ => trivial) (fun i x H1 H2 hi hp hy => ?_) (fun H1 hp => ?_)
  · obtain ⟨rfl, c, hc, rfl⟩ := hy
    subst hp
    have hc' : t.cps.toList[i]? = some c := by simpa using hc
    refine ⟨rfl, yes_if ?_⟩
    refine ⟨_, rfl, c, signs, rfl, rfl, _, upd_same, ?_, ?_⟩
    · rw [List.length_map, List.length_take]; rw [sizeLine_eq]; omega
    · rw [upd_upd, take_more hc', List.map_append]; rfl
  · subst hp
    refine ⟨D, t.cps.toList.map fun c => decide (c ∈ signs.cps.toList), rfl, SqL.of ?_, ?_⟩
    · rw [upd_same, List.map_map, ← Array.length_toList, List.take_length]; rfl
    · have e2 : ((t.cps.toList.map fun c => decide (c ∈ signs.cps.toList)).all id) = partB t := by
        unfold partB; rw [List.all_map, decide_eq_true e]; rfl
      rw [e2]
      exact hQ _ (same_new hD _)
def spAreParts : Sp := fun vs H Q _ => ∃ t : Str, vs = [.str t] ∧ t.cps.size ≤ 1000000 ∧ (Txt.split t ".").length ≤ 1000000 ∧ (∀ u ∈ Txt.split t ".", u.cps.size ≤ 1000000) ∧ ∀ H', Same H H' → Q (.bl ((Txt.split t ".").all partB)) H'
theorem ok_are_parts {f : Addr} (T : Txt P w K mg) (F : Stands K "are_parts" "are_parts" s_are_parts [] f) (c_is_part : Callable P w K mg base 1 (He.ga K "is_part") ["text"] [] spIsPart) : Callable P w K mg base 2 f ["thing"] [] spAreParts := by
  refine F.call0 sc_are_parts (fun vs H Q E h => ?_) (fun cdv A outer s H vs Q E hr h => ?_) (fun _ _ _ _ _ _ us hl => match us, hl with | [_], _ => rfl)
  · obtain ⟨t, rfl, _⟩ := h; rfl
  obtain ⟨t, rfl, ht, hN, hP, hQ⟩ := h
  refine ⟨_, (pss_one (ps_ret (pe_and (pe_callB call_isi (by rfl) T.b_isinstance (by decide +kernel) (pa_cons (pv 0) (pa_cons (pe_bltn (v := .ty "str") (u := .type "str") (by rfl) T.b_str (by decide +kernel) rfl) pa_nil))) (pe_one (pe_callB (cr_all rfl) (by rfl) T.b_all (by decide +kernel) (pa_cons (pe_lc (own := [("part", 1)]) (by rfl) sc_are_parts.nd (pi_list (pe_split (pv 0) pe_str)) (blkOk_by (own := [("part", 1)]) (N := nm_are_parts) (sc := defScope s_are_parts) (by decide +kernel)) (fun _ _ _ _ _ => (pg_name (i := 1) sc_are_parts.nd rfl (by first | exact Or.inl rfl | exact Or.inr rfl))) (fun _ _ _ _ _ => pts_nil) (fun _ _ _ _ _ => (pe_fn T.g_is_part c_is_part (hr.mono (by first | decide | exact Nat.le_refl _)) (by rfl) (pa_cons (pv 1) pa_nil)))) pa_nil)))))), ?_⟩
  refine ⟨_, rfl, _, _, _, _, _, rfl, .ty _, .base (.str _), kit_ty (b := "str") (by decide +kernel), _, rfl, iteT ?_⟩
  refine ⟨_, rfl, ⟨t, rfl⟩, t, ".", rfl, rfl, (by decide), (by rw [sizeLine_eq]; exact Nat.le_trans (Nat.add_le_add_right ht 2) (by decide)), fun p hp => ?_⟩
  refine ⟨p, rfl, ⟨_, SqL.of upd_same⟩, fun D hD => ?_⟩
  have npD : p ≠ D := ne_of_none upd_same hD
  refine lc_it walk_list (fun i H' => Same (upd H p (.lst ((Txt.split t ".").map V.str))) H' ∧ H' D = some (.lst (((Txt.split t ".").take i).map fun u => V.bl (partB u)))) ⟨same_new hD _, upd_same⟩ (fun i H' _ h => SqL.of (h.1 _ _ upd_same)) (fun i x H1 H2 hi hp hy => ?_) (fun H1 h1 => ?_)
  · obtain ⟨rfl, hx⟩ := hy
    obtain ⟨h1, h2⟩ := hp
    rw [List.getElem?_map] at hx
    obtain ⟨u, hu, rfl⟩ := Option.map_eq_some_iff.mp hx
    rw [List.length_map] at hi
    refine ⟨rfl, yes_if ?_⟩
    refine ⟨_, rfl, u, rfl, hP u (List.mem_of_getElem? hu), fun H3 h3 => ⟨_, h3 _ _ h2, ?_, ?_, ?_⟩⟩
    · rw [List.length_map, List.length_take, sizeLine_eq]; omega
    · intro b o hb
      rw [upd_ne (ne_of_none hb hD)]; exact h3 _ _ (h1 _ _ hb)
    · rw [upd_same, take_more hu, List.map_append]; rfl
  · rw [List.length_map, List.take_length] at h1
    refine ⟨D, (Txt.split t ".").map partB, rfl, SqL.of ?_, ?_⟩
    · rw [h1.2, List.map_map]; rfl
    · rw [List.all_map]
      exact hQ _ ((same_new hp _).trans h1.1)
end
end K17

set_option Elab.async false
set_option linter.all false
set_option maxRecDepth 100000
set_option maxHeartbeats 0
namespace K17
open PySem PySem.Spec PyProof.Rows L2 RC
section
variable {P : Program} {w : World} {K : PySem.W.Frag} {mg : Str → Option Value} {base : Heap}
/-! ### the tree of loggers -/
abbrev Es : Type := List (Str × Addr)
def lmK (es : Es) : List (Key × V) := es.map fun e => (Sum.inr e.1, V.ref e.2)
theorem valV_lmK (x : Str) : ∀ es : Es, valV (lmK es) (Sum.inr x) = (es.lookup x).map V.ref
  | [] => rfl
  | e :: es => by
    by_cases h : e.1 = x
    · have h1 : valV (lmK (e :: es)) (Sum.inr x) = some (V.ref e.2) := valV_pos (p := ((Sum.inr e.1 : Key), V.ref e.2)) (r := lmK es) (congrArg Sum.inr h)
      rw [h1, List.lookup_cons, beq_iff_eq.mpr h.symm]; rfl
    · have h1 : valV (lmK (e :: es)) (Sum.inr x) = valV (lmK es) (Sum.inr x) := by
        show valV (((Sum.inr e.1 : Key), V.ref e.2) :: lmK es) (Sum.inr x) = _
        unfold valV
        rw [List.find?_cons, show decide ((Sum.inr e.1 : Key) = Sum.inr x) = false from decide_eq_false fun z => h (Sum.inr.inj z)]
      rw [h1, List.lookup_cons, show (x == e.1) = false from by simpa using fun z : x = e.1 => h z.symm, valV_lmK x es]
/-- the first many parts of a name -/
def pre (parts : List Str) (k : Nat) : Str := Txt.join "." (parts.take k)
/-- the logger of the longest beginning of at most k parts -/
def parIx (es : Es) (parts : List Str) : Nat → Option Addr
  | 0 => none
  | k + 1 => match es.lookup (pre parts (k + 1)) with
    | some a => some a
    | none => parIx es parts k
def parA (es : Es) (rt : Addr) (nm : Str) : Addr := (parIx es (Txt.split nm ".") ((Txt.split nm ".").length - 1)).getD rt
/-- a name whose parts are not too many and not too long -/
structure Sized (nm : Str) : Prop where
  all : nm.cps.size ≤ 1000000
  few : (Txt.split nm ".").length ≤ 1000
  short : ∀ u ∈ Txt.split nm ".", u.cps.size ≤ 1000
theorem sum_take (k : Nat) : ∀ parts : List Str, (∀ u ∈ parts, u.cps.size ≤ 1000) → ((parts.take k).map (·.length)).sum ≤ parts.length * 1000 := by
  induction k with
  | zero => intro parts _; simp
  | succ k ih =>
    intro parts h
    cases parts with
    | nil => simp
    | cons p r =>
      have i1 := ih r (fun u hu => h u (List.mem_cons_of_mem _ hu))
      have i2 : p.length ≤ 1000 := h p List.mem_cons_self
      simp only [List.take_succ_cons, List.map_cons, List.sum_cons, List.length_cons]
      omega
theorem cutV_take (xs : List V) (k : Nat) (h : k ≤ xs.length) : cutV xs none (some (k : Int)) = xs.take k := by
  unfold cutV
  rw [HT.sIx_none, HT.sIx_nat, Nat.min_eq_left h, List.drop_zero, Nat.sub_zero]
def spParent (K : PySem.W.Frag) : Sp := fun vs H Q _ => ∃ (y dy lm rt : Addr) (fs : List (Str × V)) (es : Es) (t : Str), vs = [.ref y, .str t] ∧ H y = some (.ins (CY K) dy fs) ∧ fs.lookup ("root" : Str) = some (.ref rt) ∧ fs.lookup ("logger_map" : Str) = some (.ref lm) ∧ H lm = some (.dK (lmK es)) ∧ Sized t ∧ ∀ H', Same H H' → Q (.ref (parA es rt t)) H'
theorem ok_parent {f : Addr} (T : Txt P w K mg) (F : Stands K "parent_of" "parent_of" s_parent_of [] f) : Callable P w K mg base 1 f ["yard", "name"] [] (spParent K) := by
  refine F.call0 sc_parent_of (fun vs H Q E h => ?_) (fun cdv A outer s H vs Q E hr h => ?_) (fun _ _ _ _ _ _ us hl => match us, hl with | [_, _], _ => rfl)
  · obtain ⟨y, dy, lm, rt, fs, es, t, rfl, _⟩ := h; rfl
  obtain ⟨y, dy, lm, rt, fs, es, t, rfl, hy, hroot, hmap, hlm, hz, hQ⟩ := h
  refine ⟨_, (pss_cons (ps_set (i := 2) sc_parent_of.nd rfl (by first | exact Or.inl rfl | exact Or.inr rfl) (pe_split (pv 1) pe_str))
      (pss_cons (ps_for PassesOwn.never rfl (pi_range3 (by rfl) T.b_range (pa_cons (pe_op op_sub (pe_callB call_len (by rfl) T.b_len (by decide +kernel) (pa_cons (pv 2) pa_nil)) pe_int) (pa_cons pe_int (pa_cons (pe_un un_neg pe_int) pa_nil)))) (pg_name (i := 3) sc_parent_of.nd rfl (by first | exact Or.inl rfl | exact Or.inr rfl)) (pss_cons (ps_set (i := 4) sc_parent_of.nd rfl (by first | exact Or.inl rfl | exact Or.inr rfl) (pe_dget1 (hu_of hr) (pe_fld (pv 0) rfl) (pe_join pe_str (pe_slice sl_list (pv 2) po_none (po_some (pv 3)))) ⟨rfl, rfl, rfl, rfl⟩))
      (pss_one (ps_if (pt_cmpR op_notN (pv 4) pe_non (nomark _)) (pss_one (ps_ret (pv 4))) pss_nil))))
      (pss_one (ps_ret (pe_fld (pv 0) rfl))))), ?_⟩
  refine ⟨_, rfl, ⟨t, rfl⟩, t, ".", rfl, rfl, (by decide), (by rw [sizeLine_eq]; exact Nat.le_trans (Nat.add_le_add_right hz.all 2) (by decide)), fun p hp => ?_⟩
  have q1 : upd H p (.lst ((Txt.split t ".").map V.str)) p = some (.lst ((Txt.split t ".").map V.str)) := upd_same
  have s1 : Same H (upd H p (.lst ((Txt.split t ".").map V.str))) := same_new hp _
  generalize upd H p (.lst ((Txt.split t ".").map V.str)) = H1 at q1 s1
  unfold parA at hQ
  have hfew := hz.few
  have hshort := hz.short
  generalize Txt.split t "." = parts at hQ q1 hfew hshort
  have hl : ((parts.map V.str).length : Int) - 1 - 0 = (parts.length : Int) - 1 := by rw [List.length_map]; omega
  refine ⟨_, rfl, .ref p, parts.length, rfl, .inl ⟨_, SqL.of q1, by rw [List.length_map]⟩, _, 1, rfl, rfl, 1, rfl, _, 0, -1, _, rfl, RgC.neg (by omega) (by omega) (by decide) (by decide), ?_⟩
  have en : ((parts.length : Int) - 1 - 0).toNat = parts.length - 1 := by omega
  rw [en]
  refine for_it walk_rangeC (fun i σ H' => Same H1 H' ∧ parIx es parts (parts.length - 1) = parIx es parts (parts.length - 1 - i) ∧ ∃ o3 o4, σ = [some (.ref y), some (.str t), some (.ref p), o3, o4]) ⟨Same.refl H1, rfl, _, _, rfl⟩ (fun _ _ _ _ _ => trivial) (fun i x σ H2 H3 hi hP hx => ?_) (fun σ H2 hP => ?_)
  · obtain ⟨rfl, rfl⟩ := hx
    obtain ⟨s2, e2, o3, o4, rfl⟩ := hP
    obtain ⟨k, hk⟩ : ∃ k, parts.length - 1 - i = k + 1 := ⟨parts.length - 1 - i - 1, by omega⟩
    have ek : (parts.length : Int) - 1 + (i : Nat) * (-1) = ((k + 1 : Nat) : Int) := by omega
    dsimp only
    rw [ek]
    have s12 := s1.trans s2
    refine ⟨_, rfl, y, _, dy, fs, _, rfl, s12 _ _ hy, T.c_Yard, T.n_Yard_logger_map, hmap, lm, rfl, .inl ⟨_, .inl (s12 _ _ hlm)⟩, ⟨".", rfl⟩, _, rfl, _, rfl, _, rfl, p, _, rfl, SqL.of (s2 _ _ q1), fun q hq => ?_⟩
    rw [cutV_take _ _ (by rw [List.length_map]; omega), ← List.map_take]
    have s3 := s2.trans (same_new hq (.lst ((parts.take (k + 1)).map V.str)))
    refine ⟨".", q, parts.take (k + 1), rfl, rfl, .inl (SqL.of upd_same), ?_, _, DGet.k (k := Sum.inr (pre parts (k + 1))) (same_new hq _ _ _ (s12 _ _ hlm)), ?_⟩
    · have a := sum_take (k + 1) parts hshort
      have b : (parts.take (k + 1)).length ≤ parts.length := by rw [List.length_take]; omega
      have c : (("." : Str)).length = 1 := rfl
      rw [c]; omega
    rw [valV_lmK]
    rw [hk] at e2
    cases hL : es.lookup (pre parts (k + 1)) with
    | some a =>
      have e3 : parIx es parts (parts.length - 1) = some a := by rw [e2]; show (match es.lookup (pre parts (k + 1)) with | some a => some a | none => parIx es parts k) = _; rw [hL]
      refine ⟨_, rfl, rfl, _, rfl, iteT' (by rfl) ⟨_, rfl, ?_⟩⟩
      have q := hQ _ (s1.trans s3)
      rw [e3] at q; exact q
    | none =>
      have e3 : parIx es parts (parts.length - 1) = parIx es parts (parts.length - 1 - (i + 1)) := by
        rw [e2, show parts.length - 1 - (i + 1) = k by omega]; show (match es.lookup (pre parts (k + 1)) with | some a => some a | none => parIx es parts k) = _; rw [hL]
      exact ⟨_, rfl, rfl, _, rfl, iteF' (by rfl) ⟨s3, e3, _, _, rfl⟩⟩
  · obtain ⟨s2, e2, o3, o4, rfl⟩ := hP
    rw [show parts.length - 1 - (parts.length - 1) = 0 by omega] at e2
    have s12 := s1.trans s2
    refine ⟨_, rfl, y, _, dy, fs, _, rfl, s12 _ _ hy, T.c_Yard, T.n_Yard_root, hroot, ?_⟩
    have q := hQ _ s12
    rw [e2] at q; exact q
end
end K17

set_option Elab.async false
set_option linter.all false
set_option maxRecDepth 100000
set_option maxHeartbeats 0
namespace K17
open PySem PySem.Spec PyProof.Rows L2 RC
section
variable {P : Program} {w : World} {K : PySem.W.Frag} {mg : Str → Option Value} {base : Heap}
/-! ### what the law draws -/
def spPick (K : PySem.W.Frag) : Sp := fun vs H Q _ => ∃ (s l p : Addr) (n : Nat) (xs : List V), vs = [.ref s, .ref p] ∧ Stm H s l n ∧ n ≤ 1000000 ∧ p ≠ s ∧ p ≠ l ∧ H p = some (.lst xs) ∧ 1 ≤ xs.length ∧ xs.length ≤ 1000 ∧ ∀ (H' : Hp) (x : V), Old s l H H' → Stm H' s l (n + 1) → x ∈ xs → Q x H'
theorem ok_pick {f : Addr} (T : Txt P w K mg) (F : Stands K "_law_pick" "_law_pick" s__law_pick [] f) (c__law_draw : Callable P w K mg base 1 (He.ga K "_law_draw") ["_law_s", "_law_many"] [] spDraw) : Callable P w K mg base 2 f ["_law_s", "_law_some"] [] (spPick K) := by
  refine F.call0 sc__law_pick (fun vs H Q E h => ?_) (fun cdv A outer s H vs Q E hr h => ?_) (fun _ _ _ _ _ _ us hl => match us, hl with | [_, _], _ => rfl)
  · obtain ⟨s, l, p, n, xs, rfl, _⟩ := h; rfl
  obtain ⟨s, l, p, n, xs, rfl, hs, hn, nps, npl, hp, hx1, hx2, hQ⟩ := h
  refine ⟨_, (pss_one (ps_ret (pe_ix ix_list (pv 1) (pe_fn T.g__law_draw c__law_draw (hr.mono (by first | decide | exact Nat.le_refl _)) (by rfl) (pa_cons (pv 0) (pa_cons (pe_callB call_len (by rfl) T.b_len (by decide +kernel) (pa_cons (pv 1) pa_nil)) pa_nil))) (fun _ _ => rfl)))), ?_⟩
  refine ⟨_, rfl, _, rfl, _, rfl, _, xs.length, rfl, .inl ⟨xs, SqL.of hp, rfl⟩, s, l, n, xs.length, rfl, hs, hn, by omega, by omega, fun H' d h1 h2 h3 h4 => ?_⟩
  obtain ⟨j, rfl⟩ := Int.eq_ofNat_of_zero_le h3
  have hj : j < xs.length := by omega
  refine ⟨p, xs, j, xs[j], rfl, rfl, SqL.of (h1 _ _ nps npl hp), atI_nat (by simp [hj]), ?_⟩
  exact hQ H' _ h1 h2 (List.getElem_mem hj)
theorem join_size (y : Str) : ∀ ps : List Str, (Txt.join y ps).length ≤ (ps.map (·.length)).sum + ps.length * y.length := by
  intro ps
  rw [TL.join_eq, TL.len_tl, TL.tl_join]
  induction ps with
  | nil => exact Nat.zero_le _
  | cons p r ih =>
    cases r with
    | nil => show (TL.tl p).length ≤ _; rw [← TL.len_tl]; simp
    | cons q t =>
      show (TL.tl p ++ (TL.tl y ++ TL.joinL (TL.tl y) ((q :: t).map TL.tl))).length ≤ _
      rw [List.length_append, List.length_append, ← TL.len_tl, ← TL.len_tl]
      simp only [List.map_cons, List.sum_cons, List.length_cons] at ih ⊢
      rw [Nat.succ_mul]
      omega
theorem old_new {s l D : Addr} {H H' : Hp} {o : HO} (h : Old s l H H') (hD : H D = none) : Old s l H (upd H' D o) := fun b u h1 h2 e => by rw [upd_ne (ne_of_none e hD)]; exact h b u h1 h2 e
theorem _root_.RC.Stm.put {H : Hp} {s l D : Addr} {n : Nat} {o : HO} (h : Stm H s l n) (h1 : D ≠ s) (h2 : D ≠ l) : Stm (upd H D o) s l n := by
  obtain ⟨ne, ns, x, c, d, g1, g2, g3⟩ := h
  exact ⟨ne, ns, x, c, d, by rw [upd_ne (Ne.symm h1)]; exact g1, by rw [upd_ne (Ne.symm h2)]; exact g2, g3⟩
def parts5 : List Str := ["a", "b", "ab", "A", "_1"]
theorem len_add (a b : Str) : (a ++ b).length = a.length + b.length := by
  rw [TL.len_tl, TL.tl_append, List.length_append, ← TL.len_tl, ← TL.len_tl]
theorem sum_parts : ∀ ps : List Str, (∀ p ∈ ps, p ∈ parts5) → (ps.map (·.length)).sum ≤ ps.length * 2
  | [], _ => Nat.le_refl _
  | p :: r, h => by
    have a : ∀ z ∈ parts5, z.length ≤ 2 := by decide
    have i1 := sum_parts r (fun z hz => h z (List.mem_cons_of_mem _ hz))
    have i2 := a p (h p List.mem_cons_self)
    simp only [List.map_cons, List.sum_cons, List.length_cons]
    omega
end
end K17

set_option Elab.async false
set_option linter.all false
set_option maxRecDepth 100000
set_option maxHeartbeats 0
namespace K17
open PySem PySem.Spec PyProof.Rows L2 RC
section
variable {P : Program} {w : World} {K : PySem.W.Frag} {mg : Str → Option Value} {base : Heap}
/-! ### placing the loggers -/
structure LG where
  (d l hl : Addr) (lev : Int) (prop dis : Bool)
def lG (q : LG) (y : Addr) (name : Str) (par : V) : List (Str × V) := [("filters", .ref q.l), ("yard", .ref y), ("name", .str name), ("level", .int q.lev), ("propagate", .bl q.prop), ("disabled", .bl q.dis), ("handlers", .ref q.hl), ("parent", par)]
theorem lG_name {q q' : LG} {y y' : Addr} {n n' : Str} {p p' : V} (h : lG q y n p = lG q' y' n' p') : n = n' := by
  have e := congrArg (fun l : List (Str × V) => l.lookup ("name" : Str)) h
  exact V.str.inj (Option.some.inj e)
/-- the loggers of es stand, with the parents par -/
def Logs (K : PySem.W.Frag) (H : Hp) (y : Addr) (es : Es) (g : Addr → LG) (par : Str → V) : Prop := ∀ e ∈ es, H e.2 = some (.ins (CL K) (g e.2).d (lG (g e.2) y e.1 (par e.1)))
theorem lookup_nd : ∀ {es : Es} {e : Str × Addr}, e ∈ es → (es.map (·.1)).Nodup → es.lookup e.1 = some e.2
  | [], _, h, _ => nomatch h
  | a :: es, e, h, nd => by
    rw [List.lookup_cons]
    rcases List.mem_cons.mp h with rfl | h
    · rw [beq_self_eq_true]
    · rw [List.map_cons, List.nodup_cons] at nd
      have hne : e.1 ≠ a.1 := fun z => nd.1 (by rw [← z]; exact List.mem_map_of_mem h)
      rw [show (e.1 == a.1) = false from by simpa using hne]
      exact lookup_nd h nd.2
theorem Logs.inj {K : PySem.W.Frag} {H : Hp} {y : Addr} {es : Es} {g : Addr → LG} {par : Str → V} (L : Logs K H y es g par) {e e' : Str × Addr} (h : e ∈ es) (h' : e' ∈ es) (z : e.2 = e'.2) : e.1 = e'.1 := by
  have a := L e h
  have b := L e' h'
  rw [z, b] at a
  exact lG_name (HO.ins.inj (Option.some.inj a)).2.2.symm
theorem Logs.notY {K : PySem.W.Frag} {H : Hp} {y : Addr} {es : Es} {g : Addr → LG} {par : Str → V} (L : Logs K H y es g par) {a C d : Addr} {fs : List (Str × V)} {v : V} (hy : H a = some (.ins C d fs)) (hm : fs.lookup ("logger_map" : Str) = some v) : a ∉ es.map (·.2) := fun z => by
  obtain ⟨e, he, rfl⟩ := List.mem_map.mp z
  have b := L e he
  rw [hy] at b
  rw [(HO.ins.inj (Option.some.inj b)).2.2] at hm
  exact absurd hm (by show (none : Option V) ≠ some v; exact fun z => nomatch z)
theorem Logs.notIns {K : PySem.W.Frag} {H : Hp} {y : Addr} {es : Es} {g : Addr → LG} {par : Str → V} (L : Logs K H y es g par) {a : Addr} {o : HO} (h : H a = some o) (ho : ∀ C d fs, o ≠ .ins C d fs) : a ∉ es.map (·.2) := fun z => by
  obtain ⟨e, he, rfl⟩ := List.mem_map.mp z
  have b := L e he
  rw [h] at b
  exact ho _ _ _ (Option.some.inj b)
/-- but the loggers of es all stays -/
def ButL (es : Es) (H H' : Hp) : Prop := ∀ b o, b ∉ es.map (·.2) → H b = some o → H' b = some o
def spPlaceAll (K : PySem.W.Frag) : Sp := fun vs H Q _ => ∃ (y dy lm rt : Addr) (fs : List (Str × V)) (es : Es) (g : Addr → LG) (p0 : Str → V), vs = [.ref y] ∧ H y = some (.ins (CY K) dy fs) ∧ fs.lookup ("root" : Str) = some (.ref rt) ∧ fs.lookup ("logger_map" : Str) = some (.ref lm) ∧ H lm = some (.dK (lmK es)) ∧
  (es.map (·.1)).Nodup ∧ (∀ e ∈ es, Sized e.1) ∧ es.length ≤ 1000 ∧ Logs K H y es g p0 ∧ ∀ H', ButL es H H' → Logs K H' y es g (fun n => .ref (parA es rt n)) → Q .non H'
theorem ok_placeAll {f : Addr} (T : Txt P w K mg) (F : Stands K "place_loggers" "place_loggers" s_place_loggers [] f) (c_parent_of : Callable P w K mg base 1 (He.ga K "parent_of") ["yard", "name"] [] (spParent K)) : Callable P w K mg base 2 f ["yard"] [] (spPlaceAll K) := by
  refine F.call0 sc_place_loggers (fun vs H Q E h => ?_) (fun cdv A outer s H vs Q E hr h => ?_) (fun _ _ _ _ _ _ us hl => match us, hl with | [_], _ => rfl)
  · obtain ⟨y, dy, lm, rt, fs, es, g, p0, rfl, _⟩ := h; rfl
  obtain ⟨y, dy, lm, rt, fs, es, g, p0, rfl, hy, hroot, hmap, hlm, hnd, hsz, hlen, hL, hQ⟩ := h
  refine ⟨_, (pss_one (ps_for PassesOwn.never rfl (pi_list (pe_callTy (call_list_dK rfl) (by rfl) T.b_list (by decide +kernel) (pa_cons (pe_fld (pv 0) rfl) pa_nil))) (pg_name (i := 1) sc_place_loggers.nd rfl (by first | exact Or.inl rfl | exact Or.inr rfl)) (pss_one (ps_fld (pe_dget (hu_of hr) (pe_fld (pv 0) rfl) (pv 1) (fun _ _ => rfl)) (pe_fn T.g_parent_of c_parent_of (hr.mono (by first | decide | exact Nat.le_refl _)) (by rfl) (pa_cons (pv 0) (pa_cons (pv 1) pa_nil))) rfl)))), ?_⟩
  refine ⟨_, rfl, y, _, dy, fs, _, rfl, hy, T.c_Yard, T.n_Yard_logger_map, hmap, lm, _, rfl, hlm, fun q hq => ?_⟩
  have ek : (lmK es).map (fun kv => kV kv.1) = es.map fun e => V.str e.1 := by rw [lmK, List.map_map]; rfl
  rw [ek]
  have q1 : upd H q (.lst (es.map fun e => V.str e.1)) q = some (.lst (es.map fun e => V.str e.1)) := upd_same
  have s1 : Same H (upd H q (.lst (es.map fun e => V.str e.1))) := same_new hq _
  generalize upd H q (.lst (es.map fun e => V.str e.1)) = H1 at q1 s1
  have L1 : Logs K H1 y es g p0 := fun e he => s1 _ _ (hL e he)
  have ny := L1.notY (s1 _ _ hy) hmap
  have nlm := L1.notIns (s1 _ _ hlm) (fun _ _ _ z => nomatch z)
  have nq := L1.notIns q1 (fun _ _ _ z => nomatch z)
  refine ⟨q, rfl, ⟨_, SqL.of q1⟩, ?_⟩
  refine for_it walk_list (fun i σ H' => ButL es H1 H' ∧ (∀ (j : Nat) (e : Str × Addr), es[j]? = some e → H' e.2 = some (.ins (CL K) (g e.2).d (lG (g e.2) y e.1 (if j < i then .ref (parA es rt e.1) else p0 e.1)))) ∧ ∃ o1, σ = [some (.ref y), o1])
    ⟨fun _ _ _ e => e, fun j e he => L1 e (List.mem_of_getElem? he), _, rfl⟩ (fun i σ H' _ h => SqL.of (h.1 _ _ nq q1)) (fun i x σ H2 H3 hi hP hx => ?_) (fun σ H2 hP => ?_)
  · obtain ⟨rfl, hx⟩ := hx
    obtain ⟨b2, l2, o1, rfl⟩ := hP
    rw [List.getElem?_map] at hx
    obtain ⟨e, he, rfl⟩ := Option.map_eq_some_iff.mp hx
    have hm := List.mem_of_getElem? he
    refine ⟨_, rfl, _, rfl, y, dy, lm, rt, fs, es, e.1, rfl, b2 _ _ ny (s1 _ _ hy), hroot, hmap, b2 _ _ nlm (s1 _ _ hlm), hsz e hm, fun H4 s4 => ?_⟩
    refine ⟨_, rfl, y, _, dy, fs, _, rfl, s4 _ _ (b2 _ _ ny (s1 _ _ hy)), T.c_Yard, T.n_Yard_logger_map, hmap, _, rfl, lm, .ref e.2, rfl, ?_, e.2, _, _, _, rfl, s4 _ _ (l2 i e he), T.c_Logger, T.n_Logger_parent, (by show 8 < 1000; decide), ?_⟩
    · have g := DGet.k (k := Sum.inr e.1) (s4 _ _ (b2 _ _ nlm (s1 _ _ hlm)))
      rw [valV_lmK, lookup_nd hm hnd] at g; exact g
    · refine ⟨fun b o hb hbo => ?_, fun j e' he' => ?_, _, rfl⟩
      · rw [upd_ne (fun z => hb (by rw [z]; exact List.mem_map_of_mem hm))]; exact s4 _ _ (b2 b o hb hbo)
      · have hm' := List.mem_of_getElem? he'
        by_cases c : e'.2 = e.2
        · have en : e' = e := Prod.ext (L1.inj hm' hm c) c
          subst en
          have ej : j = i := by
            have n1 : (es.map (·.1))[j]? = some e'.1 := by rw [List.getElem?_map, he']; rfl
            have n2 : (es.map (·.1))[i]? = some e'.1 := by rw [List.getElem?_map, he]; rfl
            have hj := (List.getElem?_eq_some_iff.mp n1).1
            exact (List.getElem?_inj hj hnd).mp (n1.trans n2.symm)
          subst ej
          rw [upd_same, if_pos (Nat.lt_succ_self _)]; rfl
        · rw [upd_ne c, s4 _ _ (l2 j e' he')]
          have nij : j ≠ i := fun z => by rw [z, he] at he'; exact c (by rw [Option.some.inj he'])
          by_cases d : j < i
          · rw [if_pos d, if_pos (by omega)]
          · rw [if_neg d, if_neg (by omega)]
  · obtain ⟨b2, l2, o1, rfl⟩ := hP
    refine hQ _ (fun b o hb e => b2 b o hb (s1 _ _ e)) (fun e he => ?_)
    obtain ⟨j, hj⟩ := List.getElem?_of_mem he
    have h := l2 j e hj
    rw [if_pos (by rw [List.length_map]; exact (List.getElem?_eq_some_iff.mp hj).1)] at h
    exact h
end
end K17

set_option Elab.async false
set_option linter.all false
set_option maxRecDepth 100000
set_option maxHeartbeats 0
namespace K17
open PySem PySem.Spec PyProof.Rows L2 RC
section
variable {P : Program} {w : World} {K : PySem.W.Frag} {mg : Str → Option Value} {base : Heap}
/-! ### getLogger -/
structure Tree (K : PySem.W.Frag) (H : Hp) (y dy lm rt : Addr) (fs : List (Str × V)) (es : Es) (g : Addr → LG) : Prop where
  yd : H y = some (.ins (CY K) dy fs)
  root : fs.lookup ("root" : Str) = some (.ref rt)
  map : fs.lookup ("logger_map" : Str) = some (.ref lm)
  ms : fs.lookup ("getLogger" : Str) = none
  lmo : H lm = some (.dK (lmK es))
  nd : (es.map (·.1)).Nodup
  sz : ∀ e ∈ es, Sized e.1
  lg : Logs K H y es g (fun n => .ref (parA es rt n))
/-- a new logger a was put behind es -/
structure NewLog (K : PySem.W.Frag) (H H' : Hp) (lm : Addr) (es : Es) (a : Addr) (q : LG) : Prop where
  kp : ∀ b o, b ≠ lm → b ∉ es.map (·.2) → H b = some o → H' b = some o
  a0 : H a = none
  l0 : H q.l = none
  h0 : H q.hl = none
  ne : q.l ≠ q.hl
  l1 : H' q.l = some (.lst [])
  h1 : H' q.hl = some (.lst [])
  fl : q.lev = 0 ∧ q.prop = true ∧ q.dis = false
def updG (g : Addr → LG) (a : Addr) (q : LG) : Addr → LG := fun b => if b = a then q else g b
def spGetLog (K : PySem.W.Frag) : Sp := fun vs H Q _ => ∃ (y dy lm rt : Addr) (fs : List (Str × V)) (es : Es) (g : Addr → LG) (t : Str), vs = [.ref y, .str t] ∧ Tree K H y dy lm rt fs es g ∧ es.length ≤ 500 ∧ t ≠ "" ∧ t ≠ "root" ∧ Sized t ∧ (Txt.split t ".").all partB = true ∧
  ((∃ a, es.lookup t = some a ∧ ∀ H', Same H H' → Q (.ref a) H') ∨ (es.lookup t = none ∧ ∀ H' a q, NewLog K H H' lm es a q → Tree K H' y dy lm rt fs (es ++ [(t, a)]) (updG g a q) → Q (.ref a) H'))
theorem lookup_none : ∀ {es : Es} {t : Str}, es.lookup t = none → t ∉ es.map (·.1)
  | [], _, _ => List.not_mem_nil
  | a :: es, t, h => by
    rw [List.lookup_cons] at h
    by_cases c : t = a.1
    · rw [beq_iff_eq.mpr c] at h; cases h
    · rw [show (t == a.1) = false from by simpa using c] at h
      rw [List.map_cons, List.mem_cons]
      rintro (z | z)
      · exact c z
      · exact lookup_none h z
theorem body_getLog (T : Txt P w K mg) {f : Addr} {cdv : Value} {A : Around} {outer : List Env} {st0 : Shared} {E : XK} {vs : List V} {H : Hp} {Q : VK} (hr : Room 3 (A.deeper (envOfC "Yard.getLogger" (defScope s_Yard_getLogger) st0.heap.objs.size f cdv))) (h : spGetLog K vs H Q E)
    (c_are_parts : Callable P w K mg base 2 (He.ga K "are_parts") ["thing"] [] spAreParts)
    (c_Logger_init : Callable P w K mg base 2 (He.ma K (He.ga K "Logger") "__init__") ["self", "yard", "name", "level"] [] (spLoggerInit K)) (c_place_loggers : Callable P w K mg base 2 (He.ga K "place_loggers") ["yard"] [] (spPlaceAll K)) :
    ∃ t, PSs (cxOf CX0 P w K mg base nm_Yard_getLogger "Yard.getLogger" (defScope s_Yard_getLogger) f cdv A outer st0 H E).nox (defBody s_Yard_getLogger) t ∧ t { nx := fun _ H' => Q .non H', rt := Q } (start nm_Yard_getLogger vs) H := by
  obtain ⟨y, dy, lm, rt, fs, es, g, t, rfl, TR, hlen, n1, n2, hs, hp, hQ⟩ := h
  have hy := TR.yd
  have hroot := TR.root
  have hmap := TR.map
  have hlm := TR.lmo
  refine ⟨_, (pss_cons (ps_if (PW.pt (pw_or (pt_cmpR op_eq (pv 1) pe_str (nomark _)) (pw_or1 (pt_cmpR op_eq (pv 1) pe_str (nomark _))))) (pss_one (ps_ret (pe_fld (pv 0) rfl))) pss_nil)
      (pss_cons (ps_if (pt_not (pt_val (pe_fn T.g_are_parts c_are_parts (hr.mono (by first | decide | exact Nat.le_refl _)) (by rfl) (pa_cons (pv 1) pa_nil)))) (pss_one ps_never) pss_nil)
      (pss_cons (ps_if (pt_cmp (pc_dnotin (hu_of hr) (pv 1) (pe_fld (pv 0) rfl))) (pss_cons (ps_dput (hu_of hr) (pe_fld (pv 0) rfl) (pv 1) (pe_mk T.k_Logger T.g_Logger c_Logger_init (hr.mono (by decide)) (by rfl) (pa_cons (pv 0) (pa_cons (pv 1) (pa_cons (pe_gi (by rfl) T.g_NOTSET) pa_nil)))) rfl)
      (pss_one (ps_expr (pe_fn T.g_place_loggers c_place_loggers (hr.mono (by first | decide | exact Nat.le_refl _)) (by rfl) (pa_cons (pv 0) pa_nil))))) pss_nil)
      (pss_one (ps_ret (pe_dget (hu_of hr) (pe_fld (pv 0) rfl) (pv 1) (fun _ _ => rfl))))))), ?_⟩
  refine ⟨_, rfl, rfl, _, rfl, iteF' (by simp [n1]) ⟨_, rfl, rfl, _, rfl, iteF' (by simp [n2]) ?_⟩⟩
  refine ⟨_, rfl, t, rfl, hs.all, Nat.le_trans hs.few (by decide), (fun u hu => Nat.le_trans (hs.short u hu) (by decide)), fun H1 s1 => ?_⟩
  refine ⟨_, rfl, iteF' (by rw [hp]; rfl) ?_⟩
  have ge := DGet.k (k := Sum.inr t) (s1 _ _ hlm)
  rw [valV_lmK] at ge
  rcases hQ with ⟨a, ha, hQ⟩ | ⟨ha, hQ⟩
  · rw [ha] at ge
    refine ⟨_, rfl, _, rfl, y, _, dy, fs, _, rfl, s1 _ _ hy, T.c_Yard, T.n_Yard_logger_map, hmap, lm, _, rfl, ge, _, rfl, iteF' (by rfl) ?_⟩
    exact ⟨_, rfl, y, _, dy, fs, _, rfl, s1 _ _ hy, T.c_Yard, T.n_Yard_logger_map, hmap, _, rfl, lm, .ref a, rfl, ge, hQ _ s1⟩
  rw [ha] at ge
  refine ⟨_, rfl, _, rfl, y, _, dy, fs, _, rfl, s1 _ _ hy, T.c_Yard, T.n_Yard_logger_map, hmap, lm, _, rfl, ge, _, rfl, iteT' (by rfl) ?_⟩
  refine ⟨_, rfl, _, rfl, fun lg dl hlg hdl hne => ?_⟩
  refine ⟨lg, dl, y, t, 0, rfl, upd_same, fun H2 l h k1 k2 k3 k4 k5 k6 k7 => ⟨rfl, ?_⟩⟩
  have s2 : Same H1 H2 := made_same hlg hdl k1
  have s12 := s1.trans s2
  have k2 := (upd_none (upd_none k2).2).2
  have k3 := (upd_none (upd_none k3).2).2
  have hput : putK (lmK es) (Sum.inr t) (V.ref lg) = lmK (es ++ [(t, lg)]) := by
    unfold putK
    rw [if_neg ?_]
    · unfold lmK; rw [List.map_append]; rfl
    · intro z
      obtain ⟨kv, h1, h2⟩ := List.any_eq_true.mp z
      obtain ⟨e, he, rfl⟩ := List.mem_map.mp h1
      exact lookup_none ha (by rw [← Sum.inr.inj (of_decide_eq_true h2)]; exact List.mem_map_of_mem he)
  refine ⟨_, rfl, y, _, dy, fs, _, rfl, s12 _ _ hy, T.c_Yard, T.n_Yard_logger_map, hmap, _, rfl, lm, _, rfl, DPut.k (k := Sum.inr t) (s12 _ _ hlm) (by unfold lmK; rw [List.length_map, sizeLine_eq]; omega), ?_⟩
  rw [hput]
  have q1 := s12 _ _ hlm
  have nlm : lg ≠ lm := fun z => by rw [z, q1] at k5; cases k5
  have nly : y ≠ lg := fun z => by rw [← z, s1 _ _ hy] at hlg; cases hlg
  have nym : y ≠ lm := fun z => by rw [z, hlm] at hy; cases hy
  have nll : l ≠ lm := fun z => by rw [z, s1 _ _ hlm] at k2; cases k2
  have nhl : h ≠ lm := fun z => by rw [z, s1 _ _ hlm] at k3; cases k3
  have L0 := TR.lg
  have nlg0 : lg ∉ es.map (·.2) := fun z => by
    obtain ⟨e, he, z⟩ := List.mem_map.mp z
    have b := s1 _ _ (L0 e he)
    rw [z, hlg] at b; cases b
  have nlm0 := L0.notIns hlm (fun _ _ _ z => nomatch z)
  generalize e : upd H2 lm _ = H3
  have m3 : H3 lm = some (.dK (lmK (es ++ [(t, lg)]))) := by rw [← e]; exact upd_same
  have b3 : SameBut lm H2 H3 := by rw [← e]; exact SameBut.put
  clear e
  have L3 : Logs K H3 y (es ++ [(t, lg)]) (updG g lg ⟨dl, l, h, 0, true, false⟩) (fun n => if n = t then .non else .ref (parA es rt n)) := fun e he => by
    rcases List.mem_append.mp he with he | he
    · have c1 : e.2 ≠ lg := fun z => nlg0 (by rw [← z]; exact List.mem_map_of_mem he)
      have c2 : e.1 ≠ t := fun z => lookup_none ha (by rw [← z]; exact List.mem_map_of_mem he)
      have c3 : e.2 ≠ lm := fun z => nlm0 (by rw [← z]; exact List.mem_map_of_mem he)
      show H3 e.2 = some (.ins (CL K) (updG g lg ⟨dl, l, h, 0, true, false⟩ e.2).d (lG (updG g lg ⟨dl, l, h, 0, true, false⟩ e.2) y e.1 (if e.1 = t then .non else .ref (parA es rt e.1))))
      unfold updG
      rw [if_neg c1, if_neg c2]
      exact b3 _ _ c3 (s12 _ _ (L0 e he))
    · cases List.mem_singleton.mp he
      show H3 lg = some (.ins (CL K) (updG g lg ⟨dl, l, h, 0, true, false⟩ lg).d (lG (updG g lg ⟨dl, l, h, 0, true, false⟩ lg) y t (if t = t then .non else .ref (parA es rt t))))
      unfold updG
      rw [if_pos rfl, if_pos rfl]
      exact b3 _ _ nlm k5
  have nd' : ((es ++ [(t, lg)]).map (·.1)).Nodup := by
    rw [List.map_append, List.nodup_append]
    refine ⟨TR.nd, by simp, fun a ha' b hb z => ?_⟩
    have hb : b = t := by simpa using hb
    subst hb; subst z
    exact lookup_none ha ha'
  have sz' : ∀ e ∈ es ++ [(t, lg)], Sized e.1 := fun e he => by
    rcases List.mem_append.mp he with he | he
    · exact TR.sz e he
    · cases List.mem_singleton.mp he; exact hs
  refine ⟨_, rfl, y, dy, lm, rt, fs, es ++ [(t, lg)], updG g lg ⟨dl, l, h, 0, true, false⟩, _, rfl, b3 _ _ nym (s12 _ _ hy), hroot, hmap, m3, nd', sz', (by rw [List.length_append, List.length_singleton]; omega), L3, fun H4 b4 L4 => ?_⟩
  have ny4 := L3.notY (b3 _ _ nym (s12 _ _ hy)) hmap
  have nm4 := L3.notIns m3 (fun _ _ _ z => nomatch z)
  have hy4 := b4 _ _ ny4 (b3 _ _ nym (s12 _ _ hy))
  have m4 := b4 _ _ nm4 m3
  refine ⟨_, rfl, y, _, dy, fs, _, rfl, hy4, T.c_Yard, T.n_Yard_logger_map, hmap, _, rfl, lm, .ref lg, rfl, ?_, hQ H4 lg ⟨dl, l, h, 0, true, false⟩ ⟨fun b o hb hb2 he => ?_, s1.free hlg, s1.free k2, s1.free k3, k4, ?_, ?_, rfl, rfl, rfl⟩ ⟨hy4, hroot, hmap, TR.ms, m4, nd', sz', L4⟩⟩
  · have g := DGet.k (k := Sum.inr t) m4
    rw [valV_lmK, lookup_nd (e := (t, lg)) (by simp) nd'] at g; exact g
  · refine b4 _ _ (fun z => ?_) (b3 _ _ hb (s12 _ _ he))
    rw [List.map_append] at z
    rcases List.mem_append.mp z with z | z
    · exact hb2 z
    · have z : b = lg := by simpa using z
      rw [z] at he
      rw [s1 _ _ he] at hlg; cases hlg
  · exact b4 _ _ (L3.notIns (b3 _ _ nll k6) (fun _ _ _ z => nomatch z)) (b3 _ _ nll k6)
  · exact b4 _ _ (L3.notIns (b3 _ _ nhl k7) (fun _ _ _ z => nomatch z)) (b3 _ _ nhl k7)
theorem ok_getLog {f : Addr} (T : Txt P w K mg) (F : Stands K "getLogger" "Yard.getLogger" s_Yard_getLogger [.str ""] f) (c_are_parts : Callable P w K mg base 2 (He.ga K "are_parts") ["thing"] [] spAreParts)
    (c_Logger_init : Callable P w K mg base 2 (He.ma K (He.ga K "Logger") "__init__") ["self", "yard", "name", "level"] [] (spLoggerInit K)) (c_place_loggers : Callable P w K mg base 2 (He.ga K "place_loggers") ["yard"] [] (spPlaceAll K)) :
    Callable P w K mg base 4 f ["self", "name"] [] (spGetLog K) := by
  refine F.call sc_Yard_getLogger 2 1 (fun vs H Q E h => ?_) (fun cdv A outer s H vs Q E hr h => ?_) (fun z => nomatch z) fun _ => ⟨rfl, fun _ _ _ _ _ _ _ us its hl hi => match us, hl, its, hi with | [_, _], _, [_], _ => ⟨_, rfl, rfl⟩⟩
  · obtain ⟨y, dy, lm, rt, fs, es, g, t, rfl, _⟩ := h; rfl
  exact body_getLog T hr h c_are_parts c_Logger_init c_place_loggers
/-- the root, too -/
def spGetLogR (K : PySem.W.Frag) : Sp := fun vs H Q E => spGetLog K vs H Q E ∨ ∃ (y dy rt : Addr) (fs : List (Str × V)), vs = [.ref y, .str ""] ∧ H y = some (.ins (CY K) dy fs) ∧ fs.lookup ("root" : Str) = some (.ref rt) ∧ Q (.ref rt) H
theorem ok_getLogR {f : Addr} (T : Txt P w K mg) (F : Stands K "getLogger" "Yard.getLogger" s_Yard_getLogger [.str ""] f) (c_are_parts : Callable P w K mg base 2 (He.ga K "are_parts") ["thing"] [] spAreParts)
    (c_Logger_init : Callable P w K mg base 2 (He.ma K (He.ga K "Logger") "__init__") ["self", "yard", "name", "level"] [] (spLoggerInit K)) (c_place_loggers : Callable P w K mg base 2 (He.ga K "place_loggers") ["yard"] [] (spPlaceAll K)) :
    Callable P w K mg base 4 f ["self", "name"] [] (spGetLogR K) := by
  refine F.call sc_Yard_getLogger 2 1 (fun vs H Q E h => ?_) (fun cdv A outer s H vs Q E hr h => ?_) (fun z => nomatch z) fun _ => ⟨rfl, fun _ _ _ _ _ _ _ us its hl hi => match us, hl, its, hi with | [_, _], _, [_], _ => ⟨_, rfl, rfl⟩⟩
  · rcases h with h | h
    · obtain ⟨y, dy, lm, rt, fs, es, g, t, rfl, _⟩ := h; rfl
    · obtain ⟨y, dy, rt, fs, rfl, _⟩ := h; rfl
  rcases h with h | h
  · exact body_getLog T hr h c_are_parts c_Logger_init c_place_loggers
  obtain ⟨y, dy, rt, fs, rfl, hy, hroot, hQ⟩ := h
  refine ⟨_, (pss_cons (ps_if (PW.pt (pw_or (pt_cmpR op_eq (pv 1) pe_str (nomark _)) (pw_or1 (pt_cmpR op_eq (pv 1) pe_str (nomark _))))) (pss_one (ps_ret (pe_fld (pv 0) rfl))) pss_nil)
      (pss_cons (ps_if (pt_not (pt_val (pe_fn T.g_are_parts c_are_parts (hr.mono (by first | decide | exact Nat.le_refl _)) (by rfl) (pa_cons (pv 1) pa_nil)))) (pss_one ps_never) pss_nil)
      (pss_cons (ps_if (pt_cmp (pc_dnotin (hu_of hr) (pv 1) (pe_fld (pv 0) rfl))) (pss_cons (ps_dput (hu_of hr) (pe_fld (pv 0) rfl) (pv 1) (pe_mk T.k_Logger T.g_Logger c_Logger_init (hr.mono (by decide)) (by rfl) (pa_cons (pv 0) (pa_cons (pv 1) (pa_cons (pe_gi (by rfl) T.g_NOTSET) pa_nil)))) rfl)
      (pss_one (ps_expr (pe_fn T.g_place_loggers c_place_loggers (hr.mono (by first | decide | exact Nat.le_refl _)) (by rfl) (pa_cons (pv 0) pa_nil))))) pss_nil)
      (pss_one (ps_ret (pe_dget (hu_of hr) (pe_fld (pv 0) rfl) (pv 1) (fun _ _ => rfl))))))), ?_⟩
  exact ⟨_, rfl, rfl, _, rfl, iteT' (decide_eq_true rfl) ⟨_, rfl, y, _, dy, fs, _, rfl, hy, T.c_Yard, T.n_Yard_root, hroot, hQ⟩⟩
end
end K17

set_option Elab.async false
set_option linter.all false
set_option maxRecDepth 100000
set_option maxHeartbeats 0
namespace K17
open PySem PySem.Spec PyProof.Rows L2 RC
section
variable {P : Program} {w : World} {K : PySem.W.Frag} {mg : Str → Option Value} {base : Heap}
/-! ### children -/
/-- the root of the yard -/
def RootAt (K : PySem.W.Frag) (H : Hp) (y rt : Addr) (g : Addr → LG) : Prop := H rt = some (.ins (CL K) (g rt).d (lG (g rt) y "root" .non))
theorem lookup_mem : ∀ {es : Es} {t : Str} {a : Addr}, es.lookup t = some a → (t, a) ∈ es
  | [], _, _, h => nomatch h
  | e :: es, t, a, h => by
    rw [List.lookup_cons] at h
    by_cases c : t = e.1
    · rw [beq_iff_eq.mpr c] at h
      have h2 : e.2 = a := Option.some.inj h
      rw [c, ← h2]
      exact List.mem_cons_self
    · rw [show (t == e.1) = false from by simpa using c] at h
      exact List.mem_cons_of_mem _ (lookup_mem h)
theorem parIx_mem {es : Es} {parts : List Str} : ∀ {k : Nat} {a : Addr}, parIx es parts k = some a → ∃ t, (t, a) ∈ es
  | 0, _, h => nomatch h
  | k + 1, a, h => by
    have h : (match es.lookup (pre parts (k + 1)) with | some a => some a | none => parIx es parts k) = some a := h
    cases e : es.lookup (pre parts (k + 1)) with
    | some b =>
      rw [e] at h
      have h2 : b = a := Option.some.inj h
      rw [← h2]
      exact ⟨_, lookup_mem e⟩
    | none => rw [e] at h; exact parIx_mem h
theorem parA_cases (es : Es) (rt : Addr) (n : Str) : parA es rt n = rt ∨ ∃ t, (t, parA es rt n) ∈ es := by
  unfold parA
  cases e : parIx es (Txt.split n ".") ((Txt.split n ".").length - 1) with
  | none => exact .inl rfl
  | some a => exact .inr (parIx_mem e)
theorem par_ins {H : Hp} {y dy lm rt : Addr} {fs : List (Str × V)} {es : Es} {g : Addr → LG} (TR : Tree K H y dy lm rt fs es g) (R : RootAt K H y rt g) (n : Str) : ∃ d fs', H (parA es rt n) = some (.ins (CL K) d fs') := by
  rcases parA_cases es rt n with h | ⟨t, h⟩
  · rw [h]; exact ⟨_, _, R⟩
  · exact ⟨_, _, TR.lg _ h⟩
end
end K17

set_option Elab.async false
set_option linter.all false
set_option maxRecDepth 100000
set_option maxHeartbeats 0
namespace K17
open PySem PySem.Spec PyProof.Rows L2 RC
section
variable {P : Program} {w : World} {K : PySem.W.Frag} {mg : Str → Option Value} {base : Heap}
/-! ### one value, whichever way it came -/
theorem st_cont {te : TE} {g : TG} {rest : TS} {D : Ends} {σ : L2.St} {H : Hp} (R : V → Hp → Prop) (h : ∀ Q' : VK, (∀ v H', R v H' → Q' v H') → te σ H Q') (k : ∀ v H', R v H' → g v σ H' (rest D)) : tSeq (tAsg te g) rest D σ H := h _ k
theorem ne_self {K : PySem.W.Frag} {v : V} {H : Hp} {R : VK} (h : v = .non ∨ ∃ a C, v = .ref a ∧ RA.InsP K H a C) (q : R (.bl false) H) : rNe v v H R ∨ RA.rNeP K v v H R := by
  rcases h with rfl | ⟨a, C, rfl, i⟩
  · exact .inl ⟨rfl, q⟩
  · exact .inr ⟨a, C, a, C, rfl, i, rfl, i, .inl rfl, by rw [decide_eq_true rfl]; exact q⟩
theorem _root_.RC.Stm.ins {H : Hp} {s l : Addr} {n : Nat} (h : Stm H s l n) {a C d : Addr} {fs : List (Str × V)} (e : H a = some (.ins C d fs)) : a ≠ s ∧ a ≠ l := by
  obtain ⟨_, _, _, _, _, g1, g2, _⟩ := h
  exact ⟨fun z => (by rw [z, g1] at e; cases e), fun z => (by rw [z, g2] at e; cases e)⟩
theorem _root_.RC.Stm.dk {H : Hp} {s l : Addr} {n : Nat} (h : Stm H s l n) {a : Addr} {kvs : List (Key × V)} (e : H a = some (.dK kvs)) : a ≠ s ∧ a ≠ l := by
  obtain ⟨_, _, _, _, _, g1, g2, _⟩ := h
  exact ⟨fun z => (by rw [z, g1] at e; cases e), fun z => (by rw [z, g2] at e; cases e)⟩
theorem st_if {tt : TT} {A B : TS} {rest : TS} {D : Ends} {σ : L2.St} {H : Hp} (R : L2.St → Hp → Prop) (h : ∀ D' : Ends, (∀ σ H', R σ H' → D'.nx σ H') → tIfS tt A B D' σ H) (k : ∀ σ H', R σ H' → rest D σ H') : tSeq (tIfS tt A B) rest D σ H := h _ k
end
end K17

set_option Elab.async false
set_option linter.all false
set_option maxRecDepth 100000
set_option maxHeartbeats 0
namespace K17
open PySem PySem.Spec PyProof.Rows L2 RC
section
variable {P : Program} {w : World} {K : PySem.W.Frag} {mg : Str → Option Value} {base : Heap}
/-! ### levels -/
/-- what a level may be here -/
inductive LvIn where
  | int (i : Int)
  | nm (x : Str)
def LvIn.v : LvIn → V
  | .int i => .int i
  | .nm x => .str x
def spIsInt : Sp := fun vs H Q _ => ∃ v : LvIn, vs = [v.v] ∧ Q (.bl (match v with | .int _ => true | .nm _ => false)) H
theorem ok_is_integer {f : Addr} (T : Txt P w K mg) (F : Stands K "is_integer" "is_integer" s_is_integer [] f) : Callable P w K mg base 1 f ["thing"] [] spIsInt := by
  refine F.call0 sc_is_integer (fun vs H Q E h => ?_) (fun cdv A outer s H vs Q E hr h => ?_) (fun _ _ _ _ _ _ us hl => match us, hl with | [_], _ => rfl)
  · obtain ⟨v, rfl, _⟩ := h; rfl
  obtain ⟨v, rfl, hQ⟩ := h
  refine ⟨_, (pss_one (ps_ret (pe_and (pe_callB call_isi (by rfl) T.b_isinstance (by decide +kernel) (pa_cons (pv 0) (pa_cons (pe_bltn (v := .ty "int") (u := .type "int") (by rfl) T.b_int (by decide +kernel) rfl) pa_nil))) (pe_one (pe_not (pe_callB call_isi (by rfl) T.b_isinstance (by decide +kernel) (pa_cons (pv 0) (pa_cons (pe_bltn (v := .ty "bool") (u := .type "bool") (by rfl) T.b_bool (by decide +kernel) rfl) pa_nil)))))))), ?_⟩
  cases v with
  | int i =>
    refine ⟨_, rfl, _, _, _, _, true, rfl, .ty _, .base (.int i), kit_ty (b := "int") (by decide +kernel), _, rfl, iteT ?_⟩
    exact ⟨_, rfl, _, _, _, _, false, rfl, .ty _, .base (.int i), kit_ty (b := "bool") (by decide +kernel), _, rfl, hQ⟩
  | nm x =>
    exact ⟨_, rfl, _, _, _, _, false, rfl, .ty _, .base (.str x), kit_ty (b := "int") (by decide +kernel), _, rfl, iteF hQ⟩
/-- the number of a level by the yard's table -/
def lvNum (nums : List (Key × V)) : LvIn → Option V
  | .int i => some (.int i)
  | .nm x => valV nums (Sum.inr x)
def spLevelOf (K : PySem.W.Frag) : Sp := fun vs H Q _ => ∃ (y dy nu : Addr) (fs : List (Str × V)) (nums : List (Key × V)) (v : LvIn) (r : V), vs = [.ref y, v.v] ∧ H y = some (.ins (CY K) dy fs) ∧ fs.lookup ("numbers_of" : Str) = some (.ref nu) ∧ H nu = some (.dK nums) ∧ lvNum nums v = some r ∧ Q r H
theorem ok_level_of {f : Addr} (T : Txt P w K mg) (F : Stands K "level_of" "Yard.level_of" s_Yard_level_of [] f) (c_is_integer : Callable P w K mg base 1 (He.ga K "is_integer") ["thing"] [] spIsInt) : Callable P w K mg base 2 f ["self", "level"] [] (spLevelOf K) := by
  refine F.call0 sc_Yard_level_of (fun vs H Q E h => ?_) (fun cdv A outer s H vs Q E hr h => ?_) (fun _ _ _ _ _ _ us hl => match us, hl with | [_, _], _ => rfl)
  · obtain ⟨y, dy, nu, fs, nums, v, r, rfl, _⟩ := h; rfl
  obtain ⟨y, dy, nu, fs, nums, v, r, rfl, hy, hnu, hnums, hr2, hQ⟩ := h
  refine ⟨_, (pss_cons (ps_if (pt_val (pe_fn T.g_is_integer c_is_integer (hr.mono (by first | decide | exact Nat.le_refl _)) (by rfl) (pa_cons (pv 1) pa_nil))) (pss_one (ps_ret (pv 1))) pss_nil)
      (pss_cons (ps_if (PW.pt (pw_and (pt_val (pe_callB call_isi (by rfl) T.b_isinstance (by decide +kernel) (pa_cons (pv 1) (pa_cons (pe_bltn (v := .ty "str") (u := .type "str") (by rfl) T.b_str (by decide +kernel) rfl) pa_nil)))) (pw_and1 (pt_cmp (pc_din (hu_of hr) (pv 1) (pe_fld (pv 0) rfl)))))) (pss_one (ps_ret (pe_dget (hu_of hr) (pe_fld (pv 0) rfl) (pv 1) (fun _ _ => rfl)))) pss_nil)
      (pss_one ps_never))), ?_⟩
  cases v with
  | int i =>
    cases hr2
    exact ⟨_, rfl, .int i, rfl, _, rfl, iteT ⟨_, rfl, hQ⟩⟩
  | nm x =>
    have g := DGet.k (k := Sum.inr x) hnums
    rw [show valV nums (Sum.inr x) = some r from hr2] at g
    refine ⟨_, rfl, .nm x, rfl, _, rfl, iteF ?_⟩
    refine ⟨_, rfl, _, _, _, _, true, rfl, .ty _, .base (.str x), kit_ty (b := "str") (by decide +kernel), _, rfl, iteT ?_⟩
    refine ⟨_, rfl, _, rfl, y, _, dy, fs, _, rfl, hy, T.c_Yard, T.n_Yard_numbers_of, hnu, nu, _, rfl, g, _, rfl, iteT' (by rfl) ?_⟩
    exact ⟨_, rfl, y, _, dy, fs, _, rfl, hy, T.c_Yard, T.n_Yard_numbers_of, hnu, _, rfl, nu, _, rfl, g, hQ⟩
end
end K17

set_option Elab.async false
set_option linter.all false
set_option maxRecDepth 100000
set_option maxHeartbeats 0
namespace K17
open PySem PySem.Spec PyProof.Rows L2 RC
section
variable {P : Program} {w : World} {K : PySem.W.Frag} {mg : Str → Option Value} {base : Heap}
/-! ### levels in force -/
/-- the level in force at a, n steps up -/
inductive EffN (es : Es) (rt : Addr) (g : Addr → LG) : Nat → Addr → Int → Prop where
  | here {a : Addr} (h : (g a).lev ≠ 0) : EffN es rt g 0 a (g a).lev
  | root (h : (g rt).lev = 0) : EffN es rt g 0 rt 0
  | up {t : Str} {a : Addr} {n : Nat} {v : Int} (ha : (t, a) ∈ es) (h : (g a).lev = 0) (p : EffN es rt g n (parA es rt t) v) : EffN es rt g (n + 1) a v
/-- a logger of the tree -/
def InT (es : Es) (rt a : Addr) : Prop := a = rt ∨ ∃ t, (t, a) ∈ es
theorem inT_at {H : Hp} {y dy lm rt a : Addr} {fs : List (Str × V)} {es : Es} {g : Addr → LG} (TR : Tree K H y dy lm rt fs es g) (R : RootAt K H y rt g) (h : InT es rt a) : ∃ nm par, H a = some (.ins (CL K) (g a).d (lG (g a) y nm par)) := by
  rcases h with rfl | ⟨t, h⟩
  · exact ⟨_, _, R⟩
  · exact ⟨_, _, TR.lg _ h⟩
def spEff (K : PySem.W.Frag) : Sp := fun vs H Q _ => ∃ (a y dy lm rt : Addr) (fs : List (Str × V)) (es : Es) (g : Addr → LG) (n : Nat) (v : Int), vs = [.ref a] ∧ Tree K H y dy lm rt fs es g ∧ RootAt K H y rt g ∧ InT es rt a ∧ EffN es rt g n a v ∧ Q (.int v) H
theorem ok_eff {f : Addr} (T : Txt P w K mg) (F : Stands K "getEffectiveLevel" "Logger.getEffectiveLevel" s_Logger_getEffectiveLevel [] f) : Callable P w K mg base 1 f ["self"] [] (spEff K) := by
  refine F.call0 sc_Logger_getEffectiveLevel (fun vs H Q E h => ?_) (fun cdv A outer s H vs Q E hr h => ?_) (fun _ _ _ _ _ _ us hl => match us, hl with | [_], _ => rfl)
  · obtain ⟨a, y, dy, lm, rt, fs, es, g, n, v, rfl, _⟩ := h; rfl
  obtain ⟨a0, y, dy, lm, rt, fs, es, g, n0, v, rfl, TR, R, hT0, hE0, hQ⟩ := h
  refine ⟨_, (pss_cons (ps_set (i := 1) sc_Logger_getEffectiveLevel.nd rfl (by first | exact Or.inl rfl | exact Or.inr rfl) (pv 0))
      (pss_cons (ps_while PassesOwn.never (pt_cmpR op_notN (pv 1) pe_non (nomark _)) (pss_cons (ps_if (pt_cmpR op_ne (pe_fld (pv 1) rfl) (pe_gi (by rfl) T.g_NOTSET) (nomark _)) (pss_one (ps_ret (pe_fld (pv 1) rfl))) pss_nil)
      (pss_one (ps_set (i := 1) sc_Logger_getEffectiveLevel.nd rfl (by first | exact Or.inl rfl | exact Or.inr rfl) (pe_fld (pv 1) rfl)))))
      (pss_one (ps_ret (pe_gi (by rfl) T.g_NOTSET))))), ?_⟩
  refine ⟨_, rfl, ?_⟩
  have hE0 : ∃ n, EffN es rt g n a0 v := ⟨n0, hE0⟩
  refine ⟨fun m σ H' => H' = H ∧ ((∃ (n : Nat) (a : Addr), m = n + 1 ∧ InT es rt a ∧ EffN es rt g n a v ∧ σ = [some (.ref a0), some (.ref a)]) ∨ (m = 0 ∧ v = 0 ∧ σ = [some (.ref a0), some .non])), ⟨n0 + 1, rfl, .inl ⟨n0, a0, rfl, hT0, hE0.choose_spec |> fun _ => ‹EffN es rt g n0 a0 v›, rfl⟩⟩, ?_⟩
  rintro m σ H1 ⟨rfl, h⟩
  rcases h with ⟨n, a, rfl, hT, hE, rfl⟩ | ⟨rfl, rfl, rfl⟩
  · obtain ⟨nm, par, ha⟩ := inT_at TR R hT
    refine ⟨_, rfl, rfl, _, rfl, iteT' (by rfl) ?_⟩
    refine ⟨fun σ' H' => ∃ m', m' < n + 1 ∧ (H' = H1 ∧ ((∃ (n : Nat) (a : Addr), m' = n + 1 ∧ InT es rt a ∧ EffN es rt g n a v ∧ σ' = [some (.ref a0), some (.ref a)]) ∨ (m' = 0 ∧ v = 0 ∧ σ' = [some (.ref a0), some .non]))), fun σ' H' z => z, ?_⟩
    refine ⟨_, rfl, a, _, _, _, _, rfl, ha, T.c_Logger, T.n_Logger_level, rfl, rfl, _, rfl, ?_⟩
    cases hE with
    | here h =>
      exact iteT' (by simp [h]) ⟨_, rfl, a, _, _, _, _, rfl, ha, T.c_Logger, T.n_Logger_level, rfl, hQ⟩
    | root h =>
      refine iteF' (by simp [h]) ⟨_, rfl, rt, _, _, _, _, rfl, R, T.c_Logger, T.n_Logger_parent, rfl, 0, by omega, rfl, .inr ⟨rfl, rfl, rfl⟩⟩
    | up ha2 h p =>
      refine iteF' (by simp [h]) ⟨_, rfl, a, _, _, _, _, rfl, TR.lg _ ha2, T.c_Logger, T.n_Logger_parent, rfl, _, Nat.lt_succ_self _, rfl, .inl ⟨_, _, rfl, ?_, p, rfl⟩⟩
      rcases parA_cases es rt _ with z | z
      · exact .inl z
      · exact .inr z
  · exact ⟨_, rfl, rfl, _, rfl, iteF' (by rfl) hQ⟩
end
end K17

set_option Elab.async false
set_option linter.all false
set_option maxRecDepth 100000
set_option maxHeartbeats 0
namespace K17
open PySem PySem.Spec PyProof.Rows L2 RC
section
variable {P : Program} {w : World} {K : PySem.W.Frag} {mg : Str → Option Value} {base : Heap}
/-! ### isEnabledFor, setLevel -/
def spEnabled (K : PySem.W.Frag) : Sp := fun vs H Q _ => ∃ (a y dy lm rt : Addr) (fs : List (Str × V)) (es : Es) (g : Addr → LG) (n : Nat) (v bar lv : Int), vs = [.ref a, .int lv] ∧ Tree K H y dy lm rt fs es g ∧ RootAt K H y rt g ∧ InT es rt a ∧ EffN es rt g n a v ∧ fs.lookup ("bar_level" : Str) = some (.int bar) ∧
  Q (.bl (!(g a).dis && (decide (bar < lv) && decide (v ≤ lv)))) H
theorem ok_enabled {f : Addr} (T : Txt P w K mg) (F : Stands K "isEnabledFor" "Logger.isEnabledFor" s_Logger_isEnabledFor [] f) (c_Logger_getEffectiveLevel : Callable P w K mg base 1 (He.ma K (He.ga K "Logger") "getEffectiveLevel") ["self"] [] (spEff K)) : Callable P w K mg base 2 f ["self", "level"] [] (spEnabled K) := by
  refine F.call0 sc_Logger_isEnabledFor (fun vs H Q E h => ?_) (fun cdv A outer s H vs Q E hr h => ?_) (fun _ _ _ _ _ _ us hl => match us, hl with | [_, _], _ => rfl)
  · obtain ⟨a, y, dy, lm, rt, fs, es, g, n, v, bar, lv, rfl, _⟩ := h; rfl
  obtain ⟨a, y, dy, lm, rt, fs, es, g, n, v, bar, lv, rfl, TR, R, hT, hE, hb, hQ⟩ := h
  obtain ⟨nm, par, ha⟩ := inT_at TR R hT
  refine ⟨_, (pss_cons (ps_if (PW.pt (pw_or (pt_val (pe_fld (pv 0) rfl)) (pw_or1 (pt_cmpR op_le (pv 1) (pe_fld (pe_fld (pv 0) rfl) rfl) (nomark _))))) (pss_one (ps_ret pe_bl)) pss_nil)
      (pss_one (ps_ret (pe_cmpR op_ge (pv 1) (pe_mt0 T.c_Logger T.m_Logger_getEffectiveLevel c_Logger_getEffectiveLevel (hr.mono (by first | decide | exact Nat.le_refl _)) (pv 0)) (nomark _))))), ?_⟩
  refine ⟨_, rfl, a, _, _, _, _, rfl, ha, T.c_Logger, T.n_Logger_disabled, rfl, _, rfl, ?_⟩
  cases hd : (g a).dis with
  | true =>
    rw [hd] at hQ
    exact iteT' rfl (iteT' rfl hQ)
  | false =>
    rw [hd] at hQ
    refine iteF' rfl ⟨_, rfl, _, rfl, a, _, _, _, _, rfl, ha, T.c_Logger, T.n_Logger_yard, rfl, y, _, dy, fs, _, rfl, TR.yd, T.c_Yard, T.n_Yard_bar_level, hb, _, _, rfl, rfl, _, rfl, ?_⟩
    by_cases c : lv ≤ bar
    · have e : decide (bar < lv) = false := decide_eq_false (by omega)
      rw [e] at hQ
      exact iteT' (decide_eq_true c) hQ
    · have e : decide (bar < lv) = true := decide_eq_true (by omega)
      rw [e] at hQ
      refine iteF' (decide_eq_false c) ⟨_, rfl, _, rfl, a, _, _, rfl, ha, rfl, a, y, dy, lm, rt, fs, es, g, n, v, rfl, TR, R, hT, hE, _, _, rfl, rfl, ?_⟩
      exact hQ
def spSetLevel (K : PySem.W.Frag) : Sp := fun vs H Q _ => ∃ (a y dy nu : Addr) (fs : List (Str × V)) (q : LG) (nm : Str) (par : V) (nums : List (Key × V)) (v : LvIn) (r : Int), vs = [.ref a, v.v] ∧ H a = some (.ins (CL K) q.d (lG q y nm par)) ∧ H y = some (.ins (CY K) dy fs) ∧ fs.lookup ("level_of" : Str) = none ∧
  fs.lookup ("numbers_of" : Str) = some (.ref nu) ∧ H nu = some (.dK nums) ∧ lvNum nums v = some (.int r) ∧ Q .non (upd H a (.ins (CL K) q.d (lG { q with lev := r } y nm par)))
theorem ok_setLevel {f : Addr} (T : Txt P w K mg) (F : Stands K "setLevel" "Logger.setLevel" s_Logger_setLevel [] f) (c_Yard_level_of : Callable P w K mg base 2 (He.ma K (He.ga K "Yard") "level_of") ["self", "level"] [] (spLevelOf K)) : Callable P w K mg base 3 f ["self", "level"] [] (spSetLevel K) := by
  refine F.call0 sc_Logger_setLevel (fun vs H Q E h => ?_) (fun cdv A outer s H vs Q E hr h => ?_) (fun _ _ _ _ _ _ us hl => match us, hl with | [_, _], _ => rfl)
  · obtain ⟨a, y, dy, nu, fs, q, nm, par, nums, v, r, rfl, _⟩ := h; rfl
  obtain ⟨a, y, dy, nu, fs, q, nm, par, nums, v, r, rfl, ha, hy, hlo, hnu, hnums, hv, hQ⟩ := h
  refine ⟨_, (pss_one (ps_fld (pv 0) (pe_mt T.c_Yard T.m_Yard_level_of c_Yard_level_of (hr.mono (by first | decide | exact Nat.le_refl _)) (pe_fld (pv 0) rfl) (pa_cons (pv 1) pa_nil)) rfl)), ?_⟩
  exact ⟨_, rfl, a, _, _, _, _, rfl, ha, T.c_Logger, T.n_Logger_yard, rfl, y, dy, fs, rfl, hy, hlo, _, rfl, y, dy, nu, fs, nums, v, _, rfl, hy, hnu, hnums, hv, _, rfl, a, _, _, _, rfl, ha, T.c_Logger, T.n_Logger_level, (by show 8 < 1000; decide), hQ⟩
end
end K17

set_option Elab.async false
set_option linter.all false
set_option maxRecDepth 100000
set_option maxHeartbeats 0
namespace K17
open PySem PySem.Spec PyProof.Rows L2 RC
section
variable {P : Program} {w : World} {K : PySem.W.Frag} {mg : Str → Option Value} {base : Heap}
/-! ### the law's own parent, by a dict of any values -/
theorem dget_k {H : Hp} {a : Addr} {kvs : List (Key × V)} {x : Str} (h : Rd H a (.dK kvs)) : DGet H a (.str x) (valV kvs (Sum.inr x)) := .inl ⟨kvs, Sum.inr x, h, rfl, rfl⟩
theorem rd_same {H H' : Hp} {a : Addr} {o : HO} (h : Rd H a o) (s : Same H H') : Rd H' a o := by
  rcases h with h | ⟨u, h⟩
  · exact .inl (s _ _ h)
  · exact .inr ⟨u, s _ _ h⟩
def hasK (kvs : List (Key × V)) (x : Str) : Bool := (valV kvs (Sum.inr x)).isSome
def lawIx (has : Str → Bool) (parts : List Str) : Nat → Str
  | 0 => ""
  | k + 1 => if has (pre parts (k + 1)) = true then pre parts (k + 1) else lawIx has parts k
def lawPar (has : Str → Bool) (t : Str) : Str := lawIx has (Txt.split t ".") ((Txt.split t ".").length - 1)
def spLawParent : Sp := fun vs H Q _ => ∃ (k : Addr) (kvs : List (Key × V)) (t : Str), vs = [.ref k, .str t] ∧ Rd H k (.dK kvs) ∧ Sized t ∧ ∀ H', Same H H' → Q (.str (lawPar (hasK kvs) t)) H'
theorem ok_law_parent {f : Addr} (T : Txt P w K mg) (F : Stands K "_law_parent" "_law_parent" s__law_parent [] f) : Callable P w K mg base 1 f ["_law_names", "_law_name"] [] spLawParent := by
  refine F.call0 sc__law_parent (fun vs H Q E h => ?_) (fun cdv A outer s H vs Q E hr h => ?_) (fun _ _ _ _ _ _ us hl => match us, hl with | [_, _], _ => rfl)
  · obtain ⟨k, kvs, t, rfl, _⟩ := h; rfl
  obtain ⟨k, kvs, t, rfl, hk, hz, hQ⟩ := h
  refine ⟨_, (pss_cons (ps_par (by rfl) sc__law_parent.nd (i := 2) (j := 3) rfl rfl (by decide) rfl rfl (pa_cons (pe_split (pv 1) pe_str) (pa_cons pe_str pa_nil)) (by rfl))
      (pss_cons (ps_for PassesOwn.never rfl (pi_range2 (by rfl) T.b_range (pa_cons pe_int (pa_cons (pe_callB call_len (by rfl) T.b_len (by decide +kernel) (pa_cons (pv 2) pa_nil)) pa_nil))) (pg_name (i := 4) sc__law_parent.nd rfl (by first | exact Or.inl rfl | exact Or.inr rfl)) (pss_cons (ps_set (i := 5) sc__law_parent.nd rfl (by first | exact Or.inl rfl | exact Or.inr rfl) (pe_join pe_str (pe_slice sl_list (pv 2) po_none (po_some (pv 4)))))
      (pss_one (ps_set (i := 3) sc__law_parent.nd rfl (by first | exact Or.inl rfl | exact Or.inr rfl) (pe_ifExp (pt_cmp (pc_din (hu_of hr) (pv 5) (pv 0))) (pv 5) (pv 3))))))
      (pss_one (ps_ret (pv 3))))), ?_⟩
  refine ⟨_, rfl, ⟨t, rfl⟩, t, ".", rfl, rfl, (by decide), (by rw [sizeLine_eq]; exact Nat.le_trans (Nat.add_le_add_right hz.all 2) (by decide)), fun p hp => ?_⟩
  have q1 : upd H p (.lst ((Txt.split t ".").map V.str)) p = some (.lst ((Txt.split t ".").map V.str)) := upd_same
  have s1 : Same H (upd H p (.lst ((Txt.split t ".").map V.str))) := same_new hp _
  generalize upd H p (.lst ((Txt.split t ".").map V.str)) = H1 at q1 s1
  unfold lawPar at hQ
  have hfew := hz.few
  have hshort := hz.short
  generalize Txt.split t "." = parts at hQ q1 hfew hshort
  refine ⟨_, _, rfl, ?_⟩
  refine ⟨_, rfl, .ref p, parts.length, rfl, .inl ⟨_, SqL.of q1, by rw [List.length_map]⟩, 1, _, rfl, ⟨by decide, by decide, by omega, by omega⟩, ?_⟩
  have en : ((parts.length : Int) - 1).toNat = parts.length - 1 := by omega
  rw [en]
  refine for_it walk_range (fun i σ H' => Same H1 H' ∧ ∃ o4 o5, σ = [some (.ref k), some (.str t), some (.ref p), some (.str (lawIx (hasK kvs) parts i)), o4, o5]) ⟨Same.refl H1, _, _, rfl⟩ (fun _ _ _ _ _ => trivial) (fun i x σ H2 H3 hi hP hx => ?_) (fun σ H2 hP => ?_)
  · obtain ⟨rfl, rfl⟩ := hx
    obtain ⟨s2, o4, o5, rfl⟩ := hP
    have ek : (1 : Int) + (i : Nat) = ((i + 1 : Nat) : Int) := by omega
    dsimp only
    rw [ek]
    have s12 := s1.trans s2
    refine ⟨⟨".", rfl⟩, _, rfl, _, rfl, _, rfl, p, _, rfl, SqL.of (s2 _ _ q1), fun q hq => ?_⟩
    rw [cutV_take _ _ (by rw [List.length_map]; omega), ← List.map_take]
    have s3 := s2.trans (same_new hq (.lst ((parts.take (i + 1)).map V.str)))
    refine ⟨".", q, parts.take (i + 1), rfl, rfl, .inl (SqL.of upd_same), ?_, ?_⟩
    · have a := sum_take (i + 1) parts hshort
      have b : (parts.take (i + 1)).length ≤ parts.length := by rw [List.length_take]; omega
      have c : (("." : Str)).length = 1 := rfl
      rw [c]; omega
    refine ⟨_, rfl, _, rfl, k, _, rfl, dget_k (x := pre parts (i + 1)) (rd_same hk (s1.trans s3)), _, rfl, ?_⟩
    by_cases c : hasK kvs (pre parts (i + 1)) = true
    · have e : lawIx (hasK kvs) parts (i + 1) = pre parts (i + 1) := by show (if _ then _ else _) = _; rw [if_pos c]
      exact iteT' c ⟨_, rfl, s3, some (.int ((i + 1 : Nat) : Int)), some (.str (pre parts (i + 1))), by rw [e]; rfl⟩
    · have e : lawIx (hasK kvs) parts (i + 1) = lawIx (hasK kvs) parts i := by show (if _ then _ else _) = _; rw [if_neg c]
      exact iteF' (eq_false_of_ne_true c) ⟨_, rfl, s3, some (.int ((i + 1 : Nat) : Int)), some (.str (pre parts (i + 1))), by rw [e]; rfl⟩
  · obtain ⟨s2, o4, o5, rfl⟩ := hP
    exact ⟨_, rfl, hQ _ (s1.trans s2)⟩
/-- a name of good parts -/
structure Good (t : Str) : Prop where
  sz : Sized t
  ps : (Txt.split t ".").all partB = true
theorem pre_ne {t : Str} (g : Good t) (k : Nat) (h : k + 1 ≤ (Txt.split t ".").length) : pre (Txt.split t ".") (k + 1) ≠ "" := by
  have hp := g.ps
  generalize Txt.split t "." = parts at hp h
  cases parts with
  | nil => exact absurd h (by simp)
  | cons p r =>
    have h1 : partB p = true := by rw [List.all_cons] at hp; exact (Bool.and_eq_true_iff.mp hp).1
    have h2 : p ≠ "" := by
      unfold partB at h1
      exact of_decide_eq_true (Bool.and_eq_true_iff.mp h1).1
    intro z
    have e : ((p :: r).take (k + 1)).map (·.length) = p.length :: (r.take k).map (·.length) := rfl
    have a := PyProof.Rows.len_join_ge_sum "." ((p :: r).take (k + 1))
    rw [e, List.sum_cons] at a
    unfold pre at z
    rw [z] at a
    have c : (("" : Str)).length = 0 := rfl
    rw [c] at a
    have l : p.length = 0 := by omega
    refine h2 (TL.ext_tl ?_)
    have b : (TL.tl p).length = 0 := by rw [← TL.len_tl]; exact l
    exact List.length_eq_zero_iff.mp b
end
end K17

set_option Elab.async false
set_option linter.all false
set_option maxRecDepth 100000
set_option maxHeartbeats 0
namespace K17
open PySem PySem.Spec PyProof.Rows L2 RC
section
variable {P : Program} {w : World} {K : PySem.W.Frag} {mg : Str → Option Value} {base : Heap}
/-! ### the names that the law makes -/
def partsG : List Str := ["root", "a", "b", "ab", "A", "_1", "c"]
/-- a name as the law makes it, of the parts qs -/
structure Nm (qs : List Str) : Prop where
  in6 : ∀ p ∈ qs, p ∈ partsG
  pos : 1 ≤ qs.length
  few : qs.length ≤ 5
  noroot : qs ≠ (["root"] : List Str)
theorem in6_dot : ∀ p ∈ partsG, (46 : Nat) ∉ TL.tl p := by decide +kernel
theorem in6_part : ∀ p ∈ partsG, partB p = true := by decide +kernel
theorem in6_len : ∀ p ∈ partsG, p.length ≤ 4 := by decide +kernel
theorem in6_ne : ∀ p ∈ partsG, p ≠ "" := by decide +kernel
theorem split_in6 {qs : List Str} (h : ∀ p ∈ qs, p ∈ partsG) (hp : 1 ≤ qs.length) : Txt.split (Txt.join "." qs) "." = qs :=
  TL.split_join (y := ".") (s := 46) (S := []) (by rfl) (by decide +kernel) (fun z => by rw [z] at hp; exact absurd hp (by decide)) (fun p hq => in6_dot p (h p hq))
theorem sum6 : ∀ qs : List Str, (∀ p ∈ qs, p ∈ partsG) → (qs.map (·.length)).sum ≤ qs.length * 4
  | [], _ => Nat.le_refl _
  | p :: r, h => by
    have i1 := sum6 r (fun z hz => h z (List.mem_cons_of_mem _ hz))
    have i2 := in6_len p (h p List.mem_cons_self)
    simp only [List.map_cons, List.sum_cons, List.length_cons]
    omega
theorem len6 {qs : List Str} (h : ∀ p ∈ qs, p ∈ partsG) (hf : qs.length ≤ 5) : (Txt.join "." qs).length ≤ 25 := by
  refine Nat.le_trans (join_size "." qs) ?_
  have e1 : (("." : Str)).length = 1 := rfl
  have e2 := sum6 qs h
  rw [e1]; omega
theorem good6 {qs : List Str} (h : ∀ p ∈ qs, p ∈ partsG) (hp : 1 ≤ qs.length) (hf : qs.length ≤ 5) : Good (Txt.join "." qs) := by
  have hs := split_in6 h hp
  have l := len6 h hf
  refine ⟨⟨Nat.le_trans l (by decide), by rw [hs]; omega, fun u hu => ?_⟩, ?_⟩
  · rw [hs] at hu
    have : u.length ≤ 4 := in6_len u (h u hu)
    exact Nat.le_trans this (by decide)
  · rw [hs, List.all_eq_true]
    exact fun p hp => in6_part p (h p hp)
theorem Nm.good {qs : List Str} (n : Nm qs) : Good (Txt.join "." qs) := good6 n.in6 n.pos n.few
theorem Nm.ne {qs : List Str} (n : Nm qs) : Txt.join "." qs ≠ "" ∧ Txt.join "." qs ≠ "root" := by
  have hs := split_in6 n.in6 n.pos
  constructor
  · intro z
    rw [z] at hs
    have e : Txt.split ("" : Str) "." = ([""] : List Str) := by decide +kernel
    rw [e] at hs
    exact in6_ne "" (n.in6 "" (by rw [← hs]; exact List.mem_cons_self)) rfl
  · intro z
    rw [z] at hs
    have e : Txt.split ("root" : Str) "." = (["root"] : List Str) := by decide +kernel
    rw [e] at hs
    exact n.noroot hs.symm
theorem join_cons (q r : Str) (rs : List Str) : Txt.join "." (q :: r :: rs) = q ++ "." ++ Txt.join "." (r :: rs) := by
  rw [TL.join_eq, TL.join_eq]; rfl
theorem join_one (q : Str) : Txt.join "." [q] = q := by rw [TL.join_eq]; rfl
theorem part_one {q : Str} (h : q ∈ partsG) : Txt.partition (Txt.join "." [q]) "." = (q, Str.empty, Str.empty) := by
  rw [join_one]
  exact TL.partition_none (y := ".") (s := 46) (S := []) (by rfl) (in6_dot q h)
theorem part_more {q r : Str} {rs : List Str} (h : q ∈ partsG) : Txt.partition (Txt.join "." (q :: r :: rs)) "." = (q, ((".": Str), Txt.join "." (r :: rs)) ) := by
  rw [join_cons]
  exact TL.partition_app (y := ".") (s := 46) (S := []) (by rfl) (in6_dot q h)
theorem in56 : ∀ p ∈ parts5, p ∈ partsG := by decide +kernel
theorem nm_plain {ps : List Str} (h : ∀ p ∈ ps, p ∈ parts5) (h1 : 1 ≤ ps.length) (h2 : ps.length ≤ 4) : Nm ps := by
  refine ⟨fun p hp => in56 p (h p hp), h1, by omega, fun z => ?_⟩
  have := h "root" (by rw [z]; exact List.mem_cons_self)
  exact absurd this (by decide +kernel)
theorem nm_root {ps : List Str} (h : ∀ p ∈ ps, p ∈ parts5) (h1 : 1 ≤ ps.length) (h2 : ps.length ≤ 4) : Nm (("root" : Str) :: ps) := by
  refine ⟨fun p hp => ?_, by simp, by simp only [List.length_cons]; omega, fun z => ?_⟩
  · rcases List.mem_cons.mp hp with rfl | hp
    · exact List.mem_cons_self
    · exact in56 p (h p hp)
  · have := congrArg List.length z
    simp only [List.length_cons, List.length_nil] at this
    omega
theorem join_root {ps : List Str} (h1 : 1 ≤ ps.length) : ("root." : Str) ++ Txt.join "." ps = Txt.join "." (("root" : Str) :: ps) := by
  cases ps with
  | nil => exact absurd h1 (by decide)
  | cons r rs =>
    rw [join_cons]
    refine TL.ext_tl ?_
    rw [TL.tl_append, TL.tl_append, TL.tl_append]
    rfl
theorem mul_root (b : Bool) : Txt.mul ("root." : Str) (if b = true then 1 else 0) = (if b = true then "root." else "") := by
  cases b <;> decide +kernel
theorem mul_ok (b : Bool) : MulOk ("root." : Str) (if b = true then 1 else 0) := by
  cases b
  · refine ⟨by decide, fun h => absurd (show (0 : Int) < 1 by decide) h, fun h => absurd (show (0 : Int) < 1 by decide) h⟩
  · exact ⟨by decide, fun _ h => absurd h (by decide), fun _ h => absurd h (by decide)⟩
theorem nil_app (x : Str) : ("" : Str) ++ x = x := by
  refine TL.ext_tl ?_
  rw [TL.tl_append]; rfl
end
end K17

set_option Elab.async false
set_option linter.all false
set_option maxRecDepth 100000
set_option maxHeartbeats 0
namespace K17
open PySem PySem.Spec PyProof.Rows L2 RC
section
variable {P : Program} {w : World} {K : PySem.W.Frag} {mg : Str → Option Value} {base : Heap}
/-! ### what is known of a tree -/
def kn (es : Es) (rt : Addr) : Es := (("" : Str), rt) :: es
def mapK (F : Addr → V) (es : Es) : List (Key × V) := es.map fun e => ((Sum.inr e.1 : Key), F e.2)
theorem valV_mapK (F : Addr → V) (x : Str) : ∀ es : Es, valV (mapK F es) (Sum.inr x) = (es.lookup x).map F
  | [] => rfl
  | e :: es => by
    by_cases h : e.1 = x
    · have h1 : valV (mapK F (e :: es)) (Sum.inr x) = some (F e.2) := valV_pos (p := ((Sum.inr e.1 : Key), F e.2)) (r := mapK F es) (congrArg Sum.inr h)
      rw [h1, List.lookup_cons, beq_iff_eq.mpr h.symm]; rfl
    · have h1 : valV (mapK F (e :: es)) (Sum.inr x) = valV (mapK F es) (Sum.inr x) := by
        show valV (((Sum.inr e.1 : Key), F e.2) :: mapK F es) (Sum.inr x) = _
        unfold valV
        rw [List.find?_cons, show decide ((Sum.inr e.1 : Key) = Sum.inr x) = false from decide_eq_false fun z => h (Sum.inr.inj z)]
      rw [h1, List.lookup_cons, show (x == e.1) = false from by simpa using fun z : x = e.1 => h z.symm, valV_mapK F x es]
theorem putK_mapK_new {F : Addr → V} {es : Es} {t : Str} {v : V} (h : es.lookup t = none) : putK (mapK F es) (Sum.inr t) v = mapK F es ++ [(Sum.inr t, v)] := by
  unfold putK
  rw [if_neg ?_]
  intro z
  obtain ⟨kv, h1, h2⟩ := List.any_eq_true.mp z
  obtain ⟨e, he, rfl⟩ := List.mem_map.mp h1
  exact lookup_none h (by rw [← Sum.inr.inj (of_decide_eq_true h2)]; exact List.mem_map_of_mem he)
/-- a value is set where the name stands: the addresses tell the names -/
theorem putK_mapK_at {F : Addr → V} {es : Es} {t : Str} {a : Addr} {v : V} (hm : (t, a) ∈ es) (inj : ∀ e ∈ es, e.2 = a → e.1 = t) (nd : (es.map (·.1)).Nodup) : putK (mapK F es) (Sum.inr t) v = mapK (fun b => if b = a then v else F b) es := by
  unfold putK
  rw [if_pos]
  · unfold mapK
    rw [List.map_map]
    refine List.map_congr_left fun e he => ?_
    show (if (Sum.inr e.1 : Key) = Sum.inr t then ((Sum.inr e.1 : Key), v) else ((Sum.inr e.1 : Key), F e.2)) = (Sum.inr e.1, if e.2 = a then v else F e.2)
    by_cases c : e.1 = t
    · have e2 := lookup_nd he nd
      have e3 := lookup_nd hm nd
      rw [c] at e2
      have e4 : e.2 = a := Option.some.inj (e2.symm.trans e3)
      rw [if_pos (congrArg Sum.inr c), if_pos e4]
    · rw [if_neg (fun z => c (Sum.inr.inj z)), if_neg (fun z => c (inj e he z))]
  · exact List.any_eq_true.mpr ⟨((Sum.inr t : Key), F a), List.mem_map_of_mem (f := fun e : Str × Addr => ((Sum.inr e.1 : Key), F e.2)) hm, decide_eq_true rfl⟩
theorem mapK_congr {F G : Addr → V} {es : Es} (h : ∀ e ∈ es, F e.2 = G e.2) : mapK F es = mapK G es := List.map_congr_left fun e he => by rw [h e he]
def rn (n : Str) : Str := if n = "" then "root" else n
def parV (es : Es) (rt : Addr) (n : Str) : V := if n = "" then .non else .ref (parA es rt n)
structure Known (K : PySem.W.Frag) (H : Hp) (y dy lm rt : Addr) (fs : List (Str × V)) (es : Es) (g : Addr → LG) : Prop where
  tr : Tree K H y dy lm rt fs es g
  rt_ : RootAt K H y rt g
  nm : ∀ e ∈ es, ∃ qs, Nm qs ∧ e.1 = Txt.join "." qs
  few : es.length ≤ 50
section
variable {H H' : Hp} {y dy lm rt k : Addr} {fs : List (Str × V)} {es : Es} {g : Addr → LG}
theorem Known.good (N : Known K H y dy lm rt fs es g) : ∀ e ∈ es, Good e.1 := fun e he => by
  obtain ⟨qs, h, z⟩ := N.nm e he
  rw [z]; exact h.good
theorem Known.ne (N : Known K H y dy lm rt fs es g) : ∀ e ∈ es, e.1 ≠ "" ∧ e.1 ≠ "root" := fun e he => by
  obtain ⟨qs, h, z⟩ := N.nm e he
  rw [z]; exact h.ne
/-- instances and the dict of loggers stay -/
theorem Known.frame (N : Known K H y dy lm rt fs es g) (hl : H' lm = some (.dK (lmK es))) (s : ∀ b C d f, H b = some (.ins C d f) → H' b = some (.ins C d f)) : Known K H' y dy lm rt fs es g where
  tr := ⟨s _ _ _ _ N.tr.yd, N.tr.root, N.tr.map, N.tr.ms, hl, N.tr.nd, N.tr.sz, fun e he => s _ _ _ _ (N.tr.lg e he)⟩
  rt_ := s _ _ _ _ N.rt_
  nm := N.nm
  few := N.few
theorem Known.same (N : Known K H y dy lm rt fs es g) (s : Same H H') : Known K H' y dy lm rt fs es g := N.frame (s _ _ N.tr.lmo) fun _ _ _ _ e => s _ _ e
theorem Known.nonil (N : Known K H y dy lm rt fs es g) : ("" : Str) ∉ es.map (·.1) := fun z => by
  obtain ⟨e, he, z⟩ := List.mem_map.mp z
  exact (N.ne e he).1 z
theorem Known.nd (N : Known K H y dy lm rt fs es g) : ((kn es rt).map (·.1)).Nodup := List.nodup_cons.mpr ⟨N.nonil, N.tr.nd⟩
theorem Known.at_ (N : Known K H y dy lm rt fs es g) {e : Str × Addr} (he : e ∈ kn es rt) : H e.2 = some (.ins (CL K) (g e.2).d (lG (g e.2) y (rn e.1) (parV es rt e.1))) := by
  rcases List.mem_cons.mp he with rfl | he
  · exact N.rt_
  · have h := N.tr.lg e he
    unfold rn parV
    rw [if_neg (N.ne e he).1, if_neg (N.ne e he).1]; exact h
theorem Known.inj (N : Known K H y dy lm rt fs es g) {e e' : Str × Addr} (he : e ∈ kn es rt) (he' : e' ∈ kn es rt) (z : e.2 = e'.2) : e.1 = e'.1 := by
  have a := N.at_ he
  have b := N.at_ he'
  rw [z, b] at a
  have c : rn e'.1 = rn e.1 := lG_name (HO.ins.inj (Option.some.inj a)).2.2
  unfold rn at c
  rcases List.mem_cons.mp he with rfl | h1
  · rcases List.mem_cons.mp he' with rfl | h2
    · rfl
    · rw [if_neg (N.ne e' h2).1, if_pos rfl] at c
      exact absurd c (N.ne e' h2).2
  · rcases List.mem_cons.mp he' with rfl | h2
    · rw [if_neg (N.ne e h1).1, if_pos rfl] at c
      exact absurd c.symm (N.ne e h1).2
    · rw [if_neg (N.ne e h1).1, if_neg (N.ne e' h2).1] at c
      exact c.symm
theorem Known.root_iff (N : Known K H y dy lm rt fs es g) {e : Str × Addr} (he : e ∈ kn es rt) : e.2 = rt ↔ e.1 = "" := by
  constructor
  · intro z; exact N.inj he (e' := (("" : Str), rt)) List.mem_cons_self z
  · intro z
    rcases List.mem_cons.mp he with rfl | h
    · rfl
    · exact absurd z (N.ne e h).1
theorem Known.inT (N : Known K H y dy lm rt fs es g) {e : Str × Addr} (he : e ∈ kn es rt) : InT es rt e.2 := by
  rcases List.mem_cons.mp he with rfl | h
  · exact .inl rfl
  · exact .inr ⟨e.1, h⟩
theorem kn_lookup {t : Str} (h : t ≠ "") : (kn es rt).lookup t = es.lookup t := by
  unfold kn
  rw [List.lookup_cons, show (t == ("" : Str)) = false from by simpa using h]
/-- a logger's own things are set otherwise -/
theorem Known.set (N : Known K H y dy lm rt fs es g) {e : Str × Addr} (he : e ∈ kn es rt) {q : LG} (hd : q.d = (g e.2).d) : Known K (upd H e.2 (.ins (CL K) q.d (lG q y (rn e.1) (parV es rt e.1)))) y dy lm rt fs es (updG g e.2 q) := by
  have hE := N.at_ he
  have nly : y ≠ e.2 := fun z => by
    have a := N.tr.yd
    rw [z, hE] at a
    have := (HO.ins.inj (Option.some.inj a)).2.2
    have r := N.tr.map
    rw [← this] at r
    exact absurd r (by show (none : Option V) ≠ _; exact fun z => nomatch z)
  have nlm : lm ≠ e.2 := fun z => by have a := N.tr.lmo; rw [z, hE] at a; cases a
  have one : ∀ e' ∈ kn es rt, upd H e.2 (.ins (CL K) q.d (lG q y (rn e.1) (parV es rt e.1))) e'.2 = some (.ins (CL K) (updG g e.2 q e'.2).d (lG (updG g e.2 q e'.2) y (rn e'.1) (parV es rt e'.1))) := fun e' he' => by
    by_cases c : e'.2 = e.2
    · have c1 := N.inj he' he c
      unfold updG
      rw [c, c1, upd_same, if_pos rfl]
    · unfold updG
      rw [upd_ne c, if_neg c]; exact N.at_ he'
  refine ⟨⟨by rw [upd_ne nly]; exact N.tr.yd, N.tr.root, N.tr.map, N.tr.ms, by rw [upd_ne nlm]; exact N.tr.lmo, N.tr.nd, N.tr.sz, fun e' he' => ?_⟩, ?_, N.nm, N.few⟩
  · have h := one e' (List.mem_cons_of_mem _ he')
    unfold rn parV at h
    rw [if_neg (N.ne e' he').1, if_neg (N.ne e' he').1] at h
    exact h
  · exact one (("" : Str), rt) List.mem_cons_self
/-- a logger is got: it is there, or made -/
theorem Known.get (N : Known K H y dy lm rt fs es g) (hes : es.length ≤ 40) {t : Str} {qs : List Str} (hq : Nm qs) (ht : t = Txt.join "." qs) {Q : VK}
    (h : ∀ (H' : Hp) (a : Addr) (es' : Es) (g' : Addr → LG), (∀ b o, b ≠ lm → b ∉ es.map (·.2) → H b = some o → H' b = some o) → Known K H' y dy lm rt fs es' g' →
      ((es.lookup t = some a ∧ es' = es ∧ g' = g ∧ Same H H') ∨ (es.lookup t = none ∧ es' = es ++ [(t, a)] ∧ (∃ q : LG, g' = updG g a q ∧ q.lev = 0 ∧ q.prop = true ∧ q.dis = false ∧ H' q.hl = some (.lst []) ∧ H q.hl = none ∧ H' q.l = some (.lst []) ∧ H q.l = none ∧ q.l ≠ q.hl) ∧ H a = none)) → Q (.ref a) H') : spGetLog K [.ref y, .str t] H Q E0 := by
  subst ht
  have gd := hq.good
  have hne := hq.ne
  refine ⟨y, dy, lm, rt, fs, es, g, _, rfl, N.tr, by omega, hne.1, hne.2, gd.sz, gd.ps, ?_⟩
  cases hl : es.lookup (Txt.join "." qs) with
  | some a => exact .inl ⟨a, rfl, fun H' s' => h H' a es g (fun b o _ _ e => s' _ _ e) (N.same s') (.inl ⟨hl, rfl, rfl, s'⟩)⟩
  | none =>
    refine .inr ⟨rfl, fun H' a q NL T' => h H' a _ _ NL.kp ?_ (.inr ⟨hl, rfl, ⟨q, rfl, NL.fl.1, NL.fl.2.1, NL.fl.2.2, NL.h1, NL.h0, NL.l1, NL.l0, NL.ne⟩, NL.a0⟩)⟩
    have nroot : rt ∉ es.map (·.2) := fun z => by
      obtain ⟨e, he, z⟩ := List.mem_map.mp z
      have := N.inj (e := e) (e' := (("" : Str), rt)) (List.mem_cons_of_mem _ he) List.mem_cons_self z
      exact (N.ne e he).1 this
    have nrl : rt ≠ lm := fun z => by have e := N.rt_; unfold RootAt at e; rw [z, N.tr.lmo] at e; cases e
    have nra : rt ≠ a := fun z => by have e := N.rt_; unfold RootAt at e; rw [z, NL.a0] at e; cases e
    have R' : RootAt K H' y rt (updG g a q) := by
      unfold RootAt updG
      rw [if_neg nra]
      exact NL.kp _ _ nrl nroot N.rt_
    refine ⟨T', R', fun e he => ?_, by rw [List.length_append, List.length_singleton]; omega⟩
    rcases List.mem_append.mp he with he | he
    · exact N.nm e he
    · cases List.mem_singleton.mp he; exact ⟨qs, hq, rfl⟩
end
end
end K17

set_option Elab.async false
set_option linter.all false
set_option maxRecDepth 100000
set_option maxHeartbeats 0
namespace K17
open PySem PySem.Spec PyProof.Rows L2 RC
section
variable {P : Program} {w : World} {K : PySem.W.Frag} {mg : Str → Option Value} {base : Heap}
inductive Chain (has : Str → Bool) : Str → List Str → Prop where
  | top : Chain has "" [""]
  | up {t : Str} {l : List Str} (h : t ≠ "") (p : Chain has (lawPar has t) l) : Chain has t (t :: l)
theorem Chain.pos {has : Str → Bool} {t : Str} {l : List Str} (h : Chain has t l) : ∃ r, l = t :: r := by
  cases h with
  | top => exact ⟨[], rfl⟩
  | up h p => exact ⟨_, rfl⟩
def spChain : Sp := fun vs H Q _ => ∃ (k : Addr) (kvs : List (Key × V)) (t : Str) (l : List Str), vs = [.ref k, .str t] ∧ Rd H k (.dK kvs) ∧ Chain (hasK kvs) t l ∧ (∀ x ∈ l, Sized x) ∧ l.length ≤ 1000 ∧ ∀ (H' : Hp) (p : Addr), Same H H' → H p = none → H' p = some (.lst (l.map V.str)) → Q (.ref p) H'
theorem ok_chain {f : Addr} (T : Txt P w K mg) (F : Stands K "_law_chain" "_law_chain" s__law_chain [] f) (c__law_parent : Callable P w K mg base 1 (He.ga K "_law_parent") ["_law_names", "_law_name"] [] spLawParent) : Callable P w K mg base 2 f ["_law_names", "_law_name"] [] spChain := by
  refine F.call0 sc__law_chain (fun vs H Q E h => ?_) (fun cdv A outer s H vs Q E hr h => ?_) (fun _ _ _ _ _ _ us hl => match us, hl with | [_, _], _ => rfl)
  · obtain ⟨k, kvs, t, l, rfl, _⟩ := h; rfl
  obtain ⟨k, kvs, t, l, rfl, hk, hC, hz, hl, hQ⟩ := h
  refine ⟨_, (pss_cons (ps_set (i := 2) sc__law_chain.nd rfl (by first | exact Or.inl rfl | exact Or.inr rfl) (pe_lst (pa_cons (pv 1) pa_nil)))
      (pss_cons (ps_while PassesOwn.never (pt_cmpR op_ne (pe_ix ix_list (pv 2) (pe_un un_neg pe_int) (fun _ _ => rfl)) pe_str (nomark _)) (pss_one (ps_expr (pe_bm PySem.F.plainAttrs_list PySem.F.slot_list_append PySem.F.type_list_append mt_append (pv 2) (pa_cons (pe_fn T.g__law_parent c__law_parent (hr.mono (by first | decide | exact Nat.le_refl _)) (by rfl) (pa_cons (pv 0) (pa_cons (pe_ix ix_list (pv 2) (pe_un un_neg pe_int) (fun _ _ => rfl)) pa_nil))) pa_nil)))))
      (pss_one (ps_ret (pv 2))))), ?_⟩
  refine ⟨_, rfl, (by show 1 ≤ sizeLine; decide), fun p hp => ?_⟩
  have s1 := same_new hp (.lst [.str t])
  have q1 : upd H p (.lst [.str t]) p = some (.lst [.str t]) := upd_same
  generalize upd H p (.lst [.str t]) = H1 at s1 q1
  refine ⟨fun m σ H' => σ = [some (.ref k), some (.str t), some (.ref p)] ∧ Same H H' ∧ ∃ (dn : List Str) (x : Str) (r : List Str), m = r.length ∧ Chain (hasK kvs) x r ∧ l = dn ++ r ∧ H' p = some (.lst ((dn ++ [x]).map V.str)),
    ⟨_, rfl, s1, [], t, l, rfl, hC, rfl, q1⟩, ?_⟩
  rintro m σ H2 ⟨rfl, s2, dn, x, r, rfl, hX, el, q2⟩
  have e2 : (dn ++ [x]).map V.str = dn.map V.str ++ [V.str x] := by rw [List.map_append]; rfl
  rw [e2] at q2
  refine ⟨_, rfl, 1, rfl, p, _, -1, _, rfl, rfl, SqL.of q2, atI_last _ _, rfl, _, rfl, ?_⟩
  cases hX with
  | top =>
    refine iteF' (by simp) ⟨_, rfl, hQ _ p s2 hp ?_⟩
    rw [q2, el, List.map_append]; rfl
  | up h pp =>
    have hx : x ∈ l := by rw [el]; exact List.mem_append_right _ List.mem_cons_self
    refine iteT' (by simp [h]) ⟨fun σ' H' => ∃ m', m' < _ ∧ (σ' = [some (.ref k), some (.str t), some (.ref p)] ∧ Same H H' ∧ ∃ (dn : List Str) (x : Str) (r : List Str), m' = r.length ∧ Chain (hasK kvs) x r ∧ l = dn ++ r ∧ H' p = some (.lst ((dn ++ [x]).map V.str))), fun σ' H' z => z, ?_⟩
    have hlen : dn.length ≤ 1000 := by
      have e := congrArg List.length el
      rw [List.length_append] at e
      omega
    refine ⟨_, rfl, .inl ⟨rfl, _, SqL.of q2⟩, _, rfl, _, rfl, 1, rfl, p, _, -1, _, rfl, rfl, SqL.of q2, atI_last _ _, k, kvs, x, rfl, rd_same hk s2, hz x hx, fun H3 s3 => ?_⟩
    refine ⟨p, _, _, rfl, rfl, s3 _ _ q2, (by rw [List.length_append, List.length_map, List.length_singleton, sizeLine_eq]; omega), _, Nat.lt_succ_self _, rfl, ?_, dn ++ [x], _, _, rfl, pp, ?_, ?_⟩
    · intro b o hb
      rw [upd_ne (ne_of_none hb hp)]; exact s3 _ _ (s2 _ _ hb)
    · rw [el, List.append_assoc]; rfl
    · rw [upd_same, ← e2, List.map_append (l₁ := dn ++ [x])]; rfl
end
end K17

set_option Elab.async false
set_option linter.all false
set_option maxRecDepth 100000
set_option maxHeartbeats 0
namespace K17
open PySem PySem.Spec PyProof.Rows L2 RC
section
variable {P : Program} {w : World} {K : PySem.W.Frag} {mg : Str → Option Value} {base : Heap}
/-! ### the law's model of the tree -/
structure MAd where
  (m lv pr of hd sv : Addr)
def MAd.all (A : MAd) : List Addr := [A.m, A.lv, A.pr, A.of, A.hd, A.sv]
def mdK (A : MAd) (bar : V) (h t : Addr) : List (Key × V) := [(Sum.inr "levels", .ref A.lv), (Sum.inr "props", .ref A.pr), (Sum.inr "off", .ref A.of), (Sum.inr "hands", .ref A.hd), (Sum.inr "sieves", .ref A.sv), (Sum.inr "bar", bar), (Sum.inr "handlers", .ref h), (Sum.inr "texts", .ref t)]
/-- what was laid since H0 -/
structure Gr (H0 H : Hp) (L : List (Addr × HO)) : Prop where
  sm : Same H0 H
  nd : (L.map (·.1)).Nodup
  has : ∀ x ∈ L, H0 x.1 = none ∧ H x.1 = some x.2
theorem Gr.nil (H : Hp) : Gr H H [] := ⟨Same.refl H, List.nodup_nil, fun _ h => nomatch h⟩
theorem Gr.add {H0 H : Hp} {L : List (Addr × HO)} (G : Gr H0 H L) {q : Addr} {o : HO} (h : H q = none) : Gr H0 (upd H q o) ((q, o) :: L) := by
  refine ⟨G.sm.trans (same_new h _), List.nodup_cons.mpr ⟨fun z => ?_, G.nd⟩, fun x hx => ?_⟩
  · obtain ⟨x, hx, z⟩ := List.mem_map.mp z
    have e := (G.has x hx).2
    rw [z, h] at e; cases e
  · rcases List.mem_cons.mp hx with rfl | hx
    · exact ⟨G.sm.free h, upd_same⟩
    · exact ⟨(G.has x hx).1, same_new h _ _ _ (G.has x hx).2⟩
theorem Gr.put {H0 H : Hp} {L : List (Addr × HO)} {q : Addr} {o o' : HO} (G : Gr H0 H ((q, o) :: L)) : Gr H0 (upd H q o') ((q, o') :: L) := by
  have hq := G.has _ List.mem_cons_self
  refine ⟨fun b u e => ?_, G.nd, fun x hx => ?_⟩
  · rw [upd_ne (ne_of_none e hq.1)]; exact G.sm b u e
  · rcases List.mem_cons.mp hx with rfl | hx
    · exact ⟨hq.1, upd_same⟩
    · have n : x.1 ≠ q := fun z => (List.nodup_cons.mp (show (q :: L.map (·.1)).Nodup from G.nd)).1 (by rw [← z]; exact List.mem_map_of_mem (f := (·.1)) hx)
      rw [upd_ne n]; exact G.has x (List.mem_cons_of_mem _ hx)
theorem Gr.last {H0 H : Hp} (L : List (Addr × HO)) {q : Addr} {o o' : HO} (G : Gr H0 H (L ++ [(q, o)])) : Gr H0 (upd H q o') (L ++ [(q, o')]) := by
  have G1 : Gr H0 H ((q, o) :: L) := ⟨G.sm, by
    have e := G.nd
    rw [List.map_append] at e
    exact (List.perm_append_singleton q (L.map (·.1))).nodup_iff.mp e, fun x hx => G.has x (by rcases List.mem_cons.mp hx with rfl | hx; exact List.mem_append_right _ List.mem_cons_self; exact List.mem_append_left _ hx)⟩
  have G2 := G1.put (o' := o')
  refine ⟨G2.sm, ?_, fun x hx => G2.has x ?_⟩
  · rw [List.map_append]
    exact (List.perm_append_singleton q (L.map (·.1))).nodup_iff.mpr (show (q :: L.map (fun x : Addr × HO => x.1)).Nodup from G2.nd)
  · rcases List.mem_append.mp hx with hx | hx
    · exact List.mem_cons_of_mem _ hx
    · cases List.mem_singleton.mp hx; exact List.mem_cons_self
theorem Gr.idx {H0 H : Hp} {L : List (Addr × HO)} (G : Gr H0 H L) (i : Nat) {q : Addr} {o : HO} (h : L[i]? = some (q, o)) : H q = some o := (G.has _ (List.mem_of_getElem? h)).2
theorem Gr.idn {H0 H : Hp} {L : List (Addr × HO)} (G : Gr H0 H L) (i : Nat) {q : Addr} {o : HO} (h : L[i]? = some (q, o)) : H0 q = none := (G.has _ (List.mem_of_getElem? h)).1
/-- one entry is changed -/
theorem Gr.at_ {H0 H : Hp} {L : List (Addr × HO)} (G : Gr H0 H L) (i : Nat) {q : Addr} {o : HO} (h : L[i]? = some (q, o)) (o' : HO) : Gr H0 (upd H q o') (L.set i (q, o')) := by
  have hq := G.has _ (List.mem_of_getElem? h)
  have hi := (List.getElem?_eq_some_iff.mp h).1
  have em : (L.set i (q, o')).map (·.1) = L.map (·.1) := by
    rw [List.map_set]
    refine List.ext_getElem? fun j => ?_
    by_cases c : i = j
    · subst c
      rw [List.getElem?_set_self (by rw [List.length_map]; exact hi), List.getElem?_map, h]; rfl
    · rw [List.getElem?_set_ne c]
  refine ⟨fun b u e => ?_, by rw [em]; exact G.nd, fun x hx => ?_⟩
  · rw [upd_ne (ne_of_none e hq.1)]; exact G.sm b u e
  · obtain ⟨j, hj⟩ := List.getElem?_of_mem hx
    by_cases c : i = j
    · subst c
      rw [List.getElem?_set_self hi] at hj
      cases hj
      exact ⟨hq.1, upd_same⟩
    · rw [List.getElem?_set_ne c] at hj
      have g := G.has x (List.mem_of_getElem? hj)
      have n : x.1 ≠ q := fun z => by
        have n1 : (L.map (·.1))[j]? = some q := by rw [List.getElem?_map, hj, ← z]; rfl
        have n2 : (L.map (·.1))[i]? = some q := by rw [List.getElem?_map, h]; rfl
        have l := (List.getElem?_eq_some_iff.mp n1).1
        exact c ((List.getElem?_inj l G.nd).mp (n1.trans n2.symm)).symm
      rw [upd_ne n]; exact g
theorem Gr.perm {H0 H : Hp} {L M : List (Addr × HO)} (G : Gr H0 H L) (p : M.Perm L) : Gr H0 H M := ⟨G.sm, (p.map _).nodup_iff.mpr G.nd, fun x hx => G.has x (p.mem_iff.mp hx)⟩
def spTree : Sp := fun vs H Q _ => vs = [] ∧ ∀ (H' : Hp) (A : MAd) (h t b4 b5 : Addr), Same H H' → A.all.Nodup → (∀ a ∈ A.all, H a = none) → H' A.m = some (.dK (mdK A (.int 0) h t)) → H' A.lv = some (.dK [(Sum.inr "", .int 30)]) → H' A.pr = some (.dK [(Sum.inr "", .bl true)]) → H' A.of = some (.dK [(Sum.inr "", .bl false)]) →
  H' A.hd = some (.dK [(Sum.inr "", .ref b4)]) → H' A.sv = some (.dK [(Sum.inr "", .ref b5)]) → Q (.ref A.m) H'
theorem ok_tree {f : Addr} (T : Txt P w K mg) (F : Stands K "_law_tree" "_law_tree" s__law_tree [] f) : Callable P w K mg base 1 f [] [] spTree := by
  refine F.call0 sc__law_tree (fun vs H Q E h => ?_) (fun cdv A outer s H vs Q E hr h => ?_) (fun _ _ _ _ _ _ us hl => match us, hl with | [], _ => rfl)
  · obtain ⟨rfl, _⟩ := h; rfl
  obtain ⟨rfl, hQ⟩ := h
  refine ⟨_, (pss_cons (ps_set (i := 0) sc__law_tree.nd rfl (by first | exact Or.inl rfl | exact Or.inr rfl) (pe_disp (pps_cons pe_str (pe_disp (pps_cons pe_str pe_int pps_nil) (by rfl) (by rfl) (fun z => by cases z) (by decide)) (pps_cons pe_str (pe_disp (pps_cons pe_str pe_bl pps_nil) (by rfl) (by rfl) (fun z => by cases z) (by decide)) (pps_cons pe_str (pe_disp (pps_cons pe_str pe_bl pps_nil) (by rfl) (by rfl) (fun z => by cases z) (by decide)) (pps_cons pe_str (pe_disp (pps_cons pe_str (pe_lst pa_nil) pps_nil) (by rfl) (by rfl) (fun z => by cases z) (by decide)) (pps_cons pe_str (pe_disp (pps_cons pe_str (pe_lst pa_nil) pps_nil) (by rfl) (by rfl) (fun z => by cases z) (by decide)) pps_nil))))) (by rfl) (by rfl) (fun z => by cases z) (by decide)))
      (pss_cons (ps_expr (pe_bm PySem.F.plainAttrs_dict PySem.F.slot_dict_update PySem.F.type_dict_update RF.mt_updD (pv 0) (pa_cons (pe_disp (pps_cons pe_str pe_int (pps_cons pe_str (pe_lst pa_nil) (pps_cons pe_str pe_dnewK pps_nil))) (by rfl) (by rfl) (fun z => by cases z) (by decide)) pa_nil)))
      (pss_one (ps_ret (pv 0))))), ?_⟩
  have G0 := Gr.nil H
  intro m hm
  have G1 := G0.add (o := .dK []) hm
  intro lv hlv
  have G2 := (G1.add (o := .dK []) hlv).put (o' := .dK (mergeK [] [((Sum.inr "" : Key), V.int 30)]))
  generalize e2 : upd (upd (upd H m (.dK [])) lv (.dK [])) lv (.dK (mergeK [] [((Sum.inr "" : Key), V.int 30)])) = H2 at G2
  refine ⟨upd_same, [((Sum.inr "" : Key), V.int 30)], rfl, (by show 1 ≤ 15; decide), ?_⟩
  rw [e2]; clear e2
  intro pr hpr
  have G3 := (G2.add (o := .dK []) hpr).put (o' := .dK (mergeK [] [((Sum.inr "" : Key), V.bl true)]))
  generalize e3 : upd (upd H2 pr (.dK [])) pr (.dK (mergeK [] [((Sum.inr "" : Key), V.bl true)])) = H3 at G3
  refine ⟨upd_same, [((Sum.inr "" : Key), V.bl true)], rfl, (by show 1 ≤ 15; decide), ?_⟩
  rw [e3]; clear e3
  intro o_ ho
  have G4 := (G3.add (o := .dK []) ho).put (o' := .dK (mergeK [] [((Sum.inr "" : Key), V.bl false)]))
  generalize e4 : upd (upd H3 o_ (.dK [])) o_ (.dK (mergeK [] [((Sum.inr "" : Key), V.bl false)])) = H4 at G4
  refine ⟨upd_same, [((Sum.inr "" : Key), V.bl false)], rfl, (by show 1 ≤ 15; decide), ?_⟩
  rw [e4]; clear e4
  intro hd hhd
  refine ⟨(by show 0 ≤ sizeLine; decide), fun b4 hb4 => ?_⟩
  have G5 := (((G4.add (o := .dK []) hhd).add (o := .lst []) hb4).perm (List.Perm.swap _ _ _)).put (o' := .dK (mergeK [] [((Sum.inr "" : Key), V.ref b4)]))
  have d5 := ((((G4.add (o := .dK []) hhd).add (o := .lst []) hb4).has (hd, .dK []) (by simp))).2
  generalize upd (upd H4 hd (.dK [])) b4 (.lst []) = H5a at G5 d5
  refine ⟨d5, [((Sum.inr "" : Key), V.ref b4)], rfl, (by show 1 ≤ 15; decide), ?_⟩
  generalize upd H5a hd (.dK (mergeK [] [((Sum.inr "" : Key), V.ref b4)])) = H5 at G5
  intro sv hsv
  refine ⟨(by show 0 ≤ sizeLine; decide), fun b5 hb5 => ?_⟩
  have G6 := (((G5.add (o := .dK []) hsv).add (o := .lst []) hb5).perm (List.Perm.swap _ _ _)).put (o' := .dK (mergeK [] [((Sum.inr "" : Key), V.ref b5)]))
  have d6 := ((((G5.add (o := .dK []) hsv).add (o := .lst []) hb5).has (sv, .dK []) (by simp))).2
  generalize upd (upd H5 sv (.dK [])) b5 (.lst []) = H6a at G6 d6
  refine ⟨d6, [((Sum.inr "" : Key), V.ref b5)], rfl, (by show 1 ≤ 15; decide), ?_⟩
  generalize upd H6a sv (.dK (mergeK [] [((Sum.inr "" : Key), V.ref b5)])) = H6 at G6
  have dm := (G6.has (m, .dK []) (by simp)).2
  refine ⟨dm, [(Sum.inr "levels", .ref lv), (Sum.inr "props", .ref pr), (Sum.inr "off", .ref o_), (Sum.inr "hands", .ref hd), (Sum.inr "sieves", .ref sv)], rfl, (by show 5 ≤ 15; decide), ?_⟩
  have G7 := Gr.last (o' := .dK (mergeK [] [(Sum.inr "levels", .ref lv), (Sum.inr "props", .ref pr), (Sum.inr "off", .ref o_), (Sum.inr "hands", .ref hd), (Sum.inr "sieves", .ref sv)])) [(sv, _), (b5, _), (hd, _), (b4, _), (o_, _), (pr, _), (lv, _)] G6
  have m7 : upd H6 m (.dK (mergeK [] [(Sum.inr "levels", .ref lv), (Sum.inr "props", .ref pr), (Sum.inr "off", .ref o_), (Sum.inr "hands", .ref hd), (Sum.inr "sieves", .ref sv)])) m = some (.dK (mergeK [] [(Sum.inr "levels", .ref lv), (Sum.inr "props", .ref pr), (Sum.inr "off", .ref o_), (Sum.inr "hands", .ref hd), (Sum.inr "sieves", .ref sv)])) := upd_same
  generalize upd H6 m _ = H7 at G7 m7
  refine ⟨_, rfl, .inr (.inr (.inl ⟨rfl, .inl ⟨_, m7⟩⟩)), ?_⟩
  intro u hu
  have G8 := G7.add (o := .dK []) hu
  refine ⟨(by show 0 ≤ sizeLine; decide), fun h1 hh1 => ?_⟩
  have G9 := G8.add (o := .lst []) hh1
  intro t1 ht1
  have G10 := G9.add (o := .dK []) ht1
  have u10 := (G10.has (u, .dK []) (by simp)).2
  generalize upd (upd (upd H7 u (.dK [])) h1 (.lst [])) t1 (.dK []) = H10 at G10 u10
  refine ⟨u10, [(Sum.inr "bar", .int 0), (Sum.inr "handlers", .ref h1), (Sum.inr "texts", .ref t1)], rfl, (by show 3 ≤ 15; decide), ?_⟩
  have m10 := (G10.has (m, .dK (mergeK [] [(Sum.inr "levels", .ref lv), (Sum.inr "props", .ref pr), (Sum.inr "off", .ref o_), (Sum.inr "hands", .ref hd), (Sum.inr "sieves", .ref sv)])) (by simp)).2
  have um : m ≠ u := fun z => by rw [z, hu] at m7; cases m7
  have G11 := G10.at_ 2 (q := u) (o := .dK []) rfl (.dK (mergeK [] [(Sum.inr "bar", .int 0), (Sum.inr "handlers", .ref h1), (Sum.inr "texts", .ref t1)]))
  have m11 : upd H10 u (.dK (mergeK [] [(Sum.inr "bar", .int 0), (Sum.inr "handlers", .ref h1), (Sum.inr "texts", .ref t1)])) m = some (.dK (mergeK [] [(Sum.inr "levels", .ref lv), (Sum.inr "props", .ref pr), (Sum.inr "off", .ref o_), (Sum.inr "hands", .ref hd), (Sum.inr "sieves", .ref sv)])) := by rw [upd_ne um]; exact m10
  have u11 : upd H10 u (.dK (mergeK [] [(Sum.inr "bar", .int 0), (Sum.inr "handlers", .ref h1), (Sum.inr "texts", .ref t1)])) u = some (.dK (mergeK [] [(Sum.inr "bar", .int 0), (Sum.inr "handlers", .ref h1), (Sum.inr "texts", .ref t1)])) := upd_same
  generalize upd H10 u _ = H11 at G11 m11 u11
  refine ⟨m, u, _, _, rfl, rfl, m11, .inl u11, um, (by show 5 + 3 ≤ sizeLine; decide), (by show 8 ≤ sizeLine; decide), ?_⟩
  have G12 := G11.at_ 10 (q := m) (o := .dK (mergeK [] [(Sum.inr "levels", .ref lv), (Sum.inr "props", .ref pr), (Sum.inr "off", .ref o_), (Sum.inr "hands", .ref hd), (Sum.inr "sieves", .ref sv)])) rfl (.dK (mdK ⟨m, lv, pr, o_, hd, sv⟩ (.int 0) h1 t1))
  have e : ([t1, h1, u, sv, b5, hd, b4, o_, pr, lv, m] : List Addr).Nodup := G12.nd
  refine ⟨_, rfl, hQ _ ⟨m, lv, pr, o_, hd, sv⟩ h1 t1 b4 b5 G12.sm ?_ (fun a ha => ?_) upd_same (G12.idx 9 rfl) (G12.idx 8 rfl) (G12.idx 7 rfl) (G12.idx 5 rfl) (G12.idx 3 rfl)⟩
  · show ([m, lv, pr, o_, hd, sv] : List Addr).Nodup
    refine (List.reverse_perm _).nodup_iff.mp (List.Sublist.nodup ?_ e)
    exact .cons _ (.cons _ (.cons _ (.cons₂ _ (.cons _ (.cons₂ _ (.cons _ (.cons₂ _ (.cons₂ _ (.cons₂ _ (.cons₂ _ .slnil))))))))))
  · have ha : a ∈ ([m, lv, pr, o_, hd, sv] : List Addr) := ha
    simp only [List.mem_cons, List.not_mem_nil, or_false] at ha
    rcases ha with rfl | rfl | rfl | rfl | rfl | rfl
    · exact G12.idn 10 rfl
    · exact G12.idn 9 rfl
    · exact G12.idn 8 rfl
    · exact G12.idn 7 rfl
    · exact G12.idn 5 rfl
    · exact G12.idn 3 rfl
end
end K17

set_option Elab.async false
set_option linter.all false
set_option maxRecDepth 100000
set_option maxHeartbeats 0
set_option pp.maxSteps 1000
local macro_rules | `(tactic| walk_at "cls") => `(tactic| first
  | with_reducible exact K17.Txt.c_Logger (by assumption)
  | with_reducible exact K17.Txt.c_StreamHandler (by assumption)
  | with_reducible exact K17.Txt.c_Yard (by assumption))
local macro_rules | `(tactic| walk_at "noat") => `(tactic| first
  | with_reducible exact K17.Txt.n_Logger_filters (by assumption)
  | with_reducible exact K17.Txt.n_Logger_yard (by assumption)
  | with_reducible exact K17.Txt.n_Logger_name (by assumption)
  | with_reducible exact K17.Txt.n_Logger_level (by assumption)
  | with_reducible exact K17.Txt.n_Logger_propagate (by assumption)
  | with_reducible exact K17.Txt.n_Logger_disabled (by assumption)
  | with_reducible exact K17.Txt.n_Logger_handlers (by assumption)
  | with_reducible exact K17.Txt.n_Logger_parent (by assumption)
  | with_reducible exact K17.Txt.n_StreamHandler_filters (by assumption)
  | with_reducible exact K17.Txt.n_StreamHandler_yard (by assumption)
  | with_reducible exact K17.Txt.n_StreamHandler_level (by assumption)
  | with_reducible exact K17.Txt.n_StreamHandler_formatter (by assumption)
  | with_reducible exact K17.Txt.n_StreamHandler_name (by assumption)
  | with_reducible exact K17.Txt.n_StreamHandler_terminator (by assumption)
  | with_reducible exact K17.Txt.n_StreamHandler_closed (by assumption)
  | with_reducible exact K17.Txt.n_StreamHandler_stream (by assumption)
  | with_reducible exact K17.Txt.n_Yard_clock (by assumption)
  | with_reducible exact K17.Txt.n_Yard_stream_texts (by assumption)
  | with_reducible exact K17.Txt.n_Yard_file_rows (by assumption)
  | with_reducible exact K17.Txt.n_Yard_names_of (by assumption)
  | with_reducible exact K17.Txt.n_Yard_numbers_of (by assumption)
  | with_reducible exact K17.Txt.n_Yard_bar_level (by assumption)
  | with_reducible exact K17.Txt.n_Yard_logger_map (by assumption)
  | with_reducible exact K17.Txt.n_Yard_made (by assumption)
  | with_reducible exact K17.Txt.n_Yard_handler_names (by assumption)
  | with_reducible exact K17.Txt.n_Yard_failure_rows (by assumption)
  | with_reducible exact K17.Txt.n_Yard_root (by assumption)
  | with_reducible exact K17.Txt.n_Yard_last_resort (by assumption))
local macro_rules | `(tactic| walk_at "hp") => `(tactic| first
  | with_reducible assumption
  | with_reducible exact L2.upd_same
  | ((with_reducible apply RW.at_upd); (focus (walk_at "ne"; done)); (focus (walk_at "hp"; done)))
  | ((with_reducible apply RW.at_same); (focus (with_reducible assumption; done)); (focus (walk_at "hp"; done)))
  | ((with_reducible apply RW.at_old); (focus (with_reducible assumption; done)); (focus (walk_at "ne"; done)); (focus (walk_at "ne"; done)); (focus (walk_at "hp"; done))))
local macro_rules | `(tactic| walk_at "ne") => `(tactic| first
  | with_reducible assumption
  | with_reducible exact Ne.symm (by with_reducible assumption)
  | with_reducible exact RW.ne_upd (by with_reducible assumption)
  | with_reducible exact Ne.symm (RW.ne_upd (by with_reducible assumption))
  | ((with_reducible apply RW.ne_new); (focus (with_reducible assumption; done)); (focus (walk_at "hp"; done)))
  | ((with_reducible apply RW.ne_new'); (focus (with_reducible assumption; done)); (focus (walk_at "hp"; done)))
  | ((with_reducible apply RW.ne_kind); (focus (walk_at "hp"; done)); (focus (walk_at "hp"; done)); (exact fun z => nomatch z)))
local macro_rules | `(tactic| walk_at "no") => `(tactic| first
  | with_reducible assumption
  | ((with_reducible apply RW.no_upd); (focus (walk_at "ne"; done)); (focus (walk_at "no"; done)))
  | ((with_reducible apply RW.free_same); (focus (with_reducible assumption; done)); (focus (with_reducible assumption; done))))
local macro_rules | `(tactic| walk_at "sm") => `(tactic| first
  | with_reducible assumption
  | with_reducible exact L2.Same.refl _
  | ((with_reducible apply RW.same_put_new); (focus (walk_at "sm"; done)); (focus (walk_at "no"; done)))
  | ((with_reducible apply RW.same_put); (focus (walk_at "sm"; done)); (focus (walk_at "no"; done)))
  | ((with_reducible apply RW.same_then); (focus (with_reducible assumption; done)); (focus (walk_at "sm"; done))))
local macro_rules | `(tactic| walk_at "sq") => `(tactic| first
  | with_reducible assumption
  | ((with_reducible apply L2.SqL.of); (focus (walk_at "hp"; done)))
  | ((with_reducible apply L2.SqT.of); (focus (walk_at "hp"; done)))
  | ((with_reducible apply RW.sql_same); (focus (with_reducible assumption; done)); (focus (walk_at "sm"; done)))
  | ((with_reducible apply RW.sqt_same); (focus (with_reducible assumption; done)); (focus (walk_at "sm"; done))))
local macro_rules | `(tactic| walk_at "pr") => `(tactic| first
  | with_reducible exact PySem.Paired.nil
  | ((with_reducible apply PySem.Paired.cons); (focus (first | exact L2.ClsV.ty _ | exact L2.ClsV.own _; done)); (focus (walk_at "pr"; done))))
local macro_rules | `(tactic| walk_at "stm") => `(tactic| first
  | with_reducible assumption
  | ((with_reducible apply RW.stm_upd); (focus (walk_at "ne"; done)); (focus (walk_at "ne"; done)); (focus (walk_at "stm"; done)))
  | ((with_reducible apply RW.stm_same); (focus (with_reducible assumption; done)); (focus (walk_at "sm"; done))))
local macro_rules | `(tactic| walk_at "od") => `(tactic| first
  | with_reducible assumption
  | with_reducible exact RC.Old.refl _
  | ((with_reducible apply RW.old_upd); (focus (walk_at "od"; done)); (focus (walk_at "no"; done)))
  | ((with_reducible apply RW.old_then); (focus (with_reducible assumption; done)); (focus (walk_at "od"; done)))
  | ((with_reducible apply RW.old_same); (focus (walk_at "od"; done)); (focus (with_reducible assumption; done))))
local macro_rules | `(tactic| walk_at "num") => `(tactic| first
  | exact Nat.le_of_ble_eq_true rfl
  | omega
  | (simp only [List.length_cons, List.length_nil, List.length_append, List.length_map, List.length_replicate, List.length_take, PySem.sizeLine_eq]; omega))
local macro_rules | `(tactic| walk_at "ki") => `(tactic| first
  | with_reducible exact RW.k_int_int
  | with_reducible exact RW.k_bool_int
  | with_reducible exact RW.k_str_int
  | with_reducible exact RW.k_NoneType_int
  | with_reducible exact RW.k_list_int
  | with_reducible exact RW.k_tuple_int
  | with_reducible exact RW.k_dict_int)
local macro_rules | `(tactic| walk_at "kb") => `(tactic| first
  | with_reducible exact RW.k_int_bool
  | with_reducible exact RW.k_bool_bool
  | with_reducible exact RW.k_str_bool
  | with_reducible exact RW.k_NoneType_bool
  | with_reducible exact RW.k_list_bool
  | with_reducible exact RW.k_tuple_bool
  | with_reducible exact RW.k_dict_bool)
local macro_rules | `(tactic| walk_at "ks") => `(tactic| first
  | with_reducible exact RW.k_int_str
  | with_reducible exact RW.k_bool_str
  | with_reducible exact RW.k_str_str
  | with_reducible exact RW.k_NoneType_str
  | with_reducible exact RW.k_list_str
  | with_reducible exact RW.k_tuple_str
  | with_reducible exact RW.k_dict_str)
local macro_rules | `(tactic| walk_at "kl") => `(tactic| first
  | with_reducible exact RW.k_int_list
  | with_reducible exact RW.k_bool_list
  | with_reducible exact RW.k_str_list
  | with_reducible exact RW.k_NoneType_list
  | with_reducible exact RW.k_list_list
  | with_reducible exact RW.k_tuple_list
  | with_reducible exact RW.k_dict_list)
local macro_rules | `(tactic| walk_at "kt") => `(tactic| first
  | with_reducible exact RW.k_int_tuple
  | with_reducible exact RW.k_bool_tuple
  | with_reducible exact RW.k_str_tuple
  | with_reducible exact RW.k_NoneType_tuple
  | with_reducible exact RW.k_list_tuple
  | with_reducible exact RW.k_tuple_tuple
  | with_reducible exact RW.k_dict_tuple)
local macro_rules | `(tactic| walk_at "kd") => `(tactic| first
  | with_reducible exact RW.k_int_dict
  | with_reducible exact RW.k_bool_dict
  | with_reducible exact RW.k_str_dict
  | with_reducible exact RW.k_NoneType_dict
  | with_reducible exact RW.k_list_dict
  | with_reducible exact RW.k_tuple_dict
  | with_reducible exact RW.k_dict_dict)
local macro_rules | `(tactic| walk_at "kit") => `(tactic| first
  | ((with_reducible apply RW.gKb); walk_at "kb")
  | ((with_reducible apply RW.gKi); walk_at "ki")
  | ((with_reducible apply RW.gKl); walk_at "kl")
  | ((with_reducible apply RW.gKs); walk_at "ks")
  | ((with_reducible apply RW.gKt); walk_at "kt")
  | ((with_reducible apply RW.gKd); walk_at "kd"))
local macro_rules | `(tactic| walk_at "kita") => `(tactic| first
  | ((with_reducible apply RW.ka2) <;> walk_at "kit")
  | ((with_reducible apply RW.ka3) <;> walk_at "kit")
  | ((with_reducible apply RW.ka4) <;> walk_at "kit")
  | ((with_reducible apply RW.ka5) <;> walk_at "kit"))
local macro_rules | `(tactic| walk_at "ty") => `(tactic| first
  | with_reducible exact L2.TyX.base (.int _)
  | with_reducible exact L2.TyX.base (.str _)
  | with_reducible exact L2.TyX.base (.bl _)
  | with_reducible exact L2.TyX.base .non
  | ((with_reducible apply L2.TyX.base); (with_reducible apply L2.TyOf.lst); (focus (walk_at "hp"; done)))
  | ((with_reducible apply L2.TyX.base); (with_reducible apply L2.TyOf.tup); (focus (walk_at "hp"; done)))
  | ((with_reducible apply L2.TyX.base); (with_reducible apply L2.TyOf.dK); (focus (walk_at "hp"; done)))
  | ((with_reducible apply RC.tyx_lst); (focus (walk_at "sq"; done)))
  | ((with_reducible apply RC.tyx_tup); (focus (walk_at "sq"; done))))
local macro_rules | `(tactic| walk_at "val") => `(tactic| first
  | with_reducible assumption
  | rfl)
local macro_rules | `(tactic| walk_at "dg") => `(tactic| first
  | (apply RW.dget_s; (focus (walk_at "hp"; done)); (focus (walk_at "val"; done)))
  | (apply RW.dget_i; (focus (walk_at "hp"; done)); (focus (walk_at "val"; done)))
  | (apply RW.dget_sF; (focus (walk_at "hp"; done)); (focus (walk_at "val"; done)))
  | (apply RW.dget_sR; (focus (assumption; done)); (focus (walk_at "val"; done)))
  | (apply RW.dput_s; (focus (walk_at "hp"; done)); (focus (walk_at "num"; done)))
  | (apply RW.dput_i; (focus (walk_at "hp"; done)); (focus (walk_at "num"; done)))
  | (apply RW.isd; (focus (walk_at "hp"; done)))
  | (apply RW.rd_of; (focus (walk_at "hp"; done)))
  | (apply RW.sql_of; (focus (walk_at "hp"; done)))
  | (apply RW.sqt_of; (focus (walk_at "hp"; done)))
  | (apply RW.len_l; (focus (walk_at "hp"; done)))
  | (apply RW.len_sl; (focus (walk_at "sq"; done)))
  | (apply RW.len_st; (focus (walk_at "sq"; done))))
local macro_rules | `(tactic| walk_at "side") => `(tactic| first
  | with_reducible rfl
  | ((with_reducible apply RW.gHp); walk_at "hp")
  | ((with_reducible apply RW.gSm); walk_at "sm")
  | ((with_reducible apply RW.gNe); walk_at "ne")
  | ((with_reducible apply RW.gStm); walk_at "stm")
  | ((with_reducible apply RW.gOld); walk_at "od")
  | ((with_reducible apply RW.gNo); walk_at "noat")
  | ((with_reducible apply RW.gCls); walk_at "cls")
  | ((with_reducible apply RW.gCv); (first | with_reducible exact L2.ClsV.ty _ | with_reducible exact L2.ClsV.own _))
  | ((with_reducible apply RW.gTy); walk_at "ty")
  | ((with_reducible apply RW.gKit); walk_at "kit")
  | ((with_reducible apply RW.gKita); walk_at "kita")
  | ((with_reducible apply RW.gSl); walk_at "sq")
  | ((with_reducible apply RW.gSt); walk_at "sq")
  | ((with_reducible apply RW.gPr); walk_at "pr")
  | with_reducible assumption
  | with_reducible exact RW.gCp ⟨by decide, by decide, by decide⟩
  | walk_at "dg"
  | rfl
  | walk_at "num")
local macro_rules | `(tactic| walk_at "nu") => `(tactic| (repeat (refine RW.fr ?_)))
local macro_rules | `(tactic| walk_at "tt") => `(tactic| first
  | with_reducible rfl
  | with_reducible assumption
  | rfl
  | with_reducible exact RW.cSsT (by with_reducible assumption)
  | with_reducible exact RW.cSsF (by with_reducible assumption)
  | with_reducible exact RW.cNsT (by with_reducible assumption)
  | with_reducible exact RW.cNsF (by with_reducible assumption)
  | with_reducible exact RW.cSiT (by with_reducible assumption)
  | with_reducible exact RW.cSiF (by with_reducible assumption)
  | with_reducible exact RW.cNiT (by with_reducible assumption)
  | with_reducible exact RW.cNiF (by with_reducible assumption)
  | with_reducible exact RW.someT (by with_reducible assumption)
  | with_reducible exact RW.someF (by with_reducible assumption)
  | with_reducible exact RW.nsomeT (by with_reducible assumption)
  | with_reducible exact RW.nsomeF (by with_reducible assumption))
local macro_rules | `(tactic| walk_at "disp") => `(tactic| first
  | with_reducible refine RW.disp1 ?_
  | with_reducible refine RW.disp2 ?_
  | with_reducible refine RW.disp3 ?_
  | with_reducible refine RW.disp4 ?_
  | with_reducible refine RW.disp5 ?_
  | with_reducible refine RW.disp6 ?_
  | with_reducible refine RW.disp7 ?_
  | with_reducible refine RW.disp8 ?_)
local macro_rules | `(tactic| walk_at "ex") => `(tactic| ((fail_if_success (apply @Exists.intro (Nat → Nat → _))); (fail_if_success (apply @Exists.intro (Nat → L2.St → L2.Hp → Prop))); apply Exists.intro))
local macro_rules | `(tactic| walk_at "st") => `(tactic| first
  | ((fail_if_success (with_reducible apply RW.isMut)); (fail_if_success (with_reducible apply RW.isMut2)); (apply And.intro); (focus (walk_at "side"; done)))
  | walk_at "disp"
  | walk_at "ex"
  | refine RC.iteT' (by walk_at "tt") ?_
  | refine RC.iteF' (by walk_at "tt") ?_)
local macro_rules | `(tactic| walk_at "gi") => `(tactic| (repeat (first | walk_at "st" | ((walk_at "nu"); (intro _ h0; have h1 : _ = none := h0; clear h1); intros))))
local macro_rules | `(tactic| walk_at "in") => `(tactic| (try dsimp only [RW.cxK]))
local macro_rules | `(tactic| walk_at "go") => `(tactic| (repeat walk_at "st"))
namespace K17
open PySem PySem.Spec PyProof.Rows L2 RC
section
variable {P : Program} {w : World} {K : PySem.W.Frag} {mg : Str → Option Value} {base : Heap}
/-! ### the law's model: a logger is made -/
structure MS (H : Hp) (A : MAd) (bar : V) (h t : Addr) (lv pr of_ hd sv : List (Key × V)) : Prop where
  m_ : H A.m = some (.dK (mdK A bar h t))
  lv_ : H A.lv = some (.dK lv)
  pr_ : H A.pr = some (.dK pr)
  of__ : H A.of = some (.dK of_)
  hd_ : H A.hd = some (.dK hd)
  sv_ : H A.sv = some (.dK sv)
  nd : A.all.Nodup
  ln : List.length lv ≤ 1000 ∧ List.length pr ≤ 1000 ∧ List.length of_ ≤ 1000 ∧ List.length hd ≤ 1000 ∧ List.length sv ≤ 1000
def MAd.ds (A : MAd) : List Addr := [A.lv, A.pr, A.of, A.hd, A.sv]
def spMade : Sp := fun vs H Q _ => ∃ (A : MAd) (bar : V) (h t : Addr) (lv pr of_ hd sv : List (Key × V)) (x : Str), vs = [.ref A.m, .str x] ∧ MS H A bar h t lv pr of_ hd sv ∧
  ((∃ u, valV lv (Sum.inr x) = some u ∧ Q .non H) ∨ (valV lv (Sum.inr x) = none ∧ ∀ (H' : Hp) (b4 b5 : Addr), (∀ b o, b ∉ A.ds → H b = some o → H' b = some o) → H b4 = none → H b5 = none → b4 ≠ b5 → H' b4 = some (.lst []) → H' b5 = some (.lst []) →
    H' A.m = some (.dK (mdK A bar h t)) → H' A.lv = some (.dK (putK lv (Sum.inr x) (.int 0))) → H' A.pr = some (.dK (putK pr (Sum.inr x) (.bl true))) → H' A.of = some (.dK (putK of_ (Sum.inr x) (.bl false))) → H' A.hd = some (.dK (putK hd (Sum.inr x) (.ref b4))) → H' A.sv = some (.dK (putK sv (Sum.inr x) (.ref b5))) → Q .non H'))
theorem ok_made {f : Addr} (T : Txt P w K mg) (F : Stands K "_law_made" "_law_made" s__law_made [] f) : Callable P w K mg base 1 f ["_law_m", "_law_name"] [] spMade := by
  refine F.call0 sc__law_made (fun vs H Q E h => ?_) (fun cdv A outer s H vs Q E hr h => ?_) (fun _ _ _ _ _ _ us hl => match us, hl with | [_, _], _ => rfl)
  · obtain ⟨A, bar, h, t, lv, pr, of_, hd, sv, x, rfl, _⟩ := h; rfl
  obtain ⟨M, bar, h, t, lv, pr, of_, hd, sv, x, rfl, S, hQ⟩ := h
  refine ⟨_, (pss_one (ps_if (pt_cmp (pc_dnotin (hu_of hr) (pv 1) (pe_dget (hu_of hr) (pv 0) pe_str (fun _ _ => rfl)))) (pss_cons (ps_asg (pe_tup (pa_cons pe_int (pa_cons pe_bl pa_nil))) (RG.pg_tupK (K := K) (n := 2) (by rfl) (pgs_cons (pg_sub (pe_dget (hu_of hr) (pv 0) pe_str (fun _ _ => rfl)) (pv 1) (RF.set_dict (hu_of hr))) (pgs_cons (pg_sub (pe_dget (hu_of hr) (pv 0) pe_str (fun _ _ => rfl)) (pv 1) (RF.set_dict (hu_of hr))) pgs_nil))))
      (pss_one (ps_asg (pe_tup (pa_cons pe_bl (pa_cons (pe_lst pa_nil) (pa_cons (pe_lst pa_nil) pa_nil)))) (RG.pg_tupK (K := K) (n := 3) (by rfl) (pgs_cons (pg_sub (pe_dget (hu_of hr) (pv 0) pe_str (fun _ _ => rfl)) (pv 1) (RF.set_dict (hu_of hr))) (pgs_cons (pg_sub (pe_dget (hu_of hr) (pv 0) pe_str (fun _ _ => rfl)) (pv 1) (RF.set_dict (hu_of hr))) (pgs_cons (pg_sub (pe_dget (hu_of hr) (pv 0) pe_str (fun _ _ => rfl)) (pv 1) (RF.set_dict (hu_of hr))) pgs_nil))))))) pss_nil)), ?_⟩
  walk_at "in"
  obtain ⟨m1, m2, m3, m4, m5, m6, nd, l1, l2, l3, l4, l5⟩ := S
  have nd : ([M.m, M.lv, M.pr, M.of, M.hd, M.sv] : List Addr).Nodup := nd
  simp only [List.nodup_cons, List.mem_cons, List.not_mem_nil, not_or, or_false, not_false_iff, List.nodup_nil, and_true] at nd
  obtain ⟨⟨n1, n2, n3, n4, n5⟩, ⟨n6, n7, n8, n9⟩, ⟨n10, n11, n12⟩, ⟨n13, n14⟩, n15⟩ := nd
  rcases hQ with ⟨u, hu, hQ⟩ | ⟨hu, hQ⟩
  · walk_at "go"
    exact hQ
  · walk_at "go"
    walk_at "nu"; intro T1 f1
    walk_at "go"
    walk_at "nu"; intro T2 f2; intros
    walk_at "go"
    walk_at "nu"; intro T3 f3; intros
    walk_at "go"
    walk_at "nu"; intro T4 f4; intros
    walk_at "go"
    refine hQ _ T2 T3 (fun b o hb e => ?_) f2 f3 (by walk_at "ne") (by walk_at "hp") (by walk_at "hp") (by walk_at "hp") (by walk_at "hp") (by walk_at "hp") (by walk_at "hp") (by walk_at "hp") (by walk_at "hp")
    have hb : b ∉ ([M.lv, M.pr, M.of, M.hd, M.sv] : List Addr) := hb
    simp only [List.mem_cons, List.not_mem_nil, not_or, or_false] at hb
    obtain ⟨e1, e2, e3, e4, e5⟩ := hb
    walk_at "hp"
end
end K17

set_option Elab.async false
set_option linter.all false
set_option maxRecDepth 100000
set_option maxHeartbeats 0

namespace K17
open PySem PySem.Spec PyProof.Rows L2 RC
section
variable {P : Program} {w : World} {K : PySem.W.Frag} {mg : Str → Option Value} {base : Heap}
/-! ### the law's own level in force -/
def effL (lev : Str → Int) : List Str → Int
  | [] => 0
  | x :: r => if lev x = 0 then effL lev r else lev x
def spLawEff : Sp := fun vs H Q _ => ∃ (A : MAd) (bar : V) (h t : Addr) (lv : List (Key × V)) (x : Str) (l : List Str) (lev : Str → Int), vs = [.ref A.m, .str x] ∧ H A.m = some (.dK (mdK A bar h t)) ∧ H A.lv = some (.dK lv) ∧ Chain (hasK lv) x l ∧ (∀ y ∈ l, Sized y) ∧ l.length ≤ 1000 ∧ (∀ y ∈ l, valV lv (Sum.inr y) = some (.int (lev y))) ∧
  ∀ H', Same H H' → Q (.int (effL lev l)) H'
theorem ok_law_eff {f : Addr} (T : Txt P w K mg) (F : Stands K "_law_effective" "_law_effective" s__law_effective [] f) (c__law_chain : Callable P w K mg base 2 (He.ga K "_law_chain") ["_law_names", "_law_name"] [] spChain) : Callable P w K mg base 3 f ["_law_m", "_law_name"] [] spLawEff := by
  refine F.call0 sc__law_effective (fun vs H Q E h => ?_) (fun cdv A outer s H vs Q E hr h => ?_) (fun _ _ _ _ _ _ us hl => match us, hl with | [_, _], _ => rfl)
  · obtain ⟨A, bar, h, t, lv, x, l, lev, rfl, _⟩ := h; rfl
  obtain ⟨M, bar, h, t, lv, x, l, lev, rfl, h1, h2, hC, hz, hl, hlev, hQ⟩ := h
  refine ⟨_, (pss_cons (ps_for PassesOwn.never rfl (pi_list (pe_fn T.g__law_chain c__law_chain (hr.mono (by first | decide | exact Nat.le_refl _)) (by rfl) (pa_cons (pe_dget (hu_of hr) (pv 0) pe_str (fun _ _ => rfl)) (pa_cons (pv 1) pa_nil)))) (pg_name (i := 2) sc__law_effective.nd rfl (by first | exact Or.inl rfl | exact Or.inr rfl)) (pss_one (ps_if (pt_cmpR op_ne (pe_dget (hu_of hr) (pe_dget (hu_of hr) (pv 0) pe_str (fun _ _ => rfl)) (pv 2) (fun _ _ => rfl)) pe_int (nomark _)) (pss_one (ps_ret (pe_dget (hu_of hr) (pe_dget (hu_of hr) (pv 0) pe_str (fun _ _ => rfl)) (pv 2) (fun _ _ => rfl)))) pss_nil)))
      (pss_one (ps_ret pe_int))), ?_⟩
  walk_at "in"
  walk_at "go"
  intro H1 p s1 fp q1
  walk_at "go"
  refine for_it walk_list (fun i σ H' => Same H1 H' ∧ effL lev l = effL lev (l.drop i) ∧ ∃ o2, σ = [some (.ref M.m), some (.str x), o2]) ⟨Same.refl H1, rfl, _, rfl⟩ (fun i σ H' _ h => SqL.of (h.1 _ _ q1)) (fun i v σ H2 H3 hi hP hx => ?_) (fun σ H2 hP => ?_)
  · obtain ⟨rfl, hx⟩ := hx
    obtain ⟨s2, e2, o2, rfl⟩ := hP
    rw [List.getElem?_map] at hx
    obtain ⟨y, hy, rfl⟩ := Option.map_eq_some_iff.mp hx
    have hv := hlev y (List.mem_of_getElem? hy)
    have ed : l.drop i = y :: l.drop (i + 1) := by
      obtain ⟨h3, h4⟩ := List.getElem?_eq_some_iff.mp hy
      rw [← h4]; exact List.drop_eq_getElem_cons h3
    rw [ed] at e2
    have e3 : effL lev l = if lev y = 0 then effL lev (l.drop (i + 1)) else lev y := e2
    by_cases z : lev y = 0
    · rw [if_pos z] at e3
      walk_at "go"
      rfl
    · rw [if_neg z] at e3
      have hQ1 := hQ _ (s1.trans s2)
      rw [e3] at hQ1
      walk_at "go"
      exact hQ1
  · obtain ⟨s2, e2, o2, rfl⟩ := hP
    rw [List.length_map, List.drop_length] at e2
    have hQ1 := hQ _ (s1.trans s2)
    rw [e2] at hQ1
    walk_at "go"
    exact hQ1
end
end K17

set_option Elab.async false
set_option linter.all false
set_option maxRecDepth 100000
set_option maxHeartbeats 0

namespace K17
open PySem PySem.Spec PyProof.Rows L2 RC
section
variable {P : Program} {w : World} {K : PySem.W.Frag} {mg : Str → Option Value} {base : Heap}
/-! ### two things are the same -/
inductive SameD (K : PySem.W.Frag) (H : Hp) : Nat → V → V → Prop where
  | int (n : Nat) (i : Int) : SameD K H (n + 1) (.int i) (.int i)
  | bl (n : Nat) (b : Bool) : SameD K H (n + 1) (.bl b) (.bl b)
  | str (n : Nat) (x : Str) : SameD K H (n + 1) (.str x) (.str x)
  | non (n : Nat) : SameD K H (n + 1) .non .non
  | lst {n : Nat} {a b : Addr} {xs ys : List V} (ha : SqL K H a xs) (hb : SqL K H b ys) (hl : xs.length = ys.length) (hs : xs.length ≤ 1000000) (h : ∀ (i : Nat) (x y : V), xs[i]? = some x → ys[i]? = some y → SameD K H n x y) : SameD K H (n + 1) (.ref a) (.ref b)
theorem SameD.same {K : PySem.W.Frag} {H H' : Hp} (s : Same H H') : ∀ {n : Nat} {x y : V}, SameD K H n x y → SameD K H' n x y
  | _, _, _, .int n i => .int n i
  | _, _, _, .bl n i => .bl n i
  | _, _, _, .str n i => .str n i
  | _, _, _, .non n => .non n
  | _, _, _, .lst ha hb hl hs h => .lst (RW.sql_same ha s) (RW.sql_same hb s) hl hs fun i x y h1 h2 => (h i x y h1 h2).same s
def spSame (K : PySem.W.Frag) (n : Nat) : Sp := fun vs H Q _ => ∃ x y : V, vs = [x, y] ∧ SameD K H n x y ∧ ∀ H', Same H H' → Q (.bl true) H'
theorem ok_same {f : Addr} (T : Txt P w K mg) (F : Stands K "_law_same" "_law_same" s__law_same [] f) (e : f = He.ga K "_law_same") : ∀ n : Nat, Callable P w K mg base (n + 1) f ["_law_found", "_law_due"] [] (spSame K n)
  | 0 => by
    refine F.call0 sc__law_same (fun vs H Q E h => ?_) (fun cdv A outer s H vs Q E hr h => ?_) (fun _ _ _ _ _ _ us hl => match us, hl with | [_, _], _ => rfl)
    · obtain ⟨x, y, rfl, _⟩ := h; rfl
    · obtain ⟨x, y, rfl, h, _⟩ := h; cases h
  | n + 1 => by
    have c__law_same := ok_same T F e n
    rw [e] at c__law_same
    refine F.call0 sc__law_same (fun vs H Q E h => ?_) (fun cdv A outer s H vs Q E hr h => ?_) (fun _ _ _ _ _ _ us hl => match us, hl with | [_, _], _ => rfl)
    · obtain ⟨x, y, rfl, _⟩ := h; rfl
    obtain ⟨x, y, rfl, h, hQ⟩ := h
    refine ⟨_, (pss_cons (ps_if (pt_val (pe_callB call_isiT (by rfl) T.b_isinstance (by decide +kernel) (pa_cons (pv 1) (pa_cons (pe_tup (pa_cons (pe_bltn (v := .ty "list") (u := .type "list") (by rfl) T.b_list (by decide +kernel) rfl) (pa_cons (pe_bltn (v := .ty "tuple") (u := .type "tuple") (by rfl) T.b_tuple (by decide +kernel) rfl) pa_nil))) pa_nil)))) (pss_cons (ps_if (PW.pt (pw_or (pt_cmpR op_ne (pe_callB call_isi (by rfl) T.b_isinstance (by decide +kernel) (pa_cons (pv 0) (pa_cons (pe_bltn (v := .ty "list") (u := .type "list") (by rfl) T.b_list (by decide +kernel) rfl) pa_nil))) (pe_callB call_isi (by rfl) T.b_isinstance (by decide +kernel) (pa_cons (pv 1) (pa_cons (pe_bltn (v := .ty "list") (u := .type "list") (by rfl) T.b_list (by decide +kernel) rfl) pa_nil))) (nomark _)) (pw_or1 (pt_cmpR op_ne (pe_callB call_isi (by rfl) T.b_isinstance (by decide +kernel) (pa_cons (pv 0) (pa_cons (pe_bltn (v := .ty "tuple") (u := .type "tuple") (by rfl) T.b_tuple (by decide +kernel) rfl) pa_nil))) (pe_callB call_isi (by rfl) T.b_isinstance (by decide +kernel) (pa_cons (pv 1) (pa_cons (pe_bltn (v := .ty "tuple") (u := .type "tuple") (by rfl) T.b_tuple (by decide +kernel) rfl) pa_nil))) (nomark _))))) (pss_one (ps_ret pe_bl)) pss_nil)
      (pss_one (ps_ret (pe_and (pe_cmpR op_eq (pe_callB call_len (by rfl) T.b_len (by decide +kernel) (pa_cons (pv 0) pa_nil)) (pe_callB call_len (by rfl) T.b_len (by decide +kernel) (pa_cons (pv 1) pa_nil)) (nomark _)) (pe_one (pe_callB (cr_all rfl) (by rfl) T.b_all (by decide +kernel) (pa_cons (pe_lc (own := [("_law_one", 2), ("_law_two", 3)]) (by rfl) sc__law_same.nd (pi_zip (by rfl) T.b_zip (pa_cons (pv 0) (pa_cons (pv 1) pa_nil))) (blkOk_by (own := [("_law_one", 2), ("_law_two", 3)]) (N := nm__law_same) (sc := defScope s__law_same) (by decide +kernel)) (fun _ _ _ _ _ => (RG.pg_tupK (K := K) (n := 2) (by rfl) (pgs_cons (pg_name (i := 2) sc__law_same.nd rfl (by first | exact Or.inl rfl | exact Or.inr rfl)) (pgs_cons (pg_name (i := 3) sc__law_same.nd rfl (by first | exact Or.inl rfl | exact Or.inr rfl)) pgs_nil)))) (fun _ _ _ _ _ => pts_nil) (fun _ _ _ _ _ => (pe_fn T.g__law_same c__law_same (hr.mono (by first | decide | exact Nat.le_refl _)) (by rfl) (pa_cons (pv 2) (pa_cons (pv 3) pa_nil))))) pa_nil))))))) pss_nil)
      (pss_cons (ps_if (pt_val (pe_callB call_isiT (by rfl) T.b_isinstance (by decide +kernel) (pa_cons (pv 1) (pa_cons (pe_tup (pa_cons (pe_bltn (v := .ty "bool") (u := .type "bool") (by rfl) T.b_bool (by decide +kernel) rfl) (pa_cons (pe_bltn (v := .ty "int") (u := .type "int") (by rfl) T.b_int (by decide +kernel) rfl) pa_nil))) pa_nil)))) (pss_one (ps_ret (pe_and (pe_callB call_isi (by rfl) T.b_isinstance (by decide +kernel) (pa_cons (pv 0) (pa_cons (pe_bltn (v := .ty "int") (u := .type "int") (by rfl) T.b_int (by decide +kernel) rfl) pa_nil))) (pe_and (pe_cmpR op_eq (pe_callB call_isi (by rfl) T.b_isinstance (by decide +kernel) (pa_cons (pv 0) (pa_cons (pe_bltn (v := .ty "bool") (u := .type "bool") (by rfl) T.b_bool (by decide +kernel) rfl) pa_nil))) (pe_callB call_isi (by rfl) T.b_isinstance (by decide +kernel) (pa_cons (pv 1) (pa_cons (pe_bltn (v := .ty "bool") (u := .type "bool") (by rfl) T.b_bool (by decide +kernel) rfl) pa_nil))) (nomark _)) (pe_one (pe_cmpR op_eq (pv 0) (pv 1) (nomark _))))))) pss_nil)
      (pss_one (ps_ret (pe_and (pe_cmpR op_isBl (pe_callB call_isiT (by rfl) T.b_isinstance (by decide +kernel) (pa_cons (pv 0) (pa_cons (pe_tup (pa_cons (pe_bltn (v := .ty "bool") (u := .type "bool") (by rfl) T.b_bool (by decide +kernel) rfl) (pa_cons (pe_bltn (v := .ty "int") (u := .type "int") (by rfl) T.b_int (by decide +kernel) rfl) (pa_cons (pe_bltn (v := .ty "list") (u := .type "list") (by rfl) T.b_list (by decide +kernel) rfl) (pa_cons (pe_bltn (v := .ty "tuple") (u := .type "tuple") (by rfl) T.b_tuple (by decide +kernel) rfl) pa_nil))))) pa_nil))) pe_bl (nomark _)) (pe_one (pe_cmpR op_eq (pv 0) (pv 1) (nomark _)))))))), ?_⟩
    walk_at "in"
    cases h with
    | int _ i =>
      walk_at "gi"
      rw [show decide (V.int i = V.int i) = true from decide_eq_true rfl]
      exact hQ _ (by walk_at "sm")
    | bl _ b =>
      walk_at "gi"
      rw [show decide (V.bl b = V.bl b) = true from decide_eq_true rfl]
      exact hQ _ (by walk_at "sm")
    | str _ x =>
      walk_at "gi"
      rw [show decide (V.str x = V.str x) = true from decide_eq_true rfl]
      exact hQ _ (by walk_at "sm")
    | non _ =>
      walk_at "gi"
      exact hQ _ (by walk_at "sm")
    | @lst _ a b xs ys ha hb hl hs h =>
      walk_at "gi"
      have el : decide (V.int xs.length = V.int ys.length) = true := by rw [hl]; exact decide_eq_true rfl
      walk_at "gi"
      rename_i T0 fT0 D fD nD
      have fD' : upd H T0 (.tup [.ty "list", .ty "tuple"]) D = none := by walk_at "no"
      have s0 : Same H (upd H T0 (.tup [.ty "list", .ty "tuple"])) := by walk_at "sm"
      generalize upd H T0 (.tup [.ty "list", .ty "tuple"]) = H1 at fD' s0
      refine lc_it (walk_zip (xs := xs) (ys := ys) (n := xs.length) (by omega)) (fun i H' => Same H1 H' ∧ H' D = some (.lst ((List.replicate i true).map V.bl))) ⟨by walk_at "sm", upd_same⟩ (fun i H' _ h => ⟨RW.sql_same ha (s0.trans h.1), RW.sql_same hb (s0.trans h.1)⟩) (fun i v H2 H3 hi hP hv => ?_) (fun H2 hP => ?_)
      · obtain ⟨T, x, y, rfl, fT, rfl, hx, hy⟩ := hv
        obtain ⟨s2, d2⟩ := hP
        have s3 : Same H (upd H2 T (.tup [x, y])) := by walk_at "sm"
        have hd := (h i x y hx hy).same s3
        have d3 : upd H2 T (.tup [x, y]) D = some (.lst ((List.replicate i true).map V.bl)) := by walk_at "hp"
        have q3 : upd H2 T (.tup [x, y]) T = some (.tup [x, y]) := by walk_at "hp"
        have s23 : Same H1 (upd H2 T (.tup [x, y])) := by walk_at "sm"
        clear fT
        generalize upd H2 T (.tup [x, y]) = H3 at s3 hd d3 q3 s23
        walk_at "go"
        intro H4 s4
        walk_at "go"
        rw [upd_same, List.replicate_succ', List.map_append]; rfl
      · obtain ⟨s2, d2⟩ := hP
        refine ⟨D, List.replicate xs.length true, rfl, SqL.of d2, ?_⟩
        rw [show (List.replicate xs.length true).all id = true from by simp]
        exact hQ _ (s0.trans s2)
def flatV : V → Bool
  | .int _ => true
  | .bl _ => true
  | .str _ => true
  | .non => true
  | _ => false
theorem SameD.flat {K : PySem.W.Frag} {H : Hp} {n : Nat} {x : V} (h : flatV x = true) : SameD K H (n + 1) x x := by
  cases x with
  | int i => exact .int n i
  | bl i => exact .bl n i
  | str i => exact .str n i
  | non => exact .non n
  | _ => cases h
theorem SameD.lists {K : PySem.W.Frag} {H : Hp} {n : Nat} {a b : Addr} {xs : List V} (ha : SqL K H a xs) (hb : SqL K H b xs) (hs : xs.length ≤ 1000000) (hf : xs.all flatV = true) : SameD K H (n + 2) (.ref a) (.ref b) :=
  .lst ha hb rfl hs fun i x y h1 h2 => by
    rw [h1] at h2
    cases h2
    exact .flat (List.all_eq_true.mp hf x (List.mem_of_getElem? h1))
end
end K17

set_option Elab.async false
set_option linter.all false
set_option maxRecDepth 100000
set_option maxHeartbeats 0
namespace K17
open PySem PySem.Spec PyProof.Rows L2 RC
section
variable {P : Program} {w : World} {K : PySem.W.Frag} {mg : Str → Option Value} {base : Heap}
/-! ### the plain law of levels in force -/
theorem lawPar_parA {has : Str → Bool} {es : Es} {rt : Addr} {t : Str} (hh : ∀ x, has x = ((kn es rt).lookup x).isSome) (g : Good t) : (kn es rt).lookup (lawPar has t) = some (parA es rt t) := by
  unfold lawPar parA
  have key : ∀ k, k ≤ (Txt.split t ".").length → (kn es rt).lookup (lawIx has (Txt.split t ".") k) = some ((parIx es (Txt.split t ".") k).getD rt) := by
    intro k
    induction k with
    | zero => intro _; show (("", rt) :: es : Es).lookup ("" : Str) = some rt; rw [List.lookup_cons, beq_self_eq_true]
    | succ k ih =>
      intro hk
      have hne := pre_ne g k hk
      have e1 : (kn es rt).lookup (pre (Txt.split t ".") (k + 1)) = es.lookup (pre (Txt.split t ".") (k + 1)) := kn_lookup hne
      show (kn es rt).lookup (if has (pre (Txt.split t ".") (k + 1)) = true then _ else _) = some ((match es.lookup (pre (Txt.split t ".") (k + 1)) with | some a => some a | none => parIx es (Txt.split t ".") k).getD rt)
      rw [hh, e1]
      cases e : es.lookup (pre (Txt.split t ".") (k + 1)) with
      | some a => rw [if_pos (show (some a).isSome = true from rfl), e1, e]; rfl
      | none => rw [if_neg (by simp)]; exact ih (Nat.le_of_succ_le hk)
  exact key _ (Nat.sub_le _ _)
theorem lawIx_cases (has : Str → Bool) (parts : List Str) : ∀ k, lawIx has parts k = "" ∨ ∃ j, 1 ≤ j ∧ j ≤ k ∧ lawIx has parts k = pre parts j
  | 0 => .inl rfl
  | k + 1 => by
    show (if has (pre parts (k + 1)) = true then pre parts (k + 1) else lawIx has parts k) = "" ∨ ∃ j, 1 ≤ j ∧ j ≤ k + 1 ∧ (if has (pre parts (k + 1)) = true then pre parts (k + 1) else lawIx has parts k) = pre parts j
    by_cases c : has (pre parts (k + 1)) = true
    · rw [if_pos c]; exact .inr ⟨k + 1, by omega, Nat.le_refl _, rfl⟩
    · rw [if_neg c]
      rcases lawIx_cases has parts k with h | ⟨j, h1, h2, h3⟩
      · exact .inl h
      · exact .inr ⟨j, h1, by omega, h3⟩
def dpt (t : Str) : Nat := if t = "" then 0 else (Txt.split t ".").length
theorem dpt_join {qs : List Str} (h : ∀ p ∈ qs, p ∈ partsG) (hp : 1 ≤ qs.length) : dpt (Txt.join "." qs) ≤ qs.length := by
  unfold dpt
  rw [split_in6 h hp]
  split <;> omega
theorem sized_nil : Sized "" := ⟨by decide, by decide +kernel, by decide +kernel⟩
def levOf (es : Es) (rt : Addr) (g : Addr → LG) (y : Str) : Int := match (kn es rt).lookup y with
  | some a => (g a).lev
  | none => 0
section
variable {H : Hp} {y dy lm rt : Addr} {fs : List (Str × V)} {es : Es} {g : Addr → LG} {has : Str → Bool}
theorem Known.par_mem (N : Known K H y dy lm rt fs es g) (hh : ∀ x, has x = ((kn es rt).lookup x).isSome) {e : Str × Addr} (he : e ∈ es) : (lawPar has e.1, parA es rt e.1) ∈ kn es rt ∧ dpt (lawPar has e.1) < dpt e.1 := by
  refine ⟨lookup_mem (lawPar_parA hh (N.good e he)), ?_⟩
  obtain ⟨qs, hq, z⟩ := N.nm e he
  have hs := split_in6 hq.in6 hq.pos
  have d1 : dpt e.1 = qs.length := by
    unfold dpt
    rw [if_neg (N.ne e he).1, z, hs]
  rw [d1]
  unfold lawPar
  rw [z, hs]
  have hp := hq.pos
  rcases lawIx_cases has qs (qs.length - 1) with h | ⟨j, h1, h2, h3⟩
  · rw [h]; show (if ("" : Str) = "" then 0 else _) < _; rw [if_pos rfl]; omega
  · rw [h3]
    unfold pre
    refine Nat.lt_of_le_of_lt (dpt_join (fun p hp => hq.in6 p (List.mem_of_mem_take hp)) ?_) ?_
    · rw [List.length_take]; omega
    · rw [List.length_take]; omega
theorem Known.levOf (N : Known K H y dy lm rt fs es g) {e : Str × Addr} (he : e ∈ kn es rt) : levOf es rt g e.1 = (g e.2).lev := by
  unfold K17.levOf
  rw [lookup_nd he N.nd]
theorem Known.sized (N : Known K H y dy lm rt fs es g) {e : Str × Addr} (he : e ∈ kn es rt) : Sized e.1 := by
  rcases List.mem_cons.mp he with rfl | h
  · exact sized_nil
  · exact N.tr.sz e h
theorem Known.dpt5 (N : Known K H y dy lm rt fs es g) {e : Str × Addr} (he : e ∈ kn es rt) : dpt e.1 ≤ 5 := by
  rcases List.mem_cons.mp he with rfl | h
  · show (if ("" : Str) = "" then 0 else _) ≤ 5; rw [if_pos rfl]; omega
  · obtain ⟨qs, hq, z⟩ := N.nm e h
    rw [z]
    exact Nat.le_trans (dpt_join hq.in6 hq.pos) hq.few
theorem Known.chain (N : Known K H y dy lm rt fs es g) (hh : ∀ x, has x = ((kn es rt).lookup x).isSome) : ∀ (m : Nat) (e : Str × Addr), e ∈ kn es rt → dpt e.1 ≤ m →
    ∃ (l : List Str) (n : Nat), Chain has e.1 l ∧ l.length ≤ m + 1 ∧ (∀ x ∈ l, ∃ e' ∈ kn es rt, e'.1 = x) ∧ EffN es rt g n e.2 (effL (K17.levOf es rt g) l) := by
  intro m
  induction m with
  | zero =>
    intro e he hd
    rcases List.mem_cons.mp he with rfl | h
    · refine ⟨[""], 0, .top, by simp, fun x hx => ⟨_, he, (List.mem_singleton.mp hx).symm⟩, ?_⟩
      have hl := N.levOf he
      show EffN es rt g 0 rt (if K17.levOf es rt g "" = 0 then 0 else K17.levOf es rt g "")
      rw [hl]
      by_cases c : (g rt).lev = 0
      · rw [if_pos c]; exact .root c
      · rw [if_neg c]; exact .here c
    · have := (N.par_mem hh h).2; omega
  | succ m ih =>
    intro e he hd
    rcases List.mem_cons.mp he with rfl | h
    · obtain ⟨l, n, a, b, c, d⟩ := ih _ he (by show (if ("" : Str) = "" then 0 else _) ≤ m; rw [if_pos rfl]; omega)
      exact ⟨l, n, a, by omega, c, d⟩
    · obtain ⟨p1, p2⟩ := N.par_mem hh h
      obtain ⟨l, n, a, b, c, d⟩ := ih _ p1 (by show dpt (lawPar has e.1) ≤ m; omega)
      have hl := N.levOf he
      by_cases z : (g e.2).lev = 0
      · refine ⟨e.1 :: l, n + 1, .up (N.ne e h).1 a, by simp; omega, fun x hx => ?_, ?_⟩
        · rcases List.mem_cons.mp hx with rfl | hx
          · exact ⟨e, he, rfl⟩
          · exact c x hx
        · show EffN es rt g (n + 1) e.2 (if K17.levOf es rt g e.1 = 0 then _ else K17.levOf es rt g e.1)
          rw [hl, if_pos z]
          exact .up (t := e.1) h z d
      · refine ⟨e.1 :: l, 0, .up (N.ne e h).1 a, by simp; omega, fun x hx => ?_, ?_⟩
        · rcases List.mem_cons.mp hx with rfl | hx
          · exact ⟨e, he, rfl⟩
          · exact c x hx
        · show EffN es rt g 0 e.2 (if K17.levOf es rt g e.1 = 0 then _ else K17.levOf es rt g e.1)
          rw [hl, if_neg z]
          exact .here z
end
end
end K17

set_option Elab.async false
set_option linter.all false
set_option maxRecDepth 100000
set_option maxHeartbeats 0

namespace K17
open PySem PySem.Spec PyProof.Rows L2 RC
section
variable {P : Program} {w : World} {K : PySem.W.Frag} {mg : Str → Option Value} {base : Heap}
/-! ### bars, disabled -/
def spBar (K : PySem.W.Frag) : Sp := fun vs H Q _ => ∃ (y dy : Addr) (fs : List (Str × V)) (b : Int), vs = [.ref y] ∧ H y = some (.ins (CY K) dy fs) ∧ fs.lookup ("bar_level" : Str) = some (.int b) ∧ Q (.int b) H
theorem ok_bar {f : Addr} (T : Txt P w K mg) (F : Stands K "bar" "Yard.bar" s_Yard_bar [] f) : Callable P w K mg base 1 f ["self"] [] (spBar K) := by
  refine F.call0 sc_Yard_bar (fun vs H Q E h => ?_) (fun cdv A outer s H vs Q E hr h => ?_) (fun _ _ _ _ _ _ us hl => match us, hl with | [_], _ => rfl)
  · obtain ⟨y, dy, fs, b, rfl, _⟩ := h; rfl
  obtain ⟨y, dy, fs, b, rfl, hy, hb, hQ⟩ := h
  refine ⟨_, (pss_one (ps_ret (pe_fld (pv 0) rfl))), ?_⟩
  walk_at "in"
  walk_at "go"
  exact hQ
def spDisable (K : PySem.W.Frag) : Sp := fun vs H Q _ => ∃ (y dy nu : Addr) (fs : List (Str × V)) (nums : List (Key × V)) (v : LvIn) (r : Int), vs = [.ref y, v.v] ∧ H y = some (.ins (CY K) dy fs) ∧ fs.lookup ("level_of" : Str) = none ∧
  fs.lookup ("numbers_of" : Str) = some (.ref nu) ∧ H nu = some (.dK nums) ∧ lvNum nums v = some (.int r) ∧ fs.length < 1000 ∧ Q .non (upd H y (.ins (CY K) dy (putF "bar_level" (.int r) fs)))
theorem body_disable (T : Txt P w K mg) {f : Addr} {cdv : Value} {A : Around} {outer : List Env} {st0 : Shared} {E : XK} {vs : List V} {H : Hp} {Q : VK} (hr : Room 2 (A.deeper (envOfC "Yard.disable" (defScope s_Yard_disable) st0.heap.objs.size f cdv))) (h : spDisable K vs H Q E)
    (c_Yard_level_of : Callable P w K mg base 2 (He.ma K (He.ga K "Yard") "level_of") ["self", "level"] [] (spLevelOf K)) :
    ∃ t, PSs (cxOf CX0 P w K mg base nm_Yard_disable "Yard.disable" (defScope s_Yard_disable) f cdv A outer st0 H E).nox (defBody s_Yard_disable) t ∧ t { nx := fun _ H' => Q .non H', rt := Q } (start nm_Yard_disable vs) H := by
  obtain ⟨y, dy, nu, fs, nums, v, r, rfl, hy, hlo, hnu, hnums, hv, hlen, hQ⟩ := h
  refine ⟨_, (pss_one (ps_fld (pv 0) (pe_mt T.c_Yard T.m_Yard_level_of c_Yard_level_of (hr.mono (by first | decide | exact Nat.le_refl _)) (pv 0) (pa_cons (pv 1) pa_nil)) rfl)), ?_⟩
  walk_at "in"
  walk_at "go"
  exact hQ
theorem ok_disable {f : Addr} (T : Txt P w K mg) (F : Stands K "disable" "Yard.disable" s_Yard_disable [.int 50] f) (c_Yard_level_of : Callable P w K mg base 2 (He.ma K (He.ga K "Yard") "level_of") ["self", "level"] [] (spLevelOf K)) : Callable P w K mg base 3 f ["self", "level"] [] (spDisable K) := by
  refine F.call sc_Yard_disable 2 1 (fun vs H Q E h => ?_) (fun cdv A outer s H vs Q E hr h => ?_) (fun z => nomatch z) fun _ => ⟨rfl, fun _ _ _ _ _ _ _ us its hl hi => match us, hl, its, hi with | [_, _], _, [_], _ => ⟨_, rfl, rfl⟩⟩
  · obtain ⟨y, dy, nu, fs, nums, v, r, rfl, _⟩ := h; rfl
  exact body_disable T hr h c_Yard_level_of
theorem ok_disable_d1 {f : Addr} (T : Txt P w K mg) (F : Stands K "disable" "Yard.disable" s_Yard_disable [.int 50] f) (c_Yard_level_of : Callable P w K mg base 2 (He.ma K (He.ga K "Yard") "level_of") ["self", "level"] [] (spLevelOf K)) : Callable P w K mg base 3 f ["self", "level"] [.int 50] (spDisable K) := by
  refine F.call sc_Yard_disable 1 0 (fun vs H Q E h => ?_) (fun cdv A outer s H vs Q E hr h => ?_) (fun z => nomatch z) fun _ => ⟨rfl, fun _ _ _ _ _ _ _ us its hl hi => match us, hl, its, hi with | [_], _, [_], _ => ⟨_, rfl, rfl⟩⟩
  · obtain ⟨y, dy, nu, fs, nums, v, r, rfl, _⟩ := h; rfl
  exact body_disable T hr h c_Yard_level_of
def spSetDis (K : PySem.W.Frag) : Sp := fun vs H Q _ => ∃ (a y : Addr) (q : LG) (nm : Str) (par : V) (b : Bool), vs = [.ref a, .bl b] ∧ H a = some (.ins (CL K) q.d (lG q y nm par)) ∧ Q .non (upd H a (.ins (CL K) q.d (lG { q with dis := b } y nm par)))
theorem ok_setDis {f : Addr} (T : Txt P w K mg) (F : Stands K "setDisabled" "Logger.setDisabled" s_Logger_setDisabled [] f) : Callable P w K mg base 1 f ["self", "flag"] [] (spSetDis K) := by
  refine F.call0 sc_Logger_setDisabled (fun vs H Q E h => ?_) (fun cdv A outer s H vs Q E hr h => ?_) (fun _ _ _ _ _ _ us hl => match us, hl with | [_, _], _ => rfl)
  · obtain ⟨a, y, q, nm, par, b, rfl, _⟩ := h; rfl
  obtain ⟨a, y, q, nm, par, b, rfl, ha, hQ⟩ := h
  refine ⟨_, (pss_one (ps_fld (pv 0) (pv 1) rfl)), ?_⟩
  walk_at "in"
  walk_at "go"
  exact hQ
end
end K17

set_option Elab.async false
set_option linter.all false
set_option maxRecDepth 100000
set_option maxHeartbeats 0
namespace K17
open PySem PySem.Spec PyProof.Rows L2 RC
section
variable {P : Program} {w : World} {K : PySem.W.Frag} {mg : Str → Option Value} {base : Heap}
/-! ### one yard and the law's own of it -/
def lvK (es : Es) (rt : Addr) (g : Addr → LG) : List (Key × V) := mapK (fun a => .int (g a).lev) (kn es rt)
def offK (es : Es) (rt : Addr) (g : Addr → LG) : List (Key × V) := mapK (fun a => .bl (g a).dis) (kn es rt)
/-- where the things of a yard lie -/
structure YA where
  (y dy lm rt nu k : Addr)
  (A : MAd)
  (h t : Addr)
def YA.D (Y : YA) : List Addr := [Y.lm, Y.k, Y.nu, Y.A.m, Y.A.lv, Y.A.pr, Y.A.of, Y.A.hd, Y.A.sv]
/-- what a yard's own fields say -/
structure FsOk (Y : YA) (fs : List (Str × V)) (bar : Int) : Prop where
  bar_ : fs.lookup ("bar_level" : Str) = some (.int bar)
  nu_ : fs.lookup ("numbers_of" : Str) = some (.ref Y.nu)
  root_ : fs.lookup ("root" : Str) = some (.ref Y.rt)
  map_ : fs.lookup ("logger_map" : Str) = some (.ref Y.lm)
  gl_ : fs.lookup ("getLogger" : Str) = none
  lo_ : fs.lookup ("level_of" : Str) = none
  di_ : fs.lookup ("disable" : Str) = none
  ba_ : fs.lookup ("bar" : Str) = none
  len_ : fs.length ≤ 12
structure FsF (Y : YA) (F : Int → List (Str × V)) : Prop where
  ok : ∀ b, FsOk Y (F b) b
  put : ∀ b b', putF "bar_level" (.int b') (F b) = F b'
structure YS (K : PySem.W.Frag) (H : Hp) (Y : YA) (F : Int → List (Str × V)) (bar : Int) (nums : List (Key × V)) (es : Es) (g : Addr → LG) : Prop where
  kn_ : Known K H Y.y Y.dy Y.lm Y.rt (F bar) es g
  fo : FsF Y F
  kd : H Y.k = some (.dK (lmK (kn es Y.rt)))
  nu_ : H Y.nu = some (.dK nums)
  m_ : H Y.A.m = some (.dK (mdK Y.A (.int bar) Y.h Y.t))
  lv_ : H Y.A.lv = some (.dK (lvK es Y.rt g))
  of_ : H Y.A.of = some (.dK (offK es Y.rt g))
  ds : ∃ pr hd sv, H Y.A.pr = some (.dK pr) ∧ H Y.A.hd = some (.dK hd) ∧ H Y.A.sv = some (.dK sv) ∧ List.length pr ≤ es.length + 1 ∧ List.length hd ≤ es.length + 1 ∧ List.length sv ≤ es.length + 1
  dn : Y.D.Nodup
/-- what is changed at a yard leaves all else -/
def Ch (K : PySem.W.Frag) (Y : YA) (H H' : Hp) : Prop := ∀ b o, H b = some o → b ≠ Y.y → b ∉ Y.D → (∀ q nm par, o ≠ .ins (CL K) q.d (lG q Y.y nm par)) → H' b = some o
theorem ins_dk {H : Hp} {a b C d : Addr} {fs : List (Str × V)} {kvs : List (Key × V)} (e : H a = some (.ins C d fs)) (e' : H b = some (.dK kvs)) : a ≠ b := fun z => by rw [z, e'] at e; cases e
theorem old_lst {H H' : Hp} {s l : Addr} {n : Nat} (st : Stm H s l n) (o : Old s l H H') : ∀ b u, (∀ xs, u ≠ .lst xs) → H b = some u → H' b = some u := fun b u hu e => by
  obtain ⟨_, _, _, _, _, g1, g2, _⟩ := st
  exact o b u (fun z => by rw [z, g1] at e; exact hu _ (Option.some.inj e).symm) (fun z => by rw [z, g2] at e; exact hu _ (Option.some.inj e).symm) e
section
variable {H H' H2 : Hp} {Y Z : YA} {bar bar' : Int} {F F' : Int → List (Str × V)} {nums nums' : List (Key × V)} {es es' : Es} {g g' : Addr → LG} {s l : Addr} {n m : Nat}
theorem Ch.refl (H : Hp) : Ch K Y H H := fun _ _ e _ _ _ => e
theorem Ch.trans (a : Ch K Y H H') (b : Ch K Y H' H2) : Ch K Y H H2 := fun c o e h1 h2 h3 => b c o (a c o e h1 h2 h3) h1 h2 h3
theorem Ch.same (a : Same H H') : Ch K Y H H' := fun b o e _ _ _ => a _ _ e
theorem lG_yard {q q' : LG} {y y' : Addr} {n n' : Str} {p p' : V} (h : lG q y n p = lG q' y' n' p') : y = y' := by
  have e := congrArg (fun l : List (Str × V) => l.lookup ("yard" : Str)) h
  exact V.ref.inj (Option.some.inj e)
/-- all but lists stays -/
theorem YS.keep (S : YS K H Y F bar nums es g) (f : ∀ b u, (∀ xs, u ≠ .lst xs) → H b = some u → H' b = some u) : YS K H' Y F bar nums es g := by
  have d : ∀ b kvs, H b = some (.dK kvs) → H' b = some (.dK kvs) := fun b kvs e => f _ _ (fun _ z => nomatch z) e
  obtain ⟨pr, hd, sv, d1, d2, d3, d4⟩ := S.ds
  exact ⟨S.kn_.frame (d _ _ S.kn_.tr.lmo) (fun b C dd fs e => f _ _ (fun _ z => nomatch z) e), S.fo, d _ _ S.kd, d _ _ S.nu_, d _ _ S.m_, d _ _ S.lv_, d _ _ S.of_, ⟨pr, hd, sv, d _ _ d1, d _ _ d2, d _ _ d3, d4⟩, S.dn⟩
theorem YS.old (S : YS K H Y F bar nums es g) (st : Stm H s l n) (o : Old s l H H') : YS K H' Y F bar nums es g := S.keep (old_lst st o)
theorem YS.same (S : YS K H Y F bar nums es g) (o : Same H H') : YS K H' Y F bar nums es g := S.keep fun b u _ e => o b u e
theorem YS.live (S : YS K H Y F bar nums es g) {b : Addr} (h : b ∈ Y.D) : ∃ kvs, H b = some (.dK kvs) := by
  have h : b ∈ ([Y.lm, Y.k, Y.nu, Y.A.m, Y.A.lv, Y.A.pr, Y.A.of, Y.A.hd, Y.A.sv] : List Addr) := h
  obtain ⟨pr, hd, sv, d1, d2, d3, _⟩ := S.ds
  simp only [List.mem_cons, List.not_mem_nil, or_false] at h
  rcases h with rfl | rfl | rfl | rfl | rfl | rfl | rfl | rfl | rfl
  · exact ⟨_, S.kn_.tr.lmo⟩
  · exact ⟨_, S.kd⟩
  · exact ⟨_, S.nu_⟩
  · exact ⟨_, S.m_⟩
  · exact ⟨_, S.lv_⟩
  · exact ⟨_, d1⟩
  · exact ⟨_, S.of_⟩
  · exact ⟨_, d2⟩
  · exact ⟨_, d3⟩
/-- the other yard stays -/
theorem YS.other (S : YS K H Y F bar nums es g) (O : YS K H Z F' bar' nums' es' g') (ny : Y.y ≠ Z.y) (dd : ∀ b ∈ Z.D, b ∉ Y.D) (c : Ch K Y H H') : YS K H' Z F' bar' nums' es' g' := by
  have noD : ∀ b C d f, H b = some (.ins C d f) → b ∉ Y.D := fun b C d f e z => by
    obtain ⟨kvs, e2⟩ := S.live z
    rw [e2] at e; cases e
  have d : ∀ b kvs, b ∈ Z.D → H b = some (.dK kvs) → H' b = some (.dK kvs) := fun b kvs h e => c b _ e (Ne.symm (ins_dk S.kn_.tr.yd e)) (dd b h) (fun _ _ _ z => nomatch z)
  have i1 : Z.lm ∈ Z.D := by simp [YA.D]
  have i2 : Z.k ∈ Z.D := by simp [YA.D]
  have i3 : Z.nu ∈ Z.D := by simp [YA.D]
  have i4 : Z.A.m ∈ Z.D := by simp [YA.D]
  have i5 : Z.A.lv ∈ Z.D := by simp [YA.D]
  have i6 : Z.A.pr ∈ Z.D := by simp [YA.D]
  have i7 : Z.A.of ∈ Z.D := by simp [YA.D]
  have i8 : Z.A.hd ∈ Z.D := by simp [YA.D]
  have i9 : Z.A.sv ∈ Z.D := by simp [YA.D]
  obtain ⟨pr, hd, sv, d1, d2, d3, d4⟩ := O.ds
  have N := O.kn_
  have lg : ∀ e ∈ kn es' Z.rt, H' e.2 = H e.2 := fun e he => by
    have h := N.at_ he
    rw [h]
    refine c _ _ h (fun z => ?_) (noD _ _ _ _ h) (fun q nm par z => ?_)
    · have a := S.kn_.tr.yd
      rw [← z, h] at a
      have r := S.kn_.tr.map
      rw [← (HO.ins.inj (Option.some.inj a)).2.2] at r
      exact absurd r (by show (none : Option V) ≠ _; exact fun z => nomatch z)
    · exact ny (lG_yard (HO.ins.inj z).2.2).symm
  have hy' : H' Z.y = some (.ins (CY K) Z.dy (F' bar')) := by
    refine c _ _ N.tr.yd (Ne.symm ny) (noD _ _ _ _ N.tr.yd) (fun q nm par z => ?_)
    have r := N.tr.map
    rw [(HO.ins.inj z).2.2] at r
    exact absurd r (by show (none : Option V) ≠ _; exact fun z => nomatch z)
  refine ⟨⟨⟨hy', N.tr.root, N.tr.map, N.tr.ms, d _ _ i1 N.tr.lmo, N.tr.nd, N.tr.sz, fun e he => ?_⟩, ?_, N.nm, N.few⟩, O.fo, d _ _ i2 O.kd, d _ _ i3 O.nu_, d _ _ i4 O.m_, d _ _ i5 O.lv_, d _ _ i7 O.of_, ⟨pr, hd, sv, d _ _ i6 d1, d _ _ i8 d2, d _ _ i9 d3, d4⟩, O.dn⟩
  · rw [lg e (List.mem_cons_of_mem _ he)]; exact N.tr.lg e he
  · have h := lg (("" : Str), Z.rt) List.mem_cons_self
    show H' Z.rt = _
    rw [h]; exact N.rt_
theorem Stm.ch (st : Stm H s l n) (S : YS K H Y F bar nums es g) (c : Ch K Y H H') : Stm H' s l n := by
  obtain ⟨ne, ns, x, cc, d, g1, g2, g3⟩ := st
  have f : ∀ b xs, H b = some (.lst xs) → H' b = some (.lst xs) := fun b xs e => c b _ e (fun z => by rw [z, S.kn_.tr.yd] at e; cases e) (fun z => by obtain ⟨kvs, e2⟩ := S.live z; rw [e2] at e; cases e) (fun _ _ _ z => nomatch z)
  exact ⟨ne, ns, x, cc, d, f _ _ g1, f _ _ g2, g3⟩
/-- one dict is changed -/
theorem Ch.put {b : Addr} {o : HO} (h : b ∈ Y.D) : Ch K Y H (upd H b o) := fun c u e h1 h2 h3 => by rw [upd_ne (fun z => h2 (by rw [z]; exact h))]; exact e
theorem Ch.lgr {b : Addr} {q : LG} {nm : Str} {par : V} {o : HO} (h : H b = some (.ins (CL K) q.d (lG q Y.y nm par))) : Ch K Y H (upd H b o) := fun c u e h1 h2 h3 => by
  rw [upd_ne (fun z => by rw [z, h] at e; exact h3 _ _ _ (Option.some.inj e).symm)]; exact e
theorem Ch.yrd {o : HO} : Ch K Y H (upd H Y.y o) := fun c u e h1 h2 h3 => by rw [upd_ne h1]; exact e
end
end
end K17

set_option Elab.async false
set_option linter.all false
set_option maxRecDepth 100000
set_option maxHeartbeats 0
namespace K17
open PySem PySem.Spec PyProof.Rows L2 RC
section
variable {P : Program} {w : World} {K : PySem.W.Frag} {mg : Str → Option Value} {base : Heap}
/-! ### what is done at a yard -/
section
variable {H H' H2 : Hp} {Y Z : YA} {bar bar' : Int} {F F' : Int → List (Str × V)} {nums nums' : List (Key × V)} {es es' : Es} {g g' : Addr → LG} {s l : Addr} {n m : Nat}
theorem YS.nd (S : YS K H Y F bar nums es g) : (Y.lm ≠ Y.k ∧ Y.lm ≠ Y.nu ∧ Y.lm ≠ Y.A.m ∧ Y.lm ≠ Y.A.lv ∧ Y.lm ≠ Y.A.pr ∧ Y.lm ≠ Y.A.of ∧ Y.lm ≠ Y.A.hd ∧ Y.lm ≠ Y.A.sv) ∧ (Y.k ≠ Y.nu ∧ Y.k ≠ Y.A.m ∧ Y.k ≠ Y.A.lv ∧ Y.k ≠ Y.A.pr ∧ Y.k ≠ Y.A.of ∧ Y.k ≠ Y.A.hd ∧ Y.k ≠ Y.A.sv) ∧
    (Y.nu ≠ Y.A.m ∧ Y.nu ≠ Y.A.lv ∧ Y.nu ≠ Y.A.pr ∧ Y.nu ≠ Y.A.of ∧ Y.nu ≠ Y.A.hd ∧ Y.nu ≠ Y.A.sv) ∧ (Y.A.m ≠ Y.A.lv ∧ Y.A.m ≠ Y.A.pr ∧ Y.A.m ≠ Y.A.of ∧ Y.A.m ≠ Y.A.hd ∧ Y.A.m ≠ Y.A.sv) ∧ (Y.A.lv ≠ Y.A.pr ∧ Y.A.lv ≠ Y.A.of ∧ Y.A.lv ≠ Y.A.hd ∧ Y.A.lv ≠ Y.A.sv) ∧ (Y.A.pr ≠ Y.A.of ∧ Y.A.pr ≠ Y.A.hd ∧ Y.A.pr ≠ Y.A.sv) ∧ (Y.A.of ≠ Y.A.hd ∧ Y.A.of ≠ Y.A.sv) ∧ Y.A.hd ≠ Y.A.sv := by
  have dn : ([Y.lm, Y.k, Y.nu, Y.A.m, Y.A.lv, Y.A.pr, Y.A.of, Y.A.hd, Y.A.sv] : List Addr).Nodup := S.dn
  simp only [List.nodup_cons, List.mem_cons, List.not_mem_nil, not_or, or_false, not_false_iff, List.nodup_nil, and_true] at dn
  exact dn
/-- a dict of the law's own is changed, and a logger -/
theorem YS.logs (S : YS K H Y F bar nums es g) {e : Str × Addr} (he : e ∈ kn es Y.rt) {q : LG} (hd : q.d = (g e.2).d) {b : Addr} {kvs : List (Key × V)} (hb : b = Y.A.lv ∨ b = Y.A.of)
    (h1 : (if b = Y.A.lv then kvs else lvK es Y.rt g) = lvK es Y.rt (updG g e.2 q)) (h2 : (if b = Y.A.of then kvs else offK es Y.rt g) = offK es Y.rt (updG g e.2 q)) :
    YS K (upd (upd H b (.dK kvs)) e.2 (.ins (CL K) q.d (lG q Y.y (rn e.1) (parV es Y.rt e.1)))) Y F bar nums es (updG g e.2 q) ∧ Ch K Y H (upd (upd H b (.dK kvs)) e.2 (.ins (CL K) q.d (lG q Y.y (rn e.1) (parV es Y.rt e.1)))) := by
  obtain ⟨⟨a1, a2, a3, a4, a5, a6, a7, a8⟩, ⟨b2, b3, b4, b5, b6, b7, b8⟩, ⟨c3, c4, c5, c6, c7, c8⟩, ⟨d4, d5, d6, d7, d8⟩, ⟨e5, e6, e7, e8⟩, ⟨f6, f7, f8⟩, ⟨g7, g8⟩, h8⟩ := S.nd
  have hbo : ∃ o, H b = some (.dK o) := by rcases hb with rfl | rfl; exact ⟨_, S.lv_⟩; exact ⟨_, S.of_⟩
  obtain ⟨o, hbo⟩ := hbo
  have hbD : b ∈ Y.D := by rcases hb with rfl | rfl <;> simp [YA.D]
  have nb : ∀ c, c ≠ Y.A.lv → c ≠ Y.A.of → c ≠ b := fun c z1 z2 => by rcases hb with rfl | rfl; exact z1; exact z2
  have N1 : Known K (upd H b (.dK kvs)) Y.y Y.dy Y.lm Y.rt (F bar) es g := S.kn_.frame (by rw [upd_ne (nb _ a4 a6)]; exact S.kn_.tr.lmo) (fun c C d f q => by rw [upd_ne (ins_dk q hbo)]; exact q)
  have hE := N1.at_ he
  have hE0 := S.kn_.at_ he
  have N2 := N1.set he hd
  obtain ⟨pr, hd', sv, d1, d2, d3, dl⟩ := S.ds
  have dk : ∀ c kv, upd H b (.dK kvs) c = some (.dK kv) → upd (upd H b (.dK kvs)) e.2 (.ins (CL K) q.d (lG q Y.y (rn e.1) (parV es Y.rt e.1))) c = some (.dK kv) := fun c kv z => by rw [upd_ne (Ne.symm (ins_dk hE z))]; exact z
  have dk0 : ∀ c kv, c ≠ Y.A.lv → c ≠ Y.A.of → H c = some (.dK kv) → upd (upd H b (.dK kvs)) e.2 (.ins (CL K) q.d (lG q Y.y (rn e.1) (parV es Y.rt e.1))) c = some (.dK kv) := fun c kv z1 z2 z => dk _ _ (by rw [upd_ne (nb _ z1 z2)]; exact z)
  refine ⟨⟨N2, S.fo, dk0 _ _ b4 b6 S.kd, dk0 _ _ c4 c6 S.nu_, dk0 _ _ d4 d6 S.m_, dk _ _ ?_, dk _ _ ?_, ⟨pr, hd', sv, dk0 _ _ (Ne.symm e5) f6 d1, dk0 _ _ (Ne.symm e7) (Ne.symm g7) d2, dk0 _ _ (Ne.symm e8) (Ne.symm g8) d3, dl⟩, S.dn⟩, (Ch.put hbD).trans (Ch.lgr hE)⟩
  · rw [← h1]
    by_cases c : b = Y.A.lv
    · rw [if_pos c, c, upd_same]
    · rw [if_neg c, upd_ne (Ne.symm c)]; exact S.lv_
  · rw [← h2]
    by_cases c : b = Y.A.of
    · rw [if_pos c, c, upd_same]
    · rw [if_neg c, upd_ne (Ne.symm c)]; exact S.of_
theorem YS.setDis (S : YS K H Y F bar nums es g) {e : Str × Addr} (he : e ∈ kn es Y.rt) (b : Bool) :
    YS K (upd (upd H Y.A.of (.dK (putK (offK es Y.rt g) (Sum.inr e.1) (.bl b)))) e.2 (.ins (CL K) (g e.2).d (lG { g e.2 with dis := b } Y.y (rn e.1) (parV es Y.rt e.1)))) Y F bar nums es (updG g e.2 { g e.2 with dis := b }) ∧
    Ch K Y H (upd (upd H Y.A.of (.dK (putK (offK es Y.rt g) (Sum.inr e.1) (.bl b)))) e.2 (.ins (CL K) (g e.2).d (lG { g e.2 with dis := b } Y.y (rn e.1) (parV es Y.rt e.1)))) := by
  have e6 := S.nd.2.2.2.2.1.2.1
  refine S.logs he (q := { g e.2 with dis := b }) rfl (.inr rfl) ?_ ?_
  · rw [if_neg (Ne.symm e6)]
    unfold lvK
    refine mapK_congr fun e' he' => ?_
    unfold updG
    split
    · rename_i z; rw [z]
    · rfl
  · rw [if_pos rfl]
    unfold offK
    rw [putK_mapK_at (a := e.2) he (fun e' he' z => S.kn_.inj he' he z) S.kn_.nd]
    refine mapK_congr fun e' he' => ?_
    unfold updG
    by_cases c : e'.2 = e.2
    · rw [if_pos c, if_pos c]
    · rw [if_neg c, if_neg c]
theorem YS.setLev (S : YS K H Y F bar nums es g) {e : Str × Addr} (he : e ∈ kn es Y.rt) (r : Int) :
    YS K (upd (upd H Y.A.lv (.dK (putK (lvK es Y.rt g) (Sum.inr e.1) (.int r)))) e.2 (.ins (CL K) (g e.2).d (lG { g e.2 with lev := r } Y.y (rn e.1) (parV es Y.rt e.1)))) Y F bar nums es (updG g e.2 { g e.2 with lev := r }) ∧
    Ch K Y H (upd (upd H Y.A.lv (.dK (putK (lvK es Y.rt g) (Sum.inr e.1) (.int r)))) e.2 (.ins (CL K) (g e.2).d (lG { g e.2 with lev := r } Y.y (rn e.1) (parV es Y.rt e.1)))) := by
  have e6 := S.nd.2.2.2.2.1.2.1
  refine S.logs he (q := { g e.2 with lev := r }) rfl (.inl rfl) ?_ ?_
  · rw [if_pos rfl]
    unfold lvK
    rw [putK_mapK_at (a := e.2) he (fun e' he' z => S.kn_.inj he' he z) S.kn_.nd]
    refine mapK_congr fun e' he' => ?_
    unfold updG
    by_cases c : e'.2 = e.2
    · rw [if_pos c, if_pos c]
    · rw [if_neg c, if_neg c]
  · rw [if_neg e6]
    unfold offK
    refine mapK_congr fun e' he' => ?_
    unfold updG
    split
    · rename_i z; rw [z]
    · rfl
theorem YS.setBar (S : YS K H Y F bar nums es g) (b : Int) :
    YS K (upd (upd H Y.A.m (.dK (mdK Y.A (.int b) Y.h Y.t))) Y.y (.ins (CY K) Y.dy (F b))) Y F b nums es g ∧ Ch K Y H (upd (upd H Y.A.m (.dK (mdK Y.A (.int b) Y.h Y.t))) Y.y (.ins (CY K) Y.dy (F b))) := by
  obtain ⟨⟨a1, a2, a3, a4, a5, a6, a7, a8⟩, ⟨b2, b3, b4, b5, b6, b7, b8⟩, ⟨c3, c4, c5, c6, c7, c8⟩, ⟨d4, d5, d6, d7, d8⟩, _⟩ := S.nd
  have hy := S.kn_.tr.yd
  have N := S.kn_
  have ok := S.fo.ok b
  have dk : ∀ c kv, c ≠ Y.A.m → H c = some (.dK kv) → upd (upd H Y.A.m (.dK (mdK Y.A (.int b) Y.h Y.t))) Y.y (.ins (CY K) Y.dy (F b)) c = some (.dK kv) := fun c kv h e => by rw [upd_ne (Ne.symm (ins_dk hy e)), upd_ne h]; exact e
  have lgs : ∀ e ∈ kn es Y.rt, upd (upd H Y.A.m (.dK (mdK Y.A (.int b) Y.h Y.t))) Y.y (.ins (CY K) Y.dy (F b)) e.2 = H e.2 := fun e he => by
    have h := N.at_ he
    rw [upd_ne (fun z => ?_), upd_ne (ins_dk h S.m_)]
    rw [z, hy] at h
    have r := N.tr.map
    rw [(HO.ins.inj (Option.some.inj h)).2.2] at r
    exact absurd r (by show (none : Option V) ≠ _; exact fun z => nomatch z)
  obtain ⟨pr, hd', sv, d1, d2, d3, dl⟩ := S.ds
  refine ⟨⟨⟨⟨upd_same, ok.root_, ok.map_, ok.gl_, dk _ _ a3 N.tr.lmo, N.tr.nd, N.tr.sz, fun e he => ?_⟩, ?_, N.nm, N.few⟩, S.fo, dk _ _ b3 S.kd, dk _ _ c3 S.nu_, ?_, dk _ _ (Ne.symm d4) S.lv_, dk _ _ (Ne.symm d6) S.of_, ⟨pr, hd', sv, dk _ _ (Ne.symm d5) d1, dk _ _ (Ne.symm d7) d2, dk _ _ (Ne.symm d8) d3, dl⟩, S.dn⟩, (Ch.put (by simp [YA.D])).trans Ch.yrd⟩
  · rw [lgs e (List.mem_cons_of_mem _ he)]; exact N.tr.lg e he
  · have h := lgs (("" : Str), Y.rt) List.mem_cons_self
    show upd _ _ _ Y.rt = _
    rw [h]; exact N.rt_
  · rw [upd_ne (Ne.symm (ins_dk hy S.m_)), upd_same]
end
end
end K17

set_option Elab.async false
set_option linter.all false
set_option maxRecDepth 100000
set_option maxHeartbeats 0
namespace K17
open PySem PySem.Spec PyProof.Rows L2 RC
section
variable {P : Program} {w : World} {K : PySem.W.Frag} {mg : Str → Option Value} {base : Heap}
theorem mapK_put_new {F G : Addr → V} {es : Es} {rt a : Addr} {x : Str} {v : V} (h : (kn es rt).lookup x = none) (hv : G a = v) (hg : ∀ e ∈ kn es rt, F e.2 = G e.2) : putK (mapK F (kn es rt)) (Sum.inr x) v = mapK G (kn (es ++ [(x, a)]) rt) := by
  rw [putK_mapK_new h]
  have e1 : mapK G (kn (es ++ [(x, a)]) rt) = mapK G (kn es rt) ++ [(Sum.inr x, G a)] := by
    unfold mapK kn
    rw [← List.cons_append, List.map_append]; rfl
  rw [e1, hv, mapK_congr hg]
theorem mapK_put_same {F : Addr → V} {es : Es} {a : Addr} {x : Str} (hm : (x, a) ∈ es) (inj : ∀ e ∈ es, e.2 = a → e.1 = x) (nd : (es.map (·.1)).Nodup) : putK (mapK F es) (Sum.inr x) (F a) = mapK F es := by
  rw [putK_mapK_at hm inj nd]
  refine mapK_congr fun e he => ?_
  split
  · rename_i z; rw [z]
  · rfl
theorem spGetLog_mono {K : PySem.W.Frag} {vs : List V} {H : Hp} {Q Q' : VK} {E : XK} (h : ∀ v H', Q v H' → Q' v H') (g : spGetLog K vs H Q E) : spGetLog K vs H Q' E := by
  obtain ⟨y, dy, lm, rt, fs, es, g, t, e, T, a1, a2, a3, a4, a5, c⟩ := g
  refine ⟨y, dy, lm, rt, fs, es, g, t, e, T, a1, a2, a3, a4, a5, ?_⟩
  rcases c with ⟨a, ha, hQ⟩ | ⟨ha, hQ⟩
  · exact .inl ⟨a, ha, fun H' s => h _ _ (hQ H' s)⟩
  · exact .inr ⟨ha, fun H' a q n T => h _ _ (hQ H' a q n T)⟩
theorem spGetLogR_mono {K : PySem.W.Frag} {vs : List V} {H : Hp} {Q Q' : VK} {E : XK} (h : ∀ v H', Q v H' → Q' v H') (g : spGetLogR K vs H Q E) : spGetLogR K vs H Q' E := by
  rcases g with g | ⟨y, dy, rt, fs, e, a, b, q⟩
  · exact .inl (spGetLog_mono h g)
  · exact .inr ⟨y, dy, rt, fs, e, a, b, h _ _ q⟩
section
variable {H H' H2 : Hp} {Y Z : YA} {bar bar' : Int} {F F' : Int → List (Str × V)} {nums nums' : List (Key × V)} {es es' : Es} {g g' : Addr → LG} {s l : Addr} {n m : Nat}
theorem YS.hdn (S : YS K H Y F bar nums es g) : Y.A.all.Nodup := (List.nodup_append.mp (show ([Y.lm, Y.k, Y.nu] ++ Y.A.all).Nodup from S.dn)).2.1
/-- what is there already -/
theorem YS.again (S : YS K H Y F bar nums es g) {x : Str} {a : Addr} (hm : (x, a) ∈ kn es Y.rt) {R : Hp → Prop} (hR : R H) : ∃ H2, DPut H Y.k (.str x) (.ref a) H2 ∧ spMade [.ref Y.A.m, .str x] H2 (fun _ H3 => R H3) E0 := by
  have N := S.kn_
  have few := N.few
  have lk1 : (lmK (kn es Y.rt)).length < sizeLine := by rw [show (lmK (kn es Y.rt)).length = es.length + 1 by unfold lmK; rw [List.length_map]; rfl, PySem.sizeLine_eq]; omega
  have lk2 : (lvK es Y.rt g).length ≤ es.length + 1 := by unfold lvK mapK; rw [List.length_map]; exact Nat.le_refl _
  have lk3 : (offK es Y.rt g).length ≤ es.length + 1 := by unfold offK mapK; rw [List.length_map]; exact Nat.le_refl _
  refine ⟨_, RW.dput_s S.kd lk1, ?_⟩
  have pe : putK (lmK (kn es Y.rt)) (Sum.inr x) (V.ref a) = lmK (kn es Y.rt) := mapK_put_same (F := V.ref) hm (fun e he z => N.inj he hm z) N.nd
  have ee : upd H Y.k (.dK (putK (lmK (kn es Y.rt)) (Sum.inr x) (V.ref a))) = H := by
    rw [pe]
    funext b
    by_cases c : b = Y.k
    · rw [c, upd_same]; exact S.kd.symm
    · rw [upd_ne c]
  rw [ee]
  obtain ⟨pr, hd, sv, d1, d2, d3, l1, l2, l3⟩ := S.ds
  refine ⟨Y.A, .int bar, Y.h, Y.t, _, pr, _, hd, sv, x, rfl, ⟨S.m_, S.lv_, d1, S.of_, d2, d3, S.hdn, ?_⟩, .inl ⟨.int (g a).lev, ?_, hR⟩⟩
  · refine ⟨?_, ?_, ?_, ?_, ?_⟩ <;> omega
  · unfold lvK; rw [valV_mapK, lookup_nd hm N.nd]; rfl
/-- a logger is got, kept by the law, and made in its own tree -/
theorem YS.step (S : YS K H Y F bar nums es g) (hes : es.length ≤ 40) {x : Str} (hx : x = "" ∨ ∃ qs, Nm qs ∧ x = Txt.join "." qs) {R : Hp → Prop}
    (hR : ∀ (H' : Hp) (es' : Es) (g' : Addr → LG), es'.length ≤ es.length + 1 → YS K H' Y F bar nums es' g' → Ch K Y H H' → (∃ a, (x, a) ∈ kn es' Y.rt) → R H') :
    spGetLogR K [.ref Y.y, .str x] H (fun v H1 => Ch K Y H H1 ∧ ∃ H2, DPut H1 Y.k (.str x) v H2 ∧ spMade [.ref Y.A.m, .str x] H2 (fun _ H3 => R H3) E0) E0 := by
  have N := S.kn_
  rcases hx with rfl | ⟨qs, hq, hx⟩
  · exact .inr ⟨Y.y, Y.dy, Y.rt, F bar, rfl, N.tr.yd, N.tr.root, Ch.refl H, S.again (a := Y.rt) List.mem_cons_self (hR _ _ _ (by omega) S (Ch.refl H) ⟨_, List.mem_cons_self⟩)⟩
  obtain ⟨⟨a1, a2, a3, a4, a5, a6, a7, a8⟩, ⟨b2, b3, b4, b5, b6, b7, b8⟩, ⟨c3, c4, c5, c6, c7, c8⟩, ⟨d4, d5, d6, d7, d8⟩, ⟨e5, e6, e7, e8⟩, ⟨f6, f7, f8⟩, ⟨g7, g8⟩, h8⟩ := S.nd
  have hne : x ≠ "" := by rw [hx]; exact hq.ne.1
  have few := N.few
  have lk1 : (lmK (kn es Y.rt)).length < sizeLine := by rw [show (lmK (kn es Y.rt)).length = es.length + 1 by unfold lmK; rw [List.length_map]; rfl, PySem.sizeLine_eq]; omega
  have lk2 : (lvK es Y.rt g).length ≤ es.length + 1 := by unfold lvK mapK; rw [List.length_map]; exact Nat.le_refl _
  have lk3 : (offK es Y.rt g).length ≤ es.length + 1 := by unfold offK mapK; rw [List.length_map]; exact Nat.le_refl _
  obtain ⟨pr, hd, sv, d1, d2, d3, l1, l3, l4⟩ := S.ds
  refine .inl (N.get hes hq hx fun H' a es' g' kp N' cs => ?_)
  rcases cs with ⟨hl, rfl, rfl, sm⟩ | ⟨hl, rfl, ⟨q, rfl, q1, q2, q3, q4, q5, q6, q7, q8⟩, a0⟩
  · have S' := S.same sm
    have hm : (x, a) ∈ kn es' Y.rt := List.mem_cons_of_mem _ (lookup_mem hl)
    exact ⟨Ch.same sm, S'.again hm (hR _ _ _ (by omega) S' (Ch.same sm) ⟨_, hm⟩)⟩
  have dk : ∀ b kvs, b ≠ Y.lm → H b = some (.dK kvs) → H' b = some (.dK kvs) := fun b kvs hb q => kp b _ hb (N.tr.lg.notIns q (fun _ _ _ z => nomatch z)) q
  have k' := dk _ _ (Ne.symm a1) S.kd
  have chk : Ch K Y H H' := fun b o e h1 h2 h3 => by
    refine kp b o (fun z => h2 (by rw [z]; simp [YA.D])) (fun z => ?_) e
    obtain ⟨e', he', rfl⟩ := List.mem_map.mp z
    have := N.tr.lg e' he'
    rw [e] at this
    exact h3 _ _ _ (Option.some.inj this)
  refine ⟨chk, _, RW.dput_s k' lk1, ?_⟩
  have hl0 : (kn es Y.rt).lookup x = none := by rw [kn_lookup hne]; exact hl
  have nota : ∀ e ∈ kn es Y.rt, e.2 ≠ a := fun e he z => by have := N.at_ he; rw [z, a0] at this; cases this
  have pe : putK (lmK (kn es Y.rt)) (Sum.inr x) (V.ref a) = lmK (kn (es ++ [(x, a)]) Y.rt) := mapK_put_new (F := V.ref) (G := V.ref) hl0 rfl (fun _ _ => rfl)
  rw [pe]
  have v0 : valV (lvK es Y.rt g) (Sum.inr x) = none := by unfold lvK; rw [valV_mapK, hl0]; rfl
  have up : ∀ b kvs, b ≠ Y.lm → b ≠ Y.k → H b = some (.dK kvs) → upd H' Y.k (.dK (lmK (kn (es ++ [(x, a)]) Y.rt))) b = some (.dK kvs) := fun b kvs h1 h2 q => by rw [upd_ne h2]; exact dk _ _ h1 q
  have N1 : Known K (upd H' Y.k (.dK (lmK (kn (es ++ [(x, a)]) Y.rt)))) Y.y Y.dy Y.lm Y.rt (F bar) (es ++ [(x, a)]) (updG g a q) := N'.frame (by rw [upd_ne a1]; exact N'.tr.lmo) (fun b C d f e => by rw [upd_ne (ins_dk e k')]; exact e)
  have hle : (lvK es Y.rt g).length ≤ 1000 := by omega
  refine ⟨Y.A, .int bar, Y.h, Y.t, lvK es Y.rt g, pr, offK es Y.rt g, hd, sv, x, rfl, ⟨up _ _ (Ne.symm a3) (Ne.symm b3) S.m_, up _ _ (Ne.symm a4) (Ne.symm b4) S.lv_, up _ _ (Ne.symm a5) (Ne.symm b5) d1, up _ _ (Ne.symm a6) (Ne.symm b6) S.of_, up _ _ (Ne.symm a7) (Ne.symm b7) d2, up _ _ (Ne.symm a8) (Ne.symm b8) d3, S.hdn, ⟨hle, by omega, by omega, by omega, by omega⟩⟩, .inr ⟨v0, fun H2 b4' b5' fr _ _ _ _ _ m2 lv2 pr2 of2 hd2 sv2 => ?_⟩⟩
  have nA : ∀ b, b ≠ Y.A.lv → b ≠ Y.A.pr → b ≠ Y.A.of → b ≠ Y.A.hd → b ≠ Y.A.sv → b ∉ Y.A.ds := fun b h1 h2 h3 h4 h5 z => by
    have z : b ∈ ([Y.A.lv, Y.A.pr, Y.A.of, Y.A.hd, Y.A.sv] : List Addr) := z
    simp only [List.mem_cons, List.not_mem_nil, or_false] at z
    rcases z with z | z | z | z | z
    · exact h1 z
    · exact h2 z
    · exact h3 z
    · exact h4 z
    · exact h5 z
  have frI : ∀ b o, (∀ kvs, o ≠ .dK kvs) → upd H' Y.k (.dK (lmK (kn (es ++ [(x, a)]) Y.rt))) b = some o → H2 b = some o := fun b o ho e => fr b o (nA b (fun z => by rw [z, up _ _ (Ne.symm a4) (Ne.symm b4) S.lv_] at e; exact ho _ (Option.some.inj e).symm) (fun z => by rw [z, up _ _ (Ne.symm a5) (Ne.symm b5) d1] at e; exact ho _ (Option.some.inj e).symm) (fun z => by rw [z, up _ _ (Ne.symm a6) (Ne.symm b6) S.of_] at e; exact ho _ (Option.some.inj e).symm) (fun z => by rw [z, up _ _ (Ne.symm a7) (Ne.symm b7) d2] at e; exact ho _ (Option.some.inj e).symm) (fun z => by rw [z, up _ _ (Ne.symm a8) (Ne.symm b8) d3] at e; exact ho _ (Option.some.inj e).symm)) e
  have lve : putK (lvK es Y.rt g) (Sum.inr x) (.int 0) = lvK (es ++ [(x, a)]) Y.rt (updG g a q) := by
    unfold lvK
    refine mapK_put_new hl0 ?_ fun e he => ?_
    · unfold updG; rw [if_pos rfl, q1]
    · unfold updG; rw [if_neg (nota e he)]
  have ofe : putK (offK es Y.rt g) (Sum.inr x) (.bl false) = offK (es ++ [(x, a)]) Y.rt (updG g a q) := by
    unfold offK
    refine mapK_put_new hl0 ?_ fun e he => ?_
    · unfold updG; rw [if_pos rfl, q3]
    · unfold updG; rw [if_neg (nota e he)]
  have ln : ∀ (d : List (Key × V)) (v : V), d.length ≤ es.length + 1 → (putK d (Sum.inr x : Key) v).length ≤ (es ++ [(x, a)]).length + 1 := fun d v hd => by
    have := length_putK d (Sum.inr x : Key) v
    rw [List.length_append, List.length_singleton]; omega
  refine hR H2 _ _ (by rw [List.length_append, List.length_singleton]; omega) ⟨N1.frame (fr _ _ (nA _ a4 a5 a6 a7 a8) N1.tr.lmo) (fun b C d f e => frI _ _ (fun _ z => nomatch z) e), S.fo, fr _ _ (nA _ b4 b5 b6 b7 b8) upd_same, fr _ _ (nA _ c4 c5 c6 c7 c8) (up _ _ (Ne.symm a2) (Ne.symm b2) S.nu_), m2, by rw [lv2, lve], by rw [of2, ofe], ⟨_, _, _, pr2, hd2, sv2, ln _ _ l1, ln _ _ l3, ln _ _ l4⟩, S.dn⟩ (fun b o e h1 h2 h3 => ?_) ⟨a, List.mem_cons_of_mem _ (List.mem_append_right _ List.mem_cons_self)⟩
  have i : ∀ c ∈ Y.D, b ≠ c := fun c hc z => h2 (by rw [z]; exact hc)
  have j1 : Y.lm ∈ Y.D := by simp [YA.D]
  have j2 : Y.k ∈ Y.D := by simp [YA.D]
  have j5 : Y.A.lv ∈ Y.D := by simp [YA.D]
  have j6 : Y.A.pr ∈ Y.D := by simp [YA.D]
  have j7 : Y.A.of ∈ Y.D := by simp [YA.D]
  have j8 : Y.A.hd ∈ Y.D := by simp [YA.D]
  have j9 : Y.A.sv ∈ Y.D := by simp [YA.D]
  have nl : b ∉ es.map (·.2) := fun z => by
    obtain ⟨e', he', rfl⟩ := List.mem_map.mp z
    have := N.tr.lg e' he'
    rw [e] at this
    exact h3 _ _ _ (Option.some.inj this)
  exact fr b o (nA b (i _ j5) (i _ j6) (i _ j7) (i _ j8) (i _ j9)) (by rw [upd_ne (i _ j2)]; exact kp b o (i _ j1) nl e)
end
end
end K17

set_option Elab.async false
set_option linter.all false
set_option maxRecDepth 100000
set_option maxHeartbeats 0

namespace K17
open PySem PySem.Spec PyProof.Rows L2 RC
section
variable {P : Program} {w : World} {K : PySem.W.Frag} {mg : Str → Option Value} {base : Heap}
/-! ### all is right -/
def spRight (K : PySem.W.Frag) : Sp := fun vs H Q _ => ∃ (Y : YA) (F : Int → List (Str × V)) (bar : Int) (nums : List (Key × V)) (es : Es) (g : Addr → LG), vs = [.ref Y.y, .ref Y.k, .ref Y.A.m] ∧ YS K H Y F bar nums es g ∧ ∀ H', Same H H' → Q (.bl true) H'
theorem ok_right {f : Addr} (T : Txt P w K mg) (F : Stands K "_law_are_right" "_law_are_right" s__law_are_right [] f) (c__law_same : Callable P w K mg base 4 (He.ga K "_law_same") ["_law_found", "_law_due"] [] (spSame K 3)) (c__law_effective : Callable P w K mg base 3 (He.ga K "_law_effective") ["_law_m", "_law_name"] [] spLawEff)
    (c_Yard_bar : Callable P w K mg base 1 (He.ma K (He.ga K "Yard") "bar") ["self"] [] (spBar K)) (c_Logger_isEnabledFor : Callable P w K mg base 2 (He.ma K (He.ga K "Logger") "isEnabledFor") ["self", "level"] [] (spEnabled K)) : Callable P w K mg base 5 f ["_law_yard", "_law_known", "_law_m"] [] (spRight K) := by
  refine F.call0 sc__law_are_right (fun vs H Q E h => ?_) (fun cdv A outer s H vs Q E hr h => ?_) (fun _ _ _ _ _ _ us hl => match us, hl with | [_, _, _], _ => rfl)
  · obtain ⟨Y, F, bar, nums, es, g, rfl, _⟩ := h; rfl
  obtain ⟨Y, F, bar, nums, es, g, rfl, S, hQ⟩ := h
  refine ⟨_, (pss_cons (ps_if (pt_not (pt_val (pe_fn T.g__law_same c__law_same (hr.mono (by first | decide | exact Nat.le_refl _)) (by rfl) (pa_cons (pe_mt0 T.c_Yard T.m_Yard_bar c_Yard_bar (hr.mono (by first | decide | exact Nat.le_refl _)) (pv 0)) (pa_cons (pe_dget (hu_of hr) (pv 2) pe_str (fun _ _ => rfl)) pa_nil))))) (pss_one (ps_ret pe_bl)) pss_nil)
      (pss_cons (ps_lock (ps_for PassesOwn.never rfl (pi_keys (pv 1)) (pg_name (i := 3) sc__law_are_right.nd rfl (by first | exact Or.inl rfl | exact Or.inr rfl)) (pss_cons (ps_set (i := 4) sc__law_are_right.nd rfl (by first | exact Or.inl rfl | exact Or.inr rfl) (pe_callB (call_max2 rfl) (by rfl) T.b_max (by decide +kernel) (pa_cons (pe_op op_add (pe_dget (hu_of hr) (pv 2) pe_str (fun _ _ => rfl)) pe_int) (pa_cons (pe_fn T.g__law_effective c__law_effective (hr.mono (by first | decide | exact Nat.le_refl _)) (by rfl) (pa_cons (pv 2) (pa_cons (pv 3) pa_nil))) pa_nil))))
      (pss_cons (ps_for PassesOwn.never rfl (pi_tup (pe_tup (pa_cons (pe_dget (hu_of hr) (pv 2) pe_str (fun _ _ => rfl)) (pa_cons (pe_op op_add (pe_dget (hu_of hr) (pv 2) pe_str (fun _ _ => rfl)) pe_int) (pa_cons (pe_op op_sub (pv 4) pe_int) (pa_cons (pv 4) (pa_cons pe_int (pa_cons pe_int (pa_cons pe_int (pa_cons pe_int (pa_cons pe_int pa_nil))))))))))) (pg_name (i := 5) sc__law_are_right.nd rfl (by first | exact Or.inl rfl | exact Or.inr rfl)) (pss_one (ps_if (pt_not (pt_val (pe_fn T.g__law_same c__law_same (hr.mono (by first | decide | exact Nat.le_refl _)) (by rfl) (pa_cons (pe_mt T.c_Logger T.m_Logger_isEnabledFor c_Logger_isEnabledFor (hr.mono (by first | decide | exact Nat.le_refl _)) (pe_dget (hu_of hr) (pv 1) (pv 3) (fun _ _ => rfl)) (pa_cons (pv 5) pa_nil)) (pa_cons (pe_and (pe_not (pe_dget (hu_of hr) (pe_dget (hu_of hr) (pv 2) pe_str (fun _ _ => rfl)) (pv 3) (fun _ _ => rfl))) (pe_one (pe_cmpR op_ge (pv 5) (pv 4) (nomark _)))) pa_nil))))) (pss_one (ps_ret pe_bl)) pss_nil)))
      (pss_one (ps_if (pt_not (pt_val (pe_fn T.g__law_same c__law_same (hr.mono (by first | decide | exact Nat.le_refl _)) (by rfl) (pa_cons (pe_fld (pe_dget (hu_of hr) (pv 1) (pv 3) (fun _ _ => rfl)) rfl) (pa_cons (pe_dget (hu_of hr) (pe_dget (hu_of hr) (pv 2) pe_str (fun _ _ => rfl)) (pv 3) (fun _ _ => rfl)) pa_nil))))) (pss_one (ps_ret pe_bl)) pss_nil))))))
      (pss_one (ps_ret pe_bl)))), ?_⟩
  walk_at "in"
  have few := S.kn_.few
  have hy := S.kn_.tr.yd
  have hm := S.m_
  have ob := (S.fo.ok bar).ba_
  have ob2 := (S.fo.ok bar).bar_
  walk_at "go"
  refine ⟨.int _ _, fun H1 s1 => ?_⟩
  have S1 := S.same s1
  have hk1 := S1.kd
  walk_at "go"
  refine ⟨hk1, trivial, fun od => ?_⟩
  have k0 : upd H1 Y.k (.frz od (.dK (lmK (kn es Y.rt)))) Y.k = some (.frz od (.dK (lmK (kn es Y.rt)))) := upd_same
  obtain ⟨⟨a1, a2, a3, a4, a5, a6, a7, a8⟩, ⟨b2, b3, b4, b5, b6, b7, b8⟩, _⟩ := S.nd
  have N := S.kn_
  have N0 : Known K (upd H1 Y.k (.frz od (.dK (lmK (kn es Y.rt))))) Y.y Y.dy Y.lm Y.rt (F bar) es g := S1.kn_.frame (by rw [upd_ne a1]; exact S1.kn_.tr.lmo) (fun b C d f e => by rw [upd_ne (ins_dk e hk1)]; exact e)
  have m0 : upd H1 Y.k (.frz od (.dK (lmK (kn es Y.rt)))) Y.A.m = some (.dK (mdK Y.A (.int bar) Y.h Y.t)) := by rw [upd_ne (Ne.symm b3)]; exact S1.m_
  have lv0 : upd H1 Y.k (.frz od (.dK (lmK (kn es Y.rt)))) Y.A.lv = some (.dK (lvK es Y.rt g)) := by rw [upd_ne (Ne.symm b4)]; exact S1.lv_
  have of0 : upd H1 Y.k (.frz od (.dK (lmK (kn es Y.rt)))) Y.A.of = some (.dK (offK es Y.rt g)) := by rw [upd_ne (Ne.symm b6)]; exact S1.of_
  have back : ∀ H', Same (upd H1 Y.k (.frz od (.dK (lmK (kn es Y.rt))))) H' → Same H (upd H' Y.k (.dK (lmK (kn es Y.rt)))) := fun H' s b o e => by
    by_cases c : b = Y.k
    · rw [c, upd_same]; rw [c, S.kd] at e; exact e
    · rw [upd_ne c]; exact s _ _ (by rw [upd_ne c]; exact s1 _ _ e)
  generalize upd H1 Y.k (.frz od (.dK (lmK (kn es Y.rt)))) = H0 at k0 N0 m0 lv0 of0 back
  refine ⟨_, rfl, Y.k, od, rfl, .inl ⟨_, k0, ?_⟩⟩
  refine for_it walk_keys (fun i σ H' => Same H0 H' ∧ ∃ o3 o4 o5, σ = [some (.ref Y.y), some (.ref Y.k), some (.ref Y.A.m), o3, o4, o5]) ⟨Same.refl H0, _, _, _, rfl⟩ (fun i σ H' _ h => h.1 _ _ k0) (fun i x σ H9 H2 hi hP hx => ?_) (fun σ H2 hP => ?_)
  · obtain ⟨rfl, kx, vx, hx, rfl⟩ := hx
    obtain ⟨s2, o3, o4, o5, rfl⟩ := hP
    have hx' : ((kn es Y.rt)[i]?.map fun e : Str × Addr => ((Sum.inr e.1 : Key), V.ref e.2)) = some (kx, vx) := by rw [← List.getElem?_map]; exact hx
    obtain ⟨e, he0, hee⟩ := Option.map_eq_some_iff.mp hx'
    cases hee
    have he : e ∈ kn es Y.rt := List.mem_of_getElem? he0
    have hh : ∀ x, hasK (lvK es Y.rt g) x = ((kn es Y.rt).lookup x).isSome := fun x => by unfold hasK lvK; rw [valV_mapK, Option.isSome_map]
    obtain ⟨l, n, ch, cl, cm, ce⟩ := N.chain hh 5 e he (N.dpt5 he)
    have c1 : ∀ y ∈ l, Sized y := fun x hx => by obtain ⟨e', h1, rfl⟩ := cm x hx; exact N.sized h1
    have c2 : l.length ≤ 1000 := by omega
    have c3 : ∀ y ∈ l, valV (lvK es Y.rt g) (Sum.inr y) = some (.int (levOf es Y.rt g y)) := fun x hx => by
      obtain ⟨e', h1, rfl⟩ := cm x hx
      unfold lvK
      rw [valV_mapK, lookup_nd h1 N.nd, N.levOf h1]; rfl
    have m2 := s2 _ _ m0
    have lv2 := s2 _ _ lv0
    clear hm hy s1
    walk_at "go"
    intro H3 s3
    have s23 := s2.trans s3
    have vk : valV (lmK (kn es Y.rt)) (Sum.inr e.1) = some (.ref e.2) := by rw [valV_lmK, lookup_nd he N.nd]; rfl
    have vo : valV (offK es Y.rt g) (Sum.inr e.1) = some (.bl (g e.2).dis) := by unfold offK; rw [valV_mapK, lookup_nd he N.nd]; rfl
    have it := N.inT he
    have m3 := s23 _ _ m0
    clear s3 s2 m2 lv2 S1 hk1
    generalize effL (levOf es Y.rt g) l = v at ce
    walk_at "gi"
    rename_i tp ft
    generalize hL : (if v > bar + 1 then v else bar + 1) = L
    have t5 : upd H3 tp (.tup [.int bar, .int (bar + 1), .int (L - 1), .int L, .int 0, .int 1, .int 10, .int 30, .int 50]) tp = some (.tup [.int bar, .int (bar + 1), .int (L - 1), .int L, .int 0, .int 1, .int 10, .int 30, .int 50]) := upd_same
    have s6 : Same H0 (upd H3 tp (.tup [.int bar, .int (bar + 1), .int (L - 1), .int L, .int 0, .int 1, .int 10, .int 30, .int 50])) := by walk_at "sm"
    refine for_it (walk_tup (xs := [.int bar, .int (bar + 1), .int (L - 1), .int L, .int 0, .int 1, .int 10, .int 30, .int 50])) (fun j σ H' => Same (upd H3 tp (.tup [.int bar, .int (bar + 1), .int (L - 1), .int L, .int 0, .int 1, .int 10, .int 30, .int 50])) H' ∧ ∃ o5, σ = [some (.ref Y.y), some (.ref Y.k), some (.ref Y.A.m), some (.str e.1), some (.int L), o5]) ⟨Same.refl _, _, rfl⟩ (fun j σ H' _ h => SqT.of (h.1 _ _ t5)) (fun j x σ H9 H7 hj hP hx => ?_) (fun σ H7 hP => ?_)
    · obtain ⟨rfl, hx⟩ := hx
      obtain ⟨s7, o5, rfl⟩ := hP
      have hf : ∃ f, x = .int f := by
        have hm := List.mem_of_getElem? hx
        simp only [List.mem_cons, List.not_mem_nil, or_false] at hm
        rcases hm with rfl | rfl | rfl | rfl | rfl | rfl | rfl | rfl | rfl <;> exact ⟨_, rfl⟩
      obtain ⟨f, rfl⟩ := hf
      have s37 := s6.trans s7
      have N7 := N0.same s37
      have hE7 := N7.at_ he
      have k7 := s37 _ _ k0
      have m7 := s37 _ _ m0
      have of7 := s37 _ _ of0
      have t7 := N7.tr
      have r7 := N7.rt_
      cases hd : (g e.2).dis with
      | true =>
        rw [hd] at vo
        have bb : (!(g e.2).dis && (decide (bar < f) && decide (v ≤ f))) = false := by rw [hd]; rfl
        walk_at "go"
        refine ⟨by rw [bb]; exact .bl _ _, fun H8 s8 => ?_⟩
        walk_at "go"
        rfl
      | false =>
        rw [hd] at vo
        have bb : (!(g e.2).dis && (decide (bar < f) && decide (v ≤ f))) = decide (L ≤ f) := by
          rw [hd, ← hL, Bool.eq_iff_iff]
          simp only [Bool.not_false, Bool.true_and, Bool.and_eq_true, decide_eq_true_eq]
          split <;> omega
        walk_at "go"
        refine ⟨by rw [bb]; exact .bl _ _, fun H8 s8 => ?_⟩
        walk_at "go"
        rfl
    · obtain ⟨s7, o5, rfl⟩ := hP
      have s37 := s6.trans s7
      have N7 := N0.same s37
      have hE7 := N7.at_ he
      have k7 := s37 _ _ k0
      have m7 := s37 _ _ m0
      have of7 := s37 _ _ of0
      walk_at "go"
      refine ⟨.bl _ _, fun H8 s8 => ?_⟩
      walk_at "go"
      rfl
  · obtain ⟨s2, o3, o4, o5, rfl⟩ := hP
    exact ⟨s2 _ _ k0, hQ _ (back _ s2)⟩
end
end K17

set_option Elab.async false
set_option linter.all false
set_option maxRecDepth 100000
set_option maxHeartbeats 0
namespace K17
open PySem PySem.Spec PyProof.Rows L2 RC
section
variable {P : Program} {w : World} {K : PySem.W.Frag} {mg : Str → Option Value} {base : Heap}
abbrev yB (q : YParts) (b : Int) : List (Str × V) := [("clock", .int 0), ("stream_texts", .ref q.st), ("file_rows", .ref q.fi), ("names_of", .ref q.na), ("numbers_of", .ref q.nu), ("bar_level", .int b), ("logger_map", .ref q.lm), ("made", .ref q.md), ("handler_names", .ref q.hn), ("failure_rows", .ref q.fr), ("root", .ref q.rt), ("last_resort", .ref q.lr)]
theorem yB_ok {Y : YA} {q : YParts} (h1 : Y.lm = q.lm) (h2 : Y.rt = q.rt) (h3 : Y.nu = q.nu) : FsF Y (yB q) :=
  ⟨fun b => ⟨rfl, by rw [h3]; rfl, by rw [h2]; rfl, by rw [h1]; rfl, rfl, rfl, rfl, rfl, by show 12 ≤ 12; decide⟩, fun b b' => rfl⟩
theorem YA.mem {Y : YA} {b : Addr} (h : b ∈ Y.D) : b ∈ ([Y.lm, Y.nu] : List Addr) ∨ b ∈ Y.A.all ∨ b = Y.k := by
  have h : b ∈ ([Y.lm, Y.k, Y.nu, Y.A.m, Y.A.lv, Y.A.pr, Y.A.of, Y.A.hd, Y.A.sv] : List Addr) := h
  simp only [List.mem_cons, List.not_mem_nil, or_false] at h
  unfold MAd.all
  simp only [List.mem_cons, List.not_mem_nil, or_false]
  grind
theorem apart {H : Hp} {As Bs : List Addr} (h1 : ∀ a ∈ As, H a = none) (h2 : ∀ b ∈ Bs, ∃ o, H b = some o) : ∀ a ∈ As, a ∉ Bs := fun a ha hb => by
  obtain ⟨o, e⟩ := h2 a hb
  rw [h1 a ha] at e; cases e
def nums0 (K : PySem.W.Frag) : List (Key × V) := kv_FIRST_NUMBERS.map fun q => (q.1, q.2.v K)
/-- both yards -/
structure KS2 (K : PySem.W.Frag) (H : Hp) (s l : Addr) (Y Z : YA) (F G : Int → List (Str × V)) (n c : Nat) : Prop where
  stm : Stm H s l n
  a : ∃ bar es g, YS K H Y F bar (nums0 K) es g ∧ List.length es ≤ c
  b : ∃ bar es g, YS K H Z G bar (nums0 K) es g ∧ List.length es ≤ c
  ny : Y.y ≠ Z.y
  dd : ∀ b ∈ Z.D, b ∉ Y.D
theorem KS2.swap {H : Hp} {s l : Addr} {Y Z : YA} {F G : Int → List (Str × V)} {n c : Nat} (S : KS2 K H s l Y Z F G n c) : KS2 K H s l Z Y G F n c := ⟨S.stm, S.b, S.a, Ne.symm S.ny, fun b h1 h2 => S.dd b h2 h1⟩
def spLaw (K : PySem.W.Frag) : Sp := fun vs H Q _ => ∃ (a : Addr) (ns : List Int), vs = [.ref a] ∧ ns.length ≤ 63 ∧ SqL K H a (ns.map V.int) ∧ ∀ H', Q (.bl true) H'
theorem YNew.facts {H0 H : Hp} {y dy : Addr} {Y : YParts} (N : YNew K H0 H y dy 0 Y) (h0 : H0 y = some (.ins (CY K) dy [])) : H y = some (.ins (CY K) dy (yB Y 0)) ∧ H Y.lm = some (.dK []) ∧ H Y.nu = some (.dK (nums0 K)) ∧ (∃ rd, H Y.rt = some (.ins (CL K) rd (lF Y.rl y "root" 30 Y.rh .non))) ∧ H0 Y.lm = none ∧ H0 Y.nu = none ∧ Y.lm ≠ Y.nu := by
  obtain ⟨rd, ld, F⟩ := N.fr
  have glm := F.has (Y.lm, .dK []) (by simp [YParts.L])
  have gnu := F.has (Y.nu, .dK (kv_FIRST_NUMBERS.map fun q => (q.1, q.2.v K))) (by simp [YParts.L])
  have grt := F.has (Y.rt, .ins (CL K) rd (lF Y.rl y "root" 30 Y.rh .non)) (by simp [YParts.L])
  refine ⟨N.y, glm.2.2, gnu.2.2, ⟨rd, grt.2.2⟩, glm.2.1, gnu.2.1, fun z => ?_⟩
  have h1 : H Y.lm = some (.dK []) := glm.2.2
  have h2 : H Y.nu = some (.dK (kv_FIRST_NUMBERS.map fun q => (q.1, q.2.v K))) := gnu.2.2
  rw [z, h2] at h1; cases h1
theorem spMade_mono {vs : List V} {H : Hp} {Q Q' : VK} {E : XK} (h : ∀ v H', Q v H' → Q' v H') (g : spMade vs H Q E) : spMade vs H Q' E := by
  obtain ⟨A, bar, hh, t, lv, pr, of_, hd, sv, x, e, S, c⟩ := g
  refine ⟨A, bar, hh, t, lv, pr, of_, hd, sv, x, e, S, ?_⟩
  rcases c with ⟨u, hu, q⟩ | ⟨hu, q⟩
  · exact .inl ⟨u, hu, h _ _ q⟩
  · exact .inr ⟨hu, fun H' b4 b5 a1 a2 a3 a4 a5 a6 a7 a8 a9 a10 a11 a12 => h _ _ (q H' b4 b5 a1 a2 a3 a4 a5 a6 a7 a8 a9 a10 a11 a12)⟩
theorem mkYS {H : Hp} {y dy k rd hh tt b4 b5 : Addr} {Y : YParts} {M : MAd} (gy : H y = some (.ins (CY K) dy (yB Y 0))) (glm : H Y.lm = some (.dK [])) (gnu : H Y.nu = some (.dK (nums0 K))) (grt : H Y.rt = some (.ins (CL K) rd (lF Y.rl y "root" 30 Y.rh .non))) (gk : H k = some (.dK [((Sum.inr "" : Key), .ref Y.rt)]))
    (m4 : H M.m = some (.dK (mdK M (.int 0) hh tt))) (lv4 : H M.lv = some (.dK [(Sum.inr "", .int 30)])) (pr4 : H M.pr = some (.dK [(Sum.inr "", .bl true)])) (of4 : H M.of = some (.dK [(Sum.inr "", .bl false)])) (hd4 : H M.hd = some (.dK [(Sum.inr "", .ref b4)])) (sv4 : H M.sv = some (.dK [(Sum.inr "", .ref b5)]))
    (ndM : M.all.Nodup) (nlu : Y.lm ≠ Y.nu) (q : ∀ x ∈ M.all, x ∉ ([Y.lm, Y.nu] : List Addr)) (nk : k ∉ ([Y.lm, Y.nu] : List Addr)) (nk2 : k ∉ M.all) :
    YS K H ⟨y, dy, Y.lm, Y.rt, Y.nu, k, M, hh, tt⟩ (yB Y) 0 (nums0 K) [] (fun _ => ⟨rd, Y.rl, Y.rh, 30, true, false⟩) := by
  refine ⟨⟨⟨gy, rfl, rfl, rfl, glm, List.nodup_nil, (fun _ h => nomatch h), (fun _ h => nomatch h)⟩, grt, (fun _ h => nomatch h), by decide⟩, yB_ok rfl rfl rfl, gk, gnu, m4, lv4, of4, ⟨_, _, _, pr4, hd4, sv4, Nat.le_refl _, Nat.le_refl _, Nat.le_refl _⟩, ?_⟩
  simp only [List.mem_cons, List.not_mem_nil, or_false, not_or] at nk
  refine (List.nodup_append (l₁ := [Y.lm, k, Y.nu]) (l₂ := M.all)).mpr ⟨?_, ndM, fun b hb c hc z => ?_⟩
  · simp [Ne.symm nk.1, nk.2, nlu]
  · subst z
    simp only [List.mem_cons, List.not_mem_nil, or_false] at hb
    rcases hb with rfl | rfl | rfl
    · exact q _ hc (by simp)
    · exact nk2 hc
    · exact q _ hc (by simp)
theorem KS2.old {H H' : Hp} {s l : Addr} {Y Z : YA} {F G : Int → List (Str × V)} {n m c : Nat} (S : KS2 K H s l Y Z F G n c) (o : Old s l H H') (st : Stm H' s l m) : KS2 K H' s l Y Z F G m c := by
  obtain ⟨b1, es, g, S1, h1⟩ := S.a
  obtain ⟨b2, es2, g2, S2, h2⟩ := S.b
  exact ⟨st, ⟨b1, es, g, S1.old S.stm o, h1⟩, ⟨b2, es2, g2, S2.old S.stm o, h2⟩, S.ny, S.dd⟩
theorem KS2.same {H H' : Hp} {s l : Addr} {Y Z : YA} {F G : Int → List (Str × V)} {n c : Nat} (S : KS2 K H s l Y Z F G n c) (o : Same H H') : KS2 K H' s l Y Z F G n c := S.old (Old.of_same o) (S.stm.same o)
/-- something is done at the one yard -/
theorem KS2.ch {H H' : Hp} {s l : Addr} {Y Z : YA} {F G : Int → List (Str × V)} {n c c' : Nat} (S : KS2 K H s l Y Z F G n c) (hc : c ≤ c') (h : ∃ bar es g, YS K H' Y F bar (nums0 K) es g ∧ List.length es ≤ c') (e : Ch K Y H H') : KS2 K H' s l Y Z F G n c' := by
  obtain ⟨b1, es, g, S1, h1⟩ := S.a
  obtain ⟨b2, es2, g2, S2, h2⟩ := S.b
  exact ⟨Stm.ch S.stm S1 e, h, ⟨b2, es2, g2, S1.other S2 S.ny S.dd e, by omega⟩, S.ny, S.dd⟩
theorem KS2.lst {H H' : Hp} {s l : Addr} {Y Z : YA} {F G : Int → List (Str × V)} {n c : Nat} (S : KS2 K H s l Y Z F G n c) (e : Ch K Y H H') {b : Addr} {xs : List V} (h : H b = some (.lst xs)) : H' b = some (.lst xs) := by
  obtain ⟨b1, es, g, S1, h1⟩ := S.a
  exact e b _ h (fun z => by rw [z, S1.kn_.tr.yd] at h; cases h) (fun z => by obtain ⟨kvs, e2⟩ := S1.live z; rw [e2] at h; cases h) (fun _ _ _ z => nomatch z)
/-- this yard and the other one, whichever is drawn -/
theorem KS2.pick {H : Hp} {s l : Addr} {Y Z : YA} {F G : Int → List (Str × V)} {n c : Nat} {d : Int} (S : KS2 K H s l Y Z F G n c) (h0 : 0 ≤ d) (h2 : d < 2) :
    ∃ (A B : YA) (P R : Int → List (Str × V)), KS2 K H s l A B P R n c ∧ (∀ H' n' c', KS2 K H' s l A B P R n' c' → KS2 K H' s l Y Z F G n' c') ∧ atI [V.ref Y.y, V.ref Z.y] d = some (.ref A.y) ∧ atI [V.ref Y.A.m, V.ref Z.A.m] d = some (.ref A.A.m) ∧ atI [V.ref Y.k, V.ref Z.k] d = some (.ref A.k) := by
  have hd : d = 0 ∨ d = 1 := by omega
  rcases hd with rfl | rfl
  · exact ⟨Y, Z, F, G, S, fun _ _ _ h => h, rfl, rfl, rfl⟩
  · exact ⟨Z, Y, G, F, S.swap, fun _ _ _ h => h.swap, rfl, rfl, rfl⟩
def names6 : List Str := ["", "a", "a.b", "b", "a.b.c", "ab"]
theorem names6_ok {x : Str} (h : V.str x ∈ names6.map V.str) : x = "" ∨ ∃ qs, Nm qs ∧ x = Txt.join "." qs := by
  obtain ⟨z, hz, e⟩ := List.mem_map.mp h
  cases e
  simp only [names6, List.mem_cons, List.not_mem_nil, or_false] at hz
  rcases hz with rfl | rfl | rfl | rfl | rfl | rfl
  · exact .inl rfl
  · exact .inr ⟨["a"], ⟨by decide +kernel, by decide, by decide, by decide +kernel⟩, by decide +kernel⟩
  · exact .inr ⟨["a", "b"], ⟨by decide +kernel, by decide, by decide, by decide +kernel⟩, by decide +kernel⟩
  · exact .inr ⟨["b"], ⟨by decide +kernel, by decide, by decide, by decide +kernel⟩, by decide +kernel⟩
  · exact .inr ⟨["a", "b", "c"], ⟨by decide +kernel, by decide, by decide, by decide +kernel⟩, by decide +kernel⟩
  · exact .inr ⟨["ab"], ⟨by decide +kernel, by decide, by decide, by decide +kernel⟩, by decide +kernel⟩
def some11 : List V := [.int 0, .int 9, .int 10, .int 29, .int 30, .int 50, .int (-3), .int 60, .str "WARN", .str "NOTSET", .str "CRITICAL"]
def bars : List (Key × V) := [(Sum.inr "WARN", .int 30), (Sum.inr "NOTSET", .int 0), (Sum.inr "CRITICAL", .int 50)]
theorem some11_ok {x : V} (h : x ∈ some11) : ∃ r : Int, (∃ i, x = .int i ∧ r = i ∧ valV bars (Sum.inl i) = none) ∨ ∃ t, x = .str t ∧ lvNum (nums0 K) (.nm t) = some (.int r) ∧ valV bars (Sum.inr t) = some (.int r) := by
  simp only [some11, List.mem_cons, List.not_mem_nil, or_false] at h
  rcases h with rfl | rfl | rfl | rfl | rfl | rfl | rfl | rfl | rfl | rfl | rfl
  · exact ⟨_, .inl ⟨_, rfl, rfl, rfl⟩⟩
  · exact ⟨_, .inl ⟨_, rfl, rfl, rfl⟩⟩
  · exact ⟨_, .inl ⟨_, rfl, rfl, rfl⟩⟩
  · exact ⟨_, .inl ⟨_, rfl, rfl, rfl⟩⟩
  · exact ⟨_, .inl ⟨_, rfl, rfl, rfl⟩⟩
  · exact ⟨_, .inl ⟨_, rfl, rfl, rfl⟩⟩
  · exact ⟨_, .inl ⟨_, rfl, rfl, rfl⟩⟩
  · exact ⟨_, .inl ⟨_, rfl, rfl, rfl⟩⟩
  · exact ⟨30, .inr ⟨_, rfl, rfl, rfl⟩⟩
  · exact ⟨0, .inr ⟨_, rfl, rfl, rfl⟩⟩
  · exact ⟨50, .inr ⟨_, rfl, rfl, rfl⟩⟩
theorem mdK_bar {A : MAd} {b v : V} {h t : Addr} : putK (mdK A b h t) (Sum.inr "bar") v = mdK A v h t := rfl
theorem KS2.mono {H : Hp} {s l : Addr} {Y Z : YA} {F G : Int → List (Str × V)} {n m c : Nat} (S : KS2 K H s l Y Z F G n c) (h : n ≤ m) : KS2 K H s l Y Z F G m c := S.old (Old.refl _) (S.stm.mono h)
end
end K17

set_option Elab.async false
set_option linter.all false
set_option maxRecDepth 100000
set_option maxHeartbeats 0

namespace K17
open PySem PySem.Spec PyProof.Rows L2 RC
section
variable {P : Program} {w : World} {K : PySem.W.Frag} {mg : Str → Option Value} {base : Heap}
def bodyFor : Stmt → List Stmt
  | .For _ _ b _ _ => b
  | _ => []
abbrev b_turn : List Stmt := bodyFor ((defBody s_law).getD 3 (.Pass ⟨0, 0, 0, 0⟩))
theorem gen_nx {t : TS} {N B C : L2.St → Hp → Prop} {R : VK} {σ : L2.St} {H : Hp} (h : ∀ D' : Ends, (∀ σ H, N σ H → D'.nx σ H) → t D' σ H) : t ⟨N, R, B, C⟩ σ H := h _ fun _ _ q => q
abbrev sgT (a s p p2 D : Addr) (o5 o6 o7 o8 o9 o10 o11 o12 o13 : Option V) : L2.St := [some (.ref a), some (.ref s), some (.ref p), some (.ref p2), some (.ref D), o5, o6, o7, o8, o9, o10, o11, o12, o13]
/-- behind a turn -/
def AfT (K : PySem.W.Frag) (a s l p p2 D : Addr) (Ya Za : YA) (Fy Fz : Int → List (Str × V)) (i : Nat) (σ : L2.St) (H' : Hp) : Prop := KS2 K H' s l Ya Za Fy Fz (1 + 20 * (i + 1)) (i + 1) ∧ H' p = some (.lst [.ref Ya.y, .ref Za.y]) ∧ H' p2 = some (.lst [.ref Ya.A.m, .ref Za.A.m]) ∧ H' D = some (.lst [.ref Ya.k, .ref Za.k]) ∧ ∃ o5 o6 o7 o8 o9 o10 o11 o12 o13, σ = sgT a s p p2 D o5 o6 o7 o8 o9 o10 o11 o12 o13
theorem turn (T : Txt P w K mg) {f : Addr} {cdv : Value} {A : Around} {outer : List Env} {st0 : Shared} {E : XK} {H : Hp} (hr : Room 6 (A.deeper (envOfC "law" (defScope s_law) st0.heap.objs.size f cdv)))
    (c__law_draw : Callable P w K mg base 1 (He.ga K "_law_draw") ["_law_s", "_law_many"] [] spDraw)
    (c__law_pick : Callable P w K mg base 2 (He.ga K "_law_pick") ["_law_s", "_law_some"] [] (spPick K))
    (c__law_made : Callable P w K mg base 1 (He.ga K "_law_made") ["_law_m", "_law_name"] [] spMade)
    (c__law_are_right : Callable P w K mg base 5 (He.ga K "_law_are_right") ["_law_yard", "_law_known", "_law_m"] [] (spRight K))
    (c_Yard_getLogger : Callable P w K mg base 4 (He.ma K (He.ga K "Yard") "getLogger") ["self", "name"] [] (spGetLogR K))
    (c_Yard_disable : Callable P w K mg base 3 (He.ma K (He.ga K "Yard") "disable") ["self", "level"] [] (spDisable K))
    (c_Yard_disable_d1 : Callable P w K mg base 3 (He.ma K (He.ga K "Yard") "disable") ["self", "level"] [.int 50] (spDisable K))
    (c_Logger_setDisabled : Callable P w K mg base 1 (He.ma K (He.ga K "Logger") "setDisabled") ["self", "flag"] [] (spSetDis K))
    (c_Logger_setLevel : Callable P w K mg base 3 (He.ma K (He.ga K "Logger") "setLevel") ["self", "level"] [] (spSetLevel K)) :
    ∃ t, PSs (cxOf CX0 P w K mg base nm_law "law" (defScope s_law) f cdv A outer st0 H E).nox b_turn t ∧ ∀ {a s l p p2 D : Addr} (i : Nat) (Ya Za : YA) (Fy Fz : Int → List (Str × V)) (H5 : Hp) (D' : Ends), KS2 K H5 s l Ya Za Fy Fz (1 + 20 * i) i → H5 p = some (.lst [.ref Ya.y, .ref Za.y]) → H5 p2 = some (.lst [.ref Ya.A.m, .ref Za.A.m]) → H5 D = some (.lst [.ref Ya.k, .ref Za.k]) →
      (p ≠ s ∧ p ≠ l) → (p2 ≠ s ∧ p2 ≠ l) → (D ≠ s ∧ D ≠ l) → i < 16 → ∀ o5 o6 o7 o8 o9 o10 o11 o12 o13, (∀ σ H', AfT K a s l p p2 D Ya Za Fy Fz i σ H' → D'.nx σ H') → t D' (sgT a s p p2 D o5 o6 o7 o8 o9 o10 o11 o12 o13) H5 := by
  refine ⟨_, (pss_cons (ps_par (by rfl) sc_law.nd (i := 7) (j := 8) rfl rfl (by decide) rfl rfl (pa_cons (pe_fn T.g__law_draw c__law_draw (hr.mono (by first | decide | exact Nat.le_refl _)) (by rfl) (pa_cons (pv 1) (pa_cons pe_int pa_nil))) (pa_cons (pe_fn T.g__law_draw c__law_draw (hr.mono (by first | decide | exact Nat.le_refl _)) (by rfl) (pa_cons (pv 1) (pa_cons pe_int pa_nil))) pa_nil)) (by rfl))
      (pss_cons (ps_par (by rfl) sc_law.nd (i := 5) (j := 9) rfl rfl (by decide) rfl rfl (pa_cons (pe_ix ix_list (pv 2) (pv 7) (fun _ _ => rfl)) (pa_cons (pe_ix ix_list (pv 3) (pv 7) (fun _ _ => rfl)) pa_nil)) (by rfl))
      (pss_cons (ps_set (i := 10) sc_law.nd rfl (by first | exact Or.inl rfl | exact Or.inr rfl) (pe_fn T.g__law_pick c__law_pick (hr.mono (by first | decide | exact Nat.le_refl _)) (by rfl) (pa_cons (pv 1) (pa_cons (pe_lst (pa_cons pe_str (pa_cons pe_str (pa_cons pe_str (pa_cons pe_str (pa_cons pe_str (pa_cons pe_str pa_nil))))))) pa_nil))))
      (pss_cons (ps_dput (hu_of hr) (pe_ix ix_list (pv 4) (pv 7) (fun _ _ => rfl)) (pv 10) (pe_mt T.c_Yard T.m_Yard_getLogger c_Yard_getLogger (hr.mono (by first | decide | exact Nat.le_refl _)) (pv 5) (pa_cons (pv 10) pa_nil)) rfl)
      (pss_cons (ps_expr (pe_fn T.g__law_made c__law_made (hr.mono (by first | decide | exact Nat.le_refl _)) (by rfl) (pa_cons (pv 9) (pa_cons (pv 10) pa_nil))))
      (pss_cons (ps_if (pt_cmpR op_lt (pv 8) pe_int (nomark _)) (pss_cons (ps_set (i := 11) sc_law.nd rfl (by first | exact Or.inl rfl | exact Or.inr rfl) (pe_lst (pa_cons pe_int (pa_cons pe_int (pa_cons pe_int (pa_cons pe_int (pa_cons pe_int (pa_cons pe_int (pa_cons (pe_un un_neg pe_int) (pa_cons pe_int (pa_cons pe_str (pa_cons pe_str (pa_cons pe_str pa_nil)))))))))))))
      (pss_cons (ps_set (i := 12) sc_law.nd rfl (by first | exact Or.inl rfl | exact Or.inr rfl) (pe_fn T.g__law_pick c__law_pick (hr.mono (by first | decide | exact Nat.le_refl _)) (by rfl) (pa_cons (pv 1) (pa_cons (pv 11) pa_nil))))
      (pss_cons (ps_dput (hu_of hr) (pv 9) pe_str (pe_dget2 (hu_of hr) (pe_disp (pps_cons pe_str pe_int (pps_cons pe_str pe_int (pps_cons pe_str pe_int pps_nil))) (by rfl) (by rfl) (fun z => by cases z) (by decide)) (pv 12) (pv 12) ⟨rfl, rfl, rfl, rfl⟩) rfl)
      (pss_one (ps_expr (pe_mt T.c_Yard T.m_Yard_disable c_Yard_disable (hr.mono (by first | decide | exact Nat.le_refl _)) (pv 5) (pa_cons (pv 12) pa_nil))))))) (pss_one (ps_if (pt_cmpR op_eq (pv 8) pe_int (nomark _)) (pss_cons (ps_dput (hu_of hr) (pv 9) pe_str pe_int rfl)
      (pss_one (ps_expr (pe_mt0 T.c_Yard T.m_Yard_disable c_Yard_disable_d1 (hr.mono (by first | decide | exact Nat.le_refl _)) (pv 5))))) (pss_one (ps_if (pt_cmpR op_lt (pv 8) pe_int (nomark _)) (pss_cons (ps_dput (hu_of hr) (pe_dget (hu_of hr) (pv 9) pe_str (fun _ _ => rfl)) (pv 10) (pe_cmpR op_eq (pe_fn T.g__law_draw c__law_draw (hr.mono (by first | decide | exact Nat.le_refl _)) (by rfl) (pa_cons (pv 1) (pa_cons pe_int pa_nil))) pe_int (nomark _)) rfl)
      (pss_one (ps_expr (pe_mt T.c_Logger T.m_Logger_setDisabled c_Logger_setDisabled (hr.mono (by first | decide | exact Nat.le_refl _)) (pe_dget (hu_of hr) (pe_ix ix_list (pv 4) (pv 7) (fun _ _ => rfl)) (pv 10) (fun _ _ => rfl)) (pa_cons (pe_dget (hu_of hr) (pe_dget (hu_of hr) (pv 9) pe_str (fun _ _ => rfl)) (pv 10) (fun _ _ => rfl)) pa_nil))))) (pss_cons (ps_dput (hu_of hr) (pe_dget (hu_of hr) (pv 9) pe_str (fun _ _ => rfl)) (pv 10) (pe_fn T.g__law_pick c__law_pick (hr.mono (by first | decide | exact Nat.le_refl _)) (by rfl) (pa_cons (pv 1) (pa_cons (pe_lst (pa_cons pe_int (pa_cons pe_int (pa_cons pe_int (pa_cons pe_int (pa_cons pe_int pa_nil)))))) pa_nil))) rfl)
      (pss_one (ps_expr (pe_mt T.c_Logger T.m_Logger_setLevel c_Logger_setLevel (hr.mono (by first | decide | exact Nat.le_refl _)) (pe_dget (hu_of hr) (pe_ix ix_list (pv 4) (pv 7) (fun _ _ => rfl)) (pv 10) (fun _ _ => rfl)) (pa_cons (pe_dget (hu_of hr) (pe_dget (hu_of hr) (pv 9) pe_str (fun _ _ => rfl)) (pv 10) (fun _ _ => rfl)) pa_nil))))))))))
      (pss_one (ps_if (pt_not (pt_val (pe_callB (cr_all rfl) (by rfl) T.b_all (by decide +kernel) (pa_cons (pe_lc (own := [("_law_k", 13)]) (by rfl) sc_law.nd (pi_range1 (by rfl) T.b_range (pa_cons pe_int pa_nil)) (blkOk_by (own := [("_law_k", 13)]) (N := nm_law) (sc := defScope s_law) (by decide +kernel)) (fun _ _ _ _ _ => (pg_name (i := 13) sc_law.nd rfl (by first | exact Or.inl rfl | exact Or.inr rfl))) (fun _ _ _ _ _ => pts_nil) (fun _ _ _ _ _ => (pe_fn T.g__law_are_right c__law_are_right (hr.mono (by first | decide | exact Nat.le_refl _)) (by rfl) (pa_cons (pe_ix (ixK (K := K) rIxL ix_list) (pv 2) (pv 13) (fun _ _ => rfl)) (pa_cons (pe_ix (ixK (K := K) rIxL ix_list) (pv 4) (pv 13) (fun _ _ => rfl)) (pa_cons (pe_ix (ixK (K := K) rIxL ix_list) (pv 3) (pv 13) (fun _ _ => rfl)) pa_nil)))))) pa_nil)))) (pss_one (ps_ret pe_bl)) pss_nil)))))))), ?_⟩
  walk_at "in"
  intro a s l p p2 D i Ya Za Fy Fz H5 D' S5 p5 p25 D5 dp dp2 dD hi16 o5 o6 o7 o8 o9 o10 o11 o12 o13 k'
  obtain ⟨dp1, dp2'⟩ := dp
  obtain ⟨dq1, dq2⟩ := dp2
  obtain ⟨dD1, dD2⟩ := dD
  have st5 := S5.stm
  walk_at "go"
  intro H10 c q10 st10 c1 c2
  have S10 := S5.old q10 st10
  clear st5
  walk_at "go"
  intro H11 wy q11 st11 w1 w2
  have S11 := S10.old q11 st11
  have p11 := q11 _ _ dp1 dp2' (q10 _ _ dp1 dp2' p5)
  have p211 := q11 _ _ dq1 dq2 (q10 _ _ dq1 dq2 p25)
  have D11 := q11 _ _ dD1 dD2 (q10 _ _ dD1 dD2 D5)
  clear S5 S10 q10 q11 st10 p5 p25 D5
  obtain ⟨Y1, Z1, F1, G1, T11, back, a1, a2, a3⟩ := S11.pick c1 c2
  clear S11
  obtain ⟨⟨os, hs11⟩, ⟨ol, hl11⟩, _⟩ := RW.stm_at st11
  dsimp only [tNil]
  walk_at "gi"
  rename_i pn fpn
  intro H12 x q12 st12 hx
  have S12 := (T11.same (same_new fpn (.lst (names6.map V.str)))).old q12 st12
  have hx2 : x ∈ names6.map V.str := hx
  obtain ⟨nm, hnm, rfl⟩ := List.mem_map.mp hx2
  have okn := names6_ok (List.mem_map_of_mem (f := V.str) hnm)
  have p12 := q12 _ _ dp1 dp2' (same_new fpn (.lst (names6.map V.str)) _ _ p11)
  have p212 := q12 _ _ dq1 dq2 (same_new fpn (.lst (names6.map V.str)) _ _ p211)
  have D12 := q12 _ _ dD1 dD2 (same_new fpn (.lst (names6.map V.str)) _ _ D11)
  clear q12 hx hx2 hs11 hl11 T11 p11 p211 D11 fpn st11 hnm
  obtain ⟨bar, es, g, S1, hes⟩ := id S12.a
  have fo := S1.fo.ok bar
  dsimp only [gName, List.set]
  refine ⟨_, rfl, Y1.y, Y1.dy, F1 bar, rfl, S1.kn_.tr.yd, fo.gl_, _, rfl, ?_⟩
  dsimp only [tNil]
  show spGetLogR K [.ref Y1.y, .str nm] H12 _ E0
  refine spGetLogR_mono (fun v H' hq => ?_) (S1.step (by omega) okn (R := fun H3 => ∃ es' g', List.length es' ≤ i + 1 ∧ YS K H3 Y1 F1 bar (nums0 K) es' g' ∧ Ch K Y1 H12 H3 ∧ ∃ a, (nm, a) ∈ kn es' Y1.rt) (fun H3 es' g' l' S' c' hm => ⟨es', g', by omega, S', c', hm⟩))
  obtain ⟨ch, H2, hp, hm⟩ := hq
  have D13 := S12.lst ch D12
  refine ⟨_, rfl, _, rfl, D, _, _, _, rfl, rfl, SqL.of D13, a3, _, rfl, _, H2, rfl, hp, _, rfl, _, rfl, ?_⟩
  dsimp only [tNil]
  show spMade [.ref Y1.A.m, .str nm] H2 _ E0
  refine spMade_mono (fun _ H3 hR => ?_) hm
  obtain ⟨es', g', hes', S3, ch3, an, han⟩ := hR
  have p13 := S12.lst ch3 p12
  have p213 := S12.lst ch3 p212
  have D14 := S12.lst ch3 D12
  have T3 := S12.ch (c' := i + 1) (by omega) ⟨bar, es', g', S3, hes'⟩ ch3
  clear hp hm ch ch3 D13 S1 hes S12 p12 p212 D12
  refine st_if (fun σ H' => KS2 K H' s l Y1 Z1 F1 G1 (1 + 20 * i + 15) (i + 1) ∧ H' p = some (.lst [.ref Ya.y, .ref Za.y]) ∧ H' p2 = some (.lst [.ref Ya.A.m, .ref Za.A.m]) ∧ H' D = some (.lst [.ref Ya.k, .ref Za.k]) ∧ ∃ o11 o12, σ = [some (.ref a), some (.ref s), some (.ref p), some (.ref p2), some (.ref D), some (.ref Y1.y), o6, some (.int c), some (.int wy), some (.ref Y1.A.m), some (.str nm), o11, o12, o13])
    (fun D2 k2 => ?_) (fun σ H4 hR => ?_)
  · clear k'
    have st3 := T3.stm
    obtain ⟨⟨os3, hs3⟩, ⟨ol3, hl3⟩, _⟩ := RW.stm_at st3
    by_cases z : wy < 2
    · have zt : decide (wy < 2) = true := decide_eq_true z
      walk_at "gi"
      rename_i pb fpb
      intro H4 x q4 st4 hx
      have T4 := (T3.same (same_new fpb (.lst some11))).old q4 st4
      have p4 := q4 _ _ dp1 dp2' (same_new fpb (.lst some11) _ _ p13)
      have p24 := q4 _ _ dq1 dq2 (same_new fpb (.lst some11) _ _ p213)
      have D4 := q4 _ _ dD1 dD2 (same_new fpb (.lst some11) _ _ D14)
      have S4 : YS K H4 Y1 F1 bar (nums0 K) es' g' := (S3.same (same_new fpb (.lst some11))).old (T3.same (same_new fpb (.lst some11))).stm q4
      have hx2 : x ∈ some11 := hx
      clear q4 hx st3 hs3 hl3 fpb T3 S3 p13 p213 D14
      obtain ⟨r, hc⟩ := some11_ok (K := K) hx2
      have m4 := S4.m_
      have y4 := S4.kn_.tr.yd
      have nu4 := S4.nu_
      have fo4 := S4.fo.ok bar
      have fnu := fo4.nu_
      have flo := fo4.lo_
      have fdi := fo4.di_
      have fle : (F1 bar).length < 1000 := Nat.lt_of_le_of_lt fo4.len_ (by decide)
      have b1 := S4.setBar r
      have fin : ∀ (hp : Hp), Same H4 hp → ∀ o11 o12 : Option V, D2.nx [some (.ref a), some (.ref s), some (.ref p), some (.ref p2), some (.ref D), some (.ref Y1.y), o6, some (.int c), some (.int wy), some (.ref Y1.A.m), some (.str nm), o11, o12, o13] (upd (upd hp Y1.A.m (.dK (mdK Y1.A (.int r) Y1.h Y1.t))) Y1.y (.ins (CY K) Y1.dy (F1 r))) := fun hp sm o11 o12 => by
        obtain ⟨b2, b3⟩ := (S4.same sm).setBar r
        have Tm := T4.same sm
        exact k2 _ _ ⟨(Tm.ch (c' := i + 1) (Nat.le_refl _) ⟨r, es', g', b2, hes'⟩ b3).old (Old.refl _) ((Tm.ch (c' := i + 1) (Nat.le_refl _) ⟨r, es', g', b2, hes'⟩ b3).stm.mono (by omega)), Tm.lst b3 (sm _ _ p4), Tm.lst b3 (sm _ _ p24), Tm.lst b3 (sm _ _ D4), _, _, rfl⟩
      rcases hc with ⟨i0, rfl, rfl, hb⟩ | ⟨t0, rfl, hv, hb⟩
      · have hb' : valV (mergeK [] [(Sum.inr "WARN", V.int 30), (Sum.inr "NOTSET", V.int 0), (Sum.inr "CRITICAL", V.int 50)]) (Sum.inl r : Key) = none := hb
        walk_at "gi"
        rename_i pd fpd
        refine ⟨(rfl : _ = [V.ref Y1.y, (LvIn.int r).v]), ?_⟩
        walk_at "go"
        rw [S4.fo.put, mdK_bar]
        exact fin _ (by walk_at "sm") _ _
      · have hb' : valV (mergeK [] [(Sum.inr "WARN", V.int 30), (Sum.inr "NOTSET", V.int 0), (Sum.inr "CRITICAL", V.int 50)]) (Sum.inr t0 : Key) = some (.int r) := hb
        walk_at "gi"
        rename_i pd fpd
        refine ⟨(rfl : _ = [V.ref Y1.y, (LvIn.nm t0).v]), ?_⟩
        walk_at "go"
        rw [S4.fo.put, mdK_bar]
        exact fin _ (by walk_at "sm") _ _
    · have zt : decide (wy < 2) = false := decide_eq_false z
      have S4 := S3
      have m4 := S4.m_
      have y4 := S4.kn_.tr.yd
      have nu4 := S4.nu_
      have fo4 := S4.fo.ok bar
      have fnu := fo4.nu_
      have flo := fo4.lo_
      have fdi := fo4.di_
      have fle : (F1 bar).length < 1000 := Nat.lt_of_le_of_lt fo4.len_ (by decide)
      by_cases z2 : wy = 2
      · walk_at "gi"
        refine ⟨(rfl : _ = [V.ref Y1.y, (LvIn.int 50).v]), ?_⟩
        walk_at "go"
        rw [S4.fo.put, mdK_bar]
        obtain ⟨b2, b3⟩ := S4.setBar 50
        exact k2 _ _ ⟨(T3.ch (Nat.le_refl _) ⟨_, es', g', b2, hes'⟩ b3).mono (by omega), T3.lst b3 p13, T3.lst b3 p213, T3.lst b3 D14, _, _, rfl⟩
      · clear m4 y4 nu4 S4
        have vk : valV (lmK (kn es' Y1.rt)) (Sum.inr nm) = some (.ref an) := by rw [valV_lmK, lookup_nd han S3.kn_.nd]; rfl
        walk_at "gi"
        by_cases z3 : wy < 5
        · refine iteT' (decide_eq_true z3) ?_
          walk_at "gi"
          intro H4 b q4 st4 e1 e2
          have T4 := T3.old q4 st4
          have p4 := q4 _ _ dp1 dp2' p13
          have p24 := q4 _ _ dq1 dq2 p213
          have D4 := q4 _ _ dD1 dD2 D14
          have S4 := S3.old T3.stm q4
          clear q4 st4 p13 p213 D14 S3 T3 st3 hs3 hl3
          have m4 := S4.m_
          have of4 := S4.of_
          have k4 := S4.kd
          have hE := S4.kn_.at_ han
          have lof : (offK es' Y1.rt g').length ≤ 60 := by unfold offK mapK; rw [List.length_map]; show es'.length + 1 ≤ 60; omega
          have vp : valV (putK (offK es' Y1.rt g') (Sum.inr nm) (.bl (decide (V.int b = V.int 0)))) (Sum.inr nm) = some (.bl (decide (V.int b = V.int 0))) := by rw [valV_put, if_pos rfl]
          obtain ⟨b2, b3⟩ := S4.setDis han (decide (V.int b = V.int 0))
          have nof : Y1.A.m ≠ Y1.A.of := S4.nd.2.2.2.1.2.2.1
          have nko : Y1.k ≠ Y1.A.of := S4.nd.2.1.2.2.2.2.1
          walk_at "gi"
          exact k2 _ _ ⟨(T4.ch (Nat.le_refl _) ⟨_, es', _, b2, hes'⟩ b3).mono (by omega), T4.lst b3 p4, T4.lst b3 p24, T4.lst b3 D4, _, _, rfl⟩
        · refine iteF' (decide_eq_false z3) ?_
          walk_at "gi"
          rename_i pg fpg
          intro H4 x q4 st4 hx
          have hi : ∃ v, x = .int v := by
            simp only [List.mem_cons, List.not_mem_nil, or_false] at hx
            rcases hx with rfl | rfl | rfl | rfl | rfl <;> exact ⟨_, rfl⟩
          obtain ⟨v, rfl⟩ := hi
          have sg1 := same_new fpg (.lst [.int 0, .int 1, .int 10, .int 31, .int 60])
          have T4 := (T3.same sg1).old q4 st4
          have p4 := q4 _ _ dp1 dp2' (sg1 _ _ p13)
          have p24 := q4 _ _ dq1 dq2 (sg1 _ _ p213)
          have D4 := q4 _ _ dD1 dD2 (sg1 _ _ D14)
          have S4 := (S3.same sg1).old (T3.same sg1).stm q4
          clear q4 st4 p13 p213 D14 S3 T3 st3 hs3 hl3 hx fpg sg1
          have m4 := S4.m_
          have lv4 := S4.lv_
          have k4 := S4.kd
          have y4 := S4.kn_.tr.yd
          have nu4 := S4.nu_
          have hE := S4.kn_.at_ han
          have llv : (lvK es' Y1.rt g').length ≤ 60 := by unfold lvK mapK; rw [List.length_map]; show es'.length + 1 ≤ 60; omega
          have vp : valV (putK (lvK es' Y1.rt g') (Sum.inr nm) (.int v)) (Sum.inr nm) = some (.int v) := by rw [valV_put, if_pos rfl]
          obtain ⟨b2, b3⟩ := S4.setLev han v
          have nof : Y1.A.m ≠ Y1.A.lv := S4.nd.2.2.2.1.1
          have nko : Y1.k ≠ Y1.A.lv := S4.nd.2.1.2.2.1
          have nuo : Y1.nu ≠ Y1.A.lv := S4.nd.2.2.1.2.1
          walk_at "gi"
          refine ⟨(rfl : _ = [V.ref an, (LvIn.int v).v]), ?_⟩
          walk_at "go"
          exact k2 _ _ ⟨(T4.ch (Nat.le_refl _) ⟨_, es', _, b2, hes'⟩ b3).mono (by omega), T4.lst b3 p4, T4.lst b3 p24, T4.lst b3 D4, _, _, rfl⟩
  · obtain ⟨T4, p4, p24, D4, o11', o12', rfl⟩ := hR
    have T5 := back _ _ _ T4
    obtain ⟨ba, ea, ga, SA, la⟩ := T5.a
    obtain ⟨bb, eb, gb, SB, lb⟩ := T5.b
    walk_at "gi"
    rename_i L fL
    refine lc_it walk_range (fun i H' => Same H4 H' ∧ H' L = some (.lst ((List.replicate i true).map V.bl))) ⟨by walk_at "sm", upd_same⟩ (fun _ _ _ _ => trivial) (fun j x H9 H6 hj hP hx => ?_) (fun H6 hP => ?_)
    · obtain ⟨rfl, rfl⟩ := hx
      obtain ⟨s6, L6⟩ := hP
      have p6 := s6 _ _ p4
      have p26 := s6 _ _ p24
      have D6 := s6 _ _ D4
      have SA6 := SA.same s6
      have SB6 := SB.same s6
      have hj2 : j = 0 ∨ j = 1 := by have : j < 2 := hj; omega
      have lenr : (List.map V.bl (List.replicate j true)).length < sizeLine := by rw [List.length_map, List.length_replicate, PySem.sizeLine_eq]; have : j < 2 := hj; omega
      rcases hj2 with rfl | rfl
      · have q1 : atI [V.ref Ya.y, V.ref Za.y] (0 + ((0 : Nat) : Int)) = some (.ref Ya.y) := rfl
        have q2 : atI [V.ref Ya.k, V.ref Za.k] (0 + ((0 : Nat) : Int)) = some (.ref Ya.k) := rfl
        have q3 : atI [V.ref Ya.A.m, V.ref Za.A.m] (0 + ((0 : Nat) : Int)) = some (.ref Ya.A.m) := rfl
        clear SB6
        walk_at "go"
        intro H7 s7
        walk_at "go"
        rw [upd_same, List.replicate_succ', List.map_append]; rfl
      · have q1 : atI [V.ref Ya.y, V.ref Za.y] (0 + ((1 : Nat) : Int)) = some (.ref Za.y) := rfl
        have q2 : atI [V.ref Ya.k, V.ref Za.k] (0 + ((1 : Nat) : Int)) = some (.ref Za.k) := rfl
        have q3 : atI [V.ref Ya.A.m, V.ref Za.A.m] (0 + ((1 : Nat) : Int)) = some (.ref Za.A.m) := rfl
        clear SA6
        walk_at "go"
        intro H7 s7
        walk_at "go"
        rw [upd_same, List.replicate_succ', List.map_append]; rfl
    · obtain ⟨s6, L6⟩ := hP
      refine ⟨L, List.replicate 2 true, rfl, SqL.of L6, ?_⟩
      walk_at "go"
      exact k' _ _ ⟨(T5.same s6).mono (by omega), s6 _ _ p4, s6 _ _ p24, s6 _ _ D4, _, _, _, _, _, _, _, _, _, rfl⟩
end
end K17

set_option Elab.async false
set_option linter.all false
set_option maxRecDepth 100000
set_option maxHeartbeats 0

namespace K17
open PySem PySem.Spec PyProof.Rows L2 RC
section
variable {P : Program} {w : World} {K : PySem.W.Frag} {mg : Str → Option Value} {base : Heap}
theorem law_body (T : Txt P w K mg) {f : Addr} {cdv : Value} {A : Around} {outer : List Env} {st0 : Shared} {E : XK} {vs : List V} {H : Hp} {Q : VK} (hr : Room 6 (A.deeper (envOfC "law" (defScope s_law) st0.heap.objs.size f cdv))) (hsp : spLaw K vs H Q E)
    (c__law_draw : Callable P w K mg base 1 (He.ga K "_law_draw") ["_law_s", "_law_many"] [] spDraw)
    (c__law_pick : Callable P w K mg base 2 (He.ga K "_law_pick") ["_law_s", "_law_some"] [] (spPick K))
    (c__law_tree : Callable P w K mg base 1 (He.ga K "_law_tree") [] [] spTree)
    (c__law_made : Callable P w K mg base 1 (He.ga K "_law_made") ["_law_m", "_law_name"] [] spMade)
    (c__law_are_right : Callable P w K mg base 5 (He.ga K "_law_are_right") ["_law_yard", "_law_known", "_law_m"] [] (spRight K))
    (c_Yard_init_d1 : Callable P w K mg base 5 (He.ma K (He.ga K "Yard") "__init__") ["self", "now"] [.int 0] (spYardInit K))
    (c_Yard_getLogger : Callable P w K mg base 4 (He.ma K (He.ga K "Yard") "getLogger") ["self", "name"] [] (spGetLogR K))
    (c_Yard_disable : Callable P w K mg base 3 (He.ma K (He.ga K "Yard") "disable") ["self", "level"] [] (spDisable K))
    (c_Yard_disable_d1 : Callable P w K mg base 3 (He.ma K (He.ga K "Yard") "disable") ["self", "level"] [.int 50] (spDisable K))
    (c_Logger_setDisabled : Callable P w K mg base 1 (He.ma K (He.ga K "Logger") "setDisabled") ["self", "flag"] [] (spSetDis K))
    (c_Logger_setLevel : Callable P w K mg base 3 (He.ma K (He.ga K "Logger") "setLevel") ["self", "level"] [] (spSetLevel K)) :
    ∃ t, PSs (cxOf CX0 P w K mg base nm_law "law" (defScope s_law) f cdv A outer st0 H E).nox (defBody s_law) t ∧ t { nx := fun _ H' => Q .non H', rt := Q } (start nm_law vs) H := by
  obtain ⟨a, ns, rfl, hn, hS, hQ⟩ := hsp
  obtain ⟨tt, hturn, qturn⟩ := turn (f := f) (cdv := cdv) (outer := outer) (st0 := st0) (H := H) (E := E) T hr c__law_draw c__law_pick c__law_made c__law_are_right c_Yard_getLogger c_Yard_disable c_Yard_disable_d1 c_Logger_setDisabled c_Logger_setLevel
  refine ⟨_, (pss_cons (ps_set (i := 1) sc_law.nd rfl (by first | exact Or.inl rfl | exact Or.inr rfl) (pe_lst (pa_cons (pe_callTy call_list_of (by rfl) T.b_list (by decide +kernel) (pa_cons (pv 0) pa_nil)) (pa_cons pe_int (pa_cons pe_int (pa_cons pe_int pa_nil))))))
      (pss_cons (ps_asg (pe_tup (pa_cons (pe_lst (pa_cons (pe_mk0 T.k_Yard T.g_Yard c_Yard_init_d1 (hr.mono (by first | decide | exact Nat.le_refl _)) (by rfl)) (pa_cons (pe_mk0 T.k_Yard T.g_Yard c_Yard_init_d1 (hr.mono (by first | decide | exact Nat.le_refl _)) (by rfl)) pa_nil))) (pa_cons (pe_lst (pa_cons (pe_fn0 T.g__law_tree c__law_tree (hr.mono (by first | decide | exact Nat.le_refl _)) (by rfl)) (pa_cons (pe_fn0 T.g__law_tree c__law_tree (hr.mono (by first | decide | exact Nat.le_refl _)) (by rfl)) pa_nil))) pa_nil))) (RG.pg_tupK (K := K) (n := 2) (by rfl) (pgs_cons (pg_name (i := 2) sc_law.nd rfl (by first | exact Or.inl rfl | exact Or.inr rfl)) (pgs_cons (pg_name (i := 3) sc_law.nd rfl (by first | exact Or.inl rfl | exact Or.inr rfl)) pgs_nil))))
      (pss_cons (ps_set (i := 4) sc_law.nd rfl (by first | exact Or.inl rfl | exact Or.inr rfl) (pe_lc (own := [("_law_yard", 5)]) (by rfl) sc_law.nd (pi_list (pv 2)) (blkOk_by (own := [("_law_yard", 5)]) (N := nm_law) (sc := defScope s_law) (by decide +kernel)) (fun _ _ _ _ _ => (pg_name (i := 5) sc_law.nd rfl (by first | exact Or.inl rfl | exact Or.inr rfl))) (fun _ _ _ _ _ => pts_nil) (fun _ _ _ _ _ => (pe_disp (pps_cons pe_str (pe_fldK (K := K) (pv 5) rfl) pps_nil) (by rfl) (by rfl) (fun z => by cases z) (by decide)))))
      (pss_cons (ps_for PassesOwn.never rfl (pi_range1 (by rfl) T.b_range (pa_cons (pe_op op_add pe_int (pe_fn T.g__law_draw c__law_draw (hr.mono (by first | decide | exact Nat.le_refl _)) (by rfl) (pa_cons (pv 1) (pa_cons pe_int pa_nil)))) pa_nil)) (pg_name (i := 6) sc_law.nd rfl (by first | exact Or.inl rfl | exact Or.inr rfl)) hturn)
      (pss_one (ps_ret pe_bl)))))), ?_⟩
  walk_at "in"
  refine ⟨_, rfl, a, ns.map V.int, rfl, .inl hS, fun l hl => ⟨(by show 4 ≤ sizeLine; decide), fun s hs => ?_⟩⟩
  have st1 : Stm (upd (upd H l (.lst (ns.map V.int))) s (.lst [.ref l, .int 0, .int 0, .int 0])) s l 0 := by
    have n1 := (upd_none hs).1
    exact ⟨n1, ns, 0, 0, 0, upd_same, by rw [upd_ne (Ne.symm n1)]; exact upd_same, hn, by decide, by decide, by decide, by decide, by decide⟩
  generalize upd (upd H l (.lst (ns.map V.int))) s (.lst [.ref l, .int 0, .int 0, .int 0]) = H1 at st1
  -- the yards
  intro y dy hy hdy hne
  refine ⟨y, dy, 0, rfl, upd_same, fun H2 Y N => ⟨rfl, ?_⟩⟩
  obtain ⟨ld, F⟩ := N.fr.choose_spec
  have S12 : Same H1 H2 := made_same hy hdy F.kp
  obtain ⟨gy, glm, gnu, ⟨rd, grt⟩, flm, fnu, nlu⟩ := N.facts upd_same
  have st2 := st1.same S12
  clear F S12 st1 N
  intro z dz hz hdz hnz
  refine ⟨z, dz, 0, rfl, upd_same, fun H3 Z N2 => ⟨rfl, ?_⟩⟩
  obtain ⟨ld2, F2⟩ := N2.fr.choose_spec
  have S23 : Same H2 H3 := made_same hz hdz F2.kp
  obtain ⟨gz, glm', gnu', ⟨rd', grt'⟩, flm', fnu', nlu'⟩ := N2.facts upd_same
  have nyz : y ≠ z := fun e => by rw [e, hz] at gy; cases gy
  have q12 : ∀ b ∈ ([Z.lm, Z.nu] : List Addr), b ∉ ([Y.lm, Y.nu] : List Addr) := by
    refine apart (H := H2) (fun b hb => ?_) (fun b hb => ?_)
    · simp only [List.mem_cons, List.not_mem_nil, or_false] at hb
      rcases hb with rfl | rfl
      · exact (upd_none (upd_none flm').2).2
      · exact (upd_none (upd_none fnu').2).2
    · simp only [List.mem_cons, List.not_mem_nil, or_false] at hb
      rcases hb with rfl | rfl
      · exact ⟨_, glm⟩
      · exact ⟨_, gnu⟩
  have gy3 := S23 _ _ gy
  have glm3 := S23 _ _ glm
  have gnu3 := S23 _ _ gnu
  have grt3 := S23 _ _ grt
  have st3 := st2.same S23
  clear F2 S23 st2 N2 hz hdz hnz hy hdy hne flm fnu flm' fnu' gy glm gnu grt
  dsimp only [tNil]
  walk_at "gi"
  rename_i p fp
  have dp : p ≠ s ∧ p ≠ l := by
    obtain ⟨⟨_, h3s⟩, ⟨_, h3l⟩, _⟩ := RW.stm_at st3
    exact ⟨RW.ne_new' fp h3s, RW.ne_new' fp h3l⟩
  intro H4 M hh tt b4 b5 s4 ndM frM m4 lv4 pr4 of4 hd4 sv4
  have p4 : H4 p = some (.lst [.ref y, .ref z]) := by walk_at "hp"
  have s34 : Same H3 H4 := by walk_at "sm"
  have frM3 : ∀ x ∈ M.all, H3 x = none := fun x hx => (upd_none (frM x hx)).2
  clear s4 frM fp
  walk_at "go"
  intro H5 W hh' tt' c4 c5 s5 ndW frW m5 lv5 pr5 of5 hd5 sv5
  have p5 := s5 _ _ p4
  have s35 := s34.trans s5
  have n1 := s5 _ _ m4
  have n2 := s5 _ _ lv4
  have n3 := s5 _ _ pr4
  have n4 := s5 _ _ of4
  have n5 := s5 _ _ hd4
  have n6 := s5 _ _ sv4
  have liM : ∀ x ∈ M.all, ∃ o, H4 x = some o := fun x hx => by
    have hx : x ∈ ([M.m, M.lv, M.pr, M.of, M.hd, M.sv] : List Addr) := hx
    simp only [List.mem_cons, List.not_mem_nil, or_false] at hx
    rcases hx with rfl | rfl | rfl | rfl | rfl | rfl
    · exact ⟨_, m4⟩
    · exact ⟨_, lv4⟩
    · exact ⟨_, pr4⟩
    · exact ⟨_, of4⟩
    · exact ⟨_, hd4⟩
    · exact ⟨_, sv4⟩
  have liW : ∀ x ∈ W.all, ∃ o, H5 x = some o := fun x hx => by
    have hx : x ∈ ([W.m, W.lv, W.pr, W.of, W.hd, W.sv] : List Addr) := hx
    simp only [List.mem_cons, List.not_mem_nil, or_false] at hx
    rcases hx with rfl | rfl | rfl | rfl | rfl | rfl
    · exact ⟨_, m5⟩
    · exact ⟨_, lv5⟩
    · exact ⟨_, pr5⟩
    · exact ⟨_, of5⟩
    · exact ⟨_, hd5⟩
    · exact ⟨_, sv5⟩
  have liY : ∀ x ∈ ([Y.lm, Y.nu] : List Addr), ∃ o, H3 x = some o := fun x hx => by
    simp only [List.mem_cons, List.not_mem_nil, or_false] at hx
    rcases hx with rfl | rfl
    · exact ⟨_, glm3⟩
    · exact ⟨_, gnu3⟩
  have liZ : ∀ x ∈ ([Z.lm, Z.nu] : List Addr), ∃ o, H3 x = some o := fun x hx => by
    simp only [List.mem_cons, List.not_mem_nil, or_false] at hx
    rcases hx with rfl | rfl
    · exact ⟨_, glm'⟩
    · exact ⟨_, gnu'⟩
  have qMY := apart frM3 liY
  have qMZ := apart frM3 liZ
  have qWM := apart frW liM
  have qWY : ∀ x ∈ W.all, x ∉ ([Y.lm, Y.nu] : List Addr) := apart frW (fun x hx => let ⟨o, e⟩ := liY x hx; ⟨o, s34 _ _ e⟩)
  have qWZ : ∀ x ∈ W.all, x ∉ ([Z.lm, Z.nu] : List Addr) := apart frW (fun x hx => let ⟨o, e⟩ := liZ x hx; ⟨o, s34 _ _ e⟩)
  have gy5 := s35 _ _ gy3
  have gz5 := s35 _ _ gz
  have st5 := st3.same s35
  walk_at "gi"
  rename_i p2 fp2 p3 fp3 _ D fD _ _
  have dp2 : p2 ≠ s ∧ p2 ≠ l := by
    obtain ⟨⟨_, h3s⟩, ⟨_, h3l⟩, _⟩ := RW.stm_at st5
    exact ⟨RW.ne_new' fp2 h3s, RW.ne_new' fp2 h3l⟩
  have dD : D ≠ s ∧ D ≠ l := by
    obtain ⟨⟨_, h3s⟩, ⟨_, h3l⟩, _⟩ := RW.stm_at st5
    exact ⟨RW.ne_new' fD h3s, RW.ne_new' fD h3l⟩
  have fD' : upd (upd H5 p2 (.lst [.ref M.m, .ref W.m])) p3 (.tup [.ref p, .ref p2]) D = none := by walk_at "no"
  have s56 : Same H5 (upd (upd H5 p2 (.lst [.ref M.m, .ref W.m])) p3 (.tup [.ref p, .ref p2])) := by walk_at "sm"
  have p26 : upd (upd H5 p2 (.lst [.ref M.m, .ref W.m])) p3 (.tup [.ref p, .ref p2]) p2 = some (.lst [.ref M.m, .ref W.m]) := by walk_at "hp"
  generalize upd (upd H5 p2 (.lst [.ref M.m, .ref W.m])) p3 (.tup [.ref p, .ref p2]) = H6 at fD' s56 p26
  have p6 := s56 _ _ p5
  have gy6 := s56 _ _ gy5
  have gz6 := s56 _ _ gz5
  refine lc_it (walk_list (xs := [.ref y, .ref z])) (fun i H' => Same H6 H' ∧ ((i = 0 ∧ H' D = some (.lst [])) ∨ (∃ k, H6 k = none ∧ H' k = some (.dK [((Sum.inr "" : Key), .ref Y.rt)]) ∧ ((i = 1 ∧ H' D = some (.lst [.ref k])) ∨ (∃ k2, i = 2 ∧ H6 k2 = none ∧ k2 ≠ k ∧ H' k2 = some (.dK [((Sum.inr "" : Key), .ref Z.rt)]) ∧ H' D = some (.lst [.ref k, .ref k2]))))))
    ⟨by walk_at "sm", .inl ⟨rfl, upd_same⟩⟩ (fun i H' _ h => SqL.of (h.1 _ _ p6)) (fun i x H8 H7 hi hP hx => ?_) (fun H7 hP => ?_)
  · obtain ⟨rfl, hx⟩ := hx
    obtain ⟨s7, hP⟩ := hP
    have gy7 := s7 _ _ gy6
    have gz7 := s7 _ _ gz6
    rcases hP with ⟨rfl, hD⟩ | ⟨k, fk, hk, ⟨rfl, hD⟩ | ⟨k2, rfl, _⟩⟩
    · have ex : x = .ref y := (Option.some.inj hx).symm
      subst ex
      walk_at "gi"
      rename_i k fk
      exact .inr ⟨k, s7.free fk, (RW.at_upd (by walk_at "ne") upd_same), .inl ⟨rfl, upd_same⟩⟩
    · have ex : x = .ref z := (Option.some.inj hx).symm
      subst ex
      walk_at "gi"
      rename_i k2 fk2
      exact .inr ⟨k, fk, (by walk_at "hp"), .inr ⟨k2, rfl, s7.free fk2, (by walk_at "ne"), (RW.at_upd (by walk_at "ne") upd_same), upd_same⟩⟩
    · exact absurd hi (Nat.lt_irrefl _)
  obtain ⟨s67, hP⟩ := hP
  obtain ⟨k, k2, fk, fk2, nkk, hk, hk2, hD⟩ : ∃ k k2, H6 k = none ∧ H6 k2 = none ∧ k2 ≠ k ∧ H7 k = some (.dK [((Sum.inr "" : Key), .ref Y.rt)]) ∧ H7 k2 = some (.dK [((Sum.inr "" : Key), .ref Z.rt)]) ∧ H7 D = some (.lst [.ref k, .ref k2]) := by
    rcases hP with ⟨h, _⟩ | ⟨k, fk, hk, ⟨h, _⟩ | ⟨k2, _, fk2, n, hk2, hD⟩⟩
    · cases h
    · cases h
    · exact ⟨k, k2, fk, fk2, n, hk, hk2, hD⟩
  have s57 := s56.trans s67
  have s37 := s35.trans s57
  have liM6 : ∀ x ∈ M.all, ∃ o, H6 x = some o := fun x hx => let ⟨o, e⟩ := liM x hx; ⟨o, s56 _ _ (s5 _ _ e)⟩
  have liW6 : ∀ x ∈ W.all, ∃ o, H6 x = some o := fun x hx => let ⟨o, e⟩ := liW x hx; ⟨o, s56 _ _ e⟩
  have liY6 : ∀ x ∈ ([Y.lm, Y.nu] : List Addr), ∃ o, H6 x = some o := fun x hx => let ⟨o, e⟩ := liY x hx; ⟨o, s56 _ _ (s35 _ _ e)⟩
  have liZ6 : ∀ x ∈ ([Z.lm, Z.nu] : List Addr), ∃ o, H6 x = some o := fun x hx => let ⟨o, e⟩ := liZ x hx; ⟨o, s56 _ _ (s35 _ _ e)⟩
  have one : ∀ {q : Addr} {L : List Addr}, H6 q = none → (∀ x ∈ L, ∃ o, H6 x = some o) → q ∉ L := fun h1 h2 => apart (As := [_]) (fun a ha => by rw [List.mem_singleton.mp ha]; exact h1) h2 _ List.mem_cons_self
  have YA0 := mkYS (s37 _ _ gy3) (s37 _ _ glm3) (s37 _ _ gnu3) (s37 _ _ grt3) hk (s57 _ _ n1) (s57 _ _ n2) (s57 _ _ n3) (s57 _ _ n4) (s57 _ _ n5) (s57 _ _ n6) ndM nlu qMY (one fk liY6) (one fk liM6)
  have YA1 := mkYS (s37 _ _ gz) (s37 _ _ glm') (s37 _ _ gnu') (s37 _ _ grt') hk2 (s57 _ _ m5) (s57 _ _ lv5) (s57 _ _ pr5) (s57 _ _ of5) (s57 _ _ hd5) (s57 _ _ sv5) ndW nlu' qWZ (one fk2 liZ6) (one fk2 liW6)
  have S0 : KS2 K H7 s l ⟨y, dy, Y.lm, Y.rt, Y.nu, k, M, hh, tt⟩ ⟨z, dz, Z.lm, Z.rt, Z.nu, k2, W, hh', tt'⟩ (yB Y) (yB Z) 0 0 := by
    refine ⟨st3.same s37, ⟨_, _, _, YA0, Nat.le_refl _⟩, ⟨_, _, _, YA1, Nat.le_refl _⟩, nyz, fun b hb hb' => ?_⟩
    rcases YA.mem hb with h | h | h
    · rcases YA.mem hb' with h' | h' | h'
      · exact q12 b h h'
      · exact qMZ b h' h
      · have h' : b = k := h'
        subst h'
        exact one fk liZ6 h
    · rcases YA.mem hb' with h' | h' | h'
      · exact qWY b h h'
      · exact qWM b h h'
      · have h' : b = k := h'
        subst h'
        exact one fk liW6 h
    · have h : b = k2 := h
      subst h
      rcases YA.mem hb' with h' | h' | h'
      · exact one fk2 liY6 h'
      · exact one fk2 liM6 h'
      · exact nkk h'
  have p7 := s67 _ _ p6
  have p27 := s67 _ _ p26
  clear YA0 YA1 one liM6 liW6 liY6 liZ6 liM liW liY liZ qMY qMZ qWM qWY qWZ q12 hk hk2 fk fk2 nkk s57 s37 s67 s56 hP gy6 gz6 p6 p26 fD' st5 gy5 gz5 p5 n1 n2 n3 n4 n5 n6 m5 lv5 pr5 of5 hd5 sv5 frW ndW s5 s35 frM3 s34 m4 lv4 pr4 of4 hd4 sv4 ndM p4 st3 grt3 gnu3 glm3 gy3 nyz nlu' grt' gnu' glm' gz nlu
  dsimp only [gName]
  walk_at "go"
  have ps := S0.stm
  obtain ⟨⟨os, hs7⟩, ⟨ol, hl7⟩, nsl⟩ := RW.stm_at ps
  refine ⟨S0.stm, by decide, by decide, by decide, fun H8 d o8 st8 d1 d2 => ?_⟩
  have S8 := S0.old o8 st8
  obtain ⟨dp1, dp2'⟩ := dp
  obtain ⟨dq1, dq2⟩ := dp2
  obtain ⟨dD1, dD2⟩ := dD
  have p8 := o8 _ _ dp1 dp2' p7
  have p28 := o8 _ _ dq1 dq2 p27
  have D8 := o8 _ _ dD1 dD2 hD
  clear o8 st8 ps hs7 hl7 p7 p27 hD S0
  generalize eY : (⟨y, dy, Y.lm, Y.rt, Y.nu, k, M, hh, tt⟩ : YA) = Ya at S8
  generalize eZ : (⟨z, dz, Z.lm, Z.rt, Z.nu, k2, W, hh', tt'⟩ : YA) = Za at S8
  have e1 : y = Ya.y := by rw [← eY]
  have e2 : k = Ya.k := by rw [← eY]
  have e3 : M.m = Ya.A.m := by rw [← eY]
  have e4 : z = Za.y := by rw [← eZ]
  have e5 : k2 = Za.k := by rw [← eZ]
  have e6 : W.m = Za.A.m := by rw [← eZ]
  rw [e1, e4] at p8
  rw [e3, e6] at p28
  rw [e2, e5] at D8
  clear e1 e2 e3 e4 e5 e6 eY eZ
  generalize yB Y = Fy at S8
  generalize yB Z = Fz at S8
  walk_at "go"
  refine for_it walk_range (fun i σ H' => KS2 K H' s l Ya Za Fy Fz (1 + 20 * i) i ∧ H' p = some (.lst [.ref Ya.y, .ref Za.y]) ∧ H' p2 = some (.lst [.ref Ya.A.m, .ref Za.A.m]) ∧ H' D = some (.lst [.ref Ya.k, .ref Za.k]) ∧ ∃ o5 o6 o7 o8 o9 o10 o11 o12 o13, σ = [some (.ref a), some (.ref s), some (.ref p), some (.ref p2), some (.ref D), o5, o6, o7, o8, o9, o10, o11, o12, o13])
    ⟨S8, p8, p28, D8, _, _, _, _, _, _, _, _, _, rfl⟩ (fun _ _ _ _ _ => trivial) (fun i x σ H9 H5 hi hP hx => ?_) (fun σ H5 hP => ?_)
  · obtain ⟨rfl, rfl⟩ := hx
    obtain ⟨S5, p5, p25, D5, o5, o6, o7, o8, o9, o10, o11, o12, o13, rfl⟩ := hP
    exact qturn i Ya Za Fy Fz H5 _ S5 p5 p25 D5 ⟨dp1, dp2'⟩ ⟨dq1, dq2⟩ ⟨dD1, dD2⟩ (by omega) _ _ _ _ _ _ _ _ _ (fun σ H' h => h)
  · obtain ⟨_, _, _, _, o5, o6, o7, o8, o9, o10, o11, o12, o13, rfl⟩ := hP
    walk_at "go"
    exact hQ _
end
end K17

set_option Elab.async false
set_option linter.all false
set_option maxRecDepth 100000
set_option maxHeartbeats 0
namespace K17
open PySem PySem.Spec PyProof.Rows L2 RC
section
variable {P : Program} {w : World} {K : PySem.W.Frag} {mg : Str → Option Value} {base : Heap}
/-! ### all together -/
theorem ok_law {f : Addr} {fd : FuncData} (T : Txt P w K mg) (F : FunD K "law" "law" (defArgs s_law) (defBody s_law) (defScope s_law) [] [] f fd) : FnOk P w K mg base CX0 7 f fd ["_law_script"] (spLaw K) := by
  have c_draw := ok_draw (base := base) T T.d__law_draw
  have c_pick := ok_pick (base := base) T T.d__law_pick c_draw
  have c_fi := ok_filterer_init (base := base) T T.d_Filterer_init
  have c_enrol := ok_enrol (base := base) T T.d_Yard_enrol
  have c_hi := ok_handler_init (base := base) T T.d_Handler_init c_fi c_enrol
  have c_si := ok_stream_init (base := base) T T.d_StreamHandler_init c_hi
  have c_li := ok_logger_init (base := base) T T.d_Logger_init c_fi
  have c_yi := ok_yard_init (base := base) T T.d_Yard_init c_li c_si
  have c_part := ok_is_part (base := base) T T.d_is_part
  have c_parts := ok_are_parts (base := base) T T.d_are_parts c_part
  have c_parent := ok_parent (base := base) T T.d_parent_of
  have c_place := ok_placeAll (base := base) T T.d_place_loggers c_parent
  have c_get := ok_getLogR (base := base) T T.d_Yard_getLogger c_parts c_li c_place
  have c_isint := ok_is_integer (base := base) T T.d_is_integer
  have c_lvof := ok_level_of (base := base) T T.d_Yard_level_of c_isint
  have c_eff := ok_eff (base := base) T T.d_Logger_getEffectiveLevel
  have c_en := ok_enabled (base := base) T T.d_Logger_isEnabledFor c_eff
  have c_set := ok_setLevel (base := base) T T.d_Logger_setLevel c_lvof
  have c_dis := ok_disable (base := base) T T.d_Yard_disable c_lvof
  have c_dis1 := ok_disable_d1 (base := base) T T.d_Yard_disable c_lvof
  have c_bar := ok_bar (base := base) T T.d_Yard_bar
  have c_sd := ok_setDis (base := base) T T.d_Logger_setDisabled
  have c_lp := ok_law_parent (base := base) T T.d__law_parent
  have c_ch := ok_chain (base := base) T T.d__law_chain c_lp
  have c_tree := ok_tree (base := base) T T.d__law_tree
  have c_made := ok_made (base := base) T T.d__law_made
  have c_leff := ok_law_eff (base := base) T T.d__law_effective c_ch
  have c_same := ok_same (base := base) T T.d__law_same rfl 3
  have c_right := ok_right (base := base) T T.d__law_are_right c_same c_leff c_bar c_en
  refine F.ok sc_law (fun vs H Q E h => ?_) (fun cdv A outer s H vs Q E hr hsp => ?_)
  · obtain ⟨a, ns, rfl, _⟩ := h; rfl
  obtain ⟨t, h, q⟩ := law_body T hr hsp c_draw c_pick c_tree c_made c_right c_yi c_get c_dis c_dis1 c_sd c_set
  exact ⟨t, h.nox, q⟩
theorem facts {f : Addr} {h : Heap} (X : K.In h) (G : h.Ns mainGlobals mg) (hfa : mg ("law" : Str) = some (.ref f)) (c : RB.SaysB fa fx fn ts w K) :
    ∃ fd : FuncData, (∀ (s : Shared) (v : Value), BindsTo s fd ⟨[v], []⟩ [("_law_script", v)]) ∧ ∀ base : Heap, FnOk P w K mg base CX0 7 f fd ["_law_script"] (spLaw K) := by
  have T : Txt P w K mg := Txt.of X G c
  obtain ⟨fd, F⟩ := T.d_law
  have e := hfa.symm.trans T.g_law
  cases e
  have b := FunD.bindsA (ps := ["_law_script"]) F fun _ _ _ _ _ _ us hl => match us, hl with | [_], _ => rfl
  exact ⟨fd, fun s v => b s [v] rfl, fun base => ok_law T F⟩
end
end K17
open PySem PySem.W PySem.Calls PyProof.Rows
set_option maxHeartbeats 0
theorem PySem.Challenge.cw_recordyard_k24_bars_and_disabled_holds : PySem.Challenge.rw_recordyard_k24_bars_and_disabled.Holds := by
  w_on; o_law
  refine HandSHeadRun.head_any (r := OpenLaw.row PySem.Challenge.rw_recordyard_k24_bars_and_disabled) (q := view (OpenLaw.row PySem.Challenge.rw_recordyard_k24_bars_and_disabled).prog [50]) (H := K17.hk) (ob := K17.ob) (M := 9000) (loose := K17.names) (d := HandSHeadRun.topDef (OpenLaw.row PySem.Challenge.rw_recordyard_k24_bars_and_disabled).prog 50) (kwd := []) K17.ob_eq
    (by kernel_rfl) (fun s => by kernel_rfl) K17.run (by kernel_rfl) (by kernel_rfl) (by kernel_rfl) (by rfl) (by first | assumption | decide +kernel) (by decide +kernel) ⟨rfl, rfl, rfl, rfl, rfl, by decide +kernel⟩ ?hw ?hc
  case hw => w_witness2
  case hc =>
    refine L2.walk_ofE (l := PySem.Challenge.rw_recordyard_k24_bars_and_disabled) (n := 63) (k := 7) (x := "_law_script") (CX := L2.CX0) rfl (by decide) (by kernel_rfl) ⟨rfl, by decide, by decide⟩ ?F (fun _ _ _ _ z => z)
    intro w mg fa h Y G hmg0
    obtain ⟨K, KX, c⟩ := Y
    have hmg : mg ("law" : PySem.Str) = some (.ref fa) := by
      have e : (HandSHeadRun.topDef (OpenLaw.row PySem.Challenge.rw_recordyard_k24_bars_and_disabled).prog 50).name = ("law" : PySem.Str) := by kernel_rfl
      rw [← e]
      exact hmg0
    obtain ⟨fd, hb, hF⟩ := K17.facts (P := (PySem.Challenge.rw_recordyard_k24_bars_and_disabled).prog) (w := w) KX G hmg c
    exact ⟨K, fd, K17.spLaw K, KX, hb, fun H a ns hl _ hS => ⟨a, ns, rfl, hl, hS, fun _ => rfl⟩, fun base _ _ => hF base⟩
