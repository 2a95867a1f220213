import PyProof.Rows.All
import Wide.All
import OpenK.AllK
import Wide.FinOn
import PyProof.EqAt
import PyProof.EqKinds
import PyProof.TupleCall
import HandS.Base
import HandS.Call
import HandS.List
import HandS.Dict
import HandS.More
import HandS.Slots
import HandS.ClsMeth
import KE.KStateDown
import HandS.Exc
import HandS.IsInst
import HandS.Defaults
import HandS.HeadHook1
import HandS.HeadHook2
import HandS.Head0
import HandS.Head1
import HandS.Head2
import HandS.HeadEnd
import HandS.ExcInit
import HandS.ExcField
import HandS.ForMost
import HandS.Walk
import PyProof.NeKinds
import PyProof.StrBlock2
import HandS.Sort
import HandS.Text
import PyProof.DictUpdate
import HandS.Iter
import HandS.Conv
import HandS.Flow
import HandS.Style
import HandS.Steps
import HandS.TryMany
import HandS.Words
import HandS.HotCalls
import HandS.Zip
import HandS.Keys
import PyProof.Seq
import HandS.DeepEq
import PySem.Challenge.RW_recordyard_k22_whole_any_order_makes_one
set_option Elab.async false
set_option linter.all false
set_option maxRecDepth 100000
set_option maxHeartbeats 4000000
/-! Rules beyond the layer: == and != of instances of classes without an own __eq__ (by identity), in and not in over lists of such, a def read off its class. -/
namespace RA
open PySem PySem.Spec PyProof.Rows PySem.SeqAt
/-- a class whose instances are equal by identity -/
structure PlainC (K : PySem.W.Frag) (C : Addr) : Prop where
  mro : PySem.W.mroIn K C (.type "object") = some true
  eq : PySem.W.findIn K (.ref C) "__eq__" = some (some (.builtin "object.__eq__"))
  ne : PySem.W.findIn K (.ref C) "__ne__" = some (some (.builtin "object.__ne__"))
def PairC (K : PySem.W.Frag) (C D : Addr) : Prop := C = D ∨ ∃ b, PySem.W.subIn K (.ref D) (.ref C) = some b
section
variable {M : Model} {prog : Program} {w : World} {A : Around} {E : Value → Shared → Prop} {s : Shared} {K : PySem.W.Frag} {x y C D : Addr} {ox oy : Obj} {od od' : Option Obj}
theorem inst_get (I : PySem.W.InstAt s.heap x ox C od) : s.heap.get? x = some ox := I.at_
theorem inst_notup (I : PySem.W.InstAt s.heap x ox C od) : ox.cls ≠ .type "tuple" := by
  rw [I.cls]; intro z; cases z
theorem eq_same {Q : Value → Shared → Prop} (X : K.In s.heap) (I : PySem.W.InstAt s.heap x ox C od) (hm : PySem.W.mroIn K C (.type "object") = some true) (hq : Q (.bool true) s) :
    wpAny (model prog w) A (call (.builtin "object.__eq__") [.ref x, .ref x]) Q E s :=
  wpAny_call (codeAny_call_builtin F.cmp_object.eq.plain F.cmpEntry_eq (PySem.W.check_slot F.cmpKind_eq F.cmpSplit_eq (I.type.andThen (PySem.W.looks_mroIn X hm)) (F.cmpArgs_eq _ _) (objEq_entry_same hq)))
theorem eq_other {Q : Value → Shared → Prop} (X : K.In s.heap) (I : PySem.W.InstAt s.heap x ox C od) (hm : PySem.W.mroIn K C (.type "object") = some true) (hy : s.heap.get? y = some oy) (hxy : x ≠ y) (hq : Q .notImplemented s) :
    wpAny (model prog w) A (call (.builtin "object.__eq__") [.ref x, .ref y]) Q E s :=
  wpAny_call (codeAny_call_builtin F.cmp_object.eq.plain F.cmpEntry_eq (PySem.W.check_slot F.cmpKind_eq F.cmpSplit_eq (I.type.andThen (PySem.W.looks_mroIn X hm)) (F.cmpArgs_eq _ _) (objEq_entry_other hxy (inst_get I) hy (inst_notup I) hq)))
theorem ifB_ne {args : List Value} {Q : Option Value → Shared → Prop} (X : K.In s.heap) (I : PySem.W.InstAt s.heap x ox C od) (hs : PySem.W.findIn K (.ref C) "__ne__" = some (some (.builtin "object.__ne__")))
    (h : wpAny M A (call (.builtin "object.__ne__") (.ref x :: args)) (fun v => Q (some v)) E s) : wpAny M A (callSpecialIfBound? (.ref x) "__ne__" args) Q E s := by
  simp only [callSpecialIfBound?, bindSpecialIfBound?]
  refine wpAny_holding (wpAny_bind (wpAny_bind (wpAny_bind (I.type.here ((PySem.W.looks_findIn X hs).here ?_)))))
  refine wpAny_bind (wpAny_askSetting (wpAny_ite ?_))
  have fin : wpAny M A (call (.builtin "object.__ne__") ([.ref x] ++ args) >>= fun v => pure (some v)) Q E s := wpAny_bind (wpAny_mono h (fun v s' h' => wpAny_pure h') fun _ _ h' => h')
  split
  · exact wpAny_bind (wpAny_of_eq (F.cmp_object.ne.bind _) (wpAny_pure (by exact fin)))
  · exact wpAny_tryCatch (wpAny_bind (wpAny_of_eq (F.cmp_object.ne.bind _) (wpAny_pure (by exact fin))))
theorem ne_entry_same {Q : Fin → Shared → Prop} (X : K.In s.heap) (I : PySem.W.InstAt s.heap x ox C od) (P : PlainC K C) (hu : A.units < cLine) (hq : Q (.done (.ret (.bool false))) s) :
    wpAny (model prog w) A (Builtin.«object.__ne__» ⟨[.ref x, .ref x], []⟩) Q E s := by
  unfold Builtin.«object.__ne__»
  repeat (first | with_reducible refine wpAny_cRoomFor hu ?_ | with_reducible refine HN.ifBound_objEq X I P.eq (eq_same X I P.mro ?_) | wp_step)
  exact hq
theorem ne_entry_other {Q : Fin → Shared → Prop} (X : K.In s.heap) (I : PySem.W.InstAt s.heap x ox C od) (P : PlainC K C) (hy : s.heap.get? y = some oy) (hxy : x ≠ y) (hu : A.units < cLine) (hq : Q (.done (.ret .notImplemented)) s) :
    wpAny (model prog w) A (Builtin.«object.__ne__» ⟨[.ref x, .ref y], []⟩) Q E s := by
  unfold Builtin.«object.__ne__»
  repeat (first | with_reducible refine wpAny_cRoomFor hu ?_ | with_reducible refine HN.ifBound_objEq X I P.eq (eq_other X I P.mro hy hxy ?_) | wp_step)
  exact hq
theorem try_eq_same {Q : Option Value → Shared → Prop} (X : K.In s.heap) (I : PySem.W.InstAt s.heap x ox C od) (P : PlainC K C) (h : Q (some (.bool true)) s) : wpAny (model prog w) A (tryCompare (.ref x) "__eq__" (.ref x)) Q E s := by
  unfold tryCompare
  exact wpAny_bind (HN.ifBound_objEq X I P.eq (eq_same X I P.mro (wpAny_pure h)))
theorem try_eq_other {Q : Option Value → Shared → Prop} (X : K.In s.heap) (I : PySem.W.InstAt s.heap x ox C od) (P : PlainC K C) (hy : s.heap.get? y = some oy) (hxy : x ≠ y) (h : Q none s) : wpAny (model prog w) A (tryCompare (.ref x) "__eq__" (.ref y)) Q E s := by
  unfold tryCompare
  exact wpAny_bind (HN.ifBound_objEq X I P.eq (eq_other X I P.mro hy hxy (wpAny_pure h)))
theorem try_ne_same {Q : Option Value → Shared → Prop} (hu : A.units + 1 < cLine) (X : K.In s.heap) (I : PySem.W.InstAt s.heap x ox C od) (P : PlainC K C) (h : Q (some (.bool false)) s) : wpAny (model prog w) A (tryCompare (.ref x) "__ne__" (.ref x)) Q E s := by
  unfold tryCompare
  refine wpAny_bind (ifB_ne X I P.ne (wpAny_call (codeAny_call_builtin F.cmp_object.ne.plain F.cmpEntry_ne (PySem.W.check_slot F.cmpKind_ne F.cmpSplit_ne (I.type.andThen (PySem.W.looks_mroIn X P.mro)) (F.cmpArgs_ne _ _) (ne_entry_same (A := A.in1) X I P hu ?_)))))
  exact wpAny_pure h
theorem try_ne_other {Q : Option Value → Shared → Prop} (hu : A.units + 1 < cLine) (X : K.In s.heap) (I : PySem.W.InstAt s.heap x ox C od) (P : PlainC K C) (hy : s.heap.get? y = some oy) (hxy : x ≠ y) (h : Q none s) : wpAny (model prog w) A (tryCompare (.ref x) "__ne__" (.ref y)) Q E s := by
  unfold tryCompare
  refine wpAny_bind (ifB_ne X I P.ne (wpAny_call (codeAny_call_builtin F.cmp_object.ne.plain F.cmpEntry_ne (PySem.W.check_slot F.cmpKind_ne F.cmpSplit_ne (I.type.andThen (PySem.W.looks_mroIn X P.mro)) (F.cmpArgs_ne _ _) (ne_entry_other (A := A.in1) X I P hy hxy hu ?_)))))
  exact wpAny_pure h
theorem rc_same (hu : A.units < cLine) (X : K.In s.heap) (I : PySem.W.InstAt s.heap x ox C od) (P : PlainC K C) : RcAt A s (.ref x) (.ref x) true := fun prog w E Q h => by
  simp only [richCompare, cmpInfo_Eq, oneThing_ref]
  refine wpAny_holding (wpAny_bind (wpAny_cRoomFor hu ?_))
  refine wpAny_bind (I.type.here (wpAny_bind (I.type.here ?_)))
  rw [if_neg (by simp)]
  refine wpAny_bind (wpAny_pure ?_)
  simp only [Bool.false_eq_true, if_false]
  exact wpAny_bind (try_eq_same X I P (wpAny_pure h))
theorem rcn_same (hu : A.units + 1 < cLine) (X : K.In s.heap) (I : PySem.W.InstAt s.heap x ox C od) (P : PlainC K C) {Q : Value → Shared → Prop} (h : Q (.bool false) s) : wpAny (model prog w) A (richCompare .NotEq (.ref x) (.ref x)) Q E s := by
  simp only [richCompare, cmpInfo_NotEq, oneThing_ref]
  refine wpAny_holding (wpAny_bind (wpAny_cRoomFor (Nat.lt_of_succ_lt hu) ?_))
  refine wpAny_bind (I.type.here (wpAny_bind (I.type.here ?_)))
  rw [if_neg (by simp)]
  refine wpAny_bind (wpAny_pure ?_)
  simp only [Bool.false_eq_true, if_false]
  exact wpAny_bind (try_ne_same hu X I P (wpAny_pure h))
theorem rc_other (hu : A.units < cLine) (X : K.In s.heap) (I : PySem.W.InstAt s.heap x ox C od) (J : PySem.W.InstAt s.heap y oy D od') (P : PlainC K C) (P' : PlainC K D) (hp : PairC K C D) (hxy : x ≠ y) : RcAt A s (.ref x) (.ref y) false := fun prog w E Q h => by
  have fin : ∀ (tag : String), wpAny (model prog w) A (rule tag >>= fun _ => isSame (.ref x) (.ref y) >>= fun b => pure (Value.bool b)) Q E s := fun tag =>
    wpAny_bind (wpAny_rule (wpAny_bind (wpAny_isSame_ref_other hxy (inst_get I) (inst_get J) (inst_notup I) (wpAny_pure h))))
  simp only [richCompare, cmpInfo_Eq, oneThing_ref]
  refine wpAny_holding (wpAny_bind (wpAny_cRoomFor hu ?_))
  refine wpAny_bind (I.type.here (wpAny_bind (J.type.here ?_)))
  by_cases hCD : C = D
  · subst hCD
    rw [if_neg (by simp)]
    refine wpAny_bind (wpAny_pure ?_)
    simp only [Bool.false_eq_true, if_false, Bool.not_false, if_true]
    refine wpAny_bind (try_eq_other X I P (inst_get J) hxy ?_)
    refine wpAny_bind (try_eq_other X J P' (inst_get I) (Ne.symm hxy) ?_)
    exact fin _
  · rw [if_pos (by simp [hCD])]
    obtain ⟨b, hb⟩ := hp.resolve_left hCD
    refine wpAny_bind ((PySem.W.looks_subIn X hb).here ?_)
    cases b with
    | false =>
      simp only [Bool.false_eq_true, if_false, Bool.not_false, if_true]
      refine wpAny_bind (try_eq_other X I P (inst_get J) hxy ?_)
      refine wpAny_bind (try_eq_other X J P' (inst_get I) (Ne.symm hxy) ?_)
      exact fin _
    | true =>
      simp only [Bool.not_true, Bool.false_eq_true, if_false, if_true]
      refine wpAny_bind (try_eq_other X J P' (inst_get I) (Ne.symm hxy) ?_)
      refine wpAny_bind (try_eq_other X I P (inst_get J) hxy ?_)
      exact fin _
theorem rcn_other (hu : A.units + 1 < cLine) (X : K.In s.heap) (I : PySem.W.InstAt s.heap x ox C od) (J : PySem.W.InstAt s.heap y oy D od') (P : PlainC K C) (P' : PlainC K D) (hp : PairC K C D) (hxy : x ≠ y) {Q : Value → Shared → Prop} (h : Q (.bool true) s) :
    wpAny (model prog w) A (richCompare .NotEq (.ref x) (.ref y)) Q E s := by
  have fin : ∀ (tag : String), wpAny (model prog w) A (rule tag >>= fun _ => isSame (.ref x) (.ref y) >>= fun b => pure (Value.bool (!b))) Q E s := fun tag =>
    wpAny_bind (wpAny_rule (wpAny_bind (wpAny_isSame_ref_other hxy (inst_get I) (inst_get J) (inst_notup I) (wpAny_pure h))))
  simp only [richCompare, cmpInfo_NotEq, oneThing_ref]
  refine wpAny_holding (wpAny_bind (wpAny_cRoomFor (Nat.lt_of_succ_lt hu) ?_))
  refine wpAny_bind (I.type.here (wpAny_bind (J.type.here ?_)))
  by_cases hCD : C = D
  · subst hCD
    rw [if_neg (by simp)]
    refine wpAny_bind (wpAny_pure ?_)
    simp only [Bool.false_eq_true, if_false, Bool.not_false, if_true]
    refine wpAny_bind (try_ne_other hu X I P (inst_get J) hxy ?_)
    refine wpAny_bind (try_ne_other hu X J P' (inst_get I) (Ne.symm hxy) ?_)
    exact fin _
  · rw [if_pos (by simp [hCD])]
    obtain ⟨b, hb⟩ := hp.resolve_left hCD
    refine wpAny_bind ((PySem.W.looks_subIn X hb).here ?_)
    cases b with
    | false =>
      simp only [Bool.false_eq_true, if_false, Bool.not_false, if_true]
      refine wpAny_bind (try_ne_other hu X I P (inst_get J) hxy ?_)
      refine wpAny_bind (try_ne_other hu X J P' (inst_get I) (Ne.symm hxy) ?_)
      exact fin _
    | true =>
      simp only [Bool.not_true, Bool.false_eq_true, if_false, if_true]
      refine wpAny_bind (try_ne_other hu X J P' (inst_get I) (Ne.symm hxy) ?_)
      refine wpAny_bind (try_ne_other hu X I P (inst_get J) hxy ?_)
      exact fin _
end
end RA
namespace RA
open PySem PySem.Spec PyProof.Rows PySem.SeqAt L2
/-- an instance of a plain class stands there -/
def InsP (K : PySem.W.Frag) (H : Hp) (a C : Addr) : Prop := (∃ dx fs, H a = some (.ins C dx fs)) ∧ PlainC K C
theorem InsP.of {K : PySem.W.Frag} {H : Hp} {a C dx : Addr} {fs : List (Str × V)} (h : H a = some (.ins C dx fs)) (p : PlainC K C) : InsP K H a C := ⟨⟨dx, fs, h⟩, p⟩
section
variable {X : Cx} {pins : List (Addr × Obj)} {σ : L2.St} {H : Hp} {s : Shared}
theorem insp_at {a C : Addr} (I : Inv X pins σ H s) (h : InsP X.K H a C) : ∃ ox od, PySem.W.InstAt s.heap a ox C od := by
  obtain ⟨⟨dx, fs, ha⟩, _⟩ := h
  obtain ⟨mA, O, _⟩ := ins_get I.hok ha
  obtain ⟨od, J, _⟩ := O.look
  exact ⟨_, _, J⟩
/-- x == y: y an instance, None, or a number, a text, a truth -/
def rEqP (K : PySem.W.Frag) : R2 := fun x y H Q => ∃ a C, x = .ref a ∧ InsP K H a C ∧ ((y = .non ∧ Q (.bl false) H) ∨ ∃ b D, y = .ref b ∧ InsP K H b D ∧ PairC K C D ∧ Q (.bl (decide (a = b))) H)
def rNeP (K : PySem.W.Frag) : R2 := fun x y H Q => ∃ a C b D, x = .ref a ∧ InsP K H a C ∧ y = .ref b ∧ InsP K H b D ∧ PairC K C D ∧ Q (.bl (!decide (a = b))) H
theorem op_eqP (hu : X.A.units < cLine) : OpR X (compareOp .Eq) (rEqP X.K) := by
  intro pins s σ H x y v u Q I rx ry h
  obtain ⟨a, C, rfl, ha, h⟩ := h
  cases rx
  obtain ⟨ox, od, Ia⟩ := insp_at I ha
  rcases h with ⟨rfl, q⟩ | ⟨b, D, rfl, hb, hp, q⟩
  · cases ry
    exact HN.rc_none hu I.kIn Ia ha.2.mro ha.2.eq _ _ _ _ (fin_bl I q rfl)
  · cases ry
    obtain ⟨oy, od', Ib⟩ := insp_at I hb
    by_cases z : a = b
    · subst z
      have e : C = D := by
        have h1 := Ia.cls.symm.trans ((congrArg Obj.cls (Option.some.inj (Ia.at_.symm.trans Ib.at_))).trans Ib.cls)
        exact Value.ref.inj h1
      subst e
      exact rc_same hu I.kIn Ia ha.2 _ _ _ _ (fin_bl I q (by simp))
    · exact rc_other hu I.kIn Ia Ib ha.2 hb.2 hp z _ _ _ _ (fin_bl I q (by simp [z]))
theorem op_neP (hu : X.A.units + 1 < cLine) : OpR X (compareOp .NotEq) (rNeP X.K) := by
  intro pins s σ H x y v u Q I rx ry h
  obtain ⟨a, C, b, D, rfl, ha, rfl, hb, hp, q⟩ := h
  cases rx
  cases ry
  obtain ⟨ox, od, Ia⟩ := insp_at I ha
  obtain ⟨oy, od', Ib⟩ := insp_at I hb
  by_cases z : a = b
  · subst z
    exact rcn_same hu I.kIn Ia ha.2 (fin_bl I q (by simp))
  · exact rcn_other hu I.kIn Ia Ib ha.2 hb.2 hp z (fin_bl I q (by simp [z]))
/-- x in l: x an instance, the items instances -/
def rInP (K : PySem.W.Frag) (neg : Bool) : R2 := fun x y H Q => ∃ (a C p : Addr) (as : List Addr), x = .ref a ∧ InsP K H a C ∧ y = .ref p ∧ SqL K H p (as.map V.ref) ∧ (∀ b ∈ as, ∃ D, InsP K H b D ∧ PairC K D C) ∧ Q (.bl (if neg then !decide (a ∈ as) else decide (a ∈ as))) H
theorem eqAt_ref {A : Around} {a b C D : Addr} (I : Inv X pins σ H s) (hu : A.units < cLine) (ha : InsP X.K H a C) (hb : InsP X.K H b D) (hp : PairC X.K D C) : EqAt A s (.ref b) (.ref a) (decide (b = a)) := by
  by_cases z : b = a
  · subst z
    rw [decide_eq_true rfl]
    exact EqAt.same _
  · rw [decide_eq_false z]
    obtain ⟨ox, od, Ia⟩ := insp_at I ha
    obtain ⟨oy, od', Ib⟩ := insp_at I hb
    intro prog w E Q h
    unfold eqBool
    refine wpAny_holding ?_
    refine wpAny_ite_split (fun hab => absurd (eq_of_beq hab) (fun e => z (Value.ref.inj e))) (fun _ => ?_)
    exact wpAny_bind (rc_other hu I.kIn Ib Ia hb.2 ha.2 hp z prog w E _ (wpAny_truthy_bool h))
theorem any_refs {a : Addr} : ∀ {as : List Addr} {us : List Value}, Vals (as.map V.ref) us → us.any (fun u => u == .ref a) = decide (a ∈ as)
  | [], _, .nil => by simp
  | b :: as, u :: us, .cons r t => by
    cases (show u = Value.ref b from r)
    rw [List.any_cons, any_refs t]
    by_cases z : b = a
    · subst z; simp
    · have z' : ¬ a = b := fun e => z e.symm
      simp [z, z']
theorem mem_refs {A : Around} {a C : Addr} (I : Inv X pins σ H s) (hu : A.units < cLine) (ha : InsP X.K H a C) : ∀ {as : List Addr} {us : List Value}, Vals (as.map V.ref) us → (∀ b ∈ as, ∃ D, InsP X.K H b D ∧ PairC X.K D C) → ∀ u ∈ us, EqAt A s u (.ref a) (u == .ref a)
  | [], _, .nil, _ => fun u hu' => by cases hu'
  | b :: as, u :: us, .cons r t, f => fun u' hu' => by
    rcases List.mem_cons.mp hu' with e | hu'
    · subst e
      cases (show u' = Value.ref b from r)
      obtain ⟨D, hb, hp⟩ := f b (List.mem_cons_self ..)
      have e2 : (Value.ref b == Value.ref a) = decide (b = a) := by
        by_cases z : b = a <;> simp [z]
      rw [e2]
      exact eqAt_ref I hu ha hb hp
    · exact mem_refs I hu ha t (fun z hz => f z (List.mem_cons_of_mem _ hz)) u' hu'
theorem op_inP (hu : X.A.units + 64 < cLine) : OpR X (compareOp .In) (rInP X.K false) := by
  intro pins s σ H x y v u Q I rx ry h
  obtain ⟨a, C, p, as, rfl, ha, rfl, hq, f, q⟩ := h
  cases rx
  cases ry
  obtain ⟨its, rv, hl, _⟩ := I.list hq
  have hu1 : X.A.in1.units < cLine := by show X.A.units + 1 < cLine; omega
  refine SeqAt.in_listAt (fun u => u == .ref a) hl.isList (fun z hz => mem_refs I hu1 ha rv f z (by simpa using hz)) ⟨.bl _, H, I, rfl, ?_⟩
  rw [show its.toArray.any (fun u => u == .ref a) = its.any (fun u => u == .ref a) by simp, any_refs rv]
  exact q
theorem op_notInP (hu : X.A.units + 64 < cLine) : OpR X (compareOp .NotIn) (rInP X.K true) := by
  intro pins s σ H x y v u Q I rx ry h
  obtain ⟨a, C, p, as, rfl, ha, rfl, hq, f, q⟩ := h
  cases rx
  cases ry
  obtain ⟨its, rv, hl, _⟩ := I.list hq
  have hu1 : X.A.in1.units < cLine := by show X.A.units + 1 < cLine; omega
  refine SeqAt.notIn_listAt (fun u => u == .ref a) hl.isList (fun z hz => mem_refs I hu1 ha rv f z (by simpa using hz)) ⟨.bl _, H, I, rfl, ?_⟩
  rw [show its.toArray.any (fun u => u == .ref a) = its.any (fun u => u == .ref a) by simp, any_refs rv]
  exact q
/-! ### a def read off its class: C.m(x, ..) -/
structure CFun (K : PySem.W.Frag) (C : Addr) (m : Str) (f : Addr) : Prop where
  ga : PySem.W.specialIn K (.ref C) "__getattribute__" = some (some (.builtin "type.__getattribute__"))
  rd : PySem.W.readsIn K C (.type "type") = true
  at_ : PySem.W.findCls K (.ref C) (.type "type") m = some (.val (.ref f))
  kp : PySem.W.keepIn K (.ref f) = true
def tCFun (C : Addr) (sp : Sp) (dvs : List V) (E : XK) (ta : TE) (t : TA) : TE := fun σ H Q => ta σ H fun x H1 => x = .ref C ∧ t σ H1 fun vs H2 => sp (vs ++ dvs) H2 Q E
theorem pe_cfun {CX : CXT} {k : Nat} {C f : Addr} {fd : FuncData} {ps : List Str} {sp : Sp} {dvs : List V} {ds : List Value} {E : XK} {o e : Expr} {es : List Expr} {m : Str} {pos apos : Pos} {ta : TE} {t : TA} {pl : Sem Bool}
    (he : PE X o ta) (c : CFun X.K C m f) (F : FnOk X.prog X.w X.K X.mg X.base CX k f fd ps sp) (hr : Room k X.A) (hb : Binds X.K fd ps ds) (hd : Vals dvs ds) (hx : Passes CX X E) (ha : PA X (e :: es) t)
    (hst : starEach (e :: es) X.env = (false, eval e X.env) :: starEach es X.env := by rfl) (hpl : (backTo pos (starEach es X.env)).any (·.1) = false := by rfl)
    (ht : eval (.Call (.Attribute o m apos) (e :: es) [] pos) X.env = (do
      let ov ← eval o X.env
      standAt apos.atName
      let (f, first) ← holding [ov] (getMethod ov m pl)
      callWith pos f first (backTo pos (starEach (e :: es) X.env)) (backToKw pos (keywordEach [] X.env))) := by rfl) :
    PE X (.Call (.Attribute o m apos) (e :: es) [] pos) (tCFun C sp dvs E ta t) := by
  refine ⟨fun pins s σ H Q I h => ?_⟩
  refine PySem.W.methodCall_KW (pl := pl) (thn (he.run pins s σ H _ I h) fun u s1 ⟨x, H1, I1, rx, ex, q⟩ => ?_) ht
  subst ex
  obtain rfl : u = Value.ref C := rx
  refine PySem.W.method_cls I1.kIn c.ga (PySem.W.cls_value I1.kIn c.rd c.at_ (handed_of (v := .ref f) rfl) ?_)
  have I2 := I1.tok (s1.toks + 1)
  refine PySem.W.callWith_K (first := []) (h₀ := X.base) I2.ok.mod.kin c.kp (thn (ha.run pos pins _ σ H1 _ I2 q) fun us s2 ⟨vs, H2, I3, r, q2⟩ => ⟨I3.kIn, ?_⟩) hst hpl
  exact run_fn F hr hb hd hx I3 r q2
/-! ### one of two rules -/
theorem PE.or {e : Expr} {t t' : TE} (h : PE X e t) (h' : PE X e t') : PE X e (fun σ H Q => t σ H Q ∨ t' σ H Q) := ⟨fun pins s σ H Q I q => by
  rcases q with q | q
  · exact h.run pins s σ H Q I q
  · exact h'.run pins s σ H Q I q⟩
/-- any of many rules for one expression -/
theorem PE.any {ι : Type} {e : Expr} {t : ι → TE} (S : ι → Prop) (h : ∀ i, S i → PE X e (t i)) : PE X e (fun σ H Q => ∃ i, S i ∧ t i σ H Q) := ⟨fun pins s σ H Q I ⟨i, hi, q⟩ => (h i hi).run pins s σ H Q I q⟩
end
end RA

set_option Elab.async false
set_option linter.all false
set_option maxRecDepth 100000
set_option maxHeartbeats 4000000
/-! The head's facts: He.Fa and He.DefD, further facts of classes, dicts of the top with their items. -/
namespace RB
open PySem PySem.Spec PyProof.Rows L2 He
/-- what isinstance asks of a value's own class -/
structure TyC (K : PySem.W.Frag) (C : Addr) : Prop where
  ha : PySem.W.findIn K (.ref C) "__class__" = some (some (.builtin "object.__class__"))
  hn : PySem.W.specialIn K (.builtin "object.__class__") "__get__" = some (some (.builtin "getset_descriptor.__get__"))
  ht : PySem.W.takesIn K (.builtin "object.__class__") = some true
  hm : PySem.W.mroIn K C (.type "object") = some true
/-- an own class of errors, over ValueError, whose __init__ keeps one field -/
structure ExcF (K : PySem.W.Frag) (C : Addr) (f : Str) : Prop where
  ox : OexC K C
  no : PySem.W.findIn K (.ref C) f = some none
  ini : PySem.W.findIn K (.ref C) "__init__" = some (some (.ref (ma K C "__init__")))
  ty : PySem.W.typeIn K (.ref (ma K C "__init__")) = some (.type "function")
  xf : XfC K C
def clsB (K : PySem.W.Frag) (C : Addr) : Bool := match K.lookup C with
  | some ⟨.type t, _, .cls cd, sl⟩ => decide (t = "type") && (match cd.mro, sl.toList with
    | .ref C' :: bm, [_, _, _, _, some (.builtin n), _] => decide (C' = C) && (decide (n = "ValueError.__new__") && (!cd.hasDel && (cd.hasDict && PySem.HandSPX.refsVE bm)))
    | _, _ => false)
  | _ => false
def oexB (K : PySem.W.Frag) (C : Addr) : Bool := clsB K C && (eqO (PySem.W.findIn K (.ref C) "__setattr__") (some (some (.builtin "object.__setattr__"))) && (decide (PySem.W.subIn K (.ref C) (.type "BaseException") = some true) && (decide (PySem.W.typeIn K (.ref C) = some (.type "type")) && PySem.W.keepIn K (.ref C))))
theorem oexB_ok {K : PySem.W.Frag} {C : Addr} (h : oexB K C = true) : OexC K C := by
  obtain ⟨h1, h⟩ := ba h
  obtain ⟨h2, h⟩ := ba h
  obtain ⟨h3, h⟩ := ba h
  obtain ⟨h4, h5⟩ := ba h
  refine ⟨?_, eqO_ok h2, of_decide_eq_true h3, of_decide_eq_true h4, h5⟩
  unfold clsB at h1
  split at h1
  · rename_i t dd cd sl ho
    obtain ⟨ht, h1⟩ := ba h1
    split at h1
    · rename_i C' bm k0 k1 k2 k3 n k5 hm hs
      obtain ⟨e1, h1⟩ := ba h1
      obtain ⟨e2, h1⟩ := ba h1
      obtain ⟨e3, h1⟩ := ba h1
      obtain ⟨e4, e5⟩ := ba h1
      have e1 := of_decide_eq_true e1
      have e2 := of_decide_eq_true e2
      have ht := of_decide_eq_true ht
      subst e1 e2 ht
      obtain ⟨nm, bs, mro, ns, qn, hd, sn, sub, ab, col, del⟩ := cd
      dsimp only at hm e3 e4
      subst hm e4
      have e3 : del = false := by cases del with
        | false => rfl
        | true => cases e3
      subst e3
      have hsl : sl = #[k0, k1, k2, k3, some (.builtin "ValueError.__new__"), k5] := by
        obtain ⟨l⟩ := sl
        dsimp only at hs
        rw [hs]
      subst hsl
      exact ⟨nm, qn, ns, bs, bm, sn, sub, ab, col, dd, k0, k1, k2, k3, k5, ho, e5⟩
    · cases h1
  · cases h1
inductive Fx where
  | exc (x f : Str)
  | exm (x y : Str) (b : Bool)
  | pl (x : Str)
  | sub (x y : Str)
  | cf (x m : Str)
  | ty (x : Str)
  | kit (x y : Str) (b : Bool)
  | kib (n : String) (y : Str) (b : Bool)
  | dtup (p : Str × Option Str) (i : Nat)
  | kiy (x : Str) (n : String) (b : Bool)
  | ktup (x : Str) (zs : List Str)
/-- these values are these texts -/
def strsB : List Value → List Str → Bool
  | [], [] => true
  | .str a _ :: r, z :: zs => decide (a = z) && strsB r zs
  | _, _ => false
def Fx.ok (K : PySem.W.Frag) : Fx → Bool
  | .exc x f => oexB K (ga K x) && (eqO (PySem.W.findIn K (.ref (ga K x)) f) (some none) && (decide (PySem.W.findIn K (.ref (ga K x)) "__init__" = some (some (.ref (ma K (ga K x) "__init__")))) && (decide (PySem.W.typeIn K (.ref (ma K (ga K x) "__init__")) = some (.type "function")) && xfB K (ga K x))))
  | .exm x y b => decide (PySem.W.exmOne K (.ref (ga K x)) (.ref (ga K y)) = some b)
  | .pl x => decide (PySem.W.mroIn K (ga K x) (.type "object") = some true) && (eqO (PySem.W.findIn K (.ref (ga K x)) "__eq__") (some (some (.builtin "object.__eq__"))) && eqO (PySem.W.findIn K (.ref (ga K x)) "__ne__") (some (some (.builtin "object.__ne__"))))
  | .sub x y => decide (ga K x = ga K y) || (PySem.W.subIn K (.ref (ga K y)) (.ref (ga K x))).isSome
  | .cf x m => eqO (PySem.W.specialIn K (.ref (ga K x)) "__getattribute__") (some (some (.builtin "type.__getattribute__"))) && (PySem.W.readsIn K (ga K x) (.type "type") && ((match PySem.W.findCls K (.ref (ga K x)) (.type "type") m with
    | some (.val (.ref f)) => decide (f = ma K (ga K x) m)
    | _ => false) && PySem.W.keepIn K (.ref (ma K (ga K x) m))))
  | .ty x => eqO (PySem.W.findIn K (.ref (ga K x)) "__class__") (some (some (.builtin "object.__class__"))) && (eqO (PySem.W.specialIn K (.builtin "object.__class__") "__get__") (some (some (.builtin "getset_descriptor.__get__"))) && (decide (PySem.W.takesIn K (.builtin "object.__class__") = some true) && decide (PySem.W.mroIn K (ga K x) (.type "object") = some true)))
  | .kit x y b => decide (PySem.W.kitOne K (.ref (ga K x)) (.ref (ga K y)) = some b)
  | .kib n y b => decide (PySem.W.kitOne K (.type n) (.ref (ga K y)) = some b)
  | .ktup x zs => decide (zs.length ≤ 1000) && (match K.lookup (ga K x) with
    | some ⟨.type c, _, .seq its _, _⟩ => decide (c = "tuple") && strsB its.toList zs
    | _ => false)
  | .kiy x n b => decide (PySem.W.kitOne K (.ref (ga K x)) (.type n) = some b)
  | .dtup p i => (match K.lookup (dflAt p i K) with
    | some ⟨.type c, _, .seq its _, _⟩ => decide (c = "tuple") && its.isEmpty
    | _ => false)
section
variable {K : PySem.W.Frag}
theorem exc_ok {x f : Str} (c : (Fx.exc x f).ok K = true) : ExcF K (ga K x) f := by
  obtain ⟨c1, c⟩ := ba c
  obtain ⟨c2, c⟩ := ba c
  obtain ⟨c3, c⟩ := ba c
  obtain ⟨c4, c5⟩ := ba c
  exact ⟨oexB_ok c1, eqO_ok c2, of_decide_eq_true c3, of_decide_eq_true c4, xfB_ok c5⟩
theorem exm_ok {x y : Str} {b : Bool} (c : (Fx.exm x y b).ok K = true) : PySem.W.exmOne K (.ref (ga K x)) (.ref (ga K y)) = some b := of_decide_eq_true c
theorem pl_ok {x : Str} (c : (Fx.pl x).ok K = true) : RA.PlainC K (ga K x) := by
  obtain ⟨c1, c⟩ := ba c
  obtain ⟨c2, c3⟩ := ba c
  exact ⟨of_decide_eq_true c1, eqO_ok c2, eqO_ok c3⟩
theorem sub_ok {x y : Str} (c : (Fx.sub x y).ok K = true) : RA.PairC K (ga K x) (ga K y) := by
  rcases Bool.or_eq_true_iff.mp c with c | c
  · exact .inl (of_decide_eq_true c)
  · exact .inr (Option.isSome_iff_exists.mp c)
theorem cf_ok {x m : Str} (c : (Fx.cf x m).ok K = true) : RA.CFun K (ga K x) m (ma K (ga K x) m) := by
  obtain ⟨c1, c⟩ := ba c
  obtain ⟨c2, c⟩ := ba c
  obtain ⟨c3, c4⟩ := ba c
  refine ⟨eqO_ok c1, c2, ?_, c4⟩
  cases e : PySem.W.findCls K (.ref (ga K x)) (.type "type") m with
  | none => rw [e] at c3; cases c3
  | some r =>
    rw [e] at c3
    cases r with
    | get _ _ _ _ => cases c3
    | val v =>
      cases v with
      | ref f => rw [of_decide_eq_true c3]
      | _ => cases c3
theorem ty_ok {x : Str} (c : (Fx.ty x).ok K = true) : TyC K (ga K x) := by
  obtain ⟨c1, c⟩ := ba c
  obtain ⟨c2, c⟩ := ba c
  obtain ⟨c3, c4⟩ := ba c
  exact ⟨eqO_ok c1, eqO_ok c2, of_decide_eq_true c3, of_decide_eq_true c4⟩
theorem kit_ok {x y : Str} {b : Bool} (c : (Fx.kit x y b).ok K = true) : PySem.W.kitOne K (.ref (ga K x)) (.ref (ga K y)) = some b := of_decide_eq_true c
theorem kiy_ok {x : Str} {n : String} {b : Bool} (c : (Fx.kiy x n b).ok K = true) : PySem.W.kitOne K (.ref (ga K x)) (.type n) = some b := of_decide_eq_true c
theorem kib_ok {n : String} {y : Str} {b : Bool} (c : (Fx.kib n y b).ok K = true) : PySem.W.kitOne K (.type n) (.ref (ga K y)) = some b := of_decide_eq_true c
theorem dtup_ok {p : Str × Option Str} {i : Nat} (h : (Fx.dtup p i).ok K = true) (H : Hp) : SqT K H (dflAt p i K) [] := by
  have h1 : (match K.lookup (dflAt p i K) with
    | some ⟨.type c, _, .seq its _, _⟩ => decide (c = "tuple") && its.isEmpty
    | _ => false) = true := h
  cases q : K.lookup (dflAt p i K) with
  | none => rw [q] at h1; cases h1
  | some o =>
    obtain ⟨oc, od, dt, osl⟩ := o
    rw [q] at h1
    cases oc with
    | type c =>
      cases dt with
      | seq its n =>
        obtain ⟨h2, h3⟩ := ba (show (decide (c = "tuple") && its.isEmpty) = true from h1)
        have e3 : its = #[] := Array.isEmpty_iff.mp h3
        subst e3
        exact .inr ⟨_, #[], n, q, congrArg Value.type (of_decide_eq_true h2), rfl, Nat.zero_le _, .nil⟩
      | _ => cases h1
    | _ => cases dt <;> cases h1
theorem strs_vals : ∀ {us : List Value} {zs : List Str}, strsB us zs = true → Vals (zs.map V.str) us
  | [], [], _ => .nil
  | .str a t :: r, z :: zs, h => by
    obtain ⟨h1, h2⟩ := ba (show (decide (a = z) && strsB r zs) = true from h)
    obtain rfl := of_decide_eq_true h1
    exact .cons ⟨t, rfl⟩ (strs_vals h2)
theorem ktup_ok {x : Str} {zs : List Str} (h : (Fx.ktup x zs).ok K = true) (H : Hp) : SqT K H (ga K x) (zs.map V.str) := by
  obtain ⟨h0, h⟩ := ba h
  have h1 : (match K.lookup (ga K x) with
    | some ⟨.type c, _, .seq its _, _⟩ => decide (c = "tuple") && strsB its.toList zs
    | _ => false) = true := h
  cases q : K.lookup (ga K x) with
  | none => rw [q] at h1; cases h1
  | some o =>
    obtain ⟨oc, od, dt, osl⟩ := o
    rw [q] at h1
    cases oc with
    | type c =>
      cases dt with
      | seq its n =>
        obtain ⟨h2, h3⟩ := ba (show (decide (c = "tuple") && strsB its.toList zs) = true from h1)
        have hv := strs_vals h3
        refine .inr ⟨_, its, n, q, congrArg Value.type (of_decide_eq_true h2), rfl, ?_, hv⟩
        have hl := hv.length
        have hz := of_decide_eq_true h0
        rw [List.length_map] at hl
        have : its.size = zs.length := by rw [← Array.length_toList]; omega
        rw [this, sizeLine_eq]; omega
      | _ => cases h1
    | _ => cases dt <;> cases h1
theorem TyC.tyx {C a dx : Addr} {H : Hp} {fs : List (Str × V)} (t : TyC K C) (c : Cls K C) (e : H a = some (.ins C dx fs)) : TyX K H (.ref a) (.ref C) := .base (.ins e c t.ha t.hn t.ht t.hm)
end
/-! ### dicts of the top -/
def keyE (e : DictEntry) : Option (Key × Int) := match e.key with
  | .int i _ => some (Sum.inl i, e.hash)
  | .str x _ => some (Sum.inr x, e.hash)
  | _ => none
def keyHP (P : Params) : Key → Int
  | .inl i => hashInt i
  | .inr x => PyData.keyHash P x
abbrev Tb : Type := Str × List (Key × Dv)
def tbRow (K : PySem.W.Frag) (x : Str) : Option (List (Option (Key × Int))) := match K.lookup (ga K x) with
  | some ⟨.type c, none, .dict es _, sl⟩ => (match decide (c = "dict") && (sl.isEmpty && !(ga K x == sysModules)) with
    | true => some (es.toList.map keyE)
    | false => none)
  | _ => none
def tbWant (P : Params) (kvs : List (Key × Dv)) : Option (List (Option (Key × Int))) := some (kvs.map fun q => some (q.1, keyHP P q.1))
def tbVals (K : PySem.W.Frag) (t : Tb) : Bool := decide ((t.2.map (·.1)).Nodup) && (decide (t.2.length ≤ sizeLine) && (match K.lookup (ga K t.1) with
  | some ⟨_, _, .dict es _, _⟩ => relAll (t.2.map fun q => q.2.v K) (es.toList.map (·.val))
  | _ => false))
/-- a dict of the top with these items -/
structure KD (P : Program) (w : World) (K : PySem.W.Frag) (a : Addr) (kvs : List (Key × V)) : Prop where
  low : (a == sysModules) = false
  len : kvs.length ≤ sizeLine
  at_ : ∃ vs, KV kvs vs ∧ ∀ h : Heap, K.In h → h.DictOf (mixKind P w) a vs
theorem rows_pairs {P : Program} {w : World} : ∀ {es : List DictEntry} {kvs : List (Key × V)}, es.map keyE = kvs.map (fun q => some (q.1, keyHP w.params q.1)) → relAll (kvs.map (·.2)) (es.map (·.val)) = true →
    ∃ vs, KV kvs vs ∧ Pairs (mixKind P w) es vs ∧ vs.map (·.1) = kvs.map (·.1) ∧ ∀ e ∈ es, ∃ k, (mixKind P w).is k e.key = true ∧ e.hash = (mixKind P w).hash k
  | [], [], _, _ => ⟨[], .nil, .nil, rfl, fun _ h => nomatch h⟩
  | [], _ :: _, h, _ => by cases h
  | _ :: _, [], h, _ => by cases h
  | e :: es, q :: kvs, h, hv => by
    rw [List.map_cons, List.map_cons] at h
    injection h with h1 h2
    obtain ⟨v1, v2⟩ := ba (show (relB q.2 e.val && relAll (kvs.map (·.2)) (es.map (·.val))) = true from hv)
    obtain ⟨vs, r, p, n, kk⟩ := rows_pairs (P := P) h2 v2
    have key : (mixKind P w).is q.1 e.key = true ∧ e.hash = (mixKind P w).hash q.1 := by
      unfold keyE at h1
      split at h1
      · rename_i i t ek
        have h3 := Prod.mk.inj (Option.some.inj h1)
        rw [← h3.1, ek]
        refine ⟨mixKind_int P w i t, ?_⟩
        rw [h3.2, ← h3.1]; rfl
      · rename_i x t ek
        have h3 := Prod.mk.inj (Option.some.inj h1)
        rw [← h3.1, ek]
        refine ⟨mixKind_str P w x t, ?_⟩
        rw [h3.2, ← h3.1]; rfl
      · cases h1
    refine ⟨(q.1, e.val) :: vs, .cons ⟨rfl, relB_ok v1⟩ r, .cons key.1 rfl p, by rw [List.map_cons, List.map_cons, n], fun e' he => ?_⟩
    rcases List.mem_cons.mp he with rfl | he
    · exact ⟨q.1, key⟩
    · exact kk e' he
theorem kd_of {P : Program} {w : World} {K : PySem.W.Frag} {t : Tb} (h1 : tbRow K t.1 = tbWant w.params t.2) (h2 : tbVals K t = true) : KD P w K (ga K t.1) (t.2.map fun q => (q.1, q.2.v K)) := by
  obtain ⟨nd, h2⟩ := ba h2
  obtain ⟨ln, h2⟩ := ba h2
  unfold tbRow tbWant at h1
  cases q : K.lookup (ga K t.1) with
  | none => rw [q] at h1; cases h1
  | some o =>
    obtain ⟨oc, od, dt, osl⟩ := o
    rw [q] at h1 h2
    cases oc with
    | type c =>
      cases od with
      | none =>
        cases dt with
        | dict es n =>
          have h3 : (match decide (c = "dict") && (osl.isEmpty && !(ga K t.1 == sysModules)) with
            | true => some (es.toList.map keyE)
            | false => none) = some (t.2.map fun q => some (q.1, keyHP w.params q.1)) := h1
          cases z : decide (c = "dict") && (osl.isEmpty && !(ga K t.1 == sysModules)) with
          | false => rw [z] at h3; cases h3
          | true =>
            rw [z] at h3
            obtain ⟨z1, z2⟩ := ba z
            obtain ⟨z3, z4⟩ := ba z2
            have e1 : c = "dict" := of_decide_eq_true z1
            have e2 : osl = #[] := Array.isEmpty_iff.mp z3
            have e3 : (ga K t.1 == sysModules) = false := by
              cases y : (ga K t.1 == sysModules) with
              | false => rfl
              | true => rw [y] at z4; cases z4
            subst e1 e2
            have h4 : es.toList.map keyE = (t.2.map fun q => (q.1, q.2.v K)).map (fun q => some (q.1, keyHP w.params q.1)) := by
              rw [List.map_map]
              exact Option.some.inj h3
            have h5 : relAll ((t.2.map fun q => (q.1, q.2.v K)).map (·.2)) (es.toList.map (·.val)) = true := by
              rw [List.map_map]
              exact h2
            obtain ⟨vs, r, p, nm, kk⟩ := rows_pairs (P := P) h4 h5
            refine ⟨e3, by rw [List.length_map]; exact of_decide_eq_true ln, vs, r, fun h X => ⟨_, es, n, X _ _ q, ⟨rfl, rfl, rfl⟩, rfl, fun e he => kk e (Array.mem_toList_iff.mpr he), p, ?_⟩⟩
            rw [nm, List.map_map]
            exact of_decide_eq_true nd
        | _ => cases h1
      | some d => cases dt <;> cases h1
    | _ => cases od <;> cases dt <;> cases h1
section
variable {X : Cx}
/-- dict(D), D a dict of the top: a new one -/
theorem call_dictK {D : Addr} {kvs : List (Key × V)} (k : KD X.prog X.w X.K D kvs) : CallR X (.type "dict") (fun xs H Q => xs = [.ref D] ∧ ∀ p, H p = none → Q (.ref p) (upd H p (.dK kvs))) := by
  intro pins s σ H xs us Q I r q
  obtain ⟨ex, q⟩ := q
  subst ex
  obtain ⟨u, eu, rx⟩ := vals1 r
  subst eu
  cases rx
  obtain ⟨vs, rel, dd⟩ := k.at_
  refine kt_call_dict k.low (dd _ I.kIn) (by rw [← rel.length]; exact k.len) fun h' d' hs => ?_
  have hm : (s.heap.objs.size == sysModules) = false := beq_eq_false_iff_ne.mpr (Nat.ne_of_gt I.big)
  exact ⟨.ref s.heap.objs.size, upd H s.heap.objs.size (.dK kvs), I.laid (t' := s.toks) (fun b u e => (hs.2 b (Nat.ne_of_lt (Heap.lt_size e))).trans (Heap.get?_push_of_some _ e)) (Nat.le_refl _)
    (show ObjOk X.prog X.w _ _ _ (.dK kvs) from ⟨k.len, hm, vs, rel, d'⟩), rfl, q _ (I.hok.fresh (Nat.le_refl _))⟩
end
/-! ### the Hook -/
abbrev AlB : Type := AlD × List (Option (List (Option (Key × Int)))) × Bool
def obsB (fa : List Fa) (fx : List Fx) (fn : List DefD) (ts : List Tb) (K : PySem.W.Frag) : AlB := (obsD fa fn K, ts.map fun t => tbRow K t.1, (fx.all fun f => f.ok K) && ts.all fun t => tbVals K t)
def valB (fn : List DefD) (ts : List Tb) (w : World) : AlB := (valD fn, ts.map fun t => tbWant w.params t.2, true)
def SaysB (fa : List Fa) (fx : List Fx) (fn : List DefD) (ts : List Tb) (w : World) (K : PySem.W.Frag) : Prop := obsB fa fx fn ts K = valB fn ts w
/-- and the objects that are defaults: one step further, for those alone -/
def extraB (g : Addr → Option Obj) (fx : List Fx) (as : List Addr) : List Addr := cStatics :: (as ++ fx.filterMap fun
  | .dtup p i => some (dflAt p i (frG g as))
  | .ktup x _ => some (ga (frG g as) x)
  | _ => none)
def obsBG (n : Nat) (fa : List Fa) (fx : List Fx) (fn : List DefD) (ts : List Tb) (g : Addr → Option Obj) : AlB := obsB fa fx fn ts (frG g (extraB g fx (asD g n)))
def hookB (n : Nat) (fa : List Fa) (fx : List Fx) (fn : List DefD) (ts : List Tb) : PySem.W.Hook where
  α := AlB
  obs := fun s => obsBG n fa fx fn ts s.heap.get?
  val := fun w => valB fn ts w
  says := fun w h => ∃ K : PySem.W.Frag, K.In h ∧ SaysB fa fx fn ts w K
  of := fun _ _ e => ⟨_, frG_in, e⟩
  keeps := fun _ _ _ ⟨K, hK, c⟩ k => ⟨K, PySem.W.Frag.In.keeps hK k, c⟩
theorem obsBG_eq {n : Nat} {fa : List Fa} {fx : List Fx} {fn : List DefD} {ts : List Tb} {g : Addr → Option Obj} {s : Shared} (h : ∀ a, g a = s.heap.get? a) : obsBG n fa fx fn ts g = (hookB n fa fx fn ts).obs s := by
  have e : g = s.heap.get? := funext h
  rw [e] <;> rfl
section
variable {fa : List Fa} {fx : List Fx} {fn : List DefD} {ts : List Tb} {w : World} {K : PySem.W.Frag}
theorem SaysB.d (c : SaysB fa fx fn ts w K) : SaysD fa fn K := congrArg (fun z : AlB => z.1) c
theorem SaysB.fact (c : SaysB fa fx fn ts w K) (i : Nat) {f : Fa} (h : fa[i]? = some f := by rfl) : f.ok K = true := c.d.fact i h
theorem SaysB.more (c : SaysB fa fx fn ts w K) (i : Nat) {f : Fx} (h : fx[i]? = some f := by rfl) : f.ok K = true := by
  have c1 := (ba (show ((fx.all fun f => f.ok K) && ts.all fun t => tbVals K t) = true from congrArg (fun z : AlB => z.2.2) c)).1
  exact List.all_eq_true.mp c1 f (List.mem_of_getElem? h)
theorem SaysB.tb (c : SaysB fa fx fn ts w K) (i : Nat) {t : Tb} (h : ts[i]? = some t := by rfl) (P : Program) : KD P w K (ga K t.1) (t.2.map fun q => (q.1, q.2.v K)) := by
  have c1 := (ba (show ((fx.all fun f => f.ok K) && ts.all fun t => tbVals K t) = true from congrArg (fun z : AlB => z.2.2) c)).2
  have e : ts.map (fun t => tbRow K t.1) = ts.map fun t => tbWant w.params t.2 := congrArg (fun z : AlB => z.2.1) c
  have e2 : (ts.map fun t => tbRow K t.1)[i]? = (ts.map fun t => tbWant w.params t.2)[i]? := by rw [e]
  rw [List.getElem?_map, List.getElem?_map, h] at e2
  exact kd_of (Option.some.inj e2) (List.all_eq_true.mp c1 t (List.mem_of_getElem? h))
end
end RB

set_option Elab.async false
set_option linter.all false
set_option maxRecDepth 100000
set_option maxHeartbeats 4000000
/-! What a caller needs of a def, in one word; the stream of draws. -/
namespace RC
open PySem PySem.Spec PyProof.Rows L2 He
/-- the def at f may be called with all parameters but the last ones, whose defaults are dvs -/
def Callable (P : Program) (w : World) (K : PySem.W.Frag) (mg : Str → Option Value) (base : Heap) (k : Nat) (f : Addr) (ps : List Str) (dvs : List V) (sp : Sp) : Prop :=
  ∃ fd ds, FnOk P w K mg base CX0 k f fd ps sp ∧ Vals dvs ds ∧ Binds K fd ps ds ∧ PySem.W.keepIn K (.ref f) = true
section
variable {X : Cx} {k : Nat} {f C : Addr} {ps : List Str} {sp : Sp} {dvs : List V} {x m : Str} {p pos apos : Pos} {e o : Expr} {es : List Expr} {ta : TE} {t : TA} {pl : Sem Bool}
theorem pe_fn (hm : X.mg x = some (.ref f)) (c : Callable X.prog X.w X.K X.mg X.base k f ps dvs sp) (hr : Room k X.A) (hg : Gl X x) (ha : PA X (e :: es) t) (hdb : (x == ("__debug__" : Str)) = false := by decide)
    (he : starEach (e :: es) X.env = (false, eval e X.env) :: starEach es X.env := by rfl) (hpl : (backTo pos (starEach es X.env)).any (·.1) = false := by rfl) : PE X (.Call (.Name x p) (e :: es) [] pos) (tCall sp dvs E0 t) := by
  obtain ⟨fd, ds, F, hd, hb, hk⟩ := c
  exact pe_call F hr hg hm hk hb hd pass0 ha hdb he hpl
theorem pe_fn0 (hm : X.mg x = some (.ref f)) (c : Callable X.prog X.w X.K X.mg X.base k f ps dvs sp) (hr : Room k X.A) (hg : Gl X x) (hdb : (x == ("__debug__" : Str)) = false := by decide) : PE X (.Call (.Name x p) [] [] pos) (tCall sp dvs E0 tNil) := by
  obtain ⟨fd, ds, F, hd, hb, hk⟩ := c
  exact pe_call0 F hr hg hm hk hb hd pass0 hdb
theorem pe_mt (cl : Cls X.K C) (hm : Meth X.K C m f) (c : Callable X.prog X.w X.K X.mg X.base k f ps dvs sp) (hr : Room k X.A) (he : PE X o ta) (ha : PA X (e :: es) t)
    (hst : starEach (e :: es) X.env = (false, eval e X.env) :: starEach es X.env := by rfl) (hpl : (backTo pos (starEach es X.env)).any (·.1) = false := by rfl)
    (ht : eval (.Call (.Attribute o m apos) (e :: es) [] pos) X.env = (do
      let ov ← eval o X.env
      standAt apos.atName
      let (f, first) ← holding [ov] (getMethod ov m pl)
      callWith pos f first (backTo pos (starEach (e :: es) X.env)) (backToKw pos (keywordEach [] X.env))) := by rfl) :
    PE X (.Call (.Attribute o m apos) (e :: es) [] pos) (tMeth C m sp dvs E0 ta t) := by
  obtain ⟨fd, ds, F, hd, hb, hk⟩ := c
  exact pe_meth he cl hm F hr hb hd pass0 ha hst hpl ht
theorem pe_mt0 (cl : Cls X.K C) (hm : Meth X.K C m f) (c : Callable X.prog X.w X.K X.mg X.base k f ps dvs sp) (hr : Room k X.A) (he : PE X o ta)
    (ht : eval (.Call (.Attribute o m apos) [] [] pos) X.env = (do
      let ov ← eval o X.env
      standAt apos.atName
      let (f, first) ← holding [ov] (getMethod ov m pl)
      callWith pos f first (backTo pos (starEach [] X.env)) (backToKw pos (keywordEach [] X.env))) := by rfl) :
    PE X (.Call (.Attribute o m apos) [] [] pos) (tMeth C m sp dvs E0 ta tNil) := by
  obtain ⟨fd, ds, F, hd, hb, hk⟩ := c
  exact pe_meth0 he cl hm F hr hb hd pass0 ht
theorem pe_mk (M : Mk X.K C f) (hm : X.mg x = some (.ref C)) (c : Callable X.prog X.w X.K X.mg X.base k f ps dvs sp) (hr : Room (k + 1) X.A) (hg : Gl X x) (ha : PA X (e :: es) t) (hdb : (x == ("__debug__" : Str)) = false := by decide)
    (he : starEach (e :: es) X.env = (false, eval e X.env) :: starEach es X.env := by rfl) (hpl : (backTo pos (starEach es X.env)).any (·.1) = false := by rfl) : PE X (.Call (.Name x p) (e :: es) [] pos) (tMake C sp dvs E0 t) := by
  obtain ⟨fd, ds, F, hd, hb, hk⟩ := c
  exact pe_make M F hr hg hm hb hd pass0 ha hdb he hpl
theorem pe_mk0 (M : Mk X.K C f) (hm : X.mg x = some (.ref C)) (c : Callable X.prog X.w X.K X.mg X.base k f ps dvs sp) (hr : Room (k + 1) X.A) (hg : Gl X x) (hdb : (x == ("__debug__" : Str)) = false := by decide) : PE X (.Call (.Name x p) [] [] pos) (tMake C sp dvs E0 tNil) := by
  obtain ⟨fd, ds, F, hd, hb, hk⟩ := c
  exact pe_make0 M F hr hg hm hb hd pass0 hdb
theorem pe_cf (cf : RA.CFun X.K C m f) (c : Callable X.prog X.w X.K X.mg X.base k f ps dvs sp) (hr : Room k X.A) (he : PE X o ta) (ha : PA X (e :: es) t)
    (hst : starEach (e :: es) X.env = (false, eval e X.env) :: starEach es X.env := by rfl) (hpl : (backTo pos (starEach es X.env)).any (·.1) = false := by rfl)
    (ht : eval (.Call (.Attribute o m apos) (e :: es) [] pos) X.env = (do
      let ov ← eval o X.env
      standAt apos.atName
      let (f, first) ← holding [ov] (getMethod ov m pl)
      callWith pos f first (backTo pos (starEach (e :: es) X.env)) (backToKw pos (keywordEach [] X.env))) := by rfl) :
    PE X (.Call (.Attribute o m apos) (e :: es) [] pos) (RA.tCFun C sp dvs E0 ta t) := by
  obtain ⟨fd, ds, F, hd, hb, hk⟩ := c
  exact RA.pe_cfun he cf F hr hb hd pass0 ha hst hpl ht
end
section
variable {P : Program} {w : World} {K : PySem.W.Frag} {mg : Str → Option Value} {base : Heap} {x qual : Str} {params : Arguments} {body : List Stmt} {scope : Scope} {dvs : List V} {f : Addr} {k : Nat} {N ps : List Str} {sp : Sp}
/-- a def that stands there -/
def Stands (K : PySem.W.Frag) (x qual : Str) (st : Stmt) (dvs : List V) (f : Addr) : Prop := ∃ fd, FunD K x qual (defArgs st) (defBody st) (defScope st) dvs [] f fd
/-- THE RULE for a def, whatever its defaults: what it promises of every call; bind: how its arguments bind with the first n parameters given -/
theorem Stands.call {st : Stmt} (F : Stands K x qual st dvs f) (S : FnScope N ps (defScope st)) (n j : Nat) (len : ∀ vs H Q E, sp vs H Q E → vs.length = ps.length)
    (hbody : ∀ (cdv : Value) (A : Around) (outer : List Env) (s : Shared) (H : Hp) (vs : List V) (Q : VK) (E : XK), Room k (A.deeper (envOfC qual (defScope st) s.heap.objs.size f cdv)) → sp vs H Q E →
      ∃ t, PSs (cxOf CX0 P w K mg base N qual (defScope st) f cdv A outer s H E).nox (defBody st) t ∧ t { nx := fun _ H' => Q .non H', rt := Q } (start N vs) H)
    (h0 : dvs = [] → n = ps.length ∧ ∀ (kV doc pm : Value) (an : Option Addr) (cdv ct : Value) (us : List Value), us.length = ps.length → bindArgs (PySem.W.fnOf x qual (defArgs st) (defBody st) (defScope st) .none kV doc pm an cdv ct) ⟨us, []⟩ = pure (ps.zip us))
    (h1 : dvs ≠ [] → n + (dvs.length - j) = ps.length ∧ ∀ (T : Addr) (kV doc pm : Value) (an : Option Addr) (cdv ct : Value) (us its : List Value), us.length = n → its.length = dvs.length →
      ∃ k, bindArgs (PySem.W.fnOf x qual (defArgs st) (defBody st) (defScope st) (.ref T) kV doc pm an cdv ct) ⟨us, []⟩ = seqItems? (.ref T) >>= k ∧ k (some its.toArray) = pure (ps.zip (us ++ its.drop j))) :
    Callable P w K mg base (k + 1) f ps (dvs.drop j) sp := by
  obtain ⟨fd, F⟩ := F
  have ok : FnOk P w K mg base CX0 (k + 1) f fd ps sp := F.ok S len fun cdv A outer s H vs Q E hr hsp => by
    obtain ⟨t, h, q⟩ := hbody cdv A outer s H vs Q E hr hsp
    exact ⟨t, h.nox, q⟩
  by_cases hd : dvs = []
  · subst hd
    exact ⟨fd, [], ok, by rw [List.drop_nil]; exact .nil, F.bindsN (h0 rfl).2, F.kp⟩
  · obtain ⟨ds, hv, hb⟩ := F.binds1 n j hd (h1 hd).1 (h1 hd).2
    exact ⟨fd, ds, ok, hv, hb, F.kp⟩
/-- no defaults -/
theorem Stands.call0 {st : Stmt} (F : Stands K x qual st [] f) (S : FnScope N ps (defScope st)) (len : ∀ vs H Q E, sp vs H Q E → vs.length = ps.length)
    (hbody : ∀ (cdv : Value) (A : Around) (outer : List Env) (s : Shared) (H : Hp) (vs : List V) (Q : VK) (E : XK), Room k (A.deeper (envOfC qual (defScope st) s.heap.objs.size f cdv)) → sp vs H Q E →
      ∃ t, PSs (cxOf CX0 P w K mg base N qual (defScope st) f cdv A outer s H E).nox (defBody st) t ∧ t { nx := fun _ H' => Q .non H', rt := Q } (start N vs) H)
    (h0 : ∀ (kV doc pm : Value) (an : Option Addr) (cdv ct : Value) (us : List Value), us.length = ps.length → bindArgs (PySem.W.fnOf x qual (defArgs st) (defBody st) (defScope st) .none kV doc pm an cdv ct) ⟨us, []⟩ = pure (ps.zip us)) :
    Callable P w K mg base (k + 1) f ps [] sp := by
  obtain ⟨fd, F⟩ := F
  have ok : FnOk P w K mg base CX0 (k + 1) f fd ps sp := F.ok S len fun cdv A outer s H vs Q E hr hsp => by
    obtain ⟨t, h, q⟩ := hbody cdv A outer s H vs Q E hr hsp
    exact ⟨t, h.nox, q⟩
  exact ⟨fd, [], ok, .nil, F.bindsN h0, F.kp⟩
theorem Callable.imp {sp' : Sp} {dv : List V} (c : Callable P w K mg base k f ps dv sp) (h : ∀ vs H Q E, sp' vs H Q E → sp vs H Q E) : Callable P w K mg base k f ps dv sp' :=
  let ⟨fd, ds, F, r⟩ := c
  ⟨fd, ds, F.imp h, r⟩
theorem Callable.up {j : Nat} {dv : List V} (c : Callable P w K mg base j f ps dv sp) (h : j ≤ k) : Callable P w K mg base k f ps dv sp :=
  let ⟨fd, ds, F, r⟩ := c
  ⟨fd, ds, F.mono h, r⟩
end
/-! ### heaps -/
theorem same_new {H : Hp} {p : Addr} (h : H p = none) (o : HO) : Same H (upd H p o) := fun b u q => by rw [upd_ne (ne_of_none q h)]; exact q
theorem _root_.L2.Same.seqT {K : PySem.W.Frag} {H H' : Hp} {a : Addr} {xs : List V} (e : Same H H') (h : SqT K H a xs) : SqT K H' a xs := by
  rcases h with (h | ⟨o, h⟩) | h
  · exact .inl (.inl (e _ _ h))
  · exact .inl (.inr ⟨o, e _ _ h⟩)
  · exact .inr h
theorem upd_none {H : Hp} {a p : Addr} {o : HO} (h : upd H a o p = none) : p ≠ a ∧ H p = none := by
  by_cases e : p = a
  · subst e; rw [upd_same] at h; cases h
  · rw [upd_ne e] at h; exact ⟨e, h⟩
/-! ### the stream of draws -/
/-- the law's stream at s: its list of ints at l, the number at hand, how many were made up, the seed; n: a bound of those made up -/
def Stm (H : Hp) (s l : Addr) (n : Nat) : Prop := s ≠ l ∧ ∃ (ns : List Int) (x c d : Int), H s = some (.lst [.ref l, .int x, .int c, .int d]) ∧ H l = some (.lst (ns.map V.int)) ∧ ns.length ≤ 63 ∧ 0 ≤ x ∧ 0 ≤ c ∧ c ≤ n ∧ 0 ≤ d ∧ d < 2147483647
theorem Stm.mono {H : Hp} {s l : Addr} {n m : Nat} (h : Stm H s l n) (k : n ≤ m) : Stm H s l m := by
  obtain ⟨ne, ns, x, c, d, h1, h2, h3, h4, h5, h6, h7, h8⟩ := h
  exact ⟨ne, ns, x, c, d, h1, h2, h3, h4, h5, by omega, h7, h8⟩
theorem Stm.same {H H' : Hp} {s l : Addr} {n : Nat} (h : Stm H s l n) (k : Same H H') : Stm H' s l n := by
  obtain ⟨ne, ns, x, c, d, h1, h2, h3⟩ := h
  exact ⟨ne, ns, x, c, d, k _ _ h1, k _ _ h2, h3⟩
/-- all but the stream is as it was -/
def But (s l : Addr) (H H' : Hp) : Prop := ∀ b, b ≠ s → b ≠ l → H' b = H b
/-- all that was there but the stream is as it was -/
def Old (s l : Addr) (H H' : Hp) : Prop := ∀ b o, b ≠ s → b ≠ l → H b = some o → H' b = some o
theorem But.old {s l : Addr} {H H' : Hp} (h : But s l H H') : Old s l H H' := fun b o h1 h2 e => by rw [h b h1 h2]; exact e
theorem Old.refl {s l : Addr} (H : Hp) : Old s l H H := fun _ _ _ _ e => e
theorem Old.trans {s l : Addr} {H H1 H2 : Hp} (a : Old s l H H1) (b : Old s l H1 H2) : Old s l H H2 := fun c o h1 h2 e => b c o h1 h2 (a c o h1 h2 e)
theorem Old.of_same {s l : Addr} {H H' : Hp} (h : Same H H') : Old s l H H' := fun b o _ _ e => h b o e
section
variable {X : Cx} {x : Str} {pos : Pos}
theorem pe_gi {i : Int} (hg : Gl X x) (hm : ∃ t, X.mg x = some (.int i t)) (hd : (x == ("__debug__" : Str)) = false := by decide) : PE X (.Name x pos) (tC (.int i)) := by
  obtain ⟨t, h⟩ := hm
  exact pe_glob hg h ⟨t, rfl⟩ (by first | assumption | exact hd)
theorem pe_gs {z : Str} (hg : Gl X x) (hm : ∃ t, X.mg x = some (.str z t)) (hd : (x == ("__debug__" : Str)) = false := by decide) : PE X (.Name x pos) (tC (.str z)) := by
  obtain ⟨t, h⟩ := hm
  exact pe_glob hg h ⟨t, rfl⟩ (by first | assumption | exact hd)
end
/-! ### in a comprehension's block the written part is the def's own: rules that name it -/
section
variable {X : Cx} {K : PySem.W.Frag}
theorem opK (r : PySem.W.Frag → R2) {f : Value → Value → Sem Value} (h : OpR X f (r X.K)) (e : X.K = K := by rfl) : OpR X f (r K) := e ▸ h
theorem callK (r : PySem.W.Frag → List V → Hp → VK → Prop) {f : Value} (h : CallR X f (r X.K)) (e : X.K = K := by rfl) : CallR X f (r K) := e ▸ h
theorem ixK (r : PySem.W.Frag → R2) (h : IxR X (r X.K)) (e : X.K = K := by rfl) : IxR X (r K) := e ▸ h
theorem pe_fldK {e : Expr} {f : Str} {pos : Pos} {ta : TE} (he : PE X e ta) (hb : attributeBase e f X.env (eval e X.env) = eval e X.env) (z : X.K = K := by rfl) : PE X (.Attribute e f pos) (tFld K ta f) := z ▸ pe_fld he hb
end
/-- an expression that is never reached -/
def tNo : TE := fun _ _ _ => False
theorem pe_never {X : Cx} {e : Expr} : PE X e tNo := ⟨fun _ _ _ _ _ _ h => h.elim⟩
def tNoT : TT := fun _ _ _ => False
theorem pt_never {X : Cx} {e : Expr} : PT X e tNoT := ⟨fun _ _ _ _ _ _ h => h.elim⟩
theorem tyx_tup {K : PySem.W.Frag} {H : Hp} {a : Addr} {xs : List V} (h : SqT K H a xs) : TyX K H (.ref a) (.type "tuple") := by
  rcases h with (h | ⟨o, h⟩) | ⟨o, its, n, h, c, _⟩
  · exact .base (.tup h)
  · exact .fTuple h
  · exact .kTuple h c
theorem tyx_lst {K : PySem.W.Frag} {H : Hp} {a : Addr} {xs : List V} (h : SqL K H a xs) : TyX K H (.ref a) (.type "list") := by
  rcases h with (h | ⟨o, h⟩) | ⟨o, its, n, h, c, _⟩
  · exact .base (.lst h)
  · exact .base (.frz h)
  · exact .kList h c
/-- behind a lock all is as it was but the new -/
theorem unlock {H : Hp} {d D : Addr} {f u o : HO} (hd : H d = some u) (hD : upd H d f D = none) : upd (upd (upd H d f) D o) d u = upd H D o := by
  have ne : D ≠ d := (upd_none hD).1
  funext b
  by_cases e : b = d
  · subst e; rw [upd_same, upd_ne (Ne.symm ne)]; exact hd.symm
  · rw [upd_ne e]
    by_cases z : b = D
    · subst z; rw [upd_same, upd_same]
    · rw [upd_ne z, upd_ne z, upd_ne e]
theorem iteT' {c : Bool} {A B : Prop} (hc : c = true) (h : A) : if c = true then A else B := by rw [if_pos hc]; exact h
theorem iteF' {c : Bool} {A B : Prop} (hc : c = false) (h : B) : if c = true then A else B := by rw [if_neg (by rw [hc]; exact Bool.false_ne_true)]; exact h
end RC

set_option Elab.async false
set_option linter.all false
set_option maxRecDepth 100000
set_option maxHeartbeats 4000000
/-! Further rules: two lists of the same objects are equal; a text times an int. -/
namespace RD
open PySem PySem.Spec PyProof.Rows PySem.SeqAt L2
def rNeRefs (K : PySem.W.Frag) : R2 := fun x y H Q => ∃ (a b : Addr) (as : List Addr), x = .ref a ∧ y = .ref b ∧ SqL K H a (as.map V.ref) ∧ SqL K H b (as.map V.ref) ∧ Q (.bl false) H
def rEqRefs (K : PySem.W.Frag) : R2 := fun x y H Q => ∃ (a b : Addr) (as : List Addr), x = .ref a ∧ y = .ref b ∧ SqL K H a (as.map V.ref) ∧ SqL K H b (as.map V.ref) ∧ Q (.bl true) H
def rMulS : R2 := fun x y H Q => ∃ (i : Str) (k : Int), x = .str i ∧ y = .int k ∧ PySem.MulOk i k ∧ Q (.str (Txt.mul i k)) H
section
variable {X : Cx}
theorem vals_refs : ∀ {as : List Addr} {us : List Value}, Vals (as.map V.ref) us → us = as.map Value.ref
  | [], _, .nil => rfl
  | a :: as, _, .cons r t => by
    cases r
    rw [vals_refs t]; rfl
theorem all_true (n : Nat) : (List.range n).all (fun _ => true) = true := by simp
theorem op_neRefs (hu : X.A.units < cLine) : OpR X (compareOp .NotEq) (rNeRefs X.K) := by
  intro pins s σ H x y v u Q I rx ry h
  obtain ⟨a, b, as, rfl, rfl, ha, hb, q⟩ := h
  cases rx
  cases ry
  obtain ⟨its, rv, hl, _⟩ := I.list ha
  obtain ⟨its2, rv2, hl2, _⟩ := I.list hb
  obtain rfl := vals_refs rv
  obtain rfl := vals_refs rv2
  refine RcNeAt.lists (e := fun _ => true) hl.isList hl2.isList rfl hu (fun j h1 h2 => EqAt.same _) X.prog X.w X.xe _ ?_
  rw [all_true]
  exact fin_bl I q rfl
theorem op_eqRefs (hu : X.A.units < cLine) : OpR X (compareOp .Eq) (rEqRefs X.K) := by
  intro pins s σ H x y v u Q I rx ry h
  obtain ⟨a, b, as, rfl, rfl, ha, hb, q⟩ := h
  cases rx
  cases ry
  obtain ⟨its, rv, hl, _⟩ := I.list ha
  obtain ⟨its2, rv2, hl2, _⟩ := I.list hb
  obtain rfl := vals_refs rv
  obtain rfl := vals_refs rv2
  refine eq_listAt (e := fun _ => true) hl.isList hl2.isList rfl hu (fun j h1 h2 => EqAt.same _) ?_
  rw [all_true]
  exact fin_bl I q rfl
theorem op_mulS : OpR X (binaryOp .Mult) rMulS := by
  intro pins s σ H x y v u Q I rx ry h
  obtain ⟨i, k, rfl, rfl, hk, q⟩ := h
  obtain ⟨t, rfl⟩ := rx
  obtain ⟨t', rfl⟩ := ry
  exact PySem.SB.mul hk fun t2 k2 => ⟨.str (Txt.mul i k), H, I.tok k2, ⟨_, rfl⟩, q⟩
end
end RD

set_option Elab.async false
set_option linter.all false
set_option maxRecDepth 100000
set_option maxHeartbeats 4000000
/-! Rows of texts in order: there is one alone. -/
namespace RE
open PySem PySem.Spec PyProof.Rows L2
def le (a b : List Nat) : Prop := ltCps b a = false
theorem lt_split : ∀ (a b c : List Nat), ltCps a c = true → ltCps a b = true ∨ ltCps b c = true
  | [], [], c, h => .inr h
  | [], _ :: _, _, _ => .inl rfl
  | _ :: _, _, [], h => nomatch h
  | x :: a, [], z :: c, h => .inr rfl
  | x :: a, y :: b, z :: c, h => by
    have h : (decide (x < z) || (x == z && ltCps a c)) = true := h
    show (decide (x < y) || (x == y && ltCps a b)) = true ∨ (decide (y < z) || (y == z && ltCps b c)) = true
    rcases Nat.lt_trichotomy x y with h1 | h1 | h1
    · exact .inl (by rw [decide_eq_true h1]; rfl)
    · subst h1
      rcases Bool.or_eq_true_iff.mp h with h2 | h2
      · exact .inr (by rw [h2]; rfl)
      · obtain ⟨h3, h4⟩ := Bool.and_eq_true_iff.mp h2
        rcases lt_split a b c h4 with h5 | h5
        · exact .inl (by rw [h5]; simp)
        · exact .inr (by rw [h3, h5]; simp)
    · have h6 : y < z := by
        rcases Bool.or_eq_true_iff.mp h with h2 | h2
        · exact Nat.lt_trans h1 (of_decide_eq_true h2)
        · obtain ⟨h3, _⟩ := Bool.and_eq_true_iff.mp h2
          rw [← eq_of_beq h3]; exact h1
      exact .inr (by rw [decide_eq_true h6]; rfl)
theorem le_trans {a b c : List Nat} (h1 : le a b) (h2 : le b c) : le a c := by
  unfold le at *
  cases e : ltCps c a with
  | false => rfl
  | true =>
    rcases lt_split c b a e with h | h
    · rw [h2] at h; cases h
    · rw [h1] at h; cases h
theorem le_anti : ∀ {a b : List Nat}, le a b → le b a → a = b
  | [], [], _, _ => rfl
  | [], _ :: _, _, h => nomatch h
  | _ :: _, [], h, _ => nomatch h
  | x :: a, y :: b, h1, h2 => by
    have h1 : (decide (y < x) || (y == x && ltCps b a)) = false := h1
    have h2 : (decide (x < y) || (x == y && ltCps a b)) = false := h2
    rw [Bool.or_eq_false_iff] at h1 h2
    have e : x = y := by
      have a1 := of_decide_eq_false h1.1
      have a2 := of_decide_eq_false h2.1
      omega
    subst e
    have h3 : ltCps b a = false := by have := h1.2; simpa using this
    have h4 : ltCps a b = false := by have := h2.2; simpa using this
    rw [le_anti (a := a) (b := b) h3 h4]
def leS (a b : Str) : Prop := le (TL.tl a) (TL.tl b)
theorem rising : ∀ (p : Str) (l : List Str), risingS p l = true → (p :: l).Pairwise leS
  | p, [], _ => List.pairwise_singleton _ _
  | p, x :: r, h => by
    have h : (!ltCps x.cps.toList p.cps.toList && risingS x r) = true := h
    obtain ⟨h1, h2⟩ := Bool.and_eq_true_iff.mp h
    have i := rising x r h2
    refine List.pairwise_cons.mpr ⟨fun z hz => ?_, i⟩
    have a : leS p x := by
      show ltCps (TL.tl x) (TL.tl p) = false
      have h1 : (!ltCps (TL.tl x) (TL.tl p)) = true := h1
      cases e : ltCps (TL.tl x) (TL.tl p) with
      | false => rfl
      | true => rw [e] at h1; cases h1
    rcases List.mem_cons.mp hz with rfl | hz
    · exact a
    · exact le_trans a ((List.pairwise_cons.mp i).1 z hz)
theorem sorted_pw : ∀ {l : List Str}, sortedS l = true → l.Pairwise leS
  | [], _ => List.Pairwise.nil
  | x :: r, h => rising x r h
theorem uniq : ∀ {l m : List Str}, l.Perm m → l.Pairwise leS → m.Pairwise leS → l = m
  | [], m, hp, _, _ => by rw [List.nil_perm.mp hp]
  | x :: r, m, hp, h1, h2 => by
    cases m with
    | nil => exact absurd hp.length_eq (by simp)
    | cons y t =>
      obtain ⟨a1, a2⟩ := List.pairwise_cons.mp h1
      obtain ⟨b1, b2⟩ := List.pairwise_cons.mp h2
      have e : x = y := by
        have hx : x ∈ y :: t := hp.mem_iff.mp List.mem_cons_self
        have hy : y ∈ x :: r := hp.mem_iff.mpr List.mem_cons_self
        rcases List.mem_cons.mp hx with rfl | hx
        · rfl
        rcases List.mem_cons.mp hy with rfl | hy
        · rfl
        exact TL.ext_tl (le_anti (a1 y hy) (b1 x hx))
      subst e
      rw [uniq ((List.perm_cons x).mp hp) a2 b2]
/-- a sorted row's part is that part, sorted -/
theorem sorted_filter {xs ys zs : List Str} {p : Str → Bool} (h1 : ys.Perm xs) (h2 : sortedS ys = true) (h3 : zs.Perm (xs.filter p)) (h4 : sortedS zs = true) : zs = ys.filter p :=
  uniq (h3.trans (h1.symm.filter p)) (sorted_pw h4) ((sorted_pw h2).filter p)
end RE

set_option Elab.async false
set_option linter.all false
set_option maxRecDepth 100000
set_option maxHeartbeats 4000000
/-! Further rules of dicts: d.update(d2). -/
namespace RF
open PySem PySem.Spec PyProof.Rows L2
def rUpdD : V → List V → Hp → VK → Prop := fun x xs H Q => ∃ (d o : Addr) (kvs more : List (Key × V)), x = .ref d ∧ xs = [.ref o] ∧ H d = some (.dK kvs) ∧ Rd H o (.dK more) ∧ d ≠ o ∧ kvs.length + more.length ≤ sizeLine ∧ (mergeK kvs more).length ≤ sizeLine ∧ Q .non (upd H d (.dK (mergeK kvs more)))
theorem mt_updD {X : Cx} : MtR X "dict.update" rUpdD := by
  intro pins s σ H x xs v us Q I rx rxs h
  obtain ⟨d, o, kvs, more, rfl, rfl, hd, ho, hne, hl, hl2, q⟩ := h
  cases rx
  obtain rfl := Vals.ref1 rxs
  obtain ⟨z, lo, vs, rel, dd⟩ := dk_of I.hok hd
  obtain ⟨z2, lo2, vs2, rel2, dd2⟩ := dk_rd I.hok ho
  refine call_meetsIn PySem.F.slot_dict_update dd.typeIs PySem.F.entry_dict_update (PySem.F.args_dict_update_2 _ _) (meets_dict_update (mixKind X.prog X.w) d o hne lo2)
    ⟨vs, vs2, dd, dd2, (by rw [← rel.length, ← rel2.length]; exact hl), fun h' hmm _ hs => ?_⟩
  have he : ∃ q, h'.get? d = some q := let ⟨q, _, _, hq, _⟩ := hmm; ⟨q, hq⟩
  refine d_write I (by rw [hd]; exact True.intro) hs he (dk_new hl2 lo (KV.merge rel2 rel) hmm) |> fun I' => ⟨.non, _, I', rfl, q⟩
/-- list(o.values()) -/
def tListVals (td : TE) : TE := fun σ H Q => td σ H fun x H1 => ∃ a kvs, x = V.ref a ∧ H1 a = some (.dK kvs) ∧ ∀ q, H1 q = none → Q (.ref q) (upd H1 q (.lst (kvs.map (·.2))))
section
variable {X : Cx} {o : Expr} {p pos apos mpos : Pos} {td : TE}
theorem pe_listVals (hc : X.calm = true) (hg : Gl X "list") (hm : X.mg "list" = none) (hd : PE X o td) (hbase : attributeBase o "values" X.env (eval o X.env) = eval o X.env := by rfl) (hline : (apos.endLine == mpos.line) = true := by rfl)
    (hse : starEach [Expr.Call (.Attribute o "values" apos) [] [] mpos] X.env = [(false, eval (Expr.Call (.Attribute o "values" apos) [] [] mpos) X.env)] := by rfl) :
    PE X (.Call (.Name "list" p) [.Call (.Attribute o "values" apos) [] [] mpos] [] pos) (tListVals td) := by
  refine ⟨fun pins s σ H Q I h => ?_⟩
  refine wpAny_Call_Name_kw (ld_blt I hg hm (u := .type "list") (by first | rfl | decide +kernel) ?_ (by first | decide +kernel | decide) (by first | decide +kernel | decide))
  rw [hse]
  refine PySem.callWith_type1 (wpAny_Call_method0_late hbase hline (thn (hd.run pins s σ H _ I h) fun v s1 ⟨x, H1, I1, r1, a, kvs, ex, ha, q⟩ => ?_))
  subst ex
  obtain rfl : v = Value.ref a := r1
  obtain ⟨z, hsys, vs, rel, dof⟩ := dk_of I1.hok ha
  obtain ⟨ep, dat⟩ := dof.dictAt
  have dat' := dat
  obtain ⟨ob, es, ho, ex, hdat, hko, hpr, hnd⟩ := dat'
  refine ⟨"dict", "dict.values", F.plainAttrs_dict, F.slot_dict_values, F.type_dict_values, ⟨ob, ho, ex.1⟩, fun b e => ?_, Calls.callWith_builtin rfl (PySem.evalArgs_none ?_)⟩
  · cases e
    exact ⟨ob, ho, ex.2.1⟩
  refine call_meetsIn F.slot_dict_values ⟨ob, ho, ex.1⟩ F.entry_dict_values (F.args_dict_values_1 _) (meets_dict_values (mixKind X.prog X.w) a hsys) ⟨⟨vs, dof⟩, ?_⟩
  have k1 : ∀ b u, s1.heap.get? b = some u → (s1.heap.push { cls := .type "dict_values", data := .fields #[.ref a] }).get? b = some u := fun b u e => Heap.get?_push_of_some _ e
  have dat1 : (s1.heap.push { cls := .type "dict_values", data := .fields #[.ref a] }).DictAt (mixKind X.prog X.w) a vs ep := dat.keep k1
  have I2 : Inv X pins σ H1 { s1 with heap := s1.heap.push { cls := .type "dict_values", data := .fields #[.ref a] } } := I1.kept (t' := s1.toks) k1
  have hl : kvs.length = vs.length := Paired.length rel
  refine PySem.W.kdl_call (PySem.W.kdl_values (knd := mixKind X.prog X.w) (r := s1.heap.objs.size) (d := a) (kvs := vs) (ep := ep)) (I1.ok.hd hc) ⟨⟨_, Heap.get?_push_size _ rfl, rfl, rfl⟩, dat1⟩ (by rw [← hl]; exact z) fun h' tk acc' c' hkeep hS hacc => ?_
  refine ⟨.ref _, upd H1 _ (.lst (kvs.map (·.2))), I2.laid hkeep (Nat.le_refl _) (show ObjOk X.prog X.w _ _ _ (.lst (kvs.map (·.2))) from ⟨?_, acc'.toList, c', ?_, ?_⟩), rfl, q _ (I2.hok.fresh (Nat.le_refl _))⟩
  · rw [List.length_map]; exact z
  · have el : acc'.toList.length = acc'.size := by simp
    refine vals_of_at (by rw [List.length_map, el, hacc.1, hl]) fun j x w h1 h2 => ?_
    obtain ⟨k, hk⟩ := hacc.2 j w (by rw [← Array.getElem?_toList]; exact h2)
    obtain ⟨x', h3, h4⟩ := KV.at' rel hk
    rw [List.getElem?_map, h3] at h1
    cases h1
    exact h4
  · rw [Array.toArray_toList]; exact hS
end
/-- d[i] = v as one of several targets -/
def rSetD : TSet := fun o i v H Q => ∃ (a : Addr) (H' : Hp), o = .ref a ∧ DPut H a i v H' ∧ Q H'
theorem set_dict {X : Cx} (hu : X.A.units + 1 < cLine) : PSet X rSetD := by
  intro pins s σ H o i v ov iv u Q I ro ri rv h
  obtain ⟨a, H', rfl, g, q⟩ := h
  cases ro
  exact d_setItem hu I g ri rv fun s' I' => ⟨H', I', q⟩
end RF

set_option Elab.async false
set_option linter.all false
set_option maxRecDepth 100000
set_option maxHeartbeats 4000000
/-! Rules that name the written part, for a comprehension's block. -/
namespace RG
open PySem PySem.Spec PyProof.Rows L2
theorem pg_tupK {X : Cx} {K : PySem.W.Frag} {es : List Expr} {k n : Nat} {pos : Pos} {t : TGs} (hc : X.calm = true) (h : PGs X es t) (hn : (assignEach es X.env).length = n := by rfl) (hst : (assignEach es X.env).findIdx? (·.1) = none := by rfl) (z : X.K = K := by rfl) :
    PG X (.Tuple es k pos) (gTup K n t) := z ▸ pg_tup hc h hn hst
end RG

set_option Elab.async false
set_option linter.all false
set_option maxRecDepth 100000
set_option maxHeartbeats 4000000
/-! What a walk by itself leans on: facts of the heap carried over changes. -/
namespace RW
open PySem PySem.Spec PyProof.Rows L2 RC
section
variable {H H1 H2 : Hp} {p q s l : Addr} {o o' u : HO}
theorem at_same (e : Same H H1) (h : H p = some o) : H1 p = some o := e _ _ h
theorem at_old (e : Old s l H H1) (h1 : p ≠ s) (h2 : p ≠ l) (h : H p = some o) : H1 p = some o := e _ _ h1 h2 h
theorem at_upd (n : q ≠ p) (h : H q = some u) : upd H p o q = some u := by rw [upd_ne n]; exact h
theorem no_upd (n : q ≠ p) (h : H q = none) : upd H p o q = none := by rw [upd_ne n]; exact h
theorem ne_new (h : H p = none) (h2 : H q = some u) : q ≠ p := ne_of_none h2 h
theorem ne_new' (h : H p = none) (h2 : H q = some u) : p ≠ q := Ne.symm (ne_of_none h2 h)
theorem ne_kind (h : H p = some o) (h' : H q = some u) (n : o ≠ u) : p ≠ q := fun z => n (by rw [z] at h; exact Option.some.inj (h.symm.trans h'))
theorem same_put_new (e : Same H H1) (h : H1 p = none) : Same H (upd H1 p o) := e.trans (same_new h o)
theorem same_put (e : Same H H1) (h : H p = none) : Same H (upd H1 p o) := fun b x hb => by rw [upd_ne (ne_of_none hb h)]; exact e _ _ hb
theorem same_then (h : Same H1 H2) (e : Same H H1) : Same H H2 := e.trans h
theorem free_same (e : Same H H1) (h : H1 p = none) : H p = none := e.free h
theorem free_upd (h : upd H p o q = none) : H q = none := (upd_none h).2
theorem ne_upd (h : upd H p o q = none) : q ≠ p := (upd_none h).1
theorem some_ref {xs : List V} {K : PySem.W.Frag} (h : H p = some (.lst xs)) : SqL K H p xs := SqL.of h
theorem rd_of (h : H p = some o) : Rd H p o := .inl h
theorem fr {R : Addr → Prop} (h : ∀ x, H x = none → x ≠ p → R x) : ∀ x, upd H p o x = none → R x := fun x hx => h x (upd_none hx).2 (upd_none hx).1
theorem fr_same {R : Addr → Prop} (e : Same H H1) (h : ∀ x, H x = none → H1 x = none → R x) : ∀ x, H1 x = none → R x := fun x hx => h x (e.free hx) hx
theorem gHp (h : H p = some o) : H p = some o := h
theorem gStm {n : Nat} (h : Stm H s l n) : Stm H s l n := h
theorem stm_upd {n : Nat} (h1 : p ≠ s) (h2 : p ≠ l) (h : Stm H s l n) : Stm (upd H p o) s l n := by
  obtain ⟨ne, ns, x, c, d, g1, g2, g3⟩ := h
  exact ⟨ne, ns, x, c, d, by rw [upd_ne (Ne.symm h1)]; exact g1, by rw [upd_ne (Ne.symm h2)]; exact g2, g3⟩
theorem stm_at {n : Nat} (h : Stm H s l n) : (∃ o, H s = some o) ∧ (∃ o, H l = some o) ∧ s ≠ l := by
  obtain ⟨ne, ns, x, c, d, g1, g2, g3⟩ := h
  exact ⟨⟨_, g1⟩, ⟨_, g2⟩, ne⟩
theorem stm_same {n : Nat} (h : Stm H s l n) (e : Same H H1) : Stm H1 s l n := h.same e
theorem old_upd (e : Old s l H H1) (h : H p = none) : Old s l H (upd H1 p o) := fun b x h1 h2 hb => by rw [upd_ne (ne_of_none hb h)]; exact e _ _ h1 h2 hb
theorem old_same (e : Old s l H H1) (h : Same H1 H2) : Old s l H H2 := fun b x h1 h2 hb => h _ _ (e _ _ h1 h2 hb)
theorem old_then (h : Old s l H1 H2) (e : Old s l H H1) : Old s l H H2 := e.trans h
theorem old_of (e : Same H H1) : Old s l H H1 := Old.of_same e
theorem gOld (h : Old s l H H1) : Old s l H H1 := h
theorem gCp {i j : Int} (h : 0 ≤ j ∧ j ≤ 1000000 ∧ i.natAbs < 2 ^ 64) : CPow i j := h
theorem gNe (h : p ≠ q) : p ≠ q := h
theorem isMut {d : Addr} {w : HO} {R : Prop} (h : H d = some w ∧ Mut (H d) ∧ R) : H d = some w ∧ Mut (H d) ∧ R := h
theorem isMut2 {d : Addr} {w : HO} {R : Prop} (h : H d = some w ∧ Mut (some w) ∧ R) : H d = some w ∧ Mut (some w) ∧ R := h
theorem gSm (h : Same H H1) : Same H H1 := h
theorem gCls {K : PySem.W.Frag} {C : Addr} (h : Cls K C) : Cls K C := h
theorem gNo {K : PySem.W.Frag} {C : Addr} {f : Str} (h : NoAttr K C f) : NoAttr K C f := h
theorem gCv {c : V} {u : Value} (h : ClsV c u) : ClsV c u := h
theorem gTy {K : PySem.W.Frag} {c : V} {u : Value} (h : TyX K H c u) : TyX K H c u := h
theorem gKit {K : PySem.W.Frag} {t c : Value} {b : Bool} (h : PySem.W.kitOne K t c = some b) : PySem.W.kitOne K t c = some b := h
theorem gKita {K : PySem.W.Frag} {t : Value} {c : List Value} {b : Bool} (h : PySem.W.kitAny K t c = some b) : PySem.W.kitAny K t c = some b := h
theorem gSl {K : PySem.W.Frag} {xs : List V} (h : SqL K H p xs) : SqL K H p xs := h
theorem gSt {K : PySem.W.Frag} {xs : List V} (h : SqT K H p xs) : SqT K H p xs := h
theorem gPr {cs : List V} {us : List Value} (h : Paired ClsV cs us) : Paired ClsV cs us := h
theorem gKi {K : PySem.W.Frag} {t : Value} {b : Bool} (h : PySem.W.kitOne K t (.type "int") = some b) : PySem.W.kitOne K t (.type "int") = some b := h
theorem gKb {K : PySem.W.Frag} {t : Value} {b : Bool} (h : PySem.W.kitOne K t (.type "bool") = some b) : PySem.W.kitOne K t (.type "bool") = some b := h
theorem gKs {K : PySem.W.Frag} {t : Value} {b : Bool} (h : PySem.W.kitOne K t (.type "str") = some b) : PySem.W.kitOne K t (.type "str") = some b := h
theorem gKl {K : PySem.W.Frag} {t : Value} {b : Bool} (h : PySem.W.kitOne K t (.type "list") = some b) : PySem.W.kitOne K t (.type "list") = some b := h
theorem gKt {K : PySem.W.Frag} {t : Value} {b : Bool} (h : PySem.W.kitOne K t (.type "tuple") = some b) : PySem.W.kitOne K t (.type "tuple") = some b := h
theorem gKd {K : PySem.W.Frag} {t : Value} {b : Bool} (h : PySem.W.kitOne K t (.type "dict") = some b) : PySem.W.kitOne K t (.type "dict") = some b := h
theorem cxK {P : Program} {w : World} {K : PySem.W.Frag} {mg : Str → Option Value} {base : Heap} {N : List Str} {qual : Str} {scope : Scope} {f : Addr} {cd : Value} {A : Around} {outer : List Env} {sh : Shared} {E : XK} :
    (cxOf CX0 P w K mg base N qual scope f cd A outer sh H E).nox.K = K := rfl
end
section
variable {H : Hp} {K : PySem.W.Frag} {a p : Addr} {kvs : List (Key × V)} {x y : Str} {i j : Int} {o : Option V} {od : Obj} {v : V} {xs : List V}
theorem dget_s (h : H a = some (.dK kvs)) (e : valV kvs (Sum.inr x) = o) : DGet H a (.str x) o := .inl ⟨kvs, Sum.inr x, .inl h, rfl, e.symm⟩
theorem dget_i (h : H a = some (.dK kvs)) (e : valV kvs (Sum.inl i) = o) : DGet H a (.int i) o := .inl ⟨kvs, Sum.inl i, .inl h, rfl, e.symm⟩
theorem dget_sF (h : H a = some (.frz od (.dK kvs))) (e : valV kvs (Sum.inr x) = o) : DGet H a (.str x) o := .inl ⟨kvs, Sum.inr x, .inr ⟨od, h⟩, rfl, e.symm⟩
theorem dget_sR (h : Rd H a (.dK kvs)) (e : valV kvs (Sum.inr x) = o) : DGet H a (.str x) o := .inl ⟨kvs, Sum.inr x, h, rfl, e.symm⟩
theorem dput_s (h : H a = some (.dK kvs)) (hl : kvs.length < sizeLine) : DPut H a (.str x) v (upd H a (.dK (putK kvs (Sum.inr x) v))) := DPut.k (k := Sum.inr x) h hl
theorem dput_i (h : H a = some (.dK kvs)) (hl : kvs.length < sizeLine) : DPut H a (.int i) v (upd H a (.dK (putK kvs (Sum.inl i) v))) := DPut.k (k := Sum.inl i) h hl
theorem sql_of (h : H p = some (.lst xs)) : ∃ ys, SqL K H p ys := ⟨xs, SqL.of h⟩
theorem sqt_of (h : H p = some (.tup xs)) : ∃ ys, SqT K H p ys := ⟨xs, SqT.of h⟩
theorem disp1 {a0 : Str} {v0 : V} {R : List (Key × V) → Prop} (h : R [((Sum.inr a0 : Key), v0)]) : ∃ kvs : List (Key × V), [(V.str a0, v0)] = kvs.map (fun kv => (kV kv.1, kv.2)) ∧ kvs.length ≤ 15 ∧ R kvs := ⟨[((Sum.inr a0 : Key), v0)], rfl, Nat.le_of_ble_eq_true rfl, h⟩
theorem disp2 {a0 a1 : Str} {v0 v1 : V} {R : List (Key × V) → Prop} (h : R [((Sum.inr a0 : Key), v0), ((Sum.inr a1 : Key), v1)]) : ∃ kvs : List (Key × V), [(V.str a0, v0), (V.str a1, v1)] = kvs.map (fun kv => (kV kv.1, kv.2)) ∧ kvs.length ≤ 15 ∧ R kvs := ⟨[((Sum.inr a0 : Key), v0), ((Sum.inr a1 : Key), v1)], rfl, Nat.le_of_ble_eq_true rfl, h⟩
theorem disp3 {a0 a1 a2 : Str} {v0 v1 v2 : V} {R : List (Key × V) → Prop} (h : R [((Sum.inr a0 : Key), v0), ((Sum.inr a1 : Key), v1), ((Sum.inr a2 : Key), v2)]) : ∃ kvs : List (Key × V), [(V.str a0, v0), (V.str a1, v1), (V.str a2, v2)] = kvs.map (fun kv => (kV kv.1, kv.2)) ∧ kvs.length ≤ 15 ∧ R kvs := ⟨[((Sum.inr a0 : Key), v0), ((Sum.inr a1 : Key), v1), ((Sum.inr a2 : Key), v2)], rfl, Nat.le_of_ble_eq_true rfl, h⟩
theorem disp4 {a0 a1 a2 a3 : Str} {v0 v1 v2 v3 : V} {R : List (Key × V) → Prop} (h : R [((Sum.inr a0 : Key), v0), ((Sum.inr a1 : Key), v1), ((Sum.inr a2 : Key), v2), ((Sum.inr a3 : Key), v3)]) : ∃ kvs : List (Key × V), [(V.str a0, v0), (V.str a1, v1), (V.str a2, v2), (V.str a3, v3)] = kvs.map (fun kv => (kV kv.1, kv.2)) ∧ kvs.length ≤ 15 ∧ R kvs := ⟨[((Sum.inr a0 : Key), v0), ((Sum.inr a1 : Key), v1), ((Sum.inr a2 : Key), v2), ((Sum.inr a3 : Key), v3)], rfl, Nat.le_of_ble_eq_true rfl, h⟩
theorem disp5 {a0 a1 a2 a3 a4 : Str} {v0 v1 v2 v3 v4 : V} {R : List (Key × V) → Prop} (h : R [((Sum.inr a0 : Key), v0), ((Sum.inr a1 : Key), v1), ((Sum.inr a2 : Key), v2), ((Sum.inr a3 : Key), v3), ((Sum.inr a4 : Key), v4)]) : ∃ kvs : List (Key × V), [(V.str a0, v0), (V.str a1, v1), (V.str a2, v2), (V.str a3, v3), (V.str a4, v4)] = kvs.map (fun kv => (kV kv.1, kv.2)) ∧ kvs.length ≤ 15 ∧ R kvs := ⟨[((Sum.inr a0 : Key), v0), ((Sum.inr a1 : Key), v1), ((Sum.inr a2 : Key), v2), ((Sum.inr a3 : Key), v3), ((Sum.inr a4 : Key), v4)], rfl, Nat.le_of_ble_eq_true rfl, h⟩
theorem disp6 {a0 a1 a2 a3 a4 a5 : Str} {v0 v1 v2 v3 v4 v5 : V} {R : List (Key × V) → Prop} (h : R [((Sum.inr a0 : Key), v0), ((Sum.inr a1 : Key), v1), ((Sum.inr a2 : Key), v2), ((Sum.inr a3 : Key), v3), ((Sum.inr a4 : Key), v4), ((Sum.inr a5 : Key), v5)]) : ∃ kvs : List (Key × V), [(V.str a0, v0), (V.str a1, v1), (V.str a2, v2), (V.str a3, v3), (V.str a4, v4), (V.str a5, v5)] = kvs.map (fun kv => (kV kv.1, kv.2)) ∧ kvs.length ≤ 15 ∧ R kvs := ⟨[((Sum.inr a0 : Key), v0), ((Sum.inr a1 : Key), v1), ((Sum.inr a2 : Key), v2), ((Sum.inr a3 : Key), v3), ((Sum.inr a4 : Key), v4), ((Sum.inr a5 : Key), v5)], rfl, Nat.le_of_ble_eq_true rfl, h⟩
theorem disp7 {a0 a1 a2 a3 a4 a5 a6 : Str} {v0 v1 v2 v3 v4 v5 v6 : V} {R : List (Key × V) → Prop} (h : R [((Sum.inr a0 : Key), v0), ((Sum.inr a1 : Key), v1), ((Sum.inr a2 : Key), v2), ((Sum.inr a3 : Key), v3), ((Sum.inr a4 : Key), v4), ((Sum.inr a5 : Key), v5), ((Sum.inr a6 : Key), v6)]) : ∃ kvs : List (Key × V), [(V.str a0, v0), (V.str a1, v1), (V.str a2, v2), (V.str a3, v3), (V.str a4, v4), (V.str a5, v5), (V.str a6, v6)] = kvs.map (fun kv => (kV kv.1, kv.2)) ∧ kvs.length ≤ 15 ∧ R kvs := ⟨[((Sum.inr a0 : Key), v0), ((Sum.inr a1 : Key), v1), ((Sum.inr a2 : Key), v2), ((Sum.inr a3 : Key), v3), ((Sum.inr a4 : Key), v4), ((Sum.inr a5 : Key), v5), ((Sum.inr a6 : Key), v6)], rfl, Nat.le_of_ble_eq_true rfl, h⟩
theorem disp8 {a0 a1 a2 a3 a4 a5 a6 a7 : Str} {v0 v1 v2 v3 v4 v5 v6 v7 : V} {R : List (Key × V) → Prop} (h : R [((Sum.inr a0 : Key), v0), ((Sum.inr a1 : Key), v1), ((Sum.inr a2 : Key), v2), ((Sum.inr a3 : Key), v3), ((Sum.inr a4 : Key), v4), ((Sum.inr a5 : Key), v5), ((Sum.inr a6 : Key), v6), ((Sum.inr a7 : Key), v7)]) : ∃ kvs : List (Key × V), [(V.str a0, v0), (V.str a1, v1), (V.str a2, v2), (V.str a3, v3), (V.str a4, v4), (V.str a5, v5), (V.str a6, v6), (V.str a7, v7)] = kvs.map (fun kv => (kV kv.1, kv.2)) ∧ kvs.length ≤ 15 ∧ R kvs := ⟨[((Sum.inr a0 : Key), v0), ((Sum.inr a1 : Key), v1), ((Sum.inr a2 : Key), v2), ((Sum.inr a3 : Key), v3), ((Sum.inr a4 : Key), v4), ((Sum.inr a5 : Key), v5), ((Sum.inr a6 : Key), v6), ((Sum.inr a7 : Key), v7)], rfl, Nat.le_of_ble_eq_true rfl, h⟩
theorem len_sl (h : SqL K H p xs) : LenV K (.ref p) H xs.length := .inl ⟨xs, h, rfl⟩
theorem len_st (h : SqT K H p xs) : LenV K (.ref p) H xs.length := .inr ⟨xs, h, rfl⟩
theorem sql_same {H' : Hp} (h : SqL K H p xs) (e : Same H H') : SqL K H' p xs := e.seq h
theorem sqt_same {H' : Hp} (h : SqT K H p xs) (e : Same H H') : SqT K H' p xs := e.seqT h
theorem ka1 {t c : Value} {b : Bool} (h : PySem.W.kitOne K t c = some b) : PySem.W.kitAny K t [c] = some (b || false) := kitAny_cons h (fun e => by rw [e]; rfl) (fun e => by rw [e]; rfl)
theorem kac {t c : Value} {cs : List Value} {b r : Bool} (h : PySem.W.kitOne K t c = some b) (h2 : PySem.W.kitAny K t cs = some r) : PySem.W.kitAny K t (c :: cs) = some (b || r) := kitAny_cons h (fun e => by rw [e]; exact h2) (fun e => by rw [e]; rfl)
theorem ka2 {t c1 c2 : Value} {b1 b2 : Bool} (h1 : PySem.W.kitOne K t c1 = some b1) (h2 : PySem.W.kitOne K t c2 = some b2) : PySem.W.kitAny K t [c1, c2] = some (b1 || (b2 || false)) := kac h1 (ka1 h2)
theorem ka3 {t c1 c2 c3 : Value} {b1 b2 b3 : Bool} (h1 : PySem.W.kitOne K t c1 = some b1) (h2 : PySem.W.kitOne K t c2 = some b2) (h3 : PySem.W.kitOne K t c3 = some b3) : PySem.W.kitAny K t [c1, c2, c3] = some (b1 || (b2 || (b3 || false))) := kac h1 (ka2 h2 h3)
theorem ka4 {t c1 c2 c3 c4 : Value} {b1 b2 b3 b4 : Bool} (h1 : PySem.W.kitOne K t c1 = some b1) (h2 : PySem.W.kitOne K t c2 = some b2) (h3 : PySem.W.kitOne K t c3 = some b3) (h4 : PySem.W.kitOne K t c4 = some b4) : PySem.W.kitAny K t [c1, c2, c3, c4] = some (b1 || (b2 || (b3 || (b4 || false)))) := kac h1 (ka3 h2 h3 h4)
theorem ka5 {t c1 c2 c3 c4 c5 : Value} {b1 b2 b3 b4 b5 : Bool} (h1 : PySem.W.kitOne K t c1 = some b1) (h2 : PySem.W.kitOne K t c2 = some b2) (h3 : PySem.W.kitOne K t c3 = some b3) (h4 : PySem.W.kitOne K t c4 = some b4) (h5 : PySem.W.kitOne K t c5 = some b5) : PySem.W.kitAny K t [c1, c2, c3, c4, c5] = some (b1 || (b2 || (b3 || (b4 || (b5 || false))))) := kac h1 (ka4 h2 h3 h4 h5)
theorem len_l (h : H p = some (.lst xs)) : LenV K (.ref p) H xs.length := .inl ⟨xs, SqL.of h, rfl⟩
theorem tyv_l (h : H p = some (.lst xs)) : tyV K "list" (.ref p) H := .inl ⟨rfl, _, SqL.of h⟩
theorem tyv_s (h : SqL K H p xs) : tyV K "list" (.ref p) H := .inl ⟨rfl, _, h⟩
theorem isd (h : H a = some (.dK kvs)) : IsD H a := .inl ⟨kvs, .inl h⟩
theorem cSsT (h : x = y) : decide (V.str x = V.str y) = true := decide_eq_true (congrArg V.str h)
theorem cSsF (h : x ≠ y) : decide (V.str x = V.str y) = false := decide_eq_false fun z => h (V.str.inj z)
theorem cNsT (h : x ≠ y) : (!decide (V.str x = V.str y)) = true := by rw [cSsF h]; rfl
theorem cNsF (h : x = y) : (!decide (V.str x = V.str y)) = false := by rw [cSsT h]; rfl
theorem cSiT (h : i = j) : decide (V.int i = V.int j) = true := decide_eq_true (congrArg V.int h)
theorem cSiF (h : i ≠ j) : decide (V.int i = V.int j) = false := decide_eq_false fun z => h (V.int.inj z)
theorem cNiT (h : i ≠ j) : (!decide (V.int i = V.int j)) = true := by rw [cSiF h]; rfl
theorem cNiF (h : i = j) : (!decide (V.int i = V.int j)) = false := by rw [cSiT h]; rfl
theorem someT (h : o = some v) : o.isSome = true := by rw [h]; rfl
theorem someF (h : o = none) : o.isSome = false := by rw [h]; rfl
theorem nsomeT (h : o = none) : (!o.isSome) = true := by rw [h]; rfl
theorem nsomeF (h : o = some v) : (!o.isSome) = false := by rw [h]; rfl
end
theorem k_int_int {K : PySem.W.Frag} : PySem.W.kitOne K (.type "int") (.type "int") = some true := kit_ty (by decide +kernel)
theorem k_int_bool {K : PySem.W.Frag} : PySem.W.kitOne K (.type "int") (.type "bool") = some false := kit_ty (by decide +kernel)
theorem k_int_str {K : PySem.W.Frag} : PySem.W.kitOne K (.type "int") (.type "str") = some false := kit_ty (by decide +kernel)
theorem k_int_list {K : PySem.W.Frag} : PySem.W.kitOne K (.type "int") (.type "list") = some false := kit_ty (by decide +kernel)
theorem k_int_tuple {K : PySem.W.Frag} : PySem.W.kitOne K (.type "int") (.type "tuple") = some false := kit_ty (by decide +kernel)
theorem k_int_dict {K : PySem.W.Frag} : PySem.W.kitOne K (.type "int") (.type "dict") = some false := kit_ty (by decide +kernel)
theorem k_bool_int {K : PySem.W.Frag} : PySem.W.kitOne K (.type "bool") (.type "int") = some true := kit_ty (by decide +kernel)
theorem k_bool_bool {K : PySem.W.Frag} : PySem.W.kitOne K (.type "bool") (.type "bool") = some true := kit_ty (by decide +kernel)
theorem k_bool_str {K : PySem.W.Frag} : PySem.W.kitOne K (.type "bool") (.type "str") = some false := kit_ty (by decide +kernel)
theorem k_bool_list {K : PySem.W.Frag} : PySem.W.kitOne K (.type "bool") (.type "list") = some false := kit_ty (by decide +kernel)
theorem k_bool_tuple {K : PySem.W.Frag} : PySem.W.kitOne K (.type "bool") (.type "tuple") = some false := kit_ty (by decide +kernel)
theorem k_bool_dict {K : PySem.W.Frag} : PySem.W.kitOne K (.type "bool") (.type "dict") = some false := kit_ty (by decide +kernel)
theorem k_str_int {K : PySem.W.Frag} : PySem.W.kitOne K (.type "str") (.type "int") = some false := kit_ty (by decide +kernel)
theorem k_str_bool {K : PySem.W.Frag} : PySem.W.kitOne K (.type "str") (.type "bool") = some false := kit_ty (by decide +kernel)
theorem k_str_str {K : PySem.W.Frag} : PySem.W.kitOne K (.type "str") (.type "str") = some true := kit_ty (by decide +kernel)
theorem k_str_list {K : PySem.W.Frag} : PySem.W.kitOne K (.type "str") (.type "list") = some false := kit_ty (by decide +kernel)
theorem k_str_tuple {K : PySem.W.Frag} : PySem.W.kitOne K (.type "str") (.type "tuple") = some false := kit_ty (by decide +kernel)
theorem k_str_dict {K : PySem.W.Frag} : PySem.W.kitOne K (.type "str") (.type "dict") = some false := kit_ty (by decide +kernel)
theorem k_NoneType_int {K : PySem.W.Frag} : PySem.W.kitOne K (.type "NoneType") (.type "int") = some false := kit_ty (by decide +kernel)
theorem k_NoneType_bool {K : PySem.W.Frag} : PySem.W.kitOne K (.type "NoneType") (.type "bool") = some false := kit_ty (by decide +kernel)
theorem k_NoneType_str {K : PySem.W.Frag} : PySem.W.kitOne K (.type "NoneType") (.type "str") = some false := kit_ty (by decide +kernel)
theorem k_NoneType_list {K : PySem.W.Frag} : PySem.W.kitOne K (.type "NoneType") (.type "list") = some false := kit_ty (by decide +kernel)
theorem k_NoneType_tuple {K : PySem.W.Frag} : PySem.W.kitOne K (.type "NoneType") (.type "tuple") = some false := kit_ty (by decide +kernel)
theorem k_NoneType_dict {K : PySem.W.Frag} : PySem.W.kitOne K (.type "NoneType") (.type "dict") = some false := kit_ty (by decide +kernel)
theorem k_list_int {K : PySem.W.Frag} : PySem.W.kitOne K (.type "list") (.type "int") = some false := kit_ty (by decide +kernel)
theorem k_list_bool {K : PySem.W.Frag} : PySem.W.kitOne K (.type "list") (.type "bool") = some false := kit_ty (by decide +kernel)
theorem k_list_str {K : PySem.W.Frag} : PySem.W.kitOne K (.type "list") (.type "str") = some false := kit_ty (by decide +kernel)
theorem k_list_list {K : PySem.W.Frag} : PySem.W.kitOne K (.type "list") (.type "list") = some true := kit_ty (by decide +kernel)
theorem k_list_tuple {K : PySem.W.Frag} : PySem.W.kitOne K (.type "list") (.type "tuple") = some false := kit_ty (by decide +kernel)
theorem k_list_dict {K : PySem.W.Frag} : PySem.W.kitOne K (.type "list") (.type "dict") = some false := kit_ty (by decide +kernel)
theorem k_tuple_int {K : PySem.W.Frag} : PySem.W.kitOne K (.type "tuple") (.type "int") = some false := kit_ty (by decide +kernel)
theorem k_tuple_bool {K : PySem.W.Frag} : PySem.W.kitOne K (.type "tuple") (.type "bool") = some false := kit_ty (by decide +kernel)
theorem k_tuple_str {K : PySem.W.Frag} : PySem.W.kitOne K (.type "tuple") (.type "str") = some false := kit_ty (by decide +kernel)
theorem k_tuple_list {K : PySem.W.Frag} : PySem.W.kitOne K (.type "tuple") (.type "list") = some false := kit_ty (by decide +kernel)
theorem k_tuple_tuple {K : PySem.W.Frag} : PySem.W.kitOne K (.type "tuple") (.type "tuple") = some true := kit_ty (by decide +kernel)
theorem k_tuple_dict {K : PySem.W.Frag} : PySem.W.kitOne K (.type "tuple") (.type "dict") = some false := kit_ty (by decide +kernel)
theorem k_dict_int {K : PySem.W.Frag} : PySem.W.kitOne K (.type "dict") (.type "int") = some false := kit_ty (by decide +kernel)
theorem k_dict_bool {K : PySem.W.Frag} : PySem.W.kitOne K (.type "dict") (.type "bool") = some false := kit_ty (by decide +kernel)
theorem k_dict_str {K : PySem.W.Frag} : PySem.W.kitOne K (.type "dict") (.type "str") = some false := kit_ty (by decide +kernel)
theorem k_dict_list {K : PySem.W.Frag} : PySem.W.kitOne K (.type "dict") (.type "list") = some false := kit_ty (by decide +kernel)
theorem k_dict_tuple {K : PySem.W.Frag} : PySem.W.kitOne K (.type "dict") (.type "tuple") = some false := kit_ty (by decide +kernel)
theorem k_dict_dict {K : PySem.W.Frag} : PySem.W.kitOne K (.type "dict") (.type "dict") = some true := kit_ty (by decide +kernel)
end RW

set_option Elab.async false
set_option linter.all false
set_option maxRecDepth 100000
set_option maxHeartbeats 0
namespace K17
open PySem PySem.Spec PyProof.Rows L2 RC
/-! ### the text -/
def top (i : Nat) : Stmt := PySem.Challenge.pw_recordyard_k22_whole_any_order_makes_one.main.body.getD i (.Pass ⟨0, 0, 0, 0⟩)
abbrev s_Filterer_init : Stmt := inClass (top 17) 0
abbrev nm_Filterer_init : List Str := ["self"]
theorem sc_Filterer_init : FnScope nm_Filterer_init ["self"] (defScope s_Filterer_init) := ⟨rfl, rfl, rfl, by decide +kernel, rfl, by decide +kernel, by decide +kernel⟩
def dd_Filterer_init : He.DefD := ⟨("Filterer", some "__init__"), "__init__", "Filterer.__init__", defArgs s_Filterer_init, defBody s_Filterer_init, defScope s_Filterer_init, [], []⟩
abbrev s_Filter_init : Stmt := inClass (top 16) 0
abbrev nm_Filter_init : List Str := ["self", "name"]
theorem sc_Filter_init : FnScope nm_Filter_init ["self", "name"] (defScope s_Filter_init) := ⟨rfl, rfl, rfl, by decide +kernel, rfl, by decide +kernel, by decide +kernel⟩
def dd_Filter_init : He.DefD := ⟨("Filter", some "__init__"), "__init__", "Filter.__init__", defArgs s_Filter_init, defBody s_Filter_init, defScope s_Filter_init, [.str ""], []⟩
abbrev s_Filter_passes : Stmt := inClass (top 16) 1
abbrev nm_Filter_passes : List Str := ["self", "record"]
theorem sc_Filter_passes : FnScope nm_Filter_passes ["self", "record"] (defScope s_Filter_passes) := ⟨rfl, rfl, rfl, by decide +kernel, rfl, by decide +kernel, by decide +kernel⟩
def dd_Filter_passes : He.DefD := ⟨("Filter", some "passes"), "passes", "Filter.passes", defArgs s_Filter_passes, defBody s_Filter_passes, defScope s_Filter_passes, [], []⟩
abbrev s_is_below : Stmt := top 14
abbrev nm_is_below : List Str := ["name", "above"]
theorem sc_is_below : FnScope nm_is_below ["name", "above"] (defScope s_is_below) := ⟨rfl, rfl, rfl, by decide +kernel, rfl, by decide +kernel, by decide +kernel⟩
def dd_is_below : He.DefD := ⟨("is_below", none), "is_below", "is_below", defArgs s_is_below, defBody s_is_below, defScope s_is_below, [], []⟩
abbrev s_let_by : Stmt := top 15
abbrev nm_let_by : List Str := ["one", "record", "told"]
theorem sc_let_by : FnScope nm_let_by ["one", "record"] (defScope s_let_by) := ⟨rfl, rfl, rfl, by decide +kernel, rfl, by decide +kernel, by decide +kernel⟩
def dd_let_by : He.DefD := ⟨("let_by", none), "let_by", "let_by", defArgs s_let_by, defBody s_let_by, defScope s_let_by, [], []⟩
abbrev s_copied_value : Stmt := top 10
abbrev nm_copied_value : List Str := ["thing", "part", "name"]
theorem sc_copied_value : FnScope nm_copied_value ["thing"] (defScope s_copied_value) := ⟨rfl, rfl, rfl, by decide +kernel, rfl, by decide +kernel, by decide +kernel⟩
def dd_copied_value : He.DefD := ⟨("copied_value", none), "copied_value", "copied_value", defArgs s_copied_value, defBody s_copied_value, defScope s_copied_value, [], []⟩
abbrev s_LogRecord_init : Stmt := inClass (top 12) 0
abbrev nm_LogRecord_init : List Str := ["self", "name", "levelno", "levelname", "msg", "args", "created", "extra"]
theorem sc_LogRecord_init : FnScope nm_LogRecord_init ["self", "name", "levelno", "levelname", "msg", "args", "created", "extra"] (defScope s_LogRecord_init) := ⟨rfl, rfl, rfl, by decide +kernel, rfl, by decide +kernel, by decide +kernel⟩
def dd_LogRecord_init : He.DefD := ⟨("LogRecord", some "__init__"), "__init__", "LogRecord.__init__", defArgs s_LogRecord_init, defBody s_LogRecord_init, defScope s_LogRecord_init, [], []⟩
abbrev s_LogRecord_message : Stmt := inClass (top 12) 1
abbrev nm_LogRecord_message : List Str := ["self"]
theorem sc_LogRecord_message : FnScope nm_LogRecord_message ["self"] (defScope s_LogRecord_message) := ⟨rfl, rfl, rfl, by decide +kernel, rfl, by decide +kernel, by decide +kernel⟩
def dd_LogRecord_message : He.DefD := ⟨("LogRecord", some "message"), "message", "LogRecord.message", defArgs s_LogRecord_message, defBody s_LogRecord_message, defScope s_LogRecord_message, [], []⟩
abbrev s_Handler_init : Stmt := inClass (top 19) 0
abbrev nm_Handler_init : List Str := ["self", "yard"]
theorem sc_Handler_init : FnScope nm_Handler_init ["self", "yard"] (defScope s_Handler_init) := ⟨rfl, rfl, rfl, by decide +kernel, rfl, by decide +kernel, by decide +kernel⟩
def dd_Handler_init : He.DefD := ⟨("Handler", some "__init__"), "__init__", "Handler.__init__", defArgs s_Handler_init, defBody s_Handler_init, defScope s_Handler_init, [], []⟩
abbrev s_StreamHandler_init : Stmt := inClass (top 20) 0
abbrev nm_StreamHandler_init : List Str := ["self", "yard", "stream"]
theorem sc_StreamHandler_init : FnScope nm_StreamHandler_init ["self", "yard", "stream"] (defScope s_StreamHandler_init) := ⟨rfl, rfl, rfl, by decide +kernel, rfl, by decide +kernel, by decide +kernel⟩
def dd_StreamHandler_init : He.DefD := ⟨("StreamHandler", some "__init__"), "__init__", "StreamHandler.__init__", defArgs s_StreamHandler_init, defBody s_StreamHandler_init, defScope s_StreamHandler_init, [.str "stderr"], []⟩
abbrev s_Filterer_filtered : Stmt := inClass (top 17) 3
abbrev nm_Filterer_filtered : List Str := ["self", "record", "found", "one"]
theorem sc_Filterer_filtered : FnScope nm_Filterer_filtered ["self", "record"] (defScope s_Filterer_filtered) := ⟨rfl, rfl, rfl, by decide +kernel, rfl, by decide +kernel, by decide +kernel⟩
def dd_StreamHandler_filtered : He.DefD := ⟨("StreamHandler", some "filtered"), "filtered", "Filterer.filtered", defArgs s_Filterer_filtered, defBody s_Filterer_filtered, defScope s_Filterer_filtered, [], []⟩
abbrev s_Handler_setLevel : Stmt := inClass (top 19) 1
abbrev nm_Handler_setLevel : List Str := ["self", "level"]
theorem sc_Handler_setLevel : FnScope nm_Handler_setLevel ["self", "level"] (defScope s_Handler_setLevel) := ⟨rfl, rfl, rfl, by decide +kernel, rfl, by decide +kernel, by decide +kernel⟩
def dd_StreamHandler_setLevel : He.DefD := ⟨("StreamHandler", some "setLevel"), "setLevel", "Handler.setLevel", defArgs s_Handler_setLevel, defBody s_Handler_setLevel, defScope s_Handler_setLevel, [], []⟩
abbrev s_Handler_setTerminator : Stmt := inClass (top 19) 3
abbrev nm_Handler_setTerminator : List Str := ["self", "text"]
theorem sc_Handler_setTerminator : FnScope nm_Handler_setTerminator ["self", "text"] (defScope s_Handler_setTerminator) := ⟨rfl, rfl, rfl, by decide +kernel, rfl, by decide +kernel, by decide +kernel⟩
def dd_StreamHandler_setTerminator : He.DefD := ⟨("StreamHandler", some "setTerminator"), "setTerminator", "Handler.setTerminator", defArgs s_Handler_setTerminator, defBody s_Handler_setTerminator, defScope s_Handler_setTerminator, [], []⟩
abbrev s_Handler_handle : Stmt := inClass (top 19) 5
abbrev nm_Handler_handle : List Str := ["self", "record", "found"]
theorem sc_Handler_handle : FnScope nm_Handler_handle ["self", "record"] (defScope s_Handler_handle) := ⟨rfl, rfl, rfl, by decide +kernel, rfl, by decide +kernel, by decide +kernel⟩
def dd_StreamHandler_handle : He.DefD := ⟨("StreamHandler", some "handle"), "handle", "Handler.handle", defArgs s_Handler_handle, defBody s_Handler_handle, defScope s_Handler_handle, [], []⟩
abbrev s_StreamHandler_emit : Stmt := inClass (top 20) 1
abbrev nm_StreamHandler_emit : List Str := ["self", "record", "text"]
theorem sc_StreamHandler_emit : FnScope nm_StreamHandler_emit ["self", "record"] (defScope s_StreamHandler_emit) := ⟨rfl, rfl, rfl, by decide +kernel, rfl, by decide +kernel, by decide +kernel⟩
def dd_StreamHandler_emit : He.DefD := ⟨("StreamHandler", some "emit"), "emit", "StreamHandler.emit", defArgs s_StreamHandler_emit, defBody s_StreamHandler_emit, defScope s_StreamHandler_emit, [], []⟩
abbrev s_Handler_formatted : Stmt := inClass (top 19) 7
abbrev nm_Handler_formatted : List Str := ["self", "record"]
theorem sc_Handler_formatted : FnScope nm_Handler_formatted ["self", "record"] (defScope s_Handler_formatted) := ⟨rfl, rfl, rfl, by decide +kernel, rfl, by decide +kernel, by decide +kernel⟩
def dd_StreamHandler_formatted : He.DefD := ⟨("StreamHandler", some "formatted"), "formatted", "Handler.formatted", defArgs s_Handler_formatted, defBody s_Handler_formatted, defScope s_Handler_formatted, [], []⟩
abbrev s_Handler_text_of : Stmt := inClass (top 19) 8
abbrev nm_Handler_text_of : List Str := ["self", "record", "found"]
theorem sc_Handler_text_of : FnScope nm_Handler_text_of ["self", "record"] (defScope s_Handler_text_of) := ⟨rfl, rfl, rfl, by decide +kernel, rfl, by decide +kernel, by decide +kernel⟩
def dd_StreamHandler_text_of : He.DefD := ⟨("StreamHandler", some "text_of"), "text_of", "Handler.text_of", defArgs s_Handler_text_of, defBody s_Handler_text_of, defScope s_Handler_text_of, [], []⟩
abbrev s_Filterer_addFilter : Stmt := inClass (top 17) 1
abbrev nm_Filterer_addFilter : List Str := ["self", "one"]
theorem sc_Filterer_addFilter : FnScope nm_Filterer_addFilter ["self", "one"] (defScope s_Filterer_addFilter) := ⟨rfl, rfl, rfl, by decide +kernel, rfl, by decide +kernel, by decide +kernel⟩
def dd_StreamHandler_addFilter : He.DefD := ⟨("StreamHandler", some "addFilter"), "addFilter", "Filterer.addFilter", defArgs s_Filterer_addFilter, defBody s_Filterer_addFilter, defScope s_Filterer_addFilter, [], []⟩
abbrev s_is_integer : Stmt := top 30
abbrev nm_is_integer : List Str := ["thing"]
theorem sc_is_integer : FnScope nm_is_integer ["thing"] (defScope s_is_integer) := ⟨rfl, rfl, rfl, by decide +kernel, rfl, by decide +kernel, by decide +kernel⟩
def dd_is_integer : He.DefD := ⟨("is_integer", none), "is_integer", "is_integer", defArgs s_is_integer, defBody s_is_integer, defScope s_is_integer, [], []⟩
abbrev s_is_part : Stmt := top 33
abbrev nm_is_part : List Str := ["text", "sign"]
theorem sc_is_part : FnScope nm_is_part ["text"] (defScope s_is_part) := ⟨rfl, rfl, rfl, by decide +kernel, rfl, by decide +kernel, by decide +kernel⟩
def dd_is_part : He.DefD := ⟨("is_part", none), "is_part", "is_part", defArgs s_is_part, defBody s_is_part, defScope s_is_part, [], []⟩
abbrev s_are_parts : Stmt := top 34
abbrev nm_are_parts : List Str := ["thing", "part"]
theorem sc_are_parts : FnScope nm_are_parts ["thing"] (defScope s_are_parts) := ⟨rfl, rfl, rfl, by decide +kernel, rfl, by decide +kernel, by decide +kernel⟩
def dd_are_parts : He.DefD := ⟨("are_parts", none), "are_parts", "are_parts", defArgs s_are_parts, defBody s_are_parts, defScope s_are_parts, [], []⟩
abbrev s_parent_of : Stmt := top 35
abbrev nm_parent_of : List Str := ["yard", "name", "parts", "many", "above"]
theorem sc_parent_of : FnScope nm_parent_of ["yard", "name"] (defScope s_parent_of) := ⟨rfl, rfl, rfl, by decide +kernel, rfl, by decide +kernel, by decide +kernel⟩
def dd_parent_of : He.DefD := ⟨("parent_of", none), "parent_of", "parent_of", defArgs s_parent_of, defBody s_parent_of, defScope s_parent_of, [], []⟩
abbrev s_place_loggers : Stmt := top 36
abbrev nm_place_loggers : List Str := ["yard", "name"]
theorem sc_place_loggers : FnScope nm_place_loggers ["yard"] (defScope s_place_loggers) := ⟨rfl, rfl, rfl, by decide +kernel, rfl, by decide +kernel, by decide +kernel⟩
def dd_place_loggers : He.DefD := ⟨("place_loggers", none), "place_loggers", "place_loggers", defArgs s_place_loggers, defBody s_place_loggers, defScope s_place_loggers, [], []⟩
abbrev s_Logger_init : Stmt := inClass (top 37) 0
abbrev nm_Logger_init : List Str := ["self", "yard", "name", "level"]
theorem sc_Logger_init : FnScope nm_Logger_init ["self", "yard", "name", "level"] (defScope s_Logger_init) := ⟨rfl, rfl, rfl, by decide +kernel, rfl, by decide +kernel, by decide +kernel⟩
def dd_Logger_init : He.DefD := ⟨("Logger", some "__init__"), "__init__", "Logger.__init__", defArgs s_Logger_init, defBody s_Logger_init, defScope s_Logger_init, [], []⟩
abbrev s_Logger_setLevel : Stmt := inClass (top 37) 1
abbrev nm_Logger_setLevel : List Str := ["self", "level"]
theorem sc_Logger_setLevel : FnScope nm_Logger_setLevel ["self", "level"] (defScope s_Logger_setLevel) := ⟨rfl, rfl, rfl, by decide +kernel, rfl, by decide +kernel, by decide +kernel⟩
def dd_Logger_setLevel : He.DefD := ⟨("Logger", some "setLevel"), "setLevel", "Logger.setLevel", defArgs s_Logger_setLevel, defBody s_Logger_setLevel, defScope s_Logger_setLevel, [], []⟩
abbrev s_Logger_setPropagate : Stmt := inClass (top 37) 2
abbrev nm_Logger_setPropagate : List Str := ["self", "flag"]
theorem sc_Logger_setPropagate : FnScope nm_Logger_setPropagate ["self", "flag"] (defScope s_Logger_setPropagate) := ⟨rfl, rfl, rfl, by decide +kernel, rfl, by decide +kernel, by decide +kernel⟩
def dd_Logger_setPropagate : He.DefD := ⟨("Logger", some "setPropagate"), "setPropagate", "Logger.setPropagate", defArgs s_Logger_setPropagate, defBody s_Logger_setPropagate, defScope s_Logger_setPropagate, [], []⟩
abbrev s_Logger_setDisabled : Stmt := inClass (top 37) 3
abbrev nm_Logger_setDisabled : List Str := ["self", "flag"]
theorem sc_Logger_setDisabled : FnScope nm_Logger_setDisabled ["self", "flag"] (defScope s_Logger_setDisabled) := ⟨rfl, rfl, rfl, by decide +kernel, rfl, by decide +kernel, by decide +kernel⟩
def dd_Logger_setDisabled : He.DefD := ⟨("Logger", some "setDisabled"), "setDisabled", "Logger.setDisabled", defArgs s_Logger_setDisabled, defBody s_Logger_setDisabled, defScope s_Logger_setDisabled, [], []⟩
abbrev s_Logger_getEffectiveLevel : Stmt := inClass (top 37) 7
abbrev nm_Logger_getEffectiveLevel : List Str := ["self", "here"]
theorem sc_Logger_getEffectiveLevel : FnScope nm_Logger_getEffectiveLevel ["self"] (defScope s_Logger_getEffectiveLevel) := ⟨rfl, rfl, rfl, by decide +kernel, rfl, by decide +kernel, by decide +kernel⟩
def dd_Logger_getEffectiveLevel : He.DefD := ⟨("Logger", some "getEffectiveLevel"), "getEffectiveLevel", "Logger.getEffectiveLevel", defArgs s_Logger_getEffectiveLevel, defBody s_Logger_getEffectiveLevel, defScope s_Logger_getEffectiveLevel, [], []⟩
abbrev s_Logger_isEnabledFor : Stmt := inClass (top 37) 8
abbrev nm_Logger_isEnabledFor : List Str := ["self", "level"]
theorem sc_Logger_isEnabledFor : FnScope nm_Logger_isEnabledFor ["self", "level"] (defScope s_Logger_isEnabledFor) := ⟨rfl, rfl, rfl, by decide +kernel, rfl, by decide +kernel, by decide +kernel⟩
def dd_Logger_isEnabledFor : He.DefD := ⟨("Logger", some "isEnabledFor"), "isEnabledFor", "Logger.isEnabledFor", defArgs s_Logger_isEnabledFor, defBody s_Logger_isEnabledFor, defScope s_Logger_isEnabledFor, [], []⟩
abbrev s_Logger_addHandler : Stmt := inClass (top 37) 9
abbrev nm_Logger_addHandler : List Str := ["self", "handler"]
theorem sc_Logger_addHandler : FnScope nm_Logger_addHandler ["self", "handler"] (defScope s_Logger_addHandler) := ⟨rfl, rfl, rfl, by decide +kernel, rfl, by decide +kernel, by decide +kernel⟩
def dd_Logger_addHandler : He.DefD := ⟨("Logger", some "addHandler"), "addHandler", "Logger.addHandler", defArgs s_Logger_addHandler, defBody s_Logger_addHandler, defScope s_Logger_addHandler, [], []⟩
abbrev s_Logger_reached : Stmt := inClass (top 37) 11
abbrev nm_Logger_reached : List Str := ["self", "found"]
theorem sc_Logger_reached : FnScope nm_Logger_reached ["self"] (defScope s_Logger_reached) := ⟨rfl, rfl, rfl, by decide +kernel, rfl, by decide +kernel, by decide +kernel⟩
def dd_Logger_reached : He.DefD := ⟨("Logger", some "reached"), "reached", "Logger.reached", defArgs s_Logger_reached, defBody s_Logger_reached, defScope s_Logger_reached, [], []⟩
abbrev s_Logger_is_parent_of : Stmt := inClass (top 37) 5
abbrev nm_Logger_is_parent_of : List Str := ["self", "other", "many"]
theorem sc_Logger_is_parent_of : FnScope nm_Logger_is_parent_of ["self", "other"] (defScope s_Logger_is_parent_of) := ⟨rfl, rfl, rfl, by decide +kernel, rfl, by decide +kernel, by decide +kernel⟩
def dd_Logger_is_parent_of : He.DefD := ⟨("Logger", some "is_parent_of"), "is_parent_of", "Logger.is_parent_of", defArgs s_Logger_is_parent_of, defBody s_Logger_is_parent_of, defScope s_Logger_is_parent_of, [], []⟩
abbrev s_Logger_getChildren : Stmt := inClass (top 37) 6
abbrev nm_Logger_getChildren : List Str := ["self", "found", "name", "logger"]
theorem sc_Logger_getChildren : FnScope nm_Logger_getChildren ["self"] (defScope s_Logger_getChildren) := ⟨rfl, rfl, rfl, by decide +kernel, rfl, by decide +kernel, by decide +kernel⟩
def dd_Logger_getChildren : He.DefD := ⟨("Logger", some "getChildren"), "getChildren", "Logger.getChildren", defArgs s_Logger_getChildren, defBody s_Logger_getChildren, defScope s_Logger_getChildren, [], []⟩
abbrev s_Logger_hasHandlers : Stmt := inClass (top 37) 12
abbrev nm_Logger_hasHandlers : List Str := ["self", "logger"]
theorem sc_Logger_hasHandlers : FnScope nm_Logger_hasHandlers ["self"] (defScope s_Logger_hasHandlers) := ⟨rfl, rfl, rfl, by decide +kernel, rfl, by decide +kernel, by decide +kernel⟩
def dd_Logger_hasHandlers : He.DefD := ⟨("Logger", some "hasHandlers"), "hasHandlers", "Logger.hasHandlers", defArgs s_Logger_hasHandlers, defBody s_Logger_hasHandlers, defScope s_Logger_hasHandlers, [], []⟩
def dd_Logger_filtered : He.DefD := ⟨("Logger", some "filtered"), "filtered", "Filterer.filtered", defArgs s_Filterer_filtered, defBody s_Filterer_filtered, defScope s_Filterer_filtered, [], []⟩
abbrev s_Logger_log : Stmt := inClass (top 37) 13
abbrev nm_Logger_log : List Str := ["self", "level", "msg", "args", "extra"]
theorem sc_Logger_log : FnScope nm_Logger_log ["self", "level", "msg", "args", "extra"] (defScope s_Logger_log) := ⟨rfl, rfl, rfl, by decide +kernel, rfl, by decide +kernel, by decide +kernel⟩
def dd_Logger_log : He.DefD := ⟨("Logger", some "log"), "log", "Logger.log", defArgs s_Logger_log, defBody s_Logger_log, defScope s_Logger_log, [.adr (He.dflAt ("Logger", some "log") 0), .non], []⟩
abbrev s_Logger_handle : Stmt := inClass (top 37) 19
abbrev nm_Logger_handle : List Str := ["self", "record", "found"]
theorem sc_Logger_handle : FnScope nm_Logger_handle ["self", "record"] (defScope s_Logger_handle) := ⟨rfl, rfl, rfl, by decide +kernel, rfl, by decide +kernel, by decide +kernel⟩
def dd_Logger_handle : He.DefD := ⟨("Logger", some "handle"), "handle", "Logger.handle", defArgs s_Logger_handle, defBody s_Logger_handle, defScope s_Logger_handle, [], []⟩
abbrev s_Logger_call_handlers : Stmt := inClass (top 37) 20
abbrev nm_Logger_call_handlers : List Str := ["self", "record", "handlers", "logger", "handler"]
theorem sc_Logger_call_handlers : FnScope nm_Logger_call_handlers ["self", "record"] (defScope s_Logger_call_handlers) := ⟨rfl, rfl, rfl, by decide +kernel, rfl, by decide +kernel, by decide +kernel⟩
def dd_Logger_call_handlers : He.DefD := ⟨("Logger", some "call_handlers"), "call_handlers", "Logger.call_handlers", defArgs s_Logger_call_handlers, defBody s_Logger_call_handlers, defScope s_Logger_call_handlers, [], []⟩
abbrev s_Yard_init : Stmt := inClass (top 39) 0
abbrev nm_Yard_init : List Str := ["self", "now"]
theorem sc_Yard_init : FnScope nm_Yard_init ["self", "now"] (defScope s_Yard_init) := ⟨rfl, rfl, rfl, by decide +kernel, rfl, by decide +kernel, by decide +kernel⟩
def dd_Yard_init : He.DefD := ⟨("Yard", some "__init__"), "__init__", "Yard.__init__", defArgs s_Yard_init, defBody s_Yard_init, defScope s_Yard_init, [.int 0], []⟩
abbrev s_Yard_text : Stmt := inClass (top 39) 3
abbrev nm_Yard_text : List Str := ["self", "stream"]
theorem sc_Yard_text : FnScope nm_Yard_text ["self", "stream"] (defScope s_Yard_text) := ⟨rfl, rfl, rfl, by decide +kernel, rfl, by decide +kernel, by decide +kernel⟩
def dd_Yard_text : He.DefD := ⟨("Yard", some "text"), "text", "Yard.text", defArgs s_Yard_text, defBody s_Yard_text, defScope s_Yard_text, [], []⟩
abbrev s_Yard_streams : Stmt := inClass (top 39) 4
abbrev nm_Yard_streams : List Str := ["self", "name"]
theorem sc_Yard_streams : FnScope nm_Yard_streams ["self"] (defScope s_Yard_streams) := ⟨rfl, rfl, rfl, by decide +kernel, rfl, by decide +kernel, by decide +kernel⟩
def dd_Yard_streams : He.DefD := ⟨("Yard", some "streams"), "streams", "Yard.streams", defArgs s_Yard_streams, defBody s_Yard_streams, defScope s_Yard_streams, [], []⟩
abbrev s_Yard_write_stream : Stmt := inClass (top 39) 5
abbrev nm_Yard_write_stream : List Str := ["self", "name", "text"]
theorem sc_Yard_write_stream : FnScope nm_Yard_write_stream ["self", "name", "text"] (defScope s_Yard_write_stream) := ⟨rfl, rfl, rfl, by decide +kernel, rfl, by decide +kernel, by decide +kernel⟩
def dd_Yard_write_stream : He.DefD := ⟨("Yard", some "write_stream"), "write_stream", "Yard.write_stream", defArgs s_Yard_write_stream, defBody s_Yard_write_stream, defScope s_Yard_write_stream, [], []⟩
abbrev s_Yard_level_name : Stmt := inClass (top 39) 16
abbrev nm_Yard_level_name : List Str := ["self", "level"]
theorem sc_Yard_level_name : FnScope nm_Yard_level_name ["self", "level"] (defScope s_Yard_level_name) := ⟨rfl, rfl, rfl, by decide +kernel, rfl, by decide +kernel, by decide +kernel⟩
def dd_Yard_level_name : He.DefD := ⟨("Yard", some "level_name"), "level_name", "Yard.level_name", defArgs s_Yard_level_name, defBody s_Yard_level_name, defScope s_Yard_level_name, [], []⟩
abbrev s_Yard_level_of : Stmt := inClass (top 39) 18
abbrev nm_Yard_level_of : List Str := ["self", "level"]
theorem sc_Yard_level_of : FnScope nm_Yard_level_of ["self", "level"] (defScope s_Yard_level_of) := ⟨rfl, rfl, rfl, by decide +kernel, rfl, by decide +kernel, by decide +kernel⟩
def dd_Yard_level_of : He.DefD := ⟨("Yard", some "level_of"), "level_of", "Yard.level_of", defArgs s_Yard_level_of, defBody s_Yard_level_of, defScope s_Yard_level_of, [], []⟩
abbrev s_Yard_make_record : Stmt := inClass (top 39) 19
abbrev nm_Yard_make_record : List Str := ["self", "name", "level", "msg", "args", "extra", "number", "more", "bad", "key"]
theorem sc_Yard_make_record : FnScope nm_Yard_make_record ["self", "name", "level", "msg", "args", "extra"] (defScope s_Yard_make_record) := ⟨rfl, rfl, rfl, by decide +kernel, rfl, by decide +kernel, by decide +kernel⟩
def dd_Yard_make_record : He.DefD := ⟨("Yard", some "make_record"), "make_record", "Yard.make_record", defArgs s_Yard_make_record, defBody s_Yard_make_record, defScope s_Yard_make_record, [.adr (He.dflAt ("Yard", some "make_record") 0), .non], []⟩
abbrev s_Yard_getLogger : Stmt := inClass (top 39) 20
abbrev nm_Yard_getLogger : List Str := ["self", "name"]
theorem sc_Yard_getLogger : FnScope nm_Yard_getLogger ["self", "name"] (defScope s_Yard_getLogger) := ⟨rfl, rfl, rfl, by decide +kernel, rfl, by decide +kernel, by decide +kernel⟩
def dd_Yard_getLogger : He.DefD := ⟨("Yard", some "getLogger"), "getLogger", "Yard.getLogger", defArgs s_Yard_getLogger, defBody s_Yard_getLogger, defScope s_Yard_getLogger, [.str ""], []⟩
abbrev s_Yard_enrol : Stmt := inClass (top 39) 24
abbrev nm_Yard_enrol : List Str := ["self", "handler"]
theorem sc_Yard_enrol : FnScope nm_Yard_enrol ["self", "handler"] (defScope s_Yard_enrol) := ⟨rfl, rfl, rfl, by decide +kernel, rfl, by decide +kernel, by decide +kernel⟩
def dd_Yard_enrol : He.DefD := ⟨("Yard", some "enrol"), "enrol", "Yard.enrol", defArgs s_Yard_enrol, defBody s_Yard_enrol, defScope s_Yard_enrol, [], []⟩
abbrev s_Yard_loggers : Stmt := inClass (top 39) 21
abbrev nm_Yard_loggers : List Str := ["self"]
theorem sc_Yard_loggers : FnScope nm_Yard_loggers ["self"] (defScope s_Yard_loggers) := ⟨rfl, rfl, rfl, by decide +kernel, rfl, by decide +kernel, by decide +kernel⟩
def dd_Yard_loggers : He.DefD := ⟨("Yard", some "loggers"), "loggers", "Yard.loggers", defArgs s_Yard_loggers, defBody s_Yard_loggers, defScope s_Yard_loggers, [], []⟩
abbrev s__law_draw : Stmt := top 41
abbrev nm__law_draw : List Str := ["_law_s", "_law_many", "_law_digit", "_law_mixed", "_law_last"]
theorem sc__law_draw : FnScope nm__law_draw ["_law_s", "_law_many"] (defScope s__law_draw) := ⟨rfl, rfl, rfl, by decide +kernel, rfl, by decide +kernel, by decide +kernel⟩
def dd__law_draw : He.DefD := ⟨("_law_draw", none), "_law_draw", "_law_draw", defArgs s__law_draw, defBody s__law_draw, defScope s__law_draw, [], []⟩
abbrev s__law_pick : Stmt := top 42
abbrev nm__law_pick : List Str := ["_law_s", "_law_some"]
theorem sc__law_pick : FnScope nm__law_pick ["_law_s", "_law_some"] (defScope s__law_pick) := ⟨rfl, rfl, rfl, by decide +kernel, rfl, by decide +kernel, by decide +kernel⟩
def dd__law_pick : He.DefD := ⟨("_law_pick", none), "_law_pick", "_law_pick", defArgs s__law_pick, defBody s__law_pick, defScope s__law_pick, [], []⟩
abbrev s__law_order : Stmt := top 43
abbrev nm__law_order : List Str := ["_law_s", "_law_some", "_law_left", "_law_found"]
theorem sc__law_order : FnScope nm__law_order ["_law_s", "_law_some"] (defScope s__law_order) := ⟨rfl, rfl, rfl, by decide +kernel, rfl, by decide +kernel, by decide +kernel⟩
def dd__law_order : He.DefD := ⟨("_law_order", none), "_law_order", "_law_order", defArgs s__law_order, defBody s__law_order, defScope s__law_order, [], []⟩
abbrev s__law_same : Stmt := top 44
abbrev nm__law_same : List Str := ["_law_found", "_law_due", "_law_one", "_law_two"]
theorem sc__law_same : FnScope nm__law_same ["_law_found", "_law_due"] (defScope s__law_same) := ⟨rfl, rfl, rfl, by decide +kernel, rfl, by decide +kernel, by decide +kernel⟩
def dd__law_same : He.DefD := ⟨("_law_same", none), "_law_same", "_law_same", defArgs s__law_same, defBody s__law_same, defScope s__law_same, [], []⟩
abbrev s__law_name : Stmt := top 45
abbrev nm__law_name : List Str := ["_law_s", "_law_most", "_law_k"]
theorem sc__law_name : FnScope nm__law_name ["_law_s", "_law_most"] (defScope s__law_name) := ⟨rfl, rfl, rfl, by decide +kernel, rfl, by decide +kernel, by decide +kernel⟩
def dd__law_name : He.DefD := ⟨("_law_name", none), "_law_name", "_law_name", defArgs s__law_name, defBody s__law_name, defScope s__law_name, [], []⟩
abbrev s__law_tree : Stmt := top 46
abbrev nm__law_tree : List Str := ["_law_m"]
theorem sc__law_tree : FnScope nm__law_tree [] (defScope s__law_tree) := ⟨rfl, rfl, rfl, by decide +kernel, rfl, by decide +kernel, by decide +kernel⟩
def dd__law_tree : He.DefD := ⟨("_law_tree", none), "_law_tree", "_law_tree", defArgs s__law_tree, defBody s__law_tree, defScope s__law_tree, [], []⟩
abbrev s__law_handlers : Stmt := top 47
abbrev nm__law_handlers : List Str := ["_law_s", "_law_yard", "_law_m", "_law_many", "_law_found", "_law_k", "_law_stream", "_law_least", "_law_sieves", "_law_handler", "_law_name_here"]
theorem sc__law_handlers : FnScope nm__law_handlers ["_law_s", "_law_yard", "_law_m", "_law_many"] (defScope s__law_handlers) := ⟨rfl, rfl, rfl, by decide +kernel, rfl, by decide +kernel, by decide +kernel⟩
def dd__law_handlers : He.DefD := ⟨("_law_handlers", none), "_law_handlers", "_law_handlers", defArgs s__law_handlers, defBody s__law_handlers, defScope s__law_handlers, [], []⟩
abbrev s__law_set : Stmt := top 48
abbrev nm__law_set : List Str := ["_law_yard", "_law_pool", "_law_row", "_law_name_here", "_law_level", "_law_on", "_law_off", "_law_numbers", "_law_logger", "_law_number"]
theorem sc__law_set : FnScope nm__law_set ["_law_yard", "_law_pool", "_law_row"] (defScope s__law_set) := ⟨rfl, rfl, rfl, by decide +kernel, rfl, by decide +kernel, by decide +kernel⟩
def dd__law_set : He.DefD := ⟨("_law_set", none), "_law_set", "_law_set", defArgs s__law_set, defBody s__law_set, defScope s__law_set, [], []⟩
abbrev s__law_all_told : Stmt := top 49
abbrev nm__law_all_told : List Str := ["_law_yard", "_law_found", "_law_name_here", "_law_logger", "_law_below", "_law_one"]
theorem sc__law_all_told : FnScope nm__law_all_told ["_law_yard"] (defScope s__law_all_told) := ⟨rfl, rfl, rfl, by decide +kernel, rfl, by decide +kernel, by decide +kernel⟩
def dd__law_all_told : He.DefD := ⟨("_law_all_told", none), "_law_all_told", "_law_all_told", defArgs s__law_all_told, defBody s__law_all_told, defScope s__law_all_told, [], []⟩
abbrev s_law : Stmt := top 50
abbrev nm_law : List Str := ["_law_script", "_law_s", "_law_rows", "_law_yards", "_law_m", "_law_start", "_law_pools", "_law_k", "_law_name_here", "_law_row", "_law_numbers", "_law_yard", "_law_pool", "_law_one", "_law_two", "_law_level", "_law_texts", "_law_stream"]
theorem sc_law : FnScope nm_law ["_law_script"] (defScope s_law) := ⟨rfl, rfl, rfl, by decide +kernel, rfl, by decide +kernel, by decide +kernel⟩
def dd_law : He.DefD := ⟨("law", none), "law", "law", defArgs s_law, defBody s_law, defScope s_law, [], []⟩
def kv_FIRST_NAMES : List (Key × He.Dv) := [(Sum.inl (50), .str "CRITICAL"), (Sum.inl (40), .str "ERROR"), (Sum.inl (30), .str "WARNING"), (Sum.inl (20), .str "INFO"), (Sum.inl (10), .str "DEBUG"), (Sum.inl (0), .str "NOTSET")]
def kv_FIRST_NUMBERS : List (Key × He.Dv) := [(Sum.inr "CRITICAL", .int (50)), (Sum.inr "FATAL", .int (50)), (Sum.inr "ERROR", .int (40)), (Sum.inr "WARNING", .int (30)), (Sum.inr "WARN", .int (30)), (Sum.inr "INFO", .int (20)), (Sum.inr "DEBUG", .int (10)), (Sum.inr "NOTSET", .int (0))]
def fa : List He.Fa := ([.glo "Filter", .glo "Filterer", .glo "LogRecord", .glo "Handler", .glo "StreamHandler", .glo "Logger", .glo "Yard", .glo "BadMessage", .glo "BadField", .glo "is_below", .glo "let_by", .glo "copied_value"] : List He.Fa) ++ ([.glo "is_integer", .glo "is_part", .glo "are_parts", .glo "parent_of", .glo "place_loggers", .glo "_law_draw", .glo "_law_pick", .glo "_law_order", .glo "_law_same", .glo "_law_name", .glo "_law_tree", .glo "_law_handlers"] : List He.Fa) ++ ([.glo "_law_set", .glo "_law_all_told", .glo "law", .int "WARNING" 30, .int "NOTSET" 0, .int "ERROR" 40, .int "DEBUG" 10, .int "INFO" 20, .int "CRITICAL" 50, .glo "OWN_FIELDS", .glo "FIRST_NAMES", .glo "FIRST_NUMBERS"] : List He.Fa) ++ ([.str "SIGNS" "abcdefghijklmnopqrstuvwxyzABCDEFGHIJKLMNOPQRSTUVWXYZ0123456789_", .free "zip", .free "len", .free "isinstance", .free "int", .free "str", .free "list", .free "tuple", .free "bool", .free "dict", .free "range", .free "sorted"] : List He.Fa) ++ ([.free "all", .free "any", .cls "Filter", .noat "Filter" "name", .cls "LogRecord", .noat "LogRecord" "name", .noat "LogRecord" "levelno", .noat "LogRecord" "levelname", .noat "LogRecord" "msg", .noat "LogRecord" "given", .noat "LogRecord" "created", .noat "LogRecord" "extra"] : List He.Fa) ++ ([.cls "StreamHandler", .noat "StreamHandler" "filters", .noat "StreamHandler" "yard", .noat "StreamHandler" "level", .noat "StreamHandler" "formatter", .noat "StreamHandler" "name", .noat "StreamHandler" "terminator", .noat "StreamHandler" "closed", .noat "StreamHandler" "stream", .cls "Logger", .noat "Logger" "filters", .noat "Logger" "yard"] : List He.Fa) ++ ([.noat "Logger" "name", .noat "Logger" "level", .noat "Logger" "propagate", .noat "Logger" "disabled", .noat "Logger" "handlers", .noat "Logger" "parent", .cls "Yard", .noat "Yard" "clock", .noat "Yard" "stream_texts", .noat "Yard" "file_rows", .noat "Yard" "names_of", .noat "Yard" "numbers_of"] : List He.Fa) ++ ([.noat "Yard" "bar_level", .noat "Yard" "logger_map", .noat "Yard" "made", .noat "Yard" "handler_names", .noat "Yard" "failure_rows", .noat "Yard" "root", .noat "Yard" "last_resort", .meth "Filter" "passes", .meth "LogRecord" "message", .meth "StreamHandler" "filtered", .meth "StreamHandler" "setLevel", .meth "StreamHandler" "setTerminator"] : List He.Fa) ++ ([.meth "StreamHandler" "handle", .meth "StreamHandler" "emit", .meth "StreamHandler" "formatted", .meth "StreamHandler" "text_of", .meth "StreamHandler" "addFilter", .meth "Logger" "setLevel", .meth "Logger" "setPropagate", .meth "Logger" "setDisabled", .meth "Logger" "getEffectiveLevel", .meth "Logger" "isEnabledFor", .meth "Logger" "addHandler", .meth "Logger" "reached"] : List He.Fa) ++ ([.meth "Logger" "is_parent_of", .meth "Logger" "getChildren", .meth "Logger" "hasHandlers", .meth "Logger" "filtered", .meth "Logger" "log", .meth "Logger" "handle", .meth "Logger" "call_handlers", .meth "Yard" "text", .meth "Yard" "streams", .meth "Yard" "write_stream", .meth "Yard" "level_name", .meth "Yard" "level_of"] : List He.Fa) ++ ([.meth "Yard" "make_record", .meth "Yard" "getLogger", .meth "Yard" "enrol", .meth "Yard" "loggers", .mkr "StreamHandler", .mkr "Logger", .mkr "Yard", .mkr "Filter", .mkr "LogRecord"] : List He.Fa)
def fx : List RB.Fx := ([.pl "Logger", .pl "StreamHandler", .pl "Filter", .sub "Filter" "Filter", .sub "Logger" "Logger", .sub "StreamHandler" "StreamHandler", .cf "Filterer" "__init__", .cf "Handler" "__init__", .ty "Filter", .kit "Filter" "Filter" true, .dtup ("Yard", some "make_record") 0, .dtup ("Logger", some "log") 0] : List RB.Fx)
def fn : List He.DefD := ([dd_Filterer_init, dd_Filter_init, dd_Filter_passes, dd_is_below, dd_let_by, dd_copied_value, dd_LogRecord_init, dd_LogRecord_message, dd_Handler_init, dd_StreamHandler_init, dd_StreamHandler_filtered, dd_StreamHandler_setLevel] : List He.DefD) ++ ([dd_StreamHandler_setTerminator, dd_StreamHandler_handle, dd_StreamHandler_emit, dd_StreamHandler_formatted, dd_StreamHandler_text_of, dd_StreamHandler_addFilter, dd_is_integer, dd_is_part, dd_are_parts, dd_parent_of, dd_place_loggers, dd_Logger_init] : List He.DefD) ++ ([dd_Logger_setLevel, dd_Logger_setPropagate, dd_Logger_setDisabled, dd_Logger_getEffectiveLevel, dd_Logger_isEnabledFor, dd_Logger_addHandler, dd_Logger_reached, dd_Logger_is_parent_of, dd_Logger_getChildren, dd_Logger_hasHandlers, dd_Logger_filtered, dd_Logger_log] : List He.DefD) ++ ([dd_Logger_handle, dd_Logger_call_handlers, dd_Yard_init, dd_Yard_text, dd_Yard_streams, dd_Yard_write_stream, dd_Yard_level_name, dd_Yard_level_of, dd_Yard_make_record, dd_Yard_getLogger, dd_Yard_enrol, dd_Yard_loggers] : List He.DefD) ++ ([dd__law_draw, dd__law_pick, dd__law_order, dd__law_same, dd__law_name, dd__law_tree, dd__law_handlers, dd__law_set, dd__law_all_told, dd_law] : List He.DefD)
def ts : List RB.Tb := ([("FIRST_NAMES", kv_FIRST_NAMES), ("FIRST_NUMBERS", kv_FIRST_NUMBERS)] : List RB.Tb)
def names : List PySem.Str := (["_wall", "YardError", "BadLevel", "BadName", "BadExtra", "BadMessage", "BadField", "OWN_FIELDS", "copied_value", "message_of", "LogRecord", "is_below"] : List PySem.Str) ++ (["let_by", "Filter", "Filterer", "Handler", "StreamHandler", "CRITICAL", "ERROR", "WARNING", "INFO", "DEBUG", "NOTSET", "FIRST_NAMES"] : List PySem.Str) ++ (["FIRST_NUMBERS", "is_integer", "SIGNS", "is_part", "are_parts", "parent_of", "place_loggers", "Logger", "Yard", "_law_draw", "_law_pick", "_law_order"] : List PySem.Str) ++ (["_law_same", "_law_name", "_law_tree", "_law_handlers", "_law_set", "_law_all_told"] : List PySem.Str)
/-- what the text is, behind the top -/
structure Txt (P : Program) (w : World) (K : PySem.W.Frag) (mg : Str → Option Value) : Prop where
  g_Filter : mg "Filter" = some (.ref (He.ga K "Filter"))
  g_Filterer : mg "Filterer" = some (.ref (He.ga K "Filterer"))
  g_LogRecord : mg "LogRecord" = some (.ref (He.ga K "LogRecord"))
  g_Handler : mg "Handler" = some (.ref (He.ga K "Handler"))
  g_StreamHandler : mg "StreamHandler" = some (.ref (He.ga K "StreamHandler"))
  g_Logger : mg "Logger" = some (.ref (He.ga K "Logger"))
  g_Yard : mg "Yard" = some (.ref (He.ga K "Yard"))
  g_BadMessage : mg "BadMessage" = some (.ref (He.ga K "BadMessage"))
  g_BadField : mg "BadField" = some (.ref (He.ga K "BadField"))
  g_is_below : mg "is_below" = some (.ref (He.ga K "is_below"))
  g_let_by : mg "let_by" = some (.ref (He.ga K "let_by"))
  g_copied_value : mg "copied_value" = some (.ref (He.ga K "copied_value"))
  g_is_integer : mg "is_integer" = some (.ref (He.ga K "is_integer"))
  g_is_part : mg "is_part" = some (.ref (He.ga K "is_part"))
  g_are_parts : mg "are_parts" = some (.ref (He.ga K "are_parts"))
  g_parent_of : mg "parent_of" = some (.ref (He.ga K "parent_of"))
  g_place_loggers : mg "place_loggers" = some (.ref (He.ga K "place_loggers"))
  g__law_draw : mg "_law_draw" = some (.ref (He.ga K "_law_draw"))
  g__law_pick : mg "_law_pick" = some (.ref (He.ga K "_law_pick"))
  g__law_order : mg "_law_order" = some (.ref (He.ga K "_law_order"))
  g__law_same : mg "_law_same" = some (.ref (He.ga K "_law_same"))
  g__law_name : mg "_law_name" = some (.ref (He.ga K "_law_name"))
  g__law_tree : mg "_law_tree" = some (.ref (He.ga K "_law_tree"))
  g__law_handlers : mg "_law_handlers" = some (.ref (He.ga K "_law_handlers"))
  g__law_set : mg "_law_set" = some (.ref (He.ga K "_law_set"))
  g__law_all_told : mg "_law_all_told" = some (.ref (He.ga K "_law_all_told"))
  g_law : mg "law" = some (.ref (He.ga K "law"))
  g_WARNING : ∃ t, mg "WARNING" = some (.int 30 t)
  g_NOTSET : ∃ t, mg "NOTSET" = some (.int 0 t)
  g_ERROR : ∃ t, mg "ERROR" = some (.int 40 t)
  g_DEBUG : ∃ t, mg "DEBUG" = some (.int 10 t)
  g_INFO : ∃ t, mg "INFO" = some (.int 20 t)
  g_CRITICAL : ∃ t, mg "CRITICAL" = some (.int 50 t)
  g_OWN_FIELDS : mg "OWN_FIELDS" = some (.ref (He.ga K "OWN_FIELDS"))
  g_FIRST_NAMES : mg "FIRST_NAMES" = some (.ref (He.ga K "FIRST_NAMES"))
  g_FIRST_NUMBERS : mg "FIRST_NUMBERS" = some (.ref (He.ga K "FIRST_NUMBERS"))
  g_SIGNS : ∃ t, mg "SIGNS" = some (.str "abcdefghijklmnopqrstuvwxyzABCDEFGHIJKLMNOPQRSTUVWXYZ0123456789_" t)
  b_zip : mg "zip" = none
  b_len : mg "len" = none
  b_isinstance : mg "isinstance" = none
  b_int : mg "int" = none
  b_str : mg "str" = none
  b_list : mg "list" = none
  b_tuple : mg "tuple" = none
  b_bool : mg "bool" = none
  b_dict : mg "dict" = none
  b_range : mg "range" = none
  b_sorted : mg "sorted" = none
  b_all : mg "all" = none
  b_any : mg "any" = none
  c_Filter : Cls K (He.ga K "Filter")
  n_Filter_name : NoAttr K (He.ga K "Filter") "name"
  c_LogRecord : Cls K (He.ga K "LogRecord")
  n_LogRecord_name : NoAttr K (He.ga K "LogRecord") "name"
  n_LogRecord_levelno : NoAttr K (He.ga K "LogRecord") "levelno"
  n_LogRecord_levelname : NoAttr K (He.ga K "LogRecord") "levelname"
  n_LogRecord_msg : NoAttr K (He.ga K "LogRecord") "msg"
  n_LogRecord_given : NoAttr K (He.ga K "LogRecord") "given"
  n_LogRecord_created : NoAttr K (He.ga K "LogRecord") "created"
  n_LogRecord_extra : NoAttr K (He.ga K "LogRecord") "extra"
  c_StreamHandler : Cls K (He.ga K "StreamHandler")
  n_StreamHandler_filters : NoAttr K (He.ga K "StreamHandler") "filters"
  n_StreamHandler_yard : NoAttr K (He.ga K "StreamHandler") "yard"
  n_StreamHandler_level : NoAttr K (He.ga K "StreamHandler") "level"
  n_StreamHandler_formatter : NoAttr K (He.ga K "StreamHandler") "formatter"
  n_StreamHandler_name : NoAttr K (He.ga K "StreamHandler") "name"
  n_StreamHandler_terminator : NoAttr K (He.ga K "StreamHandler") "terminator"
  n_StreamHandler_closed : NoAttr K (He.ga K "StreamHandler") "closed"
  n_StreamHandler_stream : NoAttr K (He.ga K "StreamHandler") "stream"
  c_Logger : Cls K (He.ga K "Logger")
  n_Logger_filters : NoAttr K (He.ga K "Logger") "filters"
  n_Logger_yard : NoAttr K (He.ga K "Logger") "yard"
  n_Logger_name : NoAttr K (He.ga K "Logger") "name"
  n_Logger_level : NoAttr K (He.ga K "Logger") "level"
  n_Logger_propagate : NoAttr K (He.ga K "Logger") "propagate"
  n_Logger_disabled : NoAttr K (He.ga K "Logger") "disabled"
  n_Logger_handlers : NoAttr K (He.ga K "Logger") "handlers"
  n_Logger_parent : NoAttr K (He.ga K "Logger") "parent"
  c_Yard : Cls K (He.ga K "Yard")
  n_Yard_clock : NoAttr K (He.ga K "Yard") "clock"
  n_Yard_stream_texts : NoAttr K (He.ga K "Yard") "stream_texts"
  n_Yard_file_rows : NoAttr K (He.ga K "Yard") "file_rows"
  n_Yard_names_of : NoAttr K (He.ga K "Yard") "names_of"
  n_Yard_numbers_of : NoAttr K (He.ga K "Yard") "numbers_of"
  n_Yard_bar_level : NoAttr K (He.ga K "Yard") "bar_level"
  n_Yard_logger_map : NoAttr K (He.ga K "Yard") "logger_map"
  n_Yard_made : NoAttr K (He.ga K "Yard") "made"
  n_Yard_handler_names : NoAttr K (He.ga K "Yard") "handler_names"
  n_Yard_failure_rows : NoAttr K (He.ga K "Yard") "failure_rows"
  n_Yard_root : NoAttr K (He.ga K "Yard") "root"
  n_Yard_last_resort : NoAttr K (He.ga K "Yard") "last_resort"
  m_Filter_passes : Meth K (He.ga K "Filter") "passes" (He.ma K (He.ga K "Filter") "passes")
  m_LogRecord_message : Meth K (He.ga K "LogRecord") "message" (He.ma K (He.ga K "LogRecord") "message")
  m_StreamHandler_filtered : Meth K (He.ga K "StreamHandler") "filtered" (He.ma K (He.ga K "StreamHandler") "filtered")
  m_StreamHandler_setLevel : Meth K (He.ga K "StreamHandler") "setLevel" (He.ma K (He.ga K "StreamHandler") "setLevel")
  m_StreamHandler_setTerminator : Meth K (He.ga K "StreamHandler") "setTerminator" (He.ma K (He.ga K "StreamHandler") "setTerminator")
  m_StreamHandler_handle : Meth K (He.ga K "StreamHandler") "handle" (He.ma K (He.ga K "StreamHandler") "handle")
  m_StreamHandler_emit : Meth K (He.ga K "StreamHandler") "emit" (He.ma K (He.ga K "StreamHandler") "emit")
  m_StreamHandler_formatted : Meth K (He.ga K "StreamHandler") "formatted" (He.ma K (He.ga K "StreamHandler") "formatted")
  m_StreamHandler_text_of : Meth K (He.ga K "StreamHandler") "text_of" (He.ma K (He.ga K "StreamHandler") "text_of")
  m_StreamHandler_addFilter : Meth K (He.ga K "StreamHandler") "addFilter" (He.ma K (He.ga K "StreamHandler") "addFilter")
  m_Logger_setLevel : Meth K (He.ga K "Logger") "setLevel" (He.ma K (He.ga K "Logger") "setLevel")
  m_Logger_setPropagate : Meth K (He.ga K "Logger") "setPropagate" (He.ma K (He.ga K "Logger") "setPropagate")
  m_Logger_setDisabled : Meth K (He.ga K "Logger") "setDisabled" (He.ma K (He.ga K "Logger") "setDisabled")
  m_Logger_getEffectiveLevel : Meth K (He.ga K "Logger") "getEffectiveLevel" (He.ma K (He.ga K "Logger") "getEffectiveLevel")
  m_Logger_isEnabledFor : Meth K (He.ga K "Logger") "isEnabledFor" (He.ma K (He.ga K "Logger") "isEnabledFor")
  m_Logger_addHandler : Meth K (He.ga K "Logger") "addHandler" (He.ma K (He.ga K "Logger") "addHandler")
  m_Logger_reached : Meth K (He.ga K "Logger") "reached" (He.ma K (He.ga K "Logger") "reached")
  m_Logger_is_parent_of : Meth K (He.ga K "Logger") "is_parent_of" (He.ma K (He.ga K "Logger") "is_parent_of")
  m_Logger_getChildren : Meth K (He.ga K "Logger") "getChildren" (He.ma K (He.ga K "Logger") "getChildren")
  m_Logger_hasHandlers : Meth K (He.ga K "Logger") "hasHandlers" (He.ma K (He.ga K "Logger") "hasHandlers")
  m_Logger_filtered : Meth K (He.ga K "Logger") "filtered" (He.ma K (He.ga K "Logger") "filtered")
  m_Logger_log : Meth K (He.ga K "Logger") "log" (He.ma K (He.ga K "Logger") "log")
  m_Logger_handle : Meth K (He.ga K "Logger") "handle" (He.ma K (He.ga K "Logger") "handle")
  m_Logger_call_handlers : Meth K (He.ga K "Logger") "call_handlers" (He.ma K (He.ga K "Logger") "call_handlers")
  m_Yard_text : Meth K (He.ga K "Yard") "text" (He.ma K (He.ga K "Yard") "text")
  m_Yard_streams : Meth K (He.ga K "Yard") "streams" (He.ma K (He.ga K "Yard") "streams")
  m_Yard_write_stream : Meth K (He.ga K "Yard") "write_stream" (He.ma K (He.ga K "Yard") "write_stream")
  m_Yard_level_name : Meth K (He.ga K "Yard") "level_name" (He.ma K (He.ga K "Yard") "level_name")
  m_Yard_level_of : Meth K (He.ga K "Yard") "level_of" (He.ma K (He.ga K "Yard") "level_of")
  m_Yard_make_record : Meth K (He.ga K "Yard") "make_record" (He.ma K (He.ga K "Yard") "make_record")
  m_Yard_getLogger : Meth K (He.ga K "Yard") "getLogger" (He.ma K (He.ga K "Yard") "getLogger")
  m_Yard_enrol : Meth K (He.ga K "Yard") "enrol" (He.ma K (He.ga K "Yard") "enrol")
  m_Yard_loggers : Meth K (He.ga K "Yard") "loggers" (He.ma K (He.ga K "Yard") "loggers")
  k_StreamHandler : Mk K (He.ga K "StreamHandler") (He.ma K (He.ga K "StreamHandler") "__init__")
  k_Logger : Mk K (He.ga K "Logger") (He.ma K (He.ga K "Logger") "__init__")
  k_Yard : Mk K (He.ga K "Yard") (He.ma K (He.ga K "Yard") "__init__")
  k_Filter : Mk K (He.ga K "Filter") (He.ma K (He.ga K "Filter") "__init__")
  k_LogRecord : Mk K (He.ga K "LogRecord") (He.ma K (He.ga K "LogRecord") "__init__")
  p_Logger : RA.PlainC K (He.ga K "Logger")
  p_StreamHandler : RA.PlainC K (He.ga K "StreamHandler")
  p_Filter : RA.PlainC K (He.ga K "Filter")
  sub_Filter_Filter : RA.PairC K (He.ga K "Filter") (He.ga K "Filter")
  sub_Logger_Logger : RA.PairC K (He.ga K "Logger") (He.ga K "Logger")
  sub_StreamHandler_StreamHandler : RA.PairC K (He.ga K "StreamHandler") (He.ga K "StreamHandler")
  cf_Filterer_init : RA.CFun K (He.ga K "Filterer") "__init__" (He.ma K (He.ga K "Filterer") "__init__")
  cf_Handler_init : RA.CFun K (He.ga K "Handler") "__init__" (He.ma K (He.ga K "Handler") "__init__")
  ty_Filter : RB.TyC K (He.ga K "Filter")
  kit_Filter_Filter : PySem.W.kitOne K (.ref (He.ga K "Filter")) (.ref (He.ga K "Filter")) = some true
  dt_Yard_make_record_0 : ∀ H : Hp, SqT K H (He.dflAt ("Yard", some "make_record") 0 K) []
  dt_Logger_log_0 : ∀ H : Hp, SqT K H (He.dflAt ("Logger", some "log") 0 K) []
  d_Filterer_init : Stands K "__init__" "Filterer.__init__" s_Filterer_init [] (He.fAd K ("Filterer", some "__init__"))
  d_Filter_init : Stands K "__init__" "Filter.__init__" s_Filter_init [(He.Dv.str "" : He.Dv).v K] (He.fAd K ("Filter", some "__init__"))
  d_Filter_passes : Stands K "passes" "Filter.passes" s_Filter_passes [] (He.fAd K ("Filter", some "passes"))
  d_is_below : Stands K "is_below" "is_below" s_is_below [] (He.fAd K ("is_below", none))
  d_let_by : Stands K "let_by" "let_by" s_let_by [] (He.fAd K ("let_by", none))
  d_copied_value : Stands K "copied_value" "copied_value" s_copied_value [] (He.fAd K ("copied_value", none))
  d_LogRecord_init : Stands K "__init__" "LogRecord.__init__" s_LogRecord_init [] (He.fAd K ("LogRecord", some "__init__"))
  d_LogRecord_message : Stands K "message" "LogRecord.message" s_LogRecord_message [] (He.fAd K ("LogRecord", some "message"))
  d_Handler_init : Stands K "__init__" "Handler.__init__" s_Handler_init [] (He.fAd K ("Handler", some "__init__"))
  d_StreamHandler_init : Stands K "__init__" "StreamHandler.__init__" s_StreamHandler_init [(He.Dv.str "stderr" : He.Dv).v K] (He.fAd K ("StreamHandler", some "__init__"))
  d_StreamHandler_filtered : Stands K "filtered" "Filterer.filtered" s_Filterer_filtered [] (He.fAd K ("StreamHandler", some "filtered"))
  d_StreamHandler_setLevel : Stands K "setLevel" "Handler.setLevel" s_Handler_setLevel [] (He.fAd K ("StreamHandler", some "setLevel"))
  d_StreamHandler_setTerminator : Stands K "setTerminator" "Handler.setTerminator" s_Handler_setTerminator [] (He.fAd K ("StreamHandler", some "setTerminator"))
  d_StreamHandler_handle : Stands K "handle" "Handler.handle" s_Handler_handle [] (He.fAd K ("StreamHandler", some "handle"))
  d_StreamHandler_emit : Stands K "emit" "StreamHandler.emit" s_StreamHandler_emit [] (He.fAd K ("StreamHandler", some "emit"))
  d_StreamHandler_formatted : Stands K "formatted" "Handler.formatted" s_Handler_formatted [] (He.fAd K ("StreamHandler", some "formatted"))
  d_StreamHandler_text_of : Stands K "text_of" "Handler.text_of" s_Handler_text_of [] (He.fAd K ("StreamHandler", some "text_of"))
  d_StreamHandler_addFilter : Stands K "addFilter" "Filterer.addFilter" s_Filterer_addFilter [] (He.fAd K ("StreamHandler", some "addFilter"))
  d_is_integer : Stands K "is_integer" "is_integer" s_is_integer [] (He.fAd K ("is_integer", none))
  d_is_part : Stands K "is_part" "is_part" s_is_part [] (He.fAd K ("is_part", none))
  d_are_parts : Stands K "are_parts" "are_parts" s_are_parts [] (He.fAd K ("are_parts", none))
  d_parent_of : Stands K "parent_of" "parent_of" s_parent_of [] (He.fAd K ("parent_of", none))
  d_place_loggers : Stands K "place_loggers" "place_loggers" s_place_loggers [] (He.fAd K ("place_loggers", none))
  d_Logger_init : Stands K "__init__" "Logger.__init__" s_Logger_init [] (He.fAd K ("Logger", some "__init__"))
  d_Logger_setLevel : Stands K "setLevel" "Logger.setLevel" s_Logger_setLevel [] (He.fAd K ("Logger", some "setLevel"))
  d_Logger_setPropagate : Stands K "setPropagate" "Logger.setPropagate" s_Logger_setPropagate [] (He.fAd K ("Logger", some "setPropagate"))
  d_Logger_setDisabled : Stands K "setDisabled" "Logger.setDisabled" s_Logger_setDisabled [] (He.fAd K ("Logger", some "setDisabled"))
  d_Logger_getEffectiveLevel : Stands K "getEffectiveLevel" "Logger.getEffectiveLevel" s_Logger_getEffectiveLevel [] (He.fAd K ("Logger", some "getEffectiveLevel"))
  d_Logger_isEnabledFor : Stands K "isEnabledFor" "Logger.isEnabledFor" s_Logger_isEnabledFor [] (He.fAd K ("Logger", some "isEnabledFor"))
  d_Logger_addHandler : Stands K "addHandler" "Logger.addHandler" s_Logger_addHandler [] (He.fAd K ("Logger", some "addHandler"))
  d_Logger_reached : Stands K "reached" "Logger.reached" s_Logger_reached [] (He.fAd K ("Logger", some "reached"))
  d_Logger_is_parent_of : Stands K "is_parent_of" "Logger.is_parent_of" s_Logger_is_parent_of [] (He.fAd K ("Logger", some "is_parent_of"))
  d_Logger_getChildren : Stands K "getChildren" "Logger.getChildren" s_Logger_getChildren [] (He.fAd K ("Logger", some "getChildren"))
  d_Logger_hasHandlers : Stands K "hasHandlers" "Logger.hasHandlers" s_Logger_hasHandlers [] (He.fAd K ("Logger", some "hasHandlers"))
  d_Logger_filtered : Stands K "filtered" "Filterer.filtered" s_Filterer_filtered [] (He.fAd K ("Logger", some "filtered"))
  d_Logger_log : Stands K "log" "Logger.log" s_Logger_log [(He.Dv.adr (He.dflAt ("Logger", some "log") 0) : He.Dv).v K, (He.Dv.non : He.Dv).v K] (He.fAd K ("Logger", some "log"))
  d_Logger_handle : Stands K "handle" "Logger.handle" s_Logger_handle [] (He.fAd K ("Logger", some "handle"))
  d_Logger_call_handlers : Stands K "call_handlers" "Logger.call_handlers" s_Logger_call_handlers [] (He.fAd K ("Logger", some "call_handlers"))
  d_Yard_init : Stands K "__init__" "Yard.__init__" s_Yard_init [(He.Dv.int 0 : He.Dv).v K] (He.fAd K ("Yard", some "__init__"))
  d_Yard_text : Stands K "text" "Yard.text" s_Yard_text [] (He.fAd K ("Yard", some "text"))
  d_Yard_streams : Stands K "streams" "Yard.streams" s_Yard_streams [] (He.fAd K ("Yard", some "streams"))
  d_Yard_write_stream : Stands K "write_stream" "Yard.write_stream" s_Yard_write_stream [] (He.fAd K ("Yard", some "write_stream"))
  d_Yard_level_name : Stands K "level_name" "Yard.level_name" s_Yard_level_name [] (He.fAd K ("Yard", some "level_name"))
  d_Yard_level_of : Stands K "level_of" "Yard.level_of" s_Yard_level_of [] (He.fAd K ("Yard", some "level_of"))
  d_Yard_make_record : Stands K "make_record" "Yard.make_record" s_Yard_make_record [(He.Dv.adr (He.dflAt ("Yard", some "make_record") 0) : He.Dv).v K, (He.Dv.non : He.Dv).v K] (He.fAd K ("Yard", some "make_record"))
  d_Yard_getLogger : Stands K "getLogger" "Yard.getLogger" s_Yard_getLogger [(He.Dv.str "" : He.Dv).v K] (He.fAd K ("Yard", some "getLogger"))
  d_Yard_enrol : Stands K "enrol" "Yard.enrol" s_Yard_enrol [] (He.fAd K ("Yard", some "enrol"))
  d_Yard_loggers : Stands K "loggers" "Yard.loggers" s_Yard_loggers [] (He.fAd K ("Yard", some "loggers"))
  d__law_draw : Stands K "_law_draw" "_law_draw" s__law_draw [] (He.fAd K ("_law_draw", none))
  d__law_pick : Stands K "_law_pick" "_law_pick" s__law_pick [] (He.fAd K ("_law_pick", none))
  d__law_order : Stands K "_law_order" "_law_order" s__law_order [] (He.fAd K ("_law_order", none))
  d__law_same : Stands K "_law_same" "_law_same" s__law_same [] (He.fAd K ("_law_same", none))
  d__law_name : Stands K "_law_name" "_law_name" s__law_name [] (He.fAd K ("_law_name", none))
  d__law_tree : Stands K "_law_tree" "_law_tree" s__law_tree [] (He.fAd K ("_law_tree", none))
  d__law_handlers : Stands K "_law_handlers" "_law_handlers" s__law_handlers [] (He.fAd K ("_law_handlers", none))
  d__law_set : Stands K "_law_set" "_law_set" s__law_set [] (He.fAd K ("_law_set", none))
  d__law_all_told : Stands K "_law_all_told" "_law_all_told" s__law_all_told [] (He.fAd K ("_law_all_told", none))
  d_law : Stands K "law" "law" s_law [] (He.fAd K ("law", none))
  t_FIRST_NAMES : RB.KD P w K (He.ga K "FIRST_NAMES") (kv_FIRST_NAMES.map fun q => (q.1, q.2.v K))
  t_FIRST_NUMBERS : RB.KD P w K (He.ga K "FIRST_NUMBERS") (kv_FIRST_NUMBERS.map fun q => (q.1, q.2.v K))
theorem Txt.of {P : Program} {w : World} {K : PySem.W.Frag} {h : Heap} {mg : Str → Option Value} (X : K.In h) (G : h.Ns mainGlobals mg) (c : RB.SaysB fa fx fn ts w K) : Txt P w K mg where
    g_Filter := He.glo_ok X G (c.fact 0 (f := .glo "Filter") (by rfl))
    g_Filterer := He.glo_ok X G (c.fact 1 (f := .glo "Filterer") (by rfl))
    g_LogRecord := He.glo_ok X G (c.fact 2 (f := .glo "LogRecord") (by rfl))
    g_Handler := He.glo_ok X G (c.fact 3 (f := .glo "Handler") (by rfl))
    g_StreamHandler := He.glo_ok X G (c.fact 4 (f := .glo "StreamHandler") (by rfl))
    g_Logger := He.glo_ok X G (c.fact 5 (f := .glo "Logger") (by rfl))
    g_Yard := He.glo_ok X G (c.fact 6 (f := .glo "Yard") (by rfl))
    g_BadMessage := He.glo_ok X G (c.fact 7 (f := .glo "BadMessage") (by rfl))
    g_BadField := He.glo_ok X G (c.fact 8 (f := .glo "BadField") (by rfl))
    g_is_below := He.glo_ok X G (c.fact 9 (f := .glo "is_below") (by rfl))
    g_let_by := He.glo_ok X G (c.fact 10 (f := .glo "let_by") (by rfl))
    g_copied_value := He.glo_ok X G (c.fact 11 (f := .glo "copied_value") (by rfl))
    g_is_integer := He.glo_ok X G (c.fact 12 (f := .glo "is_integer") (by rfl))
    g_is_part := He.glo_ok X G (c.fact 13 (f := .glo "is_part") (by rfl))
    g_are_parts := He.glo_ok X G (c.fact 14 (f := .glo "are_parts") (by rfl))
    g_parent_of := He.glo_ok X G (c.fact 15 (f := .glo "parent_of") (by rfl))
    g_place_loggers := He.glo_ok X G (c.fact 16 (f := .glo "place_loggers") (by rfl))
    g__law_draw := He.glo_ok X G (c.fact 17 (f := .glo "_law_draw") (by rfl))
    g__law_pick := He.glo_ok X G (c.fact 18 (f := .glo "_law_pick") (by rfl))
    g__law_order := He.glo_ok X G (c.fact 19 (f := .glo "_law_order") (by rfl))
    g__law_same := He.glo_ok X G (c.fact 20 (f := .glo "_law_same") (by rfl))
    g__law_name := He.glo_ok X G (c.fact 21 (f := .glo "_law_name") (by rfl))
    g__law_tree := He.glo_ok X G (c.fact 22 (f := .glo "_law_tree") (by rfl))
    g__law_handlers := He.glo_ok X G (c.fact 23 (f := .glo "_law_handlers") (by rfl))
    g__law_set := He.glo_ok X G (c.fact 24 (f := .glo "_law_set") (by rfl))
    g__law_all_told := He.glo_ok X G (c.fact 25 (f := .glo "_law_all_told") (by rfl))
    g_law := He.glo_ok X G (c.fact 26 (f := .glo "law") (by rfl))
    g_WARNING := He.int_ok X G (c.fact 27 (f := .int "WARNING" 30) (by rfl))
    g_NOTSET := He.int_ok X G (c.fact 28 (f := .int "NOTSET" 0) (by rfl))
    g_ERROR := He.int_ok X G (c.fact 29 (f := .int "ERROR" 40) (by rfl))
    g_DEBUG := He.int_ok X G (c.fact 30 (f := .int "DEBUG" 10) (by rfl))
    g_INFO := He.int_ok X G (c.fact 31 (f := .int "INFO" 20) (by rfl))
    g_CRITICAL := He.int_ok X G (c.fact 32 (f := .int "CRITICAL" 50) (by rfl))
    g_OWN_FIELDS := He.glo_ok X G (c.fact 33 (f := .glo "OWN_FIELDS") (by rfl))
    g_FIRST_NAMES := He.glo_ok X G (c.fact 34 (f := .glo "FIRST_NAMES") (by rfl))
    g_FIRST_NUMBERS := He.glo_ok X G (c.fact 35 (f := .glo "FIRST_NUMBERS") (by rfl))
    g_SIGNS := He.str_ok X G (c.fact 36 (f := .str "SIGNS" "abcdefghijklmnopqrstuvwxyzABCDEFGHIJKLMNOPQRSTUVWXYZ0123456789_") (by rfl))
    b_zip := He.free_ok X G (c.fact 37 (f := .free "zip") (by rfl))
    b_len := He.free_ok X G (c.fact 38 (f := .free "len") (by rfl))
    b_isinstance := He.free_ok X G (c.fact 39 (f := .free "isinstance") (by rfl))
    b_int := He.free_ok X G (c.fact 40 (f := .free "int") (by rfl))
    b_str := He.free_ok X G (c.fact 41 (f := .free "str") (by rfl))
    b_list := He.free_ok X G (c.fact 42 (f := .free "list") (by rfl))
    b_tuple := He.free_ok X G (c.fact 43 (f := .free "tuple") (by rfl))
    b_bool := He.free_ok X G (c.fact 44 (f := .free "bool") (by rfl))
    b_dict := He.free_ok X G (c.fact 45 (f := .free "dict") (by rfl))
    b_range := He.free_ok X G (c.fact 46 (f := .free "range") (by rfl))
    b_sorted := He.free_ok X G (c.fact 47 (f := .free "sorted") (by rfl))
    b_all := He.free_ok X G (c.fact 48 (f := .free "all") (by rfl))
    b_any := He.free_ok X G (c.fact 49 (f := .free "any") (by rfl))
    c_Filter := He.cls_ok (c.fact 50 (f := .cls "Filter") (by rfl))
    n_Filter_name := He.noat_ok (c.fact 51 (f := .noat "Filter" "name") (by rfl))
    c_LogRecord := He.cls_ok (c.fact 52 (f := .cls "LogRecord") (by rfl))
    n_LogRecord_name := He.noat_ok (c.fact 53 (f := .noat "LogRecord" "name") (by rfl))
    n_LogRecord_levelno := He.noat_ok (c.fact 54 (f := .noat "LogRecord" "levelno") (by rfl))
    n_LogRecord_levelname := He.noat_ok (c.fact 55 (f := .noat "LogRecord" "levelname") (by rfl))
    n_LogRecord_msg := He.noat_ok (c.fact 56 (f := .noat "LogRecord" "msg") (by rfl))
    n_LogRecord_given := He.noat_ok (c.fact 57 (f := .noat "LogRecord" "given") (by rfl))
    n_LogRecord_created := He.noat_ok (c.fact 58 (f := .noat "LogRecord" "created") (by rfl))
    n_LogRecord_extra := He.noat_ok (c.fact 59 (f := .noat "LogRecord" "extra") (by rfl))
    c_StreamHandler := He.cls_ok (c.fact 60 (f := .cls "StreamHandler") (by rfl))
    n_StreamHandler_filters := He.noat_ok (c.fact 61 (f := .noat "StreamHandler" "filters") (by rfl))
    n_StreamHandler_yard := He.noat_ok (c.fact 62 (f := .noat "StreamHandler" "yard") (by rfl))
    n_StreamHandler_level := He.noat_ok (c.fact 63 (f := .noat "StreamHandler" "level") (by rfl))
    n_StreamHandler_formatter := He.noat_ok (c.fact 64 (f := .noat "StreamHandler" "formatter") (by rfl))
    n_StreamHandler_name := He.noat_ok (c.fact 65 (f := .noat "StreamHandler" "name") (by rfl))
    n_StreamHandler_terminator := He.noat_ok (c.fact 66 (f := .noat "StreamHandler" "terminator") (by rfl))
    n_StreamHandler_closed := He.noat_ok (c.fact 67 (f := .noat "StreamHandler" "closed") (by rfl))
    n_StreamHandler_stream := He.noat_ok (c.fact 68 (f := .noat "StreamHandler" "stream") (by rfl))
    c_Logger := He.cls_ok (c.fact 69 (f := .cls "Logger") (by rfl))
    n_Logger_filters := He.noat_ok (c.fact 70 (f := .noat "Logger" "filters") (by rfl))
    n_Logger_yard := He.noat_ok (c.fact 71 (f := .noat "Logger" "yard") (by rfl))
    n_Logger_name := He.noat_ok (c.fact 72 (f := .noat "Logger" "name") (by rfl))
    n_Logger_level := He.noat_ok (c.fact 73 (f := .noat "Logger" "level") (by rfl))
    n_Logger_propagate := He.noat_ok (c.fact 74 (f := .noat "Logger" "propagate") (by rfl))
    n_Logger_disabled := He.noat_ok (c.fact 75 (f := .noat "Logger" "disabled") (by rfl))
    n_Logger_handlers := He.noat_ok (c.fact 76 (f := .noat "Logger" "handlers") (by rfl))
    n_Logger_parent := He.noat_ok (c.fact 77 (f := .noat "Logger" "parent") (by rfl))
    c_Yard := He.cls_ok (c.fact 78 (f := .cls "Yard") (by rfl))
    n_Yard_clock := He.noat_ok (c.fact 79 (f := .noat "Yard" "clock") (by rfl))
    n_Yard_stream_texts := He.noat_ok (c.fact 80 (f := .noat "Yard" "stream_texts") (by rfl))
    n_Yard_file_rows := He.noat_ok (c.fact 81 (f := .noat "Yard" "file_rows") (by rfl))
    n_Yard_names_of := He.noat_ok (c.fact 82 (f := .noat "Yard" "names_of") (by rfl))
    n_Yard_numbers_of := He.noat_ok (c.fact 83 (f := .noat "Yard" "numbers_of") (by rfl))
    n_Yard_bar_level := He.noat_ok (c.fact 84 (f := .noat "Yard" "bar_level") (by rfl))
    n_Yard_logger_map := He.noat_ok (c.fact 85 (f := .noat "Yard" "logger_map") (by rfl))
    n_Yard_made := He.noat_ok (c.fact 86 (f := .noat "Yard" "made") (by rfl))
    n_Yard_handler_names := He.noat_ok (c.fact 87 (f := .noat "Yard" "handler_names") (by rfl))
    n_Yard_failure_rows := He.noat_ok (c.fact 88 (f := .noat "Yard" "failure_rows") (by rfl))
    n_Yard_root := He.noat_ok (c.fact 89 (f := .noat "Yard" "root") (by rfl))
    n_Yard_last_resort := He.noat_ok (c.fact 90 (f := .noat "Yard" "last_resort") (by rfl))
    m_Filter_passes := He.meth_ok (c.fact 91 (f := .meth "Filter" "passes") (by rfl))
    m_LogRecord_message := He.meth_ok (c.fact 92 (f := .meth "LogRecord" "message") (by rfl))
    m_StreamHandler_filtered := He.meth_ok (c.fact 93 (f := .meth "StreamHandler" "filtered") (by rfl))
    m_StreamHandler_setLevel := He.meth_ok (c.fact 94 (f := .meth "StreamHandler" "setLevel") (by rfl))
    m_StreamHandler_setTerminator := He.meth_ok (c.fact 95 (f := .meth "StreamHandler" "setTerminator") (by rfl))
    m_StreamHandler_handle := He.meth_ok (c.fact 96 (f := .meth "StreamHandler" "handle") (by rfl))
    m_StreamHandler_emit := He.meth_ok (c.fact 97 (f := .meth "StreamHandler" "emit") (by rfl))
    m_StreamHandler_formatted := He.meth_ok (c.fact 98 (f := .meth "StreamHandler" "formatted") (by rfl))
    m_StreamHandler_text_of := He.meth_ok (c.fact 99 (f := .meth "StreamHandler" "text_of") (by rfl))
    m_StreamHandler_addFilter := He.meth_ok (c.fact 100 (f := .meth "StreamHandler" "addFilter") (by rfl))
    m_Logger_setLevel := He.meth_ok (c.fact 101 (f := .meth "Logger" "setLevel") (by rfl))
    m_Logger_setPropagate := He.meth_ok (c.fact 102 (f := .meth "Logger" "setPropagate") (by rfl))
    m_Logger_setDisabled := He.meth_ok (c.fact 103 (f := .meth "Logger" "setDisabled") (by rfl))
    m_Logger_getEffectiveLevel := He.meth_ok (c.fact 104 (f := .meth "Logger" "getEffectiveLevel") (by rfl))
    m_Logger_isEnabledFor := He.meth_ok (c.fact 105 (f := .meth "Logger" "isEnabledFor") (by rfl))
    m_Logger_addHandler := He.meth_ok (c.fact 106 (f := .meth "Logger" "addHandler") (by rfl))
    m_Logger_reached := He.meth_ok (c.fact 107 (f := .meth "Logger" "reached") (by rfl))
    m_Logger_is_parent_of := He.meth_ok (c.fact 108 (f := .meth "Logger" "is_parent_of") (by rfl))
    m_Logger_getChildren := He.meth_ok (c.fact 109 (f := .meth "Logger" "getChildren") (by rfl))
    m_Logger_hasHandlers := He.meth_ok (c.fact 110 (f := .meth "Logger" "hasHandlers") (by rfl))
    m_Logger_filtered := He.meth_ok (c.fact 111 (f := .meth "Logger" "filtered") (by rfl))
    m_Logger_log := He.meth_ok (c.fact 112 (f := .meth "Logger" "log") (by rfl))
    m_Logger_handle := He.meth_ok (c.fact 113 (f := .meth "Logger" "handle") (by rfl))
    m_Logger_call_handlers := He.meth_ok (c.fact 114 (f := .meth "Logger" "call_handlers") (by rfl))
    m_Yard_text := He.meth_ok (c.fact 115 (f := .meth "Yard" "text") (by rfl))
    m_Yard_streams := He.meth_ok (c.fact 116 (f := .meth "Yard" "streams") (by rfl))
    m_Yard_write_stream := He.meth_ok (c.fact 117 (f := .meth "Yard" "write_stream") (by rfl))
    m_Yard_level_name := He.meth_ok (c.fact 118 (f := .meth "Yard" "level_name") (by rfl))
    m_Yard_level_of := He.meth_ok (c.fact 119 (f := .meth "Yard" "level_of") (by rfl))
    m_Yard_make_record := He.meth_ok (c.fact 120 (f := .meth "Yard" "make_record") (by rfl))
    m_Yard_getLogger := He.meth_ok (c.fact 121 (f := .meth "Yard" "getLogger") (by rfl))
    m_Yard_enrol := He.meth_ok (c.fact 122 (f := .meth "Yard" "enrol") (by rfl))
    m_Yard_loggers := He.meth_ok (c.fact 123 (f := .meth "Yard" "loggers") (by rfl))
    k_StreamHandler := He.mkr_ok (c.fact 124 (f := .mkr "StreamHandler") (by rfl))
    k_Logger := He.mkr_ok (c.fact 125 (f := .mkr "Logger") (by rfl))
    k_Yard := He.mkr_ok (c.fact 126 (f := .mkr "Yard") (by rfl))
    k_Filter := He.mkr_ok (c.fact 127 (f := .mkr "Filter") (by rfl))
    k_LogRecord := He.mkr_ok (c.fact 128 (f := .mkr "LogRecord") (by rfl))
    p_Logger := RB.pl_ok (c.more 0 (f := .pl "Logger") (by rfl))
    p_StreamHandler := RB.pl_ok (c.more 1 (f := .pl "StreamHandler") (by rfl))
    p_Filter := RB.pl_ok (c.more 2 (f := .pl "Filter") (by rfl))
    sub_Filter_Filter := RB.sub_ok (c.more 3 (f := .sub "Filter" "Filter") (by rfl))
    sub_Logger_Logger := RB.sub_ok (c.more 4 (f := .sub "Logger" "Logger") (by rfl))
    sub_StreamHandler_StreamHandler := RB.sub_ok (c.more 5 (f := .sub "StreamHandler" "StreamHandler") (by rfl))
    cf_Filterer_init := RB.cf_ok (c.more 6 (f := .cf "Filterer" "__init__") (by rfl))
    cf_Handler_init := RB.cf_ok (c.more 7 (f := .cf "Handler" "__init__") (by rfl))
    ty_Filter := RB.ty_ok (c.more 8 (f := .ty "Filter") (by rfl))
    kit_Filter_Filter := RB.kit_ok (c.more 9 (f := .kit "Filter" "Filter" true) (by rfl))
    dt_Yard_make_record_0 := RB.dtup_ok (c.more 10 (f := .dtup ("Yard", some "make_record") 0) (by rfl))
    dt_Logger_log_0 := RB.dtup_ok (c.more 11 (f := .dtup ("Logger", some "log") 0) (by rfl))
    d_Filterer_init := c.d.def_ 0 (d := dd_Filterer_init) (by rfl)
    d_Filter_init := c.d.def_ 1 (d := dd_Filter_init) (by rfl)
    d_Filter_passes := c.d.def_ 2 (d := dd_Filter_passes) (by rfl)
    d_is_below := c.d.def_ 3 (d := dd_is_below) (by rfl)
    d_let_by := c.d.def_ 4 (d := dd_let_by) (by rfl)
    d_copied_value := c.d.def_ 5 (d := dd_copied_value) (by rfl)
    d_LogRecord_init := c.d.def_ 6 (d := dd_LogRecord_init) (by rfl)
    d_LogRecord_message := c.d.def_ 7 (d := dd_LogRecord_message) (by rfl)
    d_Handler_init := c.d.def_ 8 (d := dd_Handler_init) (by rfl)
    d_StreamHandler_init := c.d.def_ 9 (d := dd_StreamHandler_init) (by rfl)
    d_StreamHandler_filtered := c.d.def_ 10 (d := dd_StreamHandler_filtered) (by rfl)
    d_StreamHandler_setLevel := c.d.def_ 11 (d := dd_StreamHandler_setLevel) (by rfl)
    d_StreamHandler_setTerminator := c.d.def_ 12 (d := dd_StreamHandler_setTerminator) (by rfl)
    d_StreamHandler_handle := c.d.def_ 13 (d := dd_StreamHandler_handle) (by rfl)
    d_StreamHandler_emit := c.d.def_ 14 (d := dd_StreamHandler_emit) (by rfl)
    d_StreamHandler_formatted := c.d.def_ 15 (d := dd_StreamHandler_formatted) (by rfl)
    d_StreamHandler_text_of := c.d.def_ 16 (d := dd_StreamHandler_text_of) (by rfl)
    d_StreamHandler_addFilter := c.d.def_ 17 (d := dd_StreamHandler_addFilter) (by rfl)
    d_is_integer := c.d.def_ 18 (d := dd_is_integer) (by rfl)
    d_is_part := c.d.def_ 19 (d := dd_is_part) (by rfl)
    d_are_parts := c.d.def_ 20 (d := dd_are_parts) (by rfl)
    d_parent_of := c.d.def_ 21 (d := dd_parent_of) (by rfl)
    d_place_loggers := c.d.def_ 22 (d := dd_place_loggers) (by rfl)
    d_Logger_init := c.d.def_ 23 (d := dd_Logger_init) (by rfl)
    d_Logger_setLevel := c.d.def_ 24 (d := dd_Logger_setLevel) (by rfl)
    d_Logger_setPropagate := c.d.def_ 25 (d := dd_Logger_setPropagate) (by rfl)
    d_Logger_setDisabled := c.d.def_ 26 (d := dd_Logger_setDisabled) (by rfl)
    d_Logger_getEffectiveLevel := c.d.def_ 27 (d := dd_Logger_getEffectiveLevel) (by rfl)
    d_Logger_isEnabledFor := c.d.def_ 28 (d := dd_Logger_isEnabledFor) (by rfl)
    d_Logger_addHandler := c.d.def_ 29 (d := dd_Logger_addHandler) (by rfl)
    d_Logger_reached := c.d.def_ 30 (d := dd_Logger_reached) (by rfl)
    d_Logger_is_parent_of := c.d.def_ 31 (d := dd_Logger_is_parent_of) (by rfl)
    d_Logger_getChildren := c.d.def_ 32 (d := dd_Logger_getChildren) (by rfl)
    d_Logger_hasHandlers := c.d.def_ 33 (d := dd_Logger_hasHandlers) (by rfl)
    d_Logger_filtered := c.d.def_ 34 (d := dd_Logger_filtered) (by rfl)
    d_Logger_log := c.d.def_ 35 (d := dd_Logger_log) (by rfl)
    d_Logger_handle := c.d.def_ 36 (d := dd_Logger_handle) (by rfl)
    d_Logger_call_handlers := c.d.def_ 37 (d := dd_Logger_call_handlers) (by rfl)
    d_Yard_init := c.d.def_ 38 (d := dd_Yard_init) (by rfl)
    d_Yard_text := c.d.def_ 39 (d := dd_Yard_text) (by rfl)
    d_Yard_streams := c.d.def_ 40 (d := dd_Yard_streams) (by rfl)
    d_Yard_write_stream := c.d.def_ 41 (d := dd_Yard_write_stream) (by rfl)
    d_Yard_level_name := c.d.def_ 42 (d := dd_Yard_level_name) (by rfl)
    d_Yard_level_of := c.d.def_ 43 (d := dd_Yard_level_of) (by rfl)
    d_Yard_make_record := c.d.def_ 44 (d := dd_Yard_make_record) (by rfl)
    d_Yard_getLogger := c.d.def_ 45 (d := dd_Yard_getLogger) (by rfl)
    d_Yard_enrol := c.d.def_ 46 (d := dd_Yard_enrol) (by rfl)
    d_Yard_loggers := c.d.def_ 47 (d := dd_Yard_loggers) (by rfl)
    d__law_draw := c.d.def_ 48 (d := dd__law_draw) (by rfl)
    d__law_pick := c.d.def_ 49 (d := dd__law_pick) (by rfl)
    d__law_order := c.d.def_ 50 (d := dd__law_order) (by rfl)
    d__law_same := c.d.def_ 51 (d := dd__law_same) (by rfl)
    d__law_name := c.d.def_ 52 (d := dd__law_name) (by rfl)
    d__law_tree := c.d.def_ 53 (d := dd__law_tree) (by rfl)
    d__law_handlers := c.d.def_ 54 (d := dd__law_handlers) (by rfl)
    d__law_set := c.d.def_ 55 (d := dd__law_set) (by rfl)
    d__law_all_told := c.d.def_ 56 (d := dd__law_all_told) (by rfl)
    d_law := c.d.def_ 57 (d := dd_law) (by rfl)
    t_FIRST_NAMES := c.tb 0 (t := ("FIRST_NAMES", kv_FIRST_NAMES)) (by rfl) P
    t_FIRST_NUMBERS := c.tb 1 (t := ("FIRST_NUMBERS", kv_FIRST_NUMBERS)) (by rfl) P
end K17

set_option Elab.async false
set_option linter.all false
set_option maxRecDepth 100000
set_option maxHeartbeats 4000000
/-! The head's facts over the objects that the module's names reach, level by level. -/
namespace RHd
open PySem PySem.Spec PyProof.Rows L2 He RB
/-- what the objects at a level name -/
def lvl (g : Addr → Option Obj) : Nat → List Addr → List Addr
  | 0, as => as
  | n + 1, as => as ++ lvl g n (as.flatMap fun a => match g a with
    | some o => (refsD o).filter fun b => !Nat.beq b a
    | none => [])
def asL (g : Addr → Option Obj) (n : Nat) : List Addr := lvl g n [mainGlobals]
def obsLG (n : Nat) (fa : List Fa) (fx : List Fx) (fn : List DefD) (ts : List Tb) (g : Addr → Option Obj) : AlB := obsB fa fx fn ts (frG g (extraB g fx (asL g n)))
def hookL (n : Nat) (fa : List Fa) (fx : List Fx) (fn : List DefD) (ts : List Tb) : PySem.W.Hook where
  α := AlB
  obs := fun s => obsLG n fa fx fn ts s.heap.get?
  val := fun w => valB fn ts w
  says := fun w h => ∃ K : PySem.W.Frag, K.In h ∧ SaysB fa fx fn ts w K
  of := fun _ _ e => ⟨_, frG_in, e⟩
  keeps := fun _ _ _ ⟨K, hK, c⟩ k => ⟨K, PySem.W.Frag.In.keeps hK k, c⟩
theorem obsLG_eq {n : Nat} {fa : List Fa} {fx : List Fx} {fn : List DefD} {ts : List Tb} {g : Addr → Option Obj} {s : Shared} (h : ∀ a, g a = s.heap.get? a) : obsLG n fa fx fn ts g = (hookL n fa fx fn ts).obs s := by
  have e : g = s.heap.get? := funext h
  rw [e] <;> rfl
end RHd

set_option Elab.async false
set_option linter.all false
set_option maxRecDepth 100000
set_option maxHeartbeats 0
namespace K17
open PySem PySem.Spec PyProof.Rows L2 RC
/-! ### the head -/
abbrev R : PySem.W.OpenRow := PySem.W.OpenLaw.row PySem.Challenge.rw_recordyard_k22_whole_any_order_makes_one
abbrev hk : PySem.W.Hook := RHd.hookL 4 fa fx fn ts
def ob (s : PySem.W.SharedT) : RB.AlB := RHd.obsLG 4 fa fx fn ts (HandSHeadRun.getT s)
theorem ob_eq (s : PySem.W.SharedT) : ob s = hk.obs s.abs := RHd.obsLG_eq (HandSHeadRun.getT_eq s)
open HandSHeadRun PySem.W
abbrev AlR : Type := List (Option (List (Option (Key × Int)))) × Bool
noncomputable def fr (s : PySem.W.SharedT) : PySem.W.Frag := He.frG (HandSHeadRun.getT s) (RB.extraB (HandSHeadRun.getT s) fx (RHd.asL (HandSHeadRun.getT s) 4))
noncomputable def obD (s : PySem.W.SharedT) : He.AlD := He.obsD fa fn (fr s)
noncomputable def obR (s : PySem.W.SharedT) : AlR := (ts.map fun t => RB.tbRow (fr s) t.1, (fx.all fun f => f.ok (fr s)) && ts.all fun t => RB.tbVals (fr s) t)
noncomputable abbrev lk (w : World) (s : PySem.W.SharedT) : Bool := HandSHeadRun.looksF R.prog (boot_heap w.params) s.abs
noncomputable abbrev sn (s : PySem.W.SharedT) := HandSHeadRun.seenQ (PySem.W.view R.prog [50]) names (importedModules R.prog.main.body) (fun s => xlAt (PySem.W.view R.prog [50]) [] s && recOk R.toRowW.records s) s.abs
theorem join3 {S A B D C : Type} {o : Option S} {a : S → A} {b : S → B} {d : S → D} {r : S → C} {x : A} {y : B} {v : D} {z : C} (h1 : o.map (fun s => (a s, b s, r s)) = some (x, y, z)) (h2 : o.map d = some v) : o.map (fun s => (a s, b s, (d s, r s))) = some (x, y, (v, z)) := by
  cases o with
  | none => cases h1
  | some s =>
    have e1 := Option.some.inj h1
    have e2 := Option.some.inj h2
    injection e1 with p1 p2
    injection p2 with p2 p3
    show some (a s, b s, (d s, r s)) = _
    rw [p1, p2, p3, e2]
theorem r1_f (w : World) (os : OsState) : (HandSHeadRun.endF (HandSHeadRun.stepQ (HandSHeadRun.denQ tabQ) R.prog (w.withFollow "special-get-raises" false)) 13000 R.prog (w.withFollow "special-get-raises" false) os).map (fun s => (lk (w.withFollow "special-get-raises" false) s, sn s, obR s)) = some (true, openGood (PySem.W.view R.prog [50]) names, (ts.map fun t => RB.tbWant (w.withFollow "special-get-raises" false).params t.2, true)) := by
  kernel_rfl
theorem r2_f (w : World) (os : OsState) : (HandSHeadRun.endF (HandSHeadRun.stepQ (HandSHeadRun.denQ tabQ) R.prog (w.withFollow "special-get-raises" false)) 13000 R.prog (w.withFollow "special-get-raises" false) os).map obD = some (He.valD fn) := by
  kernel_rfl
theorem run_f (w : World) : HandSHeadRun.RunEq R (PySem.W.view R.prog [50]) hk ob 13000 names (w.withFollow "special-get-raises" false) := fun os => join3 (r1_f w os) (r2_f w os)
theorem r1_t (w : World) (os : OsState) : (HandSHeadRun.endF (HandSHeadRun.stepQ (HandSHeadRun.denQ tabQ) R.prog (w.withFollow "special-get-raises" true)) 13000 R.prog (w.withFollow "special-get-raises" true) os).map (fun s => (lk (w.withFollow "special-get-raises" true) s, sn s, obR s)) = some (true, openGood (PySem.W.view R.prog [50]) names, (ts.map fun t => RB.tbWant (w.withFollow "special-get-raises" true).params t.2, true)) := by
  kernel_rfl
theorem r2_t (w : World) (os : OsState) : (HandSHeadRun.endF (HandSHeadRun.stepQ (HandSHeadRun.denQ tabQ) R.prog (w.withFollow "special-get-raises" true)) 13000 R.prog (w.withFollow "special-get-raises" true) os).map obD = some (He.valD fn) := by
  kernel_rfl
theorem run_t (w : World) : HandSHeadRun.RunEq R (PySem.W.view R.prog [50]) hk ob 13000 names (w.withFollow "special-get-raises" true) := fun os => join3 (r1_t w os) (r2_t w os)
theorem run (w : World) : HandSHeadRun.RunEq R (PySem.W.view R.prog [50]) hk ob 13000 names w := PySem.W.byRow2 "special-get-raises" (P := fun w => HandSHeadRun.RunEq R (PySem.W.view R.prog [50]) hk ob 13000 names w) run_f run_t w
end K17

set_option Elab.async false
set_option linter.all false
set_option maxRecDepth 100000
set_option maxHeartbeats 4000000
/-! Further rules: two lists of the same objects are equal; a text times an int. -/
namespace RX
open PySem PySem.Spec PyProof.Rows PySem.SeqAt L2
open RD
/-- two lists of objects that are the same, or of unlike lengths -/
def rEqLL (K : PySem.W.Frag) : R2 := fun x y H Q => ∃ (a b : Addr) (as bs : List Addr), x = .ref a ∧ y = .ref b ∧ SqL K H a (as.map V.ref) ∧ SqL K H b (bs.map V.ref) ∧ (as = bs ∨ as.length ≠ bs.length) ∧ Q (.bl (decide (as = bs))) H
def rNeLL (K : PySem.W.Frag) : R2 := fun x y H Q => ∃ (a b : Addr) (as bs : List Addr), x = .ref a ∧ y = .ref b ∧ SqL K H a (as.map V.ref) ∧ SqL K H b (bs.map V.ref) ∧ (as = bs ∨ as.length ≠ bs.length) ∧ Q (.bl (!decide (as = bs))) H
section
variable {X : Cx}
theorem size_ne {as bs : List Addr} (h : as.length ≠ bs.length) : ((as.map Value.ref).toArray.size != (bs.map Value.ref).toArray.size) = true := by simpa using h
theorem op_eqLL (hu : X.A.units < cLine) : OpR X (compareOp .Eq) (rEqLL X.K) := by
  intro pins s σ H x y v u Q I rx ry h
  obtain ⟨a, b, as, bs, rfl, rfl, ha, hb, c, q⟩ := h
  cases rx
  cases ry
  obtain ⟨its, rv, hl, _⟩ := I.list ha
  obtain ⟨its2, rv2, hl2, _⟩ := I.list hb
  obtain rfl := vals_refs rv
  obtain rfl := vals_refs rv2
  rcases c with rfl | c
  · refine eq_listAt (e := fun _ => true) hl.isList hl2.isList rfl hu (fun j h1 h2 => EqAt.same _) ?_
    rw [all_true]
    rw [decide_eq_true rfl] at q
    exact fin_bl I q rfl
  · rw [decide_eq_false (fun z => c (by rw [z]))] at q
    exact eq_list_lengthsAt hl.isList hl2.isList (size_ne c) hu (fin_bl I q rfl)
theorem op_neLL (hu : X.A.units < cLine) : OpR X (compareOp .NotEq) (rNeLL X.K) := by
  intro pins s σ H x y v u Q I rx ry h
  obtain ⟨a, b, as, bs, rfl, rfl, ha, hb, c, q⟩ := h
  cases rx
  cases ry
  obtain ⟨its, rv, hl, _⟩ := I.list ha
  obtain ⟨its2, rv2, hl2, _⟩ := I.list hb
  obtain rfl := vals_refs rv
  obtain rfl := vals_refs rv2
  rcases c with rfl | c
  · refine RcNeAt.lists (e := fun _ => true) hl.isList hl2.isList rfl hu (fun j h1 h2 => EqAt.same _) X.prog X.w X.xe _ ?_
    rw [all_true]
    rw [decide_eq_true rfl] at q
    exact fin_bl I q rfl
  · rw [decide_eq_false (fun z => c (by rw [z]))] at q
    exact RcNeAt.lists_lengths hl.isList hl2.isList (size_ne c) hu X.prog X.w X.xe _ (fin_bl I q rfl)
end
end RX

set_option Elab.async false
set_option linter.all false
set_option maxRecDepth 100000
set_option maxHeartbeats 4000000
/-! How long the text of a number is. -/
namespace RN
open PySem PySem.Spec PyProof.Rows L2
theorem log2_div (n : Nat) (h : 10 ≤ n) : (n / 10).log2 + 1 ≤ n.log2 := by
  have h1 : n / 10 ≤ n / 2 := by omega
  have h2 : n / 10 ≠ 0 := by omega
  have h3 : n ≠ 0 := by omega
  have h4 := Nat.log2_self_le h2
  have h5 : 2 ^ ((n / 10).log2 + 1) ≤ n := by rw [Nat.pow_succ]; omega
  exact (Nat.le_log2 h3).mpr h5
theorem len_numL (n : Nat) : (TL.numL n).length ≤ n.log2 + 1 := by
  induction n using Nat.strongRecOn with
  | ind n ih =>
    by_cases h : n < 10
    · rw [TL.numL_lt h]; simp
    · have h : 10 ≤ n := by omega
      rw [TL.numL_step h, List.length_append]
      have := ih (n / 10) (by omega)
      have := log2_div n h
      simp only [List.length_singleton]
      omega
theorem len_toString (i : Int) : (Str.ofString (toString i)).length ≤ i.natAbs.log2 + 2 := by
  cases i with
  | ofNat n =>
    have e := TL.tl_num n
    rw [TL.len_tl]
    show (TL.tl (Str.ofString (toString ((n : Nat) : Int)))).length ≤ _
    rw [e]
    have := len_numL n
    show _ ≤ n.log2 + 2
    omega
  | negSucc n =>
    have e := TL.tl_num (n + 1)
    have e2 : toString (Int.negSucc n) = "-" ++ toString (((n + 1 : Nat)) : Int) := rfl
    rw [TL.len_tl, e2]
    have e3 : TL.tl (Str.ofString ("-" ++ toString (((n + 1 : Nat)) : Int))) = 45 :: TL.tl (Str.ofString (toString (((n + 1 : Nat)) : Int))) := by
      show (Str.ofString _).cps.toList = 45 :: (Str.ofString _).cps.toList
      rw [signs_ofString, signs_ofString, String.toList_append, List.map_append]; rfl
    rw [e3, e, List.length_cons]
    have := len_numL (n + 1)
    show _ ≤ (n + 1).log2 + 2
    omega
end RN

set_option Elab.async false
set_option linter.all false
set_option maxRecDepth 100000
set_option maxHeartbeats 4000000
/-! Further rules: a list and an empty one. -/
namespace RY
open PySem PySem.Spec PyProof.Rows PySem.SeqAt L2
open RD
def rEqE (K : PySem.W.Frag) : R2 := fun x y H Q => ∃ (a b : Addr) (xs : List V), x = .ref a ∧ y = .ref b ∧ SqL K H a xs ∧ SqL K H b [] ∧ Q (.bl (xs.isEmpty)) H
def rNeE (K : PySem.W.Frag) : R2 := fun x y H Q => ∃ (a b : Addr) (xs : List V), x = .ref a ∧ y = .ref b ∧ SqL K H a xs ∧ SqL K H b [] ∧ Q (.bl (!xs.isEmpty)) H
section
variable {X : Cx}
theorem vals_nil {us : List Value} (h : Vals [] us) : us = [] := by cases h; rfl
theorem vals_cons {x : V} {xs : List V} {us : List Value} (h : Vals (x :: xs) us) : (us.toArray.size != (([] : List Value)).toArray.size) = true := by cases h; simp
theorem op_eqE (hu : X.A.units < cLine) : OpR X (compareOp .Eq) (rEqE X.K) := by
  intro pins s σ H x y v u Q I rx ry h
  obtain ⟨a, b, xs, rfl, rfl, ha, hb, q⟩ := h
  cases rx
  cases ry
  obtain ⟨its, rv, hl, _⟩ := I.list ha
  obtain ⟨its2, rv2, hl2, _⟩ := I.list hb
  obtain rfl := vals_nil rv2
  cases xs with
  | nil =>
    obtain rfl := vals_nil rv
    refine eq_listAt (e := fun _ => true) hl.isList hl2.isList rfl hu (fun j h1 h2 => EqAt.same _) ?_
    rw [all_true]
    exact fin_bl I q rfl
  | cons x xs => exact eq_list_lengthsAt hl.isList hl2.isList (vals_cons rv) hu (fin_bl I q rfl)
theorem op_neE (hu : X.A.units < cLine) : OpR X (compareOp .NotEq) (rNeE X.K) := by
  intro pins s σ H x y v u Q I rx ry h
  obtain ⟨a, b, xs, rfl, rfl, ha, hb, q⟩ := h
  cases rx
  cases ry
  obtain ⟨its, rv, hl, _⟩ := I.list ha
  obtain ⟨its2, rv2, hl2, _⟩ := I.list hb
  obtain rfl := vals_nil rv2
  cases xs with
  | nil =>
    obtain rfl := vals_nil rv
    refine RcNeAt.lists (e := fun _ => true) hl.isList hl2.isList rfl hu (fun j h1 h2 => EqAt.same _) X.prog X.w X.xe _ ?_
    rw [all_true]
    exact fin_bl I q rfl
  | cons x xs => exact RcNeAt.lists_lengths hl.isList hl2.isList (vals_cons rv) hu X.prog X.w X.xe _ (fin_bl I q rfl)

def flatW : V → Bool
  | .int _ => true
  | .bl _ => true
  | .str _ => true
  | .non => true
  | .ref _ => true
  | _ => false
/-- two lists of the same plain values -/
def rEqV (K : PySem.W.Frag) : R2 := fun x y H Q => ∃ (a b : Addr) (xs : List V), x = .ref a ∧ y = .ref b ∧ SqL K H a xs ∧ SqL K H b xs ∧ xs.all flatW = true ∧ Q (.bl true) H
def rNeV (K : PySem.W.Frag) : R2 := fun x y H Q => ∃ (a b : Addr) (xs : List V), x = .ref a ∧ y = .ref b ∧ SqL K H a xs ∧ SqL K H b xs ∧ xs.all flatW = true ∧ Q (.bl false) H
theorem eq_same {A : Around} {s : Shared} {x : V} {u u' : Value} (h : RelV x u) (h' : RelV x u') (hf : flatW x = true) : EqAt A s u u' true := by
  cases x with
  | int i =>
    obtain ⟨t, rfl⟩ := h
    obtain ⟨t', rfl⟩ := h'
    have e := EqAt.int_int (A := A) (s := s) i t i t'
    rw [beq_self_eq_true] at e; exact e
  | str i =>
    obtain ⟨t, rfl⟩ := h
    obtain ⟨t', rfl⟩ := h'
    have e := EqAt.str_str (A := A) (s := s) i t i t'
    rw [beq_self_eq_true] at e; exact e
  | bl b => cases h; cases h'; exact EqAt.same _
  | non => cases h; cases h'; exact EqAt.same _
  | ref a => cases h; cases h'; exact EqAt.same _
  | _ => cases hf
theorem eq_all {A : Around} {s : Shared} : ∀ {xs : List V} {us us' : List Value}, Vals xs us → Vals xs us' → xs.all flatW = true → us.length = us'.length ∧ ∀ (j : Nat) (h1 : j < us.length) (h2 : j < us'.length), EqAt A s us[j] us'[j] true
  | [], _, _, .nil, .nil, _ => ⟨rfl, fun j h1 _ => absurd h1 (Nat.not_lt_zero _)⟩
  | x :: xs, _, _, .cons h t, .cons h' t', hf => by
    rw [List.all_cons, Bool.and_eq_true] at hf
    have ih := eq_all (A := A) (s := s) t t' hf.2
    refine ⟨congrArg (· + 1) ih.1, fun j h1 h2 => ?_⟩
    cases j with
    | zero => exact eq_same h h' hf.1
    | succ j => exact ih.2 j (Nat.lt_of_succ_lt_succ h1) (Nat.lt_of_succ_lt_succ h2)
theorem all_tt (n : Nat) : (List.range n).all (fun _ => true) = true := by simp
theorem op_eqV (hu : X.A.units < cLine) : OpR X (compareOp .Eq) (rEqV X.K) := by
  intro pins s σ H x y v u Q I rx ry h
  obtain ⟨a, b, xs, rfl, rfl, ha, hb, hf, q⟩ := h
  cases rx
  cases ry
  obtain ⟨its, rv, hl, _⟩ := I.list ha
  obtain ⟨its2, rv2, hl2, _⟩ := I.list hb
  have e := eq_all (A := X.A.in1) (s := s) rv rv2 hf
  refine eq_listAt (e := fun _ => true) hl.isList hl2.isList (by simpa using e.1) hu (fun j h1 h2 => by simpa using e.2 j (by simpa using h1) (by simpa using h2)) ?_
  rw [all_tt]
  exact fin_bl I q rfl
theorem op_neV (hu : X.A.units < cLine) : OpR X (compareOp .NotEq) (rNeV X.K) := by
  intro pins s σ H x y v u Q I rx ry h
  obtain ⟨a, b, xs, rfl, rfl, ha, hb, hf, q⟩ := h
  cases rx
  cases ry
  obtain ⟨its, rv, hl, _⟩ := I.list ha
  obtain ⟨its2, rv2, hl2, _⟩ := I.list hb
  have e := eq_all (A := X.A.in1) (s := s) rv rv2 hf
  refine RcNeAt.lists (e := fun _ => true) hl.isList hl2.isList (by simpa using e.1) hu (fun j h1 h2 => by simpa using e.2 j (by simpa using h1) (by simpa using h2)) X.prog X.w X.xe _ ?_
  rw [all_tt]
  exact fin_bl I q rfl
end
end RY

set_option Elab.async false
set_option linter.all false
set_option maxRecDepth 100000
set_option maxHeartbeats 0
namespace K17
open PySem PySem.Spec PyProof.Rows L2 RC
section
variable {P : Program} {w : World} {K : PySem.W.Frag} {mg : Str → Option Value} {base : Heap}
theorem dp_ints {K : PySem.W.Frag} {H : Hp} : ∀ ns : List Int, DpAll K H (ns.map V.int) (ns.map PyData.int)
  | [] => .nil
  | n :: r => .cons (.int n) (dp_ints r)
theorem can_ints : ∀ ns : List Int, PyData.canLayAll0 (ns.map PyData.int) = true
  | [] => by simp [PyData.canLayAll0]
  | n :: r => by simp [PyData.canLayAll0, PyData.canLay0, can_ints r]
theorem dep_ints : ∀ ns : List Int, PyData.depthAll (ns.map PyData.int) = 0
  | [] => by simp [PyData.depthAll]
  | n :: r => by simp [PyData.depthAll, PyData.depth, dep_ints r]
theorem sh_ints (ns : List Int) : SeqAt.shaped (.list (ns.map PyData.int)) = true := by
  unfold SeqAt.shaped
  simp [PyData.canLay0, PyData.depth, can_ints, dep_ints]
theorem seq0 (v : Int) (r : List Int) : seqIndex? 0 ((v :: r).map V.int).length = some 0 := by
  unfold seqIndex?
  simp
def spDraw : Sp := fun vs H Q _ => ∃ (s l : Addr) (n : Nat) (many : Int), vs = [.ref s, .int many] ∧ Stm H s l n ∧ n ≤ 1000000 ∧ 1 ≤ many ∧ many < 1073741824 ∧
  ∀ (H' : Hp) (d : Int), Old s l H H' → Stm H' s l (n + 1) → 0 ≤ d → d < many → Q (.int d) H'
theorem old_upd {s l : Addr} {H H' : Hp} {a : Addr} {o : HO} (h : Old s l H H') (ha : a = s ∨ a = l ∨ H' a = none) : Old s l H (upd H' a o) := fun b u h1 h2 e => by
  have e2 := h b u h1 h2 e
  have hb : b ≠ a := by
    rintro rfl
    rcases ha with z | z | z
    · exact h1 z
    · exact h2 z
    · rw [z] at e2; cases e2
  rw [upd_ne hb]; exact e2
theorem stm_small {d c : Int} (h : 0 ≤ d) (h1 : d < 2147483647) (h2 : 0 ≤ c) (h3 : c ≤ 1000001) : (d + 104729 * c + 17).natAbs < 2 ^ 64 := by omega
theorem stm_small2 {m c : Int} (h : 0 ≤ m) (h1 : m < 2147483629) (h2 : 0 ≤ c) (h3 : c ≤ 1000001) : (m * 48271 + 40503 * c * c + 13).natAbs < 2 ^ 64 := by
  have q1 : 0 ≤ 40503 * c * c := Int.mul_nonneg (by omega) h2
  have q2 : 40503 * c * c ≤ 40503 * c * 1000001 := Int.mul_le_mul_of_nonneg_left h3 (by omega)
  omega
theorem ok_draw {f : Addr} (T : Txt P w K mg) (F : Stands K "_law_draw" "_law_draw" s__law_draw [] f) : Callable P w K mg base 1 f ["_law_s", "_law_many"] [] spDraw := by
  refine F.call0 sc__law_draw (fun vs H Q E h => ?_) (fun cdv A outer s H vs Q E hr h => ?_) (fun _ _ _ _ _ _ us hl => match us, hl with | [_, _], _ => rfl)
  · obtain ⟨s, l, n, m, rfl, _⟩ := h
    rfl
  obtain ⟨p, l, n, many, rfl, hS, hn, hm1, hm2, hQ⟩ := h
  refine ⟨_, (pss_cons (ps_while PassesOwn.never (PW.pt (pw_and (pt_cmpR op_eq (pe_ix ix_list (pv 0) pe_int (fun _ _ => rfl)) pe_int (nomark _)) (pw_and1 (pt_cmpR (op_neD hr.units) (pe_ix ix_list (pv 0) pe_int (fun _ _ => rfl)) (pe_lst pa_nil) (nomark _))))) (pss_cons (ps_asg (pe_bm PySem.F.plainAttrs_list PySem.F.slot_list_pop PySem.F.type_list_pop mt_popAt (pe_ix ix_list (pv 0) pe_int (fun _ _ => rfl)) (pa_cons pe_int pa_nil)) (pg_sub (pv 0) pe_int set_list))
      (pss_one (ps_if (pt_cmpR op_lt (pe_ix ix_list (pv 0) pe_int (fun _ _ => rfl)) (pe_op op_pow pe_int pe_int) (nomark _)) (pss_cons (ps_asg (pe_op op_mod (pe_callTy call_int1 (by rfl) T.b_int (by decide +kernel) (pa_cons (pe_op op_add (pe_op op_add (pe_op op_mul (pe_ix ix_list (pv 0) pe_int (fun _ _ => rfl)) pe_int) (pe_ix ix_list (pv 0) pe_int (fun _ _ => rfl))) pe_int) pa_nil)) pe_int) (pg_sub (pv 0) pe_int set_list))
      (pss_one (ps_asg pe_int (pg_sub (pv 0) pe_int set_list)))) pss_nil))))
      (pss_cons (ps_if (pt_cmpR op_gt (pe_ix ix_list (pv 0) pe_int (fun _ _ => rfl)) pe_int (nomark _)) (pss_cons (ps_set (i := 2) sc__law_draw.nd rfl (by first | exact Or.inl rfl | exact Or.inr rfl) (pe_op op_mod (pe_callTy call_int1 (by rfl) T.b_int (by decide +kernel) (pa_cons (pe_ix ix_list (pv 0) pe_int (fun _ _ => rfl)) pa_nil)) (pv 1)))
      (pss_cons (ps_asg (pe_op op_fdiv (pe_ix ix_list (pv 0) pe_int (fun _ _ => rfl)) (pv 1)) (pg_sub (pv 0) pe_int set_list))
      (pss_one (ps_ret (pv 2))))) pss_nil)
      (pss_cons (ps_asg (pe_op op_add (pe_ix ix_list (pv 0) pe_int (fun _ _ => rfl)) pe_int) (pg_sub (pv 0) pe_int set_list))
      (pss_cons (ps_set (i := 3) sc__law_draw.nd rfl (by first | exact Or.inl rfl | exact Or.inr rfl) (pe_op op_mod (pe_callTy call_int1 (by rfl) T.b_int (by decide +kernel) (pa_cons (pe_op op_pow (pe_op op_add (pe_op op_add (pe_ix ix_list (pv 0) pe_int (fun _ _ => rfl)) (pe_op op_mul pe_int (pe_ix ix_list (pv 0) pe_int (fun _ _ => rfl)))) pe_int) pe_int) pa_nil)) pe_int))
      (pss_cons (ps_set (i := 4) sc__law_draw.nd rfl (by first | exact Or.inl rfl | exact Or.inr rfl) (pe_op op_mod (pe_callTy call_int1 (by rfl) T.b_int (by decide +kernel) (pa_cons (pe_op op_pow (pe_op op_add (pe_op op_add (pe_op op_mul (pv 3) pe_int) (pe_op op_mul (pe_op op_mul pe_int (pe_ix ix_list (pv 0) pe_int (fun _ _ => rfl))) (pe_ix ix_list (pv 0) pe_int (fun _ _ => rfl)))) pe_int) pe_int) pa_nil)) pe_int))
      (pss_one (ps_ret (pe_op op_mod (pe_callTy call_int1 (by rfl) T.b_int (by decide +kernel) (pa_cons (pv 4) pa_nil)) (pv 1))))))))), ?_⟩
  obtain ⟨hne, ns, x, c, d, h1, h2, h3, h4, h5, h6, h7, h8⟩ := hS
  refine ⟨fun m σ H' => σ = [some (.ref p), some (.int many), none, none, none] ∧ Old p l H H' ∧ ∃ (ns : List Int) (x c d : Int), m = ns.length ∧ H' p = some (.lst [.ref l, .int x, .int c, .int d]) ∧ H' l = some (.lst (ns.map V.int)) ∧ ns.length ≤ 63 ∧ 0 ≤ x ∧ 0 ≤ c ∧ c ≤ n ∧ 0 ≤ d ∧ d < 2147483647,
    ⟨_, rfl, Old.refl _, ns, x, c, d, rfl, h1, h2, h3, h4, h5, h6, h7, h8⟩, ?_⟩
  clear h1 h2 h3 h4 h5 h6 h7 h8 ns x c d
  rintro m σ H1 ⟨rfl, hO, ns, x, c, d, rfl, h1, h2, h3, h4, h5, h6, h7, h8⟩
  refine ⟨_, rfl, p, _, _, _, rfl, rfl, SqL.of h1, rfl, rfl, _, rfl, ?_⟩
  by_cases hx : x = 0
  · subst hx
    refine iteT' (decide_eq_true rfl) ?_
    refine ⟨_, rfl, p, _, _, _, rfl, rfl, SqL.of h1, rfl, (by show 0 ≤ sizeLine; decide), fun q hq => ?_⟩
    have g1 : upd H1 q (.lst []) p = some (.lst [.ref l, .int 0, .int c, .int d]) := by rw [upd_ne (ne_of_none h1 hq)]; exact h1
    have g2 : upd H1 q (.lst []) l = some (.lst (ns.map V.int)) := by rw [upd_ne (ne_of_none h2 hq)]; exact h2
    have gO : Old p l H (upd H1 q (.lst [])) := old_upd hO (.inr (.inr hq))
    refine ⟨_, _, Dp.lst (SqL.of g2) (dp_ints ns), Dp.lst (SqL.of upd_same) .nil, sh_ints ns, by decide +kernel, _, rfl, ?_⟩
    generalize upd H1 q (.lst []) = H2 at g1 g2 gO
    cases ns with
    | cons v r =>
      refine iteT' (by rfl) ?_
      refine ⟨fun σ' H' => ∃ m', m' < (v :: r).length ∧ (σ' = [some (.ref p), some (.int many), none, none, none] ∧ Old p l H H' ∧ ∃ (ns : List Int) (x c d : Int), m' = ns.length ∧ H' p = some (.lst [.ref l, .int x, .int c, .int d]) ∧ H' l = some (.lst (ns.map V.int)) ∧ ns.length ≤ 63 ∧ 0 ≤ x ∧ 0 ≤ c ∧ c ≤ n ∧ 0 ≤ d ∧ d < 2147483647), fun σ' H' z => z, ?_⟩
      -- s[1] = s[0].pop(0)
      refine ⟨_, rfl, p, _, _, _, rfl, rfl, SqL.of g1, rfl, .inl ⟨rfl, _, SqL.of g2⟩, l, (v :: r).map V.int, 0, 0, .int v, rfl, rfl, g2, by decide, by decide, seq0 _ _, rfl, ?_⟩
      generalize e3 : upd H2 l _ = H3
      have k1 : H3 p = some (.lst [.ref l, .int 0, .int c, .int d]) := by rw [← e3, upd_ne hne]; exact g1
      have kO : Old p l H H3 := by rw [← e3]; exact old_upd gO (.inr (.inl rfl))
      have k2 : H3 l = some (.lst (r.map V.int)) := by rw [← e3]; exact upd_same
      clear e3
      refine ⟨_, rfl, p, _, 1, 1, rfl, rfl, k1, rfl, ?_⟩
      generalize e4 : upd H3 p _ = H4
      have j1 : H4 p = some (.lst [.ref l, .int v, .int c, .int d]) := by rw [← e4]; exact upd_same
      have j2 : H4 l = some (.lst (r.map V.int)) := by rw [← e4, upd_ne (Ne.symm hne)]; exact k2
      have jO : Old p l H H4 := by rw [← e4]; exact old_upd kO (.inl rfl)
      clear e4
      have hl : r.length ≤ 63 := Nat.le_of_succ_le h3
      refine ⟨_, rfl, p, _, _, _, rfl, rfl, SqL.of j1, rfl, _, _, rfl, rfl, ⟨by decide, by decide, by decide⟩, _, _, rfl, rfl, _, rfl, ?_⟩
      refine ite2 (fun hv => ?_) (fun hv => ?_)
      · -- s[3] = int(..) % 2147483647
        refine ⟨_, rfl, p, _, _, _, rfl, rfl, SqL.of j1, rfl, _, _, rfl, rfl, .inr ⟨by decide, by decide⟩, _, rfl, p, _, _, _, rfl, rfl, SqL.of j1, rfl, _, _, rfl, rfl, _, _, rfl, rfl, .inl ⟨_, rfl, _, _, rfl, rfl, (by show (0 : Int) < 2147483647; decide), _, rfl, p, _, 3, 3, rfl, rfl, j1, rfl, ?_⟩⟩
        have m1 := Int.emod_nonneg (d * 31 + v + 7) (show (2147483647 : Int) ≠ 0 by decide)
        have m2 := Int.emod_lt_of_pos (d * 31 + v + 7) (show (0 : Int) < 2147483647 by decide)
        refine ⟨_, rfl, p, _, 1, 1, rfl, rfl, upd_same, rfl, r.length, Nat.lt_succ_self _, rfl, old_upd (old_upd jO (.inl rfl)) (.inl rfl), r, 0, c, (d * 31 + v + 7) % 2147483647, rfl, upd_same, ?_, hl, Int.le_refl 0, h5, h6, m1, m2⟩
        rw [upd_ne (Ne.symm hne), upd_ne (Ne.symm hne)]; exact j2
      · have hv : 10 ^ 18 ≤ v := by
          have z : ¬ v < 10 ^ (18 : Int).toNat := fun z => hv (decide_eq_true z)
          have e : (18 : Int).toNat = 18 := rfl
          rw [e] at z; omega
        exact ⟨r.length, Nat.lt_succ_self _, rfl, jO, r, v, c, d, rfl, j1, j2, hl, by omega, h5, h6, h7, h8⟩
    | nil =>
      refine iteF' (by rfl) ?_
      refine ⟨_, rfl, p, _, _, _, rfl, rfl, SqL.of g1, rfl, _, _, rfl, rfl, _, rfl, ?_⟩
      refine iteF' (by rfl) ?_
      -- s[2] = s[2] + 1
      refine ⟨_, rfl, p, _, _, _, rfl, rfl, SqL.of g1, rfl, _, _, rfl, rfl, _, rfl, p, _, 2, 2, rfl, rfl, g1, rfl, ?_⟩
      generalize e3 : upd H2 p _ = H3
      have a1 : H3 p = some (.lst [.ref l, .int 0, .int (c + 1), .int d]) := by rw [← e3]; exact upd_same
      have a2 : H3 l = some (.lst (([] : List Int).map V.int)) := by rw [← e3, upd_ne (Ne.symm hne)]; exact g2
      have aO : Old p l H H3 := by rw [← e3]; exact old_upd gO (.inl rfl)
      have hc : c + 1 ≤ 1000001 := by omega
      clear e3
      refine ⟨_, rfl, p, _, _, _, rfl, rfl, SqL.of a1, rfl, _, rfl, p, _, _, _, rfl, rfl, SqL.of a1, rfl, _, _, rfl, rfl, .inl ⟨by decide, by decide⟩, _, _, rfl, rfl, _, _, rfl, rfl, _, _, rfl, rfl, ⟨by decide, by decide, stm_small h7 h8 (by omega) hc⟩, .inl ⟨_, rfl, _, _, rfl, rfl, (by show (0 : Int) < 2147483629; decide), ?_⟩⟩
      have m1 := Int.emod_nonneg ((d + 104729 * (c + 1) + 17) ^ (5 : Int).toNat) (show (2147483629 : Int) ≠ 0 by decide)
      have m2 := Int.emod_lt_of_pos ((d + 104729 * (c + 1) + 17) ^ (5 : Int).toNat) (show (0 : Int) < 2147483629 by decide)
      refine ⟨_, rfl, _, _, rfl, rfl, .inr ⟨by decide, by decide⟩, _, rfl, p, _, _, _, rfl, rfl, SqL.of a1, rfl, _, _, rfl, rfl, .inl ⟨by decide, by decide⟩, _, rfl, p, _, _, _, rfl, rfl, SqL.of a1, rfl, _, _, rfl, rfl, .inr ⟨by omega, by omega⟩, _, _, rfl, rfl, _, _, rfl, rfl, _, _, rfl, rfl, ⟨by decide, by decide, stm_small2 m1 m2 (by omega) hc⟩, .inl ⟨_, rfl, _, _, rfl, rfl, (by show (0 : Int) < 1000000007; decide), ?_⟩⟩
      refine ⟨_, rfl, .inl ⟨_, rfl, _, rfl, _, _, rfl, rfl, (by show (0 : Int) < many; omega), ?_⟩⟩
      exact hQ _ _ aO ⟨hne, [], 0, c + 1, d, a1, a2, Nat.zero_le _, Int.le_refl 0, by omega, by omega, h7, h8⟩ (Int.emod_nonneg _ (by omega)) (Int.emod_lt_of_pos _ (by omega))
  · refine iteF' (decide_eq_false fun z => hx (V.int.inj z)) ?_
    have hx1 : 0 < x := by omega
    refine ⟨_, rfl, p, _, _, _, rfl, rfl, SqL.of h1, rfl, _, _, rfl, rfl, _, rfl, ?_⟩
    refine iteT' (decide_eq_true hx1) ?_
    refine ⟨_, rfl, p, _, _, _, rfl, rfl, SqL.of h1, rfl, .inl ⟨_, rfl, _, rfl, _, _, rfl, rfl, (by show (0 : Int) < many; omega), ?_⟩⟩
    refine ⟨_, rfl, p, _, _, _, rfl, rfl, SqL.of h1, rfl, _, rfl, _, _, rfl, rfl, ⟨by omega, by omega⟩, _, rfl, p, _, 1, 1, rfl, rfl, h1, rfl, _, rfl, ?_⟩
    refine hQ _ _ (old_upd hO (.inl rfl)) ⟨hne, ns, x / many, c, d, upd_same, by rw [upd_ne (Ne.symm hne)]; exact h2, h3, Int.ediv_nonneg h4 (by omega), h5, by omega, h7, h8⟩ (Int.emod_nonneg _ (by omega)) (Int.emod_lt_of_pos _ (by omega))
end
end K17

set_option Elab.async false
set_option linter.all false
set_option maxRecDepth 100000
set_option maxHeartbeats 0
namespace K17
open PySem PySem.Spec PyProof.Rows L2 RC
section
variable {P : Program} {w : World} {K : PySem.W.Frag} {mg : Str → Option Value} {base : Heap}
/-! ### names of loggers -/
def signs : Str := "abcdefghijklmnopqrstuvwxyzABCDEFGHIJKLMNOPQRSTUVWXYZ0123456789_"
def partB (t : Str) : Bool := decide (t ≠ "") && t.cps.toList.all fun c => decide (c ∈ signs.cps.toList)
theorem take_more {α : Type} {l : List α} {i : Nat} {c : α} (h : l[i]? = some c) : l.take (i + 1) = l.take i ++ [c] := by
  rw [List.take_add_one, h]; rfl
theorem yes_if {σ : L2.St} {H : Hp} {A B : Hp → Prop} (h : A H) : tYes σ H (fun b H3 => if b = true then A H3 else B H3) := by
  show (if true = true then A H else B H)
  rw [if_pos rfl]; exact h
def spIsPart : Sp := fun vs H Q _ => ∃ t : Str, vs = [.str t] ∧ t.cps.size ≤ 1000000 ∧ ∀ H', Same H H' → Q (.bl (partB t)) H'
theorem ok_is_part {f : Addr} (T : Txt P w K mg) (F : Stands K "is_part" "is_part" s_is_part [] f) : Callable P w K mg base 1 f ["text"] [] spIsPart := by
  refine F.call0 sc_is_part (fun vs H Q E h => ?_) (fun cdv A outer s H vs Q E hr h => ?_) (fun _ _ _ _ _ _ us hl => match us, hl with | [_], _ => rfl)
  · obtain ⟨t, rfl, _⟩ := h; rfl
  obtain ⟨t, rfl, ht, hQ⟩ := h
  refine ⟨_, (pss_one (ps_ret (pe_and (pe_cmpR op_ne (pv 0) pe_str (nomark _)) (pe_one (pe_callB (cr_all rfl) (by rfl) T.b_all (by decide +kernel) (pa_cons (pe_lc (own := [("sign", 1)]) (by rfl) sc_is_part.nd (pi_str (pv 0)) (blkOk_by (own := [("sign", 1)]) (N := nm_is_part) (sc := defScope s_is_part) (by decide +kernel)) (fun _ _ _ _ _ => (pg_name (i := 1) sc_is_part.nd rfl (by first | exact Or.inl rfl | exact Or.inr rfl))) (fun _ _ _ _ _ => pts_nil) (fun _ _ _ _ _ => (pe_cmpR op_inS (pv 1) (pe_gs (by rfl) T.g_SIGNS) (by rfl)))) pa_nil)))))), ?_⟩
  refine ⟨_, rfl, rfl, _, rfl, ?_⟩
  by_cases e : t = ""
  · subst e
    exact iteF' (by decide +kernel) (hQ H (Same.refl H))
  refine iteT' (by simp [e]) ?_
  refine ⟨_, rfl, t, rfl, fun D hD => ?_⟩
  refine lc_it walk_str (fun i H' => H' = upd H D (.lst ((t.cps.toList.take i).map fun c => V.bl (decide (c ∈ signs.cps.toList))))) rfl (fun _ _ _ _ => trivial) (fun i x H1 H2 hi hp hy => ?_) (fun H1 hp => ?_)
  · obtain ⟨rfl, c, hc, rfl⟩ := hy
    subst hp
    have hc' : t.cps.toList[i]? = some c := by simpa using hc
    refine ⟨rfl, yes_if ?_⟩
    refine ⟨_, rfl, c, signs, rfl, rfl, _, upd_same, ?_, ?_⟩
    · rw [List.length_map, List.length_take]; rw [sizeLine_eq]; omega
    · rw [upd_upd, take_more hc', List.map_append]; rfl
  · subst hp
    refine ⟨D, t.cps.toList.map fun c => decide (c ∈ signs.cps.toList), rfl, SqL.of ?_, ?_⟩
    · rw [upd_same, List.map_map, ← Array.length_toList, List.take_length]; rfl
    · have e2 : ((t.cps.toList.map fun c => decide (c ∈ signs.cps.toList)).all id) = partB t := by
        unfold partB; rw [List.all_map, decide_eq_true e]; rfl
      rw [e2]
      exact hQ _ (same_new hD _)
def spAreParts : Sp := fun vs H Q _ => ∃ t : Str, vs = [.str t] ∧ t.cps.size ≤ 1000000 ∧ (Txt.split t ".").length ≤ 1000000 ∧ (∀ u ∈ Txt.split t ".", u.cps.size ≤ 1000000) ∧ ∀ H', Same H H' → Q (.bl ((Txt.split t ".").all partB)) H'
theorem ok_are_parts {f : Addr} (T : Txt P w K mg) (F : Stands K "are_parts" "are_parts" s_are_parts [] f) (c_is_part : Callable P w K mg base 1 (He.ga K "is_part") ["text"] [] spIsPart) : Callable P w K mg base 2 f ["thing"] [] spAreParts := by
  refine F.call0 sc_are_parts (fun vs H Q E h => ?_) (fun cdv A outer s H vs Q E hr h => ?_) (fun _ _ _ _ _ _ us hl => match us, hl with | [_], _ => rfl)
  · obtain ⟨t, rfl, _⟩ := h; rfl
  obtain ⟨t, rfl, ht, hN, hP, hQ⟩ := h
  refine ⟨_, (pss_one (ps_ret (pe_and (pe_callB call_isi (by rfl) T.b_isinstance (by decide +kernel) (pa_cons (pv 0) (pa_cons (pe_bltn (v := .ty "str") (u := .type "str") (by rfl) T.b_str (by decide +kernel) rfl) pa_nil))) (pe_one (pe_callB (cr_all rfl) (by rfl) T.b_all (by decide +kernel) (pa_cons (pe_lc (own := [("part", 1)]) (by rfl) sc_are_parts.nd (pi_list (pe_split (pv 0) pe_str)) (blkOk_by (own := [("part", 1)]) (N := nm_are_parts) (sc := defScope s_are_parts) (by decide +kernel)) (fun _ _ _ _ _ => (pg_name (i := 1) sc_are_parts.nd rfl (by first | exact Or.inl rfl | exact Or.inr rfl))) (fun _ _ _ _ _ => pts_nil) (fun _ _ _ _ _ => (pe_fn T.g_is_part c_is_part (hr.mono (by first | decide | exact Nat.le_refl _)) (by rfl) (pa_cons (pv 1) pa_nil)))) pa_nil)))))), ?_⟩
  refine ⟨_, rfl, _, _, _, _, _, rfl, .ty _, .base (.str _), kit_ty (b := "str") (by decide +kernel), _, rfl, iteT ?_⟩
  refine ⟨_, rfl, ⟨t, rfl⟩, t, ".", rfl, rfl, (by decide), (by rw [sizeLine_eq]; exact Nat.le_trans (Nat.add_le_add_right ht 2) (by decide)), fun p hp => ?_⟩
  refine ⟨p, rfl, ⟨_, SqL.of upd_same⟩, fun D hD => ?_⟩
  have npD : p ≠ D := ne_of_none upd_same hD
  refine lc_it walk_list (fun i H' => Same (upd H p (.lst ((Txt.split t ".").map V.str))) H' ∧ H' D = some (.lst (((Txt.split t ".").take i).map fun u => V.bl (partB u)))) ⟨same_new hD _, upd_same⟩ (fun i H' _ h => SqL.of (h.1 _ _ upd_same)) (fun i x H1 H2 hi hp hy => ?_) (fun H1 h1 => ?_)
  · obtain ⟨rfl, hx⟩ := hy
    obtain ⟨h1, h2⟩ := hp
    rw [List.getElem?_map] at hx
    obtain ⟨u, hu, rfl⟩ := Option.map_eq_some_iff.mp hx
    rw [List.length_map] at hi
    refine ⟨rfl, yes_if ?_⟩
    refine ⟨_, rfl, u, rfl, hP u (List.mem_of_getElem? hu), fun H3 h3 => ⟨_, h3 _ _ h2, ?_, ?_, ?_⟩⟩
    · rw [List.length_map, List.length_take, sizeLine_eq]; omega
    · intro b o hb
      rw [upd_ne (ne_of_none hb hD)]; exact h3 _ _ (h1 _ _ hb)
    · rw [upd_same, take_more hu, List.map_append]; rfl
  · rw [List.length_map, List.take_length] at h1
    refine ⟨D, (Txt.split t ".").map partB, rfl, SqL.of ?_, ?_⟩
    · rw [h1.2, List.map_map]; rfl
    · rw [List.all_map]
      exact hQ _ ((same_new hp _).trans h1.1)
end
end K17

set_option Elab.async false
set_option linter.all false
set_option maxRecDepth 100000
set_option maxHeartbeats 0
namespace K17
open PySem PySem.Spec PyProof.Rows L2 RC
section
variable {P : Program} {w : World} {K : PySem.W.Frag} {mg : Str → Option Value} {base : Heap}
/-! ### what the law draws -/
def spPick (K : PySem.W.Frag) : Sp := fun vs H Q _ => ∃ (s l p : Addr) (n : Nat) (xs : List V), vs = [.ref s, .ref p] ∧ Stm H s l n ∧ n ≤ 1000000 ∧ p ≠ s ∧ p ≠ l ∧ H p = some (.lst xs) ∧ 1 ≤ xs.length ∧ xs.length ≤ 1000 ∧ ∀ (H' : Hp) (x : V), Old s l H H' → Stm H' s l (n + 1) → x ∈ xs → Q x H'
theorem ok_pick {f : Addr} (T : Txt P w K mg) (F : Stands K "_law_pick" "_law_pick" s__law_pick [] f) (c__law_draw : Callable P w K mg base 1 (He.ga K "_law_draw") ["_law_s", "_law_many"] [] spDraw) : Callable P w K mg base 2 f ["_law_s", "_law_some"] [] (spPick K) := by
  refine F.call0 sc__law_pick (fun vs H Q E h => ?_) (fun cdv A outer s H vs Q E hr h => ?_) (fun _ _ _ _ _ _ us hl => match us, hl with | [_, _], _ => rfl)
  · obtain ⟨s, l, p, n, xs, rfl, _⟩ := h; rfl
  obtain ⟨s, l, p, n, xs, rfl, hs, hn, nps, npl, hp, hx1, hx2, hQ⟩ := h
  refine ⟨_, (pss_one (ps_ret (pe_ix ix_list (pv 1) (pe_fn T.g__law_draw c__law_draw (hr.mono (by first | decide | exact Nat.le_refl _)) (by rfl) (pa_cons (pv 0) (pa_cons (pe_callB call_len (by rfl) T.b_len (by decide +kernel) (pa_cons (pv 1) pa_nil)) pa_nil))) (fun _ _ => rfl)))), ?_⟩
  refine ⟨_, rfl, _, rfl, _, rfl, _, xs.length, rfl, .inl ⟨xs, SqL.of hp, rfl⟩, s, l, n, xs.length, rfl, hs, hn, by omega, by omega, fun H' d h1 h2 h3 h4 => ?_⟩
  obtain ⟨j, rfl⟩ := Int.eq_ofNat_of_zero_le h3
  have hj : j < xs.length := by omega
  refine ⟨p, xs, j, xs[j], rfl, rfl, SqL.of (h1 _ _ nps npl hp), atI_nat (by simp [hj]), ?_⟩
  exact hQ H' _ h1 h2 (List.getElem_mem hj)
theorem join_size (y : Str) : ∀ ps : List Str, (Txt.join y ps).length ≤ (ps.map (·.length)).sum + ps.length * y.length := by
  intro ps
  rw [TL.join_eq, TL.len_tl, TL.tl_join]
  induction ps with
  | nil => exact Nat.zero_le _
  | cons p r ih =>
    cases r with
    | nil => show (TL.tl p).length ≤ _; rw [← TL.len_tl]; simp
    | cons q t =>
      show (TL.tl p ++ (TL.tl y ++ TL.joinL (TL.tl y) ((q :: t).map TL.tl))).length ≤ _
      rw [List.length_append, List.length_append, ← TL.len_tl, ← TL.len_tl]
      simp only [List.map_cons, List.sum_cons, List.length_cons] at ih ⊢
      rw [Nat.succ_mul]
      omega
theorem old_new {s l D : Addr} {H H' : Hp} {o : HO} (h : Old s l H H') (hD : H D = none) : Old s l H (upd H' D o) := fun b u h1 h2 e => by rw [upd_ne (ne_of_none e hD)]; exact h b u h1 h2 e
theorem _root_.RC.Stm.put {H : Hp} {s l D : Addr} {n : Nat} {o : HO} (h : Stm H s l n) (h1 : D ≠ s) (h2 : D ≠ l) : Stm (upd H D o) s l n := by
  obtain ⟨ne, ns, x, c, d, g1, g2, g3⟩ := h
  exact ⟨ne, ns, x, c, d, by rw [upd_ne (Ne.symm h1)]; exact g1, by rw [upd_ne (Ne.symm h2)]; exact g2, g3⟩
def parts5 : List Str := ["a", "b", "ab", "A", "_1"]
theorem len_add (a b : Str) : (a ++ b).length = a.length + b.length := by
  rw [TL.len_tl, TL.tl_append, List.length_append, ← TL.len_tl, ← TL.len_tl]
theorem sum_parts : ∀ ps : List Str, (∀ p ∈ ps, p ∈ parts5) → (ps.map (·.length)).sum ≤ ps.length * 2
  | [], _ => Nat.le_refl _
  | p :: r, h => by
    have a : ∀ z ∈ parts5, z.length ≤ 2 := by decide
    have i1 := sum_parts r (fun z hz => h z (List.mem_cons_of_mem _ hz))
    have i2 := a p (h p List.mem_cons_self)
    simp only [List.map_cons, List.sum_cons, List.length_cons]
    omega
end
end K17

set_option Elab.async false
set_option linter.all false
set_option maxRecDepth 100000
set_option maxHeartbeats 0
namespace K17
open PySem PySem.Spec PyProof.Rows L2 RC
section
variable {P : Program} {w : World} {K : PySem.W.Frag} {mg : Str → Option Value} {base : Heap}
/-- all but p is as it was -/
def SameBut (p : Addr) (H H' : Hp) : Prop := ∀ b o, b ≠ p → H b = some o → H' b = some o
theorem SameBut.trans {p : Addr} {H H1 H2 : Hp} (a : SameBut p H H1) (b : SameBut p H1 H2) : SameBut p H H2 := fun c o h e => b c o h (a c o h e)
theorem SameBut.of {p : Addr} {H H' : Hp} (a : Same H H') : SameBut p H H' := fun c o _ e => a c o e
theorem SameBut.put {p : Addr} {H : Hp} {o : HO} : SameBut p H (upd H p o) := fun c u h e => by rw [upd_ne h]; exact e
theorem made_same {H H' : Hp} {x dx C : Addr} {o : HO} {fs : List (Str × V)} (hx : H x = none) (hd : H dx = none) (b : SameBut x (upd (upd H dx o) x (.ins C dx fs)) H') : Same H H' := fun c u e => by
  have h1 : c ≠ x := ne_of_none e hx
  have h2 : c ≠ dx := ne_of_none e hd
  exact b c u h1 (by rw [upd_ne h1, upd_ne h2]; exact e)
def spFiltererInit (K : PySem.W.Frag) : Sp := fun vs H Q _ => ∃ (C p dx : Addr) (fs : List (Str × V)), vs = [.ref p] ∧ H p = some (.ins C dx fs) ∧ Cls K C ∧ NoAttr K C "filters" ∧ fs.length < 100 ∧ ∀ l, H l = none → Q .non (upd (upd H l (.lst [])) p (.ins C dx (putF "filters" (.ref l) fs)))
theorem ok_filterer_init {f : Addr} (T : Txt P w K mg) (F : Stands K "__init__" "Filterer.__init__" s_Filterer_init [] f) : Callable P w K mg base 1 f ["self"] [] (spFiltererInit K) := by
  refine F.call0 sc_Filterer_init (fun vs H Q E h => ?_) (fun cdv A outer s H vs Q E hr h => ?_) (fun _ _ _ _ _ _ us hl => match us, hl with | [_], _ => rfl)
  · obtain ⟨C, p, dx, fs, rfl, _⟩ := h; rfl
  obtain ⟨C, p, dx, fs, rfl, hp, c, n, hl, hQ⟩ := h
  refine ⟨_, (pss_one (ps_fld (pv 0) (pe_lst pa_nil) rfl)), ?_⟩
  refine ⟨(by show 0 ≤ sizeLine; decide), fun l hl' => ?_⟩
  exact ⟨_, rfl, p, C, dx, fs, rfl, (by rw [upd_ne (ne_of_none hp hl')]; exact hp), c, n, (by omega), hQ l hl'⟩
end
end K17

set_option Elab.async false
set_option linter.all false
set_option maxRecDepth 100000
set_option maxHeartbeats 0
namespace K17
open PySem PySem.Spec PyProof.Rows L2 RC
section
variable {P : Program} {w : World} {K : PySem.W.Frag} {mg : Str → Option Value} {base : Heap}
/-! ### what is made -/
abbrev CY (K : PySem.W.Frag) : Addr := He.ga K "Yard"
abbrev CL (K : PySem.W.Frag) : Addr := He.ga K "Logger"
def spEnrol (K : PySem.W.Frag) : Sp := fun vs H Q _ => ∃ (y h dy m : Addr) (fs : List (Str × V)) (xs : List V), vs = [.ref y, .ref h] ∧ H y = some (.ins (CY K) dy fs) ∧ fs.lookup ("made" : Str) = some (.ref m) ∧ H m = some (.lst xs) ∧ xs.length ≤ 1000 ∧ Q .non (upd H m (.lst (xs ++ [.ref h])))
theorem ok_enrol {f : Addr} (T : Txt P w K mg) (F : Stands K "enrol" "Yard.enrol" s_Yard_enrol [] f) : Callable P w K mg base 1 f ["self", "handler"] [] (spEnrol K) := by
  refine F.call0 sc_Yard_enrol (fun vs H Q E h => ?_) (fun cdv A outer s H vs Q E hr h => ?_) (fun _ _ _ _ _ _ us hl => match us, hl with | [_, _], _ => rfl)
  · obtain ⟨y, h, dy, m, fs, xs, rfl, _⟩ := h; rfl
  obtain ⟨y, h, dy, m, fs, xs, rfl, h1, h2, h3, h4, hQ⟩ := h
  refine ⟨_, (pss_one (ps_expr (pe_bm PySem.F.plainAttrs_list PySem.F.slot_list_append PySem.F.type_list_append mt_append (pe_fld (pv 0) rfl) (pa_cons (pv 1) pa_nil)))), ?_⟩
  exact ⟨_, rfl, y, _, dy, fs, _, rfl, h1, T.c_Yard, T.n_Yard_made, h2, .inl ⟨rfl, _, SqL.of h3⟩, _, rfl, m, _, _, rfl, rfl, h3, (by rw [sizeLine_eq]; omega), hQ⟩
/-- what the text says of a class of handlers -/
structure HCls (K : PySem.W.Frag) (C : Addr) : Prop where
  c : Cls K C
  n1 : NoAttr K C "filters"
  n2 : NoAttr K C "yard"
  n3 : NoAttr K C "level"
  n4 : NoAttr K C "formatter"
  n5 : NoAttr K C "name"
  n6 : NoAttr K C "terminator"
  n7 : NoAttr K C "closed"
def hF (l y : Addr) : List (Str × V) := [("filters", .ref l), ("yard", .ref y), ("level", .int 0), ("formatter", .non), ("name", .non), ("terminator", .str "\n"), ("closed", .bl false)]
/-- a handler at p was made: its filters at l; the yard's list of what was made, at m, has it at its end -/
def HMade (K : PySem.W.Frag) (H : Hp) (p C dx y m : Addr) (xs : List V) (H' : Hp) : Prop := ∃ l, (∀ b o, b ≠ p → b ≠ m → H b = some o → H' b = some o) ∧ H l = none ∧ H' p = some (.ins C dx (hF l y)) ∧ H' l = some (.lst []) ∧ H' m = some (.lst (xs ++ [.ref p]))
def spHandlerInit (K : PySem.W.Frag) : Sp := fun vs H Q _ => ∃ (p C dx y dy m : Addr) (fs : List (Str × V)) (xs : List V), vs = [.ref p, .ref y] ∧ H p = some (.ins C dx []) ∧ HCls K C ∧ p ≠ y ∧ H y = some (.ins (CY K) dy fs) ∧ fs.lookup ("made" : Str) = some (.ref m) ∧ fs.lookup ("enrol" : Str) = none ∧ H m = some (.lst xs) ∧ xs.length ≤ 1000 ∧
  ∀ H', HMade K H p C dx y m xs H' → Q .non H'
theorem ok_handler_init {f : Addr} (T : Txt P w K mg) (F : Stands K "__init__" "Handler.__init__" s_Handler_init [] f) (c_Filterer_init : Callable P w K mg base 1 (He.ma K (He.ga K "Filterer") "__init__") ["self"] [] (spFiltererInit K))
    (c_Yard_enrol : Callable P w K mg base 1 (He.ma K (He.ga K "Yard") "enrol") ["self", "handler"] [] (spEnrol K)) : Callable P w K mg base 2 f ["self", "yard"] [] (spHandlerInit K) := by
  refine F.call0 sc_Handler_init (fun vs H Q E h => ?_) (fun cdv A outer s H vs Q E hr h => ?_) (fun _ _ _ _ _ _ us hl => match us, hl with | [_, _], _ => rfl)
  · obtain ⟨p, C, dx, y, dy, m, fs, xs, rfl, _⟩ := h; rfl
  obtain ⟨p, C, dx, y, dy, m, fs, xs, rfl, hp, c, npy, hy, hm, he, hmm, hxs, hQ⟩ := h
  refine ⟨_, (pss_cons (ps_expr (pe_cf T.cf_Filterer_init c_Filterer_init (hr.mono (by first | decide | exact Nat.le_refl _)) (pe_glob (v := .ref _) (by rfl) T.g_Filterer rfl) (pa_cons (pv 0) pa_nil)))
      (pss_cons (ps_fld (pv 0) (pv 1) rfl)
      (pss_cons (ps_fld (pv 0) pe_int rfl)
      (pss_cons (ps_fld (pv 0) pe_non rfl)
      (pss_cons (ps_fld (pv 0) pe_non rfl)
      (pss_cons (ps_fld (pv 0) pe_str rfl)
      (pss_cons (ps_fld (pv 0) pe_bl rfl)
      (pss_one (ps_expr (pe_mt T.c_Yard T.m_Yard_enrol c_Yard_enrol (hr.mono (by first | decide | exact Nat.le_refl _)) (pv 1) (pa_cons (pv 0) pa_nil))))))))))), ?_⟩
  refine ⟨rfl, _, rfl, C, p, dx, [], rfl, hp, c.c, c.n1, (by decide), fun l hl => ?_⟩
  refine ⟨_, rfl, _, rfl, p, C, dx, _, rfl, upd_same, c.c, c.n2, (by show 1 < 1000; decide), ?_⟩
  rw [upd_upd]
  refine ⟨_, rfl, p, C, dx, _, rfl, upd_same, c.c, c.n3, (by show 2 < 1000; decide), ?_⟩
  rw [upd_upd]
  refine ⟨_, rfl, p, C, dx, _, rfl, upd_same, c.c, c.n4, (by show 3 < 1000; decide), ?_⟩
  rw [upd_upd]
  refine ⟨_, rfl, p, C, dx, _, rfl, upd_same, c.c, c.n5, (by show 4 < 1000; decide), ?_⟩
  rw [upd_upd]
  refine ⟨_, rfl, p, C, dx, _, rfl, upd_same, c.c, c.n6, (by show 5 < 1000; decide), ?_⟩
  rw [upd_upd]
  refine ⟨_, rfl, p, C, dx, _, rfl, upd_same, c.c, c.n7, (by show 6 < 1000; decide), ?_⟩
  rw [upd_upd]
  generalize e1 : upd (upd H l (.lst [])) p _ = H1
  have nlp : l ≠ p := fun z => by rw [z, hp] at hl; cases hl
  have npm : p ≠ m := fun z => by rw [z, hmm] at hp; cases hp
  have nlm : l ≠ m := fun z => by rw [z, hmm] at hl; cases hl
  have q1 : H1 p = some (.ins C dx (hF l y)) := by rw [← e1]; exact upd_same
  have q2 : H1 l = some (.lst []) := by rw [← e1, upd_ne nlp]; exact upd_same
  have q3 : ∀ b o, b ≠ p → H b = some o → H1 b = some o := fun b o h1 h2 => by rw [← e1, upd_ne h1]; exact same_new hl _ b o h2
  clear e1
  refine ⟨_, rfl, y, dy, fs, rfl, q3 _ _ (Ne.symm npy) hy, he, _, rfl, y, p, dy, m, fs, xs, rfl, q3 _ _ (Ne.symm npy) hy, hm, q3 _ _ (Ne.symm npm) hmm, hxs, ?_⟩
  exact hQ _ ⟨l, fun b o h1 h2 h3 => by rw [upd_ne h2]; exact q3 b o h1 h3, hl, by rw [upd_ne npm]; exact q1, by rw [upd_ne nlm]; exact q2, upd_same⟩
def spStreamInit (K : PySem.W.Frag) : Sp := fun vs H Q _ => ∃ (p dx y dy m : Addr) (st : Str) (fs : List (Str × V)) (xs : List V), vs = [.ref p, .ref y, .str st] ∧ H p = some (.ins (He.ga K "StreamHandler") dx []) ∧ p ≠ y ∧ H y = some (.ins (CY K) dy fs) ∧ fs.lookup ("made" : Str) = some (.ref m) ∧ fs.lookup ("enrol" : Str) = none ∧ H m = some (.lst xs) ∧ xs.length ≤ 1000 ∧
  ∀ (H' : Hp) (l : Addr), (∀ b o, b ≠ p → b ≠ m → H b = some o → H' b = some o) → H l = none → H' p = some (.ins (He.ga K "StreamHandler") dx (hF l y ++ ([("stream", .str st)] : List (Str × V)))) → H' l = some (.lst []) → H' m = some (.lst (xs ++ [.ref p])) → Q .non H'
theorem ok_stream_init {f : Addr} (T : Txt P w K mg) (F : Stands K "__init__" "StreamHandler.__init__" s_StreamHandler_init [.str "stderr"] f) (c_Handler_init : Callable P w K mg base 2 (He.ma K (He.ga K "Handler") "__init__") ["self", "yard"] [] (spHandlerInit K)) :
    Callable P w K mg base 3 f ["self", "yard", "stream"] [.str "stderr"] (spStreamInit K) := by
  refine F.call sc_StreamHandler_init 2 0 (fun vs H Q E h => ?_) (fun cdv A outer s H vs Q E hr h => ?_) (fun z => nomatch z) fun _ => ⟨rfl, fun _ _ _ _ _ _ _ us its hl hi => match us, hl, its, hi with | [_, _], _, [_], _ => ⟨_, rfl, rfl⟩⟩
  · obtain ⟨p, dx, y, dy, m, st, fs, xs, rfl, _⟩ := h; rfl
  obtain ⟨p, dx, y, dy, m, st, fs, xs, rfl, hp, npy, hy, hm, he, hmm, hxs, hQ⟩ := h
  refine ⟨_, (pss_cons (ps_expr (pe_cf T.cf_Handler_init c_Handler_init (hr.mono (by first | decide | exact Nat.le_refl _)) (pe_glob (v := .ref _) (by rfl) T.g_Handler rfl) (pa_cons (pv 0) (pa_cons (pv 1) pa_nil))))
      (pss_one (ps_fld (pv 0) (pv 2) rfl))), ?_⟩
  have c : HCls K (He.ga K "StreamHandler") := ⟨T.c_StreamHandler, T.n_StreamHandler_filters, T.n_StreamHandler_yard, T.n_StreamHandler_level, T.n_StreamHandler_formatter, T.n_StreamHandler_name, T.n_StreamHandler_terminator, T.n_StreamHandler_closed⟩
  refine ⟨rfl, _, rfl, _, rfl, p, _, dx, y, dy, m, fs, xs, rfl, hp, c, npy, hy, hm, he, hmm, hxs, fun H1 hM => ?_⟩
  obtain ⟨l, k1, k2, k3, k4, k5⟩ := hM
  have nlp : l ≠ p := fun z => by rw [z, hp] at k2; cases k2
  have npm : m ≠ p := fun z => by rw [z, hp] at hmm; cases hmm
  refine ⟨_, rfl, _, rfl, p, _, dx, _, rfl, k3, T.c_StreamHandler, T.n_StreamHandler_stream, (by show 7 < 1000; decide), ?_⟩
  exact hQ _ l (fun b o h1 h2 h3 => by rw [upd_ne h1]; exact k1 b o h1 h2 h3) k2 upd_same (by rw [upd_ne nlp]; exact k4) (by rw [upd_ne npm]; exact k5)
def lF (l y : Addr) (name : Str) (lev : Int) (h : Addr) (par : V) : List (Str × V) := [("filters", .ref l), ("yard", .ref y), ("name", .str name), ("level", .int lev), ("propagate", .bl true), ("disabled", .bl false), ("handlers", .ref h), ("parent", par)]
def spLoggerInit (K : PySem.W.Frag) : Sp := fun vs H Q _ => ∃ (p dx y : Addr) (name : Str) (lev : Int), vs = [.ref p, .ref y, .str name, .int lev] ∧ H p = some (.ins (CL K) dx []) ∧
  ∀ (H' : Hp) (l h : Addr), SameBut p H H' → H l = none → H h = none → l ≠ h → H' p = some (.ins (CL K) dx (lF l y name lev h .non)) → H' l = some (.lst []) → H' h = some (.lst []) → Q .non H'
theorem ok_logger_init {f : Addr} (T : Txt P w K mg) (F : Stands K "__init__" "Logger.__init__" s_Logger_init [] f) (c_Filterer_init : Callable P w K mg base 1 (He.ma K (He.ga K "Filterer") "__init__") ["self"] [] (spFiltererInit K)) :
    Callable P w K mg base 2 f ["self", "yard", "name", "level"] [] (spLoggerInit K) := by
  refine F.call0 sc_Logger_init (fun vs H Q E h => ?_) (fun cdv A outer s H vs Q E hr h => ?_) (fun _ _ _ _ _ _ us hl => match us, hl with | [_, _, _, _], _ => rfl)
  · obtain ⟨p, dx, y, name, lev, rfl, _⟩ := h; rfl
  obtain ⟨p, dx, y, name, lev, rfl, hp, hQ⟩ := h
  refine ⟨_, (pss_cons (ps_expr (pe_cf T.cf_Filterer_init c_Filterer_init (hr.mono (by first | decide | exact Nat.le_refl _)) (pe_glob (v := .ref _) (by rfl) T.g_Filterer rfl) (pa_cons (pv 0) pa_nil)))
      (pss_cons (ps_fld (pv 0) (pv 1) rfl)
      (pss_cons (ps_fld (pv 0) (pv 2) rfl)
      (pss_cons (ps_fld (pv 0) (pv 3) rfl)
      (pss_cons (ps_fld (pv 0) pe_bl rfl)
      (pss_cons (ps_fld (pv 0) pe_bl rfl)
      (pss_cons (ps_fld (pv 0) (pe_lst pa_nil) rfl)
      (pss_one (ps_fld (pv 0) pe_non rfl))))))))), ?_⟩
  refine ⟨rfl, _, rfl, _, p, dx, [], rfl, hp, T.c_Logger, T.n_Logger_filters, (by decide), fun l hl => ?_⟩
  refine ⟨_, rfl, _, rfl, p, _, dx, _, rfl, upd_same, T.c_Logger, T.n_Logger_yard, (by show 1 < 1000; decide), ?_⟩
  rw [upd_upd]
  refine ⟨_, rfl, _, rfl, p, _, dx, _, rfl, upd_same, T.c_Logger, T.n_Logger_name, (by show 2 < 1000; decide), ?_⟩
  rw [upd_upd]
  refine ⟨_, rfl, _, rfl, p, _, dx, _, rfl, upd_same, T.c_Logger, T.n_Logger_level, (by show 3 < 1000; decide), ?_⟩
  rw [upd_upd]
  refine ⟨_, rfl, p, _, dx, _, rfl, upd_same, T.c_Logger, T.n_Logger_propagate, (by show 4 < 1000; decide), ?_⟩
  rw [upd_upd]
  refine ⟨_, rfl, p, _, dx, _, rfl, upd_same, T.c_Logger, T.n_Logger_disabled, (by show 5 < 1000; decide), ?_⟩
  rw [upd_upd]
  refine ⟨(by show 0 ≤ sizeLine; decide), fun h hh => ?_⟩
  obtain ⟨nhp, hh1⟩ := upd_none hh
  obtain ⟨nhl, hh2⟩ := upd_none hh1
  refine ⟨_, rfl, p, _, dx, _, rfl, (by rw [upd_ne (Ne.symm nhp)]; exact upd_same), T.c_Logger, T.n_Logger_handlers, (by show 6 < 1000; decide), ?_⟩
  refine ⟨_, rfl, p, _, dx, _, rfl, upd_same, T.c_Logger, T.n_Logger_parent, (by show 7 < 1000; decide), ?_⟩
  rw [upd_upd]
  have nlp : l ≠ p := fun z => by rw [z, hp] at hl; cases hl
  refine hQ _ l h (fun b o h1 h2 => ?_) hl hh2 (Ne.symm nhl) upd_same ?_ ?_
  · have n1 : b ≠ h := ne_of_none h2 hh2
    have n2 : b ≠ l := ne_of_none h2 hl
    rw [upd_ne h1, upd_ne n1, upd_ne h1, upd_ne n2]; exact h2
  · rw [upd_ne nlp, upd_ne (Ne.symm nhl), upd_ne nlp]; exact upd_same
  · rw [upd_ne nhp]; exact upd_same
end
end K17

set_option Elab.async false
set_option linter.all false
set_option maxRecDepth 100000
set_option maxHeartbeats 0
namespace K17
open PySem PySem.Spec PyProof.Rows L2 RC
section
variable {P : Program} {w : World} {K : PySem.W.Frag} {mg : Str → Option Value} {base : Heap}
/-! ### the tree of loggers -/
abbrev Es : Type := List (Str × Addr)
def lmK (es : Es) : List (Key × V) := es.map fun e => (Sum.inr e.1, V.ref e.2)
theorem valV_lmK (x : Str) : ∀ es : Es, valV (lmK es) (Sum.inr x) = (es.lookup x).map V.ref
  | [] => rfl
  | e :: es => by
    by_cases h : e.1 = x
    · have h1 : valV (lmK (e :: es)) (Sum.inr x) = some (V.ref e.2) := valV_pos (p := ((Sum.inr e.1 : Key), V.ref e.2)) (r := lmK es) (congrArg Sum.inr h)
      rw [h1, List.lookup_cons, beq_iff_eq.mpr h.symm]; rfl
    · have h1 : valV (lmK (e :: es)) (Sum.inr x) = valV (lmK es) (Sum.inr x) := by
        show valV (((Sum.inr e.1 : Key), V.ref e.2) :: lmK es) (Sum.inr x) = _
        unfold valV
        rw [List.find?_cons, show decide ((Sum.inr e.1 : Key) = Sum.inr x) = false from decide_eq_false fun z => h (Sum.inr.inj z)]
      rw [h1, List.lookup_cons, show (x == e.1) = false from by simpa using fun z : x = e.1 => h z.symm, valV_lmK x es]
/-- the first many parts of a name -/
def pre (parts : List Str) (k : Nat) : Str := Txt.join "." (parts.take k)
/-- the logger of the longest beginning of at most k parts -/
def parIx (es : Es) (parts : List Str) : Nat → Option Addr
  | 0 => none
  | k + 1 => match es.lookup (pre parts (k + 1)) with
    | some a => some a
    | none => parIx es parts k
def parA (es : Es) (rt : Addr) (nm : Str) : Addr := (parIx es (Txt.split nm ".") ((Txt.split nm ".").length - 1)).getD rt
/-- a name whose parts are not too many and not too long -/
structure Sized (nm : Str) : Prop where
  all : nm.cps.size ≤ 1000000
  few : (Txt.split nm ".").length ≤ 1000
  short : ∀ u ∈ Txt.split nm ".", u.cps.size ≤ 1000
theorem sum_take (k : Nat) : ∀ parts : List Str, (∀ u ∈ parts, u.cps.size ≤ 1000) → ((parts.take k).map (·.length)).sum ≤ parts.length * 1000 := by
  induction k with
  | zero => intro parts _; simp
  | succ k ih =>
    intro parts h
    cases parts with
    | nil => simp
    | cons p r =>
      have i1 := ih r (fun u hu => h u (List.mem_cons_of_mem _ hu))
      have i2 : p.length ≤ 1000 := h p List.mem_cons_self
      simp only [List.take_succ_cons, List.map_cons, List.sum_cons, List.length_cons]
      omega
theorem cutV_take (xs : List V) (k : Nat) (h : k ≤ xs.length) : cutV xs none (some (k : Int)) = xs.take k := by
  unfold cutV
  rw [HT.sIx_none, HT.sIx_nat, Nat.min_eq_left h, List.drop_zero, Nat.sub_zero]
def spParent (K : PySem.W.Frag) : Sp := fun vs H Q _ => ∃ (y dy lm rt : Addr) (fs : List (Str × V)) (es : Es) (t : Str), vs = [.ref y, .str t] ∧ H y = some (.ins (CY K) dy fs) ∧ fs.lookup ("root" : Str) = some (.ref rt) ∧ fs.lookup ("logger_map" : Str) = some (.ref lm) ∧ H lm = some (.dK (lmK es)) ∧ Sized t ∧ ∀ H', Same H H' → Q (.ref (parA es rt t)) H'
theorem ok_parent {f : Addr} (T : Txt P w K mg) (F : Stands K "parent_of" "parent_of" s_parent_of [] f) : Callable P w K mg base 1 f ["yard", "name"] [] (spParent K) := by
  refine F.call0 sc_parent_of (fun vs H Q E h => ?_) (fun cdv A outer s H vs Q E hr h => ?_) (fun _ _ _ _ _ _ us hl => match us, hl with | [_, _], _ => rfl)
  · obtain ⟨y, dy, lm, rt, fs, es, t, rfl, _⟩ := h; rfl
  obtain ⟨y, dy, lm, rt, fs, es, t, rfl, hy, hroot, hmap, hlm, hz, hQ⟩ := h
  refine ⟨_, (pss_cons (ps_set (i := 2) sc_parent_of.nd rfl (by first | exact Or.inl rfl | exact Or.inr rfl) (pe_split (pv 1) pe_str))
      (pss_cons (ps_for PassesOwn.never rfl (pi_range3 (by rfl) T.b_range (pa_cons (pe_op op_sub (pe_callB call_len (by rfl) T.b_len (by decide +kernel) (pa_cons (pv 2) pa_nil)) pe_int) (pa_cons pe_int (pa_cons (pe_un un_neg pe_int) pa_nil)))) (pg_name (i := 3) sc_parent_of.nd rfl (by first | exact Or.inl rfl | exact Or.inr rfl)) (pss_cons (ps_set (i := 4) sc_parent_of.nd rfl (by first | exact Or.inl rfl | exact Or.inr rfl) (pe_dget1 (hu_of hr) (pe_fld (pv 0) rfl) (pe_join pe_str (pe_slice sl_list (pv 2) po_none (po_some (pv 3)))) ⟨rfl, rfl, rfl, rfl⟩))
      (pss_one (ps_if (pt_cmpR op_notN (pv 4) pe_non (nomark _)) (pss_one (ps_ret (pv 4))) pss_nil))))
      (pss_one (ps_ret (pe_fld (pv 0) rfl))))), ?_⟩
  refine ⟨_, rfl, ⟨t, rfl⟩, t, ".", rfl, rfl, (by decide), (by rw [sizeLine_eq]; exact Nat.le_trans (Nat.add_le_add_right hz.all 2) (by decide)), fun p hp => ?_⟩
  have q1 : upd H p (.lst ((Txt.split t ".").map V.str)) p = some (.lst ((Txt.split t ".").map V.str)) := upd_same
  have s1 : Same H (upd H p (.lst ((Txt.split t ".").map V.str))) := same_new hp _
  generalize upd H p (.lst ((Txt.split t ".").map V.str)) = H1 at q1 s1
  unfold parA at hQ
  have hfew := hz.few
  have hshort := hz.short
  generalize Txt.split t "." = parts at hQ q1 hfew hshort
  have hl : ((parts.map V.str).length : Int) - 1 - 0 = (parts.length : Int) - 1 := by rw [List.length_map]; omega
  refine ⟨_, rfl, .ref p, parts.length, rfl, .inl ⟨_, SqL.of q1, by rw [List.length_map]⟩, _, 1, rfl, rfl, 1, rfl, _, 0, -1, _, rfl, RgC.neg (by omega) (by omega) (by decide) (by decide), ?_⟩
  have en : ((parts.length : Int) - 1 - 0).toNat = parts.length - 1 := by omega
  rw [en]
  refine for_it walk_rangeC (fun i σ H' => Same H1 H' ∧ parIx es parts (parts.length - 1) = parIx es parts (parts.length - 1 - i) ∧ ∃ o3 o4, σ = [some (.ref y), some (.str t), some (.ref p), o3, o4]) ⟨Same.refl H1, rfl, _, _, rfl⟩ (fun _ _ _ _ _ => trivial) (fun i x σ H2 H3 hi hP hx => ?_) (fun σ H2 hP => ?_)
  · obtain ⟨rfl, rfl⟩ := hx
    obtain ⟨s2, e2, o3, o4, rfl⟩ := hP
    obtain ⟨k, hk⟩ : ∃ k, parts.length - 1 - i = k + 1 := ⟨parts.length - 1 - i - 1, by omega⟩
    have ek : (parts.length : Int) - 1 + (i : Nat) * (-1) = ((k + 1 : Nat) : Int) := by omega
    dsimp only
    rw [ek]
    have s12 := s1.trans s2
    refine ⟨_, rfl, y, _, dy, fs, _, rfl, s12 _ _ hy, T.c_Yard, T.n_Yard_logger_map, hmap, lm, rfl, .inl ⟨_, .inl (s12 _ _ hlm)⟩, ⟨".", rfl⟩, _, rfl, _, rfl, _, rfl, p, _, rfl, SqL.of (s2 _ _ q1), fun q hq => ?_⟩
    rw [cutV_take _ _ (by rw [List.length_map]; omega), ← List.map_take]
    have s3 := s2.trans (same_new hq (.lst ((parts.take (k + 1)).map V.str)))
    refine ⟨".", q, parts.take (k + 1), rfl, rfl, .inl (SqL.of upd_same), ?_, _, DGet.k (k := Sum.inr (pre parts (k + 1))) (same_new hq _ _ _ (s12 _ _ hlm)), ?_⟩
    · have a := sum_take (k + 1) parts hshort
      have b : (parts.take (k + 1)).length ≤ parts.length := by rw [List.length_take]; omega
      have c : (("." : Str)).length = 1 := rfl
      rw [c]; omega
    rw [valV_lmK]
    rw [hk] at e2
    cases hL : es.lookup (pre parts (k + 1)) with
    | some a =>
      have e3 : parIx es parts (parts.length - 1) = some a := by rw [e2]; show (match es.lookup (pre parts (k + 1)) with | some a => some a | none => parIx es parts k) = _; rw [hL]
      refine ⟨_, rfl, rfl, _, rfl, iteT' (by rfl) ⟨_, rfl, ?_⟩⟩
      have q := hQ _ (s1.trans s3)
      rw [e3] at q; exact q
    | none =>
      have e3 : parIx es parts (parts.length - 1) = parIx es parts (parts.length - 1 - (i + 1)) := by
        rw [e2, show parts.length - 1 - (i + 1) = k by omega]; show (match es.lookup (pre parts (k + 1)) with | some a => some a | none => parIx es parts k) = _; rw [hL]
      exact ⟨_, rfl, rfl, _, rfl, iteF' (by rfl) ⟨s3, e3, _, _, rfl⟩⟩
  · obtain ⟨s2, e2, o3, o4, rfl⟩ := hP
    rw [show parts.length - 1 - (parts.length - 1) = 0 by omega] at e2
    have s12 := s1.trans s2
    refine ⟨_, rfl, y, _, dy, fs, _, rfl, s12 _ _ hy, T.c_Yard, T.n_Yard_root, hroot, ?_⟩
    have q := hQ _ s12
    rw [e2] at q; exact q
end
end K17

set_option Elab.async false
set_option linter.all false
set_option maxRecDepth 100000
set_option maxHeartbeats 0
namespace K17
open PySem PySem.Spec PyProof.Rows L2 RC
section
variable {P : Program} {w : World} {K : PySem.W.Frag} {mg : Str → Option Value} {base : Heap}
/-! ### placing the loggers -/
structure LG where
  (d l hl : Addr) (lev : Int) (prop dis : Bool)
def lG (q : LG) (y : Addr) (name : Str) (par : V) : List (Str × V) := [("filters", .ref q.l), ("yard", .ref y), ("name", .str name), ("level", .int q.lev), ("propagate", .bl q.prop), ("disabled", .bl q.dis), ("handlers", .ref q.hl), ("parent", par)]
theorem lG_name {q q' : LG} {y y' : Addr} {n n' : Str} {p p' : V} (h : lG q y n p = lG q' y' n' p') : n = n' := by
  have e := congrArg (fun l : List (Str × V) => l.lookup ("name" : Str)) h
  exact V.str.inj (Option.some.inj e)
/-- the loggers of es stand, with the parents par -/
def Logs (K : PySem.W.Frag) (H : Hp) (y : Addr) (es : Es) (g : Addr → LG) (par : Str → V) : Prop := ∀ e ∈ es, H e.2 = some (.ins (CL K) (g e.2).d (lG (g e.2) y e.1 (par e.1)))
theorem lookup_nd : ∀ {es : Es} {e : Str × Addr}, e ∈ es → (es.map (·.1)).Nodup → es.lookup e.1 = some e.2
  | [], _, h, _ => nomatch h
  | a :: es, e, h, nd => by
    rw [List.lookup_cons]
    rcases List.mem_cons.mp h with rfl | h
    · rw [beq_self_eq_true]
    · rw [List.map_cons, List.nodup_cons] at nd
      have hne : e.1 ≠ a.1 := fun z => nd.1 (by rw [← z]; exact List.mem_map_of_mem h)
      rw [show (e.1 == a.1) = false from by simpa using hne]
      exact lookup_nd h nd.2
theorem Logs.inj {K : PySem.W.Frag} {H : Hp} {y : Addr} {es : Es} {g : Addr → LG} {par : Str → V} (L : Logs K H y es g par) {e e' : Str × Addr} (h : e ∈ es) (h' : e' ∈ es) (z : e.2 = e'.2) : e.1 = e'.1 := by
  have a := L e h
  have b := L e' h'
  rw [z, b] at a
  exact lG_name (HO.ins.inj (Option.some.inj a)).2.2.symm
theorem Logs.notY {K : PySem.W.Frag} {H : Hp} {y : Addr} {es : Es} {g : Addr → LG} {par : Str → V} (L : Logs K H y es g par) {a C d : Addr} {fs : List (Str × V)} {v : V} (hy : H a = some (.ins C d fs)) (hm : fs.lookup ("logger_map" : Str) = some v) : a ∉ es.map (·.2) := fun z => by
  obtain ⟨e, he, rfl⟩ := List.mem_map.mp z
  have b := L e he
  rw [hy] at b
  rw [(HO.ins.inj (Option.some.inj b)).2.2] at hm
  exact absurd hm (by show (none : Option V) ≠ some v; exact fun z => nomatch z)
theorem Logs.notIns {K : PySem.W.Frag} {H : Hp} {y : Addr} {es : Es} {g : Addr → LG} {par : Str → V} (L : Logs K H y es g par) {a : Addr} {o : HO} (h : H a = some o) (ho : ∀ C d fs, o ≠ .ins C d fs) : a ∉ es.map (·.2) := fun z => by
  obtain ⟨e, he, rfl⟩ := List.mem_map.mp z
  have b := L e he
  rw [h] at b
  exact ho _ _ _ (Option.some.inj b)
/-- but the loggers of es all stays -/
def ButL (es : Es) (H H' : Hp) : Prop := ∀ b o, b ∉ es.map (·.2) → H b = some o → H' b = some o
def spPlaceAll (K : PySem.W.Frag) : Sp := fun vs H Q _ => ∃ (y dy lm rt : Addr) (fs : List (Str × V)) (es : Es) (g : Addr → LG) (p0 : Str → V), vs = [.ref y] ∧ H y = some (.ins (CY K) dy fs) ∧ fs.lookup ("root" : Str) = some (.ref rt) ∧ fs.lookup ("logger_map" : Str) = some (.ref lm) ∧ H lm = some (.dK (lmK es)) ∧
  (es.map (·.1)).Nodup ∧ (∀ e ∈ es, Sized e.1) ∧ es.length ≤ 1000 ∧ Logs K H y es g p0 ∧ ∀ H', ButL es H H' → Logs K H' y es g (fun n => .ref (parA es rt n)) → Q .non H'
theorem ok_placeAll {f : Addr} (T : Txt P w K mg) (F : Stands K "place_loggers" "place_loggers" s_place_loggers [] f) (c_parent_of : Callable P w K mg base 1 (He.ga K "parent_of") ["yard", "name"] [] (spParent K)) : Callable P w K mg base 2 f ["yard"] [] (spPlaceAll K) := by
  refine F.call0 sc_place_loggers (fun vs H Q E h => ?_) (fun cdv A outer s H vs Q E hr h => ?_) (fun _ _ _ _ _ _ us hl => match us, hl with | [_], _ => rfl)
  · obtain ⟨y, dy, lm, rt, fs, es, g, p0, rfl, _⟩ := h; rfl
  obtain ⟨y, dy, lm, rt, fs, es, g, p0, rfl, hy, hroot, hmap, hlm, hnd, hsz, hlen, hL, hQ⟩ := h
  refine ⟨_, (pss_one (ps_for PassesOwn.never rfl (pi_list (pe_callTy (call_list_dK rfl) (by rfl) T.b_list (by decide +kernel) (pa_cons (pe_fld (pv 0) rfl) pa_nil))) (pg_name (i := 1) sc_place_loggers.nd rfl (by first | exact Or.inl rfl | exact Or.inr rfl)) (pss_one (ps_fld (pe_dget (hu_of hr) (pe_fld (pv 0) rfl) (pv 1) (fun _ _ => rfl)) (pe_fn T.g_parent_of c_parent_of (hr.mono (by first | decide | exact Nat.le_refl _)) (by rfl) (pa_cons (pv 0) (pa_cons (pv 1) pa_nil))) rfl)))), ?_⟩
  refine ⟨_, rfl, y, _, dy, fs, _, rfl, hy, T.c_Yard, T.n_Yard_logger_map, hmap, lm, _, rfl, hlm, fun q hq => ?_⟩
  have ek : (lmK es).map (fun kv => kV kv.1) = es.map fun e => V.str e.1 := by rw [lmK, List.map_map]; rfl
  rw [ek]
  have q1 : upd H q (.lst (es.map fun e => V.str e.1)) q = some (.lst (es.map fun e => V.str e.1)) := upd_same
  have s1 : Same H (upd H q (.lst (es.map fun e => V.str e.1))) := same_new hq _
  generalize upd H q (.lst (es.map fun e => V.str e.1)) = H1 at q1 s1
  have L1 : Logs K H1 y es g p0 := fun e he => s1 _ _ (hL e he)
  have ny := L1.notY (s1 _ _ hy) hmap
  have nlm := L1.notIns (s1 _ _ hlm) (fun _ _ _ z => nomatch z)
  have nq := L1.notIns q1 (fun _ _ _ z => nomatch z)
  refine ⟨q, rfl, ⟨_, SqL.of q1⟩, ?_⟩
  refine for_it walk_list (fun i σ H' => ButL es H1 H' ∧ (∀ (j : Nat) (e : Str × Addr), es[j]? = some e → H' e.2 = some (.ins (CL K) (g e.2).d (lG (g e.2) y e.1 (if j < i then .ref (parA es rt e.1) else p0 e.1)))) ∧ ∃ o1, σ = [some (.ref y), o1])
    ⟨fun _ _ _ e => e, fun j e he => L1 e (List.mem_of_getElem? he), _, rfl⟩ (fun i σ H' _ h => SqL.of (h.1 _ _ nq q1)) (fun i x σ H2 H3 hi hP hx => ?_) (fun σ H2 hP => ?_)
  · obtain ⟨rfl, hx⟩ := hx
    obtain ⟨b2, l2, o1, rfl⟩ := hP
    rw [List.getElem?_map] at hx
    obtain ⟨e, he, rfl⟩ := Option.map_eq_some_iff.mp hx
    have hm := List.mem_of_getElem? he
    refine ⟨_, rfl, _, rfl, y, dy, lm, rt, fs, es, e.1, rfl, b2 _ _ ny (s1 _ _ hy), hroot, hmap, b2 _ _ nlm (s1 _ _ hlm), hsz e hm, fun H4 s4 => ?_⟩
    refine ⟨_, rfl, y, _, dy, fs, _, rfl, s4 _ _ (b2 _ _ ny (s1 _ _ hy)), T.c_Yard, T.n_Yard_logger_map, hmap, _, rfl, lm, .ref e.2, rfl, ?_, e.2, _, _, _, rfl, s4 _ _ (l2 i e he), T.c_Logger, T.n_Logger_parent, (by show 8 < 1000; decide), ?_⟩
    · have g := DGet.k (k := Sum.inr e.1) (s4 _ _ (b2 _ _ nlm (s1 _ _ hlm)))
      rw [valV_lmK, lookup_nd hm hnd] at g; exact g
    · refine ⟨fun b o hb hbo => ?_, fun j e' he' => ?_, _, rfl⟩
      · rw [upd_ne (fun z => hb (by rw [z]; exact List.mem_map_of_mem hm))]; exact s4 _ _ (b2 b o hb hbo)
      · have hm' := List.mem_of_getElem? he'
        by_cases c : e'.2 = e.2
        · have en : e' = e := Prod.ext (L1.inj hm' hm c) c
          subst en
          have ej : j = i := by
            have n1 : (es.map (·.1))[j]? = some e'.1 := by rw [List.getElem?_map, he']; rfl
            have n2 : (es.map (·.1))[i]? = some e'.1 := by rw [List.getElem?_map, he]; rfl
            have hj := (List.getElem?_eq_some_iff.mp n1).1
            exact (List.getElem?_inj hj hnd).mp (n1.trans n2.symm)
          subst ej
          rw [upd_same, if_pos (Nat.lt_succ_self _)]; rfl
        · rw [upd_ne c, s4 _ _ (l2 j e' he')]
          have nij : j ≠ i := fun z => by rw [z, he] at he'; exact c (by rw [Option.some.inj he'])
          by_cases d : j < i
          · rw [if_pos d, if_pos (by omega)]
          · rw [if_neg d, if_neg (by omega)]
  · obtain ⟨b2, l2, o1, rfl⟩ := hP
    refine hQ _ (fun b o hb e => b2 b o hb (s1 _ _ e)) (fun e he => ?_)
    obtain ⟨j, hj⟩ := List.getElem?_of_mem he
    have h := l2 j e hj
    rw [if_pos (by rw [List.length_map]; exact (List.getElem?_eq_some_iff.mp hj).1)] at h
    exact h
end
end K17

set_option Elab.async false
set_option linter.all false
set_option maxRecDepth 100000
set_option maxHeartbeats 0
namespace K17
open PySem PySem.Spec PyProof.Rows L2 RC
section
variable {P : Program} {w : World} {K : PySem.W.Frag} {mg : Str → Option Value} {base : Heap}
/-! ### getLogger -/
structure Tree (K : PySem.W.Frag) (H : Hp) (y dy lm rt : Addr) (fs : List (Str × V)) (es : Es) (g : Addr → LG) : Prop where
  yd : H y = some (.ins (CY K) dy fs)
  root : fs.lookup ("root" : Str) = some (.ref rt)
  map : fs.lookup ("logger_map" : Str) = some (.ref lm)
  ms : fs.lookup ("getLogger" : Str) = none
  lmo : H lm = some (.dK (lmK es))
  nd : (es.map (·.1)).Nodup
  sz : ∀ e ∈ es, Sized e.1
  lg : Logs K H y es g (fun n => .ref (parA es rt n))
/-- a new logger a was put behind es -/
structure NewLog (K : PySem.W.Frag) (H H' : Hp) (lm : Addr) (es : Es) (a : Addr) (q : LG) : Prop where
  kp : ∀ b o, b ≠ lm → b ∉ es.map (·.2) → H b = some o → H' b = some o
  a0 : H a = none
  l0 : H q.l = none
  h0 : H q.hl = none
  ne : q.l ≠ q.hl
  l1 : H' q.l = some (.lst [])
  h1 : H' q.hl = some (.lst [])
  fl : q.lev = 0 ∧ q.prop = true ∧ q.dis = false
def updG (g : Addr → LG) (a : Addr) (q : LG) : Addr → LG := fun b => if b = a then q else g b
def spGetLog (K : PySem.W.Frag) : Sp := fun vs H Q _ => ∃ (y dy lm rt : Addr) (fs : List (Str × V)) (es : Es) (g : Addr → LG) (t : Str), vs = [.ref y, .str t] ∧ Tree K H y dy lm rt fs es g ∧ es.length ≤ 500 ∧ t ≠ "" ∧ t ≠ "root" ∧ Sized t ∧ (Txt.split t ".").all partB = true ∧
  ((∃ a, es.lookup t = some a ∧ ∀ H', Same H H' → Q (.ref a) H') ∨ (es.lookup t = none ∧ ∀ H' a q, NewLog K H H' lm es a q → Tree K H' y dy lm rt fs (es ++ [(t, a)]) (updG g a q) → Q (.ref a) H'))
theorem lookup_none : ∀ {es : Es} {t : Str}, es.lookup t = none → t ∉ es.map (·.1)
  | [], _, _ => List.not_mem_nil
  | a :: es, t, h => by
    rw [List.lookup_cons] at h
    by_cases c : t = a.1
    · rw [beq_iff_eq.mpr c] at h; cases h
    · rw [show (t == a.1) = false from by simpa using c] at h
      rw [List.map_cons, List.mem_cons]
      rintro (z | z)
      · exact c z
      · exact lookup_none h z
theorem body_getLog (T : Txt P w K mg) {f : Addr} {cdv : Value} {A : Around} {outer : List Env} {st0 : Shared} {E : XK} {vs : List V} {H : Hp} {Q : VK} (hr : Room 3 (A.deeper (envOfC "Yard.getLogger" (defScope s_Yard_getLogger) st0.heap.objs.size f cdv))) (h : spGetLog K vs H Q E)
    (c_are_parts : Callable P w K mg base 2 (He.ga K "are_parts") ["thing"] [] spAreParts)
    (c_Logger_init : Callable P w K mg base 2 (He.ma K (He.ga K "Logger") "__init__") ["self", "yard", "name", "level"] [] (spLoggerInit K)) (c_place_loggers : Callable P w K mg base 2 (He.ga K "place_loggers") ["yard"] [] (spPlaceAll K)) :
    ∃ t, PSs (cxOf CX0 P w K mg base nm_Yard_getLogger "Yard.getLogger" (defScope s_Yard_getLogger) f cdv A outer st0 H E).nox (defBody s_Yard_getLogger) t ∧ t { nx := fun _ H' => Q .non H', rt := Q } (start nm_Yard_getLogger vs) H := by
  obtain ⟨y, dy, lm, rt, fs, es, g, t, rfl, TR, hlen, n1, n2, hs, hp, hQ⟩ := h
  have hy := TR.yd
  have hroot := TR.root
  have hmap := TR.map
  have hlm := TR.lmo
  refine ⟨_, (pss_cons (ps_if (PW.pt (pw_or (pt_cmpR op_eq (pv 1) pe_str (nomark _)) (pw_or1 (pt_cmpR op_eq (pv 1) pe_str (nomark _))))) (pss_one (ps_ret (pe_fld (pv 0) rfl))) pss_nil)
      (pss_cons (ps_if (pt_not (pt_val (pe_fn T.g_are_parts c_are_parts (hr.mono (by first | decide | exact Nat.le_refl _)) (by rfl) (pa_cons (pv 1) pa_nil)))) (pss_one ps_never) pss_nil)
      (pss_cons (ps_if (pt_cmp (pc_dnotin (hu_of hr) (pv 1) (pe_fld (pv 0) rfl))) (pss_cons (ps_dput (hu_of hr) (pe_fld (pv 0) rfl) (pv 1) (pe_mk T.k_Logger T.g_Logger c_Logger_init (hr.mono (by decide)) (by rfl) (pa_cons (pv 0) (pa_cons (pv 1) (pa_cons (pe_gi (by rfl) T.g_NOTSET) pa_nil)))) rfl)
      (pss_one (ps_expr (pe_fn T.g_place_loggers c_place_loggers (hr.mono (by first | decide | exact Nat.le_refl _)) (by rfl) (pa_cons (pv 0) pa_nil))))) pss_nil)
      (pss_one (ps_ret (pe_dget (hu_of hr) (pe_fld (pv 0) rfl) (pv 1) (fun _ _ => rfl))))))), ?_⟩
  refine ⟨_, rfl, rfl, _, rfl, iteF' (by simp [n1]) ⟨_, rfl, rfl, _, rfl, iteF' (by simp [n2]) ?_⟩⟩
  refine ⟨_, rfl, t, rfl, hs.all, Nat.le_trans hs.few (by decide), (fun u hu => Nat.le_trans (hs.short u hu) (by decide)), fun H1 s1 => ?_⟩
  refine ⟨_, rfl, iteF' (by rw [hp]; rfl) ?_⟩
  have ge := DGet.k (k := Sum.inr t) (s1 _ _ hlm)
  rw [valV_lmK] at ge
  rcases hQ with ⟨a, ha, hQ⟩ | ⟨ha, hQ⟩
  · rw [ha] at ge
    refine ⟨_, rfl, _, rfl, y, _, dy, fs, _, rfl, s1 _ _ hy, T.c_Yard, T.n_Yard_logger_map, hmap, lm, _, rfl, ge, _, rfl, iteF' (by rfl) ?_⟩
    exact ⟨_, rfl, y, _, dy, fs, _, rfl, s1 _ _ hy, T.c_Yard, T.n_Yard_logger_map, hmap, _, rfl, lm, .ref a, rfl, ge, hQ _ s1⟩
  rw [ha] at ge
  refine ⟨_, rfl, _, rfl, y, _, dy, fs, _, rfl, s1 _ _ hy, T.c_Yard, T.n_Yard_logger_map, hmap, lm, _, rfl, ge, _, rfl, iteT' (by rfl) ?_⟩
  refine ⟨_, rfl, _, rfl, fun lg dl hlg hdl hne => ?_⟩
  refine ⟨lg, dl, y, t, 0, rfl, upd_same, fun H2 l h k1 k2 k3 k4 k5 k6 k7 => ⟨rfl, ?_⟩⟩
  have s2 : Same H1 H2 := made_same hlg hdl k1
  have s12 := s1.trans s2
  have k2 := (upd_none (upd_none k2).2).2
  have k3 := (upd_none (upd_none k3).2).2
  have hput : putK (lmK es) (Sum.inr t) (V.ref lg) = lmK (es ++ [(t, lg)]) := by
    unfold putK
    rw [if_neg ?_]
    · unfold lmK; rw [List.map_append]; rfl
    · intro z
      obtain ⟨kv, h1, h2⟩ := List.any_eq_true.mp z
      obtain ⟨e, he, rfl⟩ := List.mem_map.mp h1
      exact lookup_none ha (by rw [← Sum.inr.inj (of_decide_eq_true h2)]; exact List.mem_map_of_mem he)
  refine ⟨_, rfl, y, _, dy, fs, _, rfl, s12 _ _ hy, T.c_Yard, T.n_Yard_logger_map, hmap, _, rfl, lm, _, rfl, DPut.k (k := Sum.inr t) (s12 _ _ hlm) (by unfold lmK; rw [List.length_map, sizeLine_eq]; omega), ?_⟩
  rw [hput]
  have q1 := s12 _ _ hlm
  have nlm : lg ≠ lm := fun z => by rw [z, q1] at k5; cases k5
  have nly : y ≠ lg := fun z => by rw [← z, s1 _ _ hy] at hlg; cases hlg
  have nym : y ≠ lm := fun z => by rw [z, hlm] at hy; cases hy
  have nll : l ≠ lm := fun z => by rw [z, s1 _ _ hlm] at k2; cases k2
  have nhl : h ≠ lm := fun z => by rw [z, s1 _ _ hlm] at k3; cases k3
  have L0 := TR.lg
  have nlg0 : lg ∉ es.map (·.2) := fun z => by
    obtain ⟨e, he, z⟩ := List.mem_map.mp z
    have b := s1 _ _ (L0 e he)
    rw [z, hlg] at b; cases b
  have nlm0 := L0.notIns hlm (fun _ _ _ z => nomatch z)
  generalize e : upd H2 lm _ = H3
  have m3 : H3 lm = some (.dK (lmK (es ++ [(t, lg)]))) := by rw [← e]; exact upd_same
  have b3 : SameBut lm H2 H3 := by rw [← e]; exact SameBut.put
  clear e
  have L3 : Logs K H3 y (es ++ [(t, lg)]) (updG g lg ⟨dl, l, h, 0, true, false⟩) (fun n => if n = t then .non else .ref (parA es rt n)) := fun e he => by
    rcases List.mem_append.mp he with he | he
    · have c1 : e.2 ≠ lg := fun z => nlg0 (by rw [← z]; exact List.mem_map_of_mem he)
      have c2 : e.1 ≠ t := fun z => lookup_none ha (by rw [← z]; exact List.mem_map_of_mem he)
      have c3 : e.2 ≠ lm := fun z => nlm0 (by rw [← z]; exact List.mem_map_of_mem he)
      show H3 e.2 = some (.ins (CL K) (updG g lg ⟨dl, l, h, 0, true, false⟩ e.2).d (lG (updG g lg ⟨dl, l, h, 0, true, false⟩ e.2) y e.1 (if e.1 = t then .non else .ref (parA es rt e.1))))
      unfold updG
      rw [if_neg c1, if_neg c2]
      exact b3 _ _ c3 (s12 _ _ (L0 e he))
    · cases List.mem_singleton.mp he
      show H3 lg = some (.ins (CL K) (updG g lg ⟨dl, l, h, 0, true, false⟩ lg).d (lG (updG g lg ⟨dl, l, h, 0, true, false⟩ lg) y t (if t = t then .non else .ref (parA es rt t))))
      unfold updG
      rw [if_pos rfl, if_pos rfl]
      exact b3 _ _ nlm k5
  have nd' : ((es ++ [(t, lg)]).map (·.1)).Nodup := by
    rw [List.map_append, List.nodup_append]
    refine ⟨TR.nd, by simp, fun a ha' b hb z => ?_⟩
    have hb : b = t := by simpa using hb
    subst hb; subst z
    exact lookup_none ha ha'
  have sz' : ∀ e ∈ es ++ [(t, lg)], Sized e.1 := fun e he => by
    rcases List.mem_append.mp he with he | he
    · exact TR.sz e he
    · cases List.mem_singleton.mp he; exact hs
  refine ⟨_, rfl, y, dy, lm, rt, fs, es ++ [(t, lg)], updG g lg ⟨dl, l, h, 0, true, false⟩, _, rfl, b3 _ _ nym (s12 _ _ hy), hroot, hmap, m3, nd', sz', (by rw [List.length_append, List.length_singleton]; omega), L3, fun H4 b4 L4 => ?_⟩
  have ny4 := L3.notY (b3 _ _ nym (s12 _ _ hy)) hmap
  have nm4 := L3.notIns m3 (fun _ _ _ z => nomatch z)
  have hy4 := b4 _ _ ny4 (b3 _ _ nym (s12 _ _ hy))
  have m4 := b4 _ _ nm4 m3
  refine ⟨_, rfl, y, _, dy, fs, _, rfl, hy4, T.c_Yard, T.n_Yard_logger_map, hmap, _, rfl, lm, .ref lg, rfl, ?_, hQ H4 lg ⟨dl, l, h, 0, true, false⟩ ⟨fun b o hb hb2 he => ?_, s1.free hlg, s1.free k2, s1.free k3, k4, ?_, ?_, rfl, rfl, rfl⟩ ⟨hy4, hroot, hmap, TR.ms, m4, nd', sz', L4⟩⟩
  · have g := DGet.k (k := Sum.inr t) m4
    rw [valV_lmK, lookup_nd (e := (t, lg)) (by simp) nd'] at g; exact g
  · refine b4 _ _ (fun z => ?_) (b3 _ _ hb (s12 _ _ he))
    rw [List.map_append] at z
    rcases List.mem_append.mp z with z | z
    · exact hb2 z
    · have z : b = lg := by simpa using z
      rw [z] at he
      rw [s1 _ _ he] at hlg; cases hlg
  · exact b4 _ _ (L3.notIns (b3 _ _ nll k6) (fun _ _ _ z => nomatch z)) (b3 _ _ nll k6)
  · exact b4 _ _ (L3.notIns (b3 _ _ nhl k7) (fun _ _ _ z => nomatch z)) (b3 _ _ nhl k7)
theorem ok_getLog {f : Addr} (T : Txt P w K mg) (F : Stands K "getLogger" "Yard.getLogger" s_Yard_getLogger [.str ""] f) (c_are_parts : Callable P w K mg base 2 (He.ga K "are_parts") ["thing"] [] spAreParts)
    (c_Logger_init : Callable P w K mg base 2 (He.ma K (He.ga K "Logger") "__init__") ["self", "yard", "name", "level"] [] (spLoggerInit K)) (c_place_loggers : Callable P w K mg base 2 (He.ga K "place_loggers") ["yard"] [] (spPlaceAll K)) :
    Callable P w K mg base 4 f ["self", "name"] [] (spGetLog K) := by
  refine F.call sc_Yard_getLogger 2 1 (fun vs H Q E h => ?_) (fun cdv A outer s H vs Q E hr h => ?_) (fun z => nomatch z) fun _ => ⟨rfl, fun _ _ _ _ _ _ _ us its hl hi => match us, hl, its, hi with | [_, _], _, [_], _ => ⟨_, rfl, rfl⟩⟩
  · obtain ⟨y, dy, lm, rt, fs, es, g, t, rfl, _⟩ := h; rfl
  exact body_getLog T hr h c_are_parts c_Logger_init c_place_loggers
/-- the root, too -/
def spGetLogR (K : PySem.W.Frag) : Sp := fun vs H Q E => spGetLog K vs H Q E ∨ ∃ (y dy rt : Addr) (fs : List (Str × V)), vs = [.ref y, .str ""] ∧ H y = some (.ins (CY K) dy fs) ∧ fs.lookup ("root" : Str) = some (.ref rt) ∧ Q (.ref rt) H
theorem ok_getLogR {f : Addr} (T : Txt P w K mg) (F : Stands K "getLogger" "Yard.getLogger" s_Yard_getLogger [.str ""] f) (c_are_parts : Callable P w K mg base 2 (He.ga K "are_parts") ["thing"] [] spAreParts)
    (c_Logger_init : Callable P w K mg base 2 (He.ma K (He.ga K "Logger") "__init__") ["self", "yard", "name", "level"] [] (spLoggerInit K)) (c_place_loggers : Callable P w K mg base 2 (He.ga K "place_loggers") ["yard"] [] (spPlaceAll K)) :
    Callable P w K mg base 4 f ["self", "name"] [] (spGetLogR K) := by
  refine F.call sc_Yard_getLogger 2 1 (fun vs H Q E h => ?_) (fun cdv A outer s H vs Q E hr h => ?_) (fun z => nomatch z) fun _ => ⟨rfl, fun _ _ _ _ _ _ _ us its hl hi => match us, hl, its, hi with | [_, _], _, [_], _ => ⟨_, rfl, rfl⟩⟩
  · rcases h with h | h
    · obtain ⟨y, dy, lm, rt, fs, es, g, t, rfl, _⟩ := h; rfl
    · obtain ⟨y, dy, rt, fs, rfl, _⟩ := h; rfl
  rcases h with h | h
  · exact body_getLog T hr h c_are_parts c_Logger_init c_place_loggers
  obtain ⟨y, dy, rt, fs, rfl, hy, hroot, hQ⟩ := h
  refine ⟨_, (pss_cons (ps_if (PW.pt (pw_or (pt_cmpR op_eq (pv 1) pe_str (nomark _)) (pw_or1 (pt_cmpR op_eq (pv 1) pe_str (nomark _))))) (pss_one (ps_ret (pe_fld (pv 0) rfl))) pss_nil)
      (pss_cons (ps_if (pt_not (pt_val (pe_fn T.g_are_parts c_are_parts (hr.mono (by first | decide | exact Nat.le_refl _)) (by rfl) (pa_cons (pv 1) pa_nil)))) (pss_one ps_never) pss_nil)
      (pss_cons (ps_if (pt_cmp (pc_dnotin (hu_of hr) (pv 1) (pe_fld (pv 0) rfl))) (pss_cons (ps_dput (hu_of hr) (pe_fld (pv 0) rfl) (pv 1) (pe_mk T.k_Logger T.g_Logger c_Logger_init (hr.mono (by decide)) (by rfl) (pa_cons (pv 0) (pa_cons (pv 1) (pa_cons (pe_gi (by rfl) T.g_NOTSET) pa_nil)))) rfl)
      (pss_one (ps_expr (pe_fn T.g_place_loggers c_place_loggers (hr.mono (by first | decide | exact Nat.le_refl _)) (by rfl) (pa_cons (pv 0) pa_nil))))) pss_nil)
      (pss_one (ps_ret (pe_dget (hu_of hr) (pe_fld (pv 0) rfl) (pv 1) (fun _ _ => rfl))))))), ?_⟩
  exact ⟨_, rfl, rfl, _, rfl, iteT' (decide_eq_true rfl) ⟨_, rfl, y, _, dy, fs, _, rfl, hy, T.c_Yard, T.n_Yard_root, hroot, hQ⟩⟩
end
end K17

set_option Elab.async false
set_option linter.all false
set_option maxRecDepth 100000
set_option maxHeartbeats 0
namespace K17
open PySem PySem.Spec PyProof.Rows L2 RC
section
variable {P : Program} {w : World} {K : PySem.W.Frag} {mg : Str → Option Value} {base : Heap}
/-! ### the law's own parent, by a dict of any values -/
theorem dget_k {H : Hp} {a : Addr} {kvs : List (Key × V)} {x : Str} (h : Rd H a (.dK kvs)) : DGet H a (.str x) (valV kvs (Sum.inr x)) := .inl ⟨kvs, Sum.inr x, h, rfl, rfl⟩
theorem rd_same {H H' : Hp} {a : Addr} {o : HO} (h : Rd H a o) (s : Same H H') : Rd H' a o := by
  rcases h with h | ⟨u, h⟩
  · exact .inl (s _ _ h)
  · exact .inr ⟨u, s _ _ h⟩
def hasK (kvs : List (Key × V)) (x : Str) : Bool := (valV kvs (Sum.inr x)).isSome
def lawIx (has : Str → Bool) (parts : List Str) : Nat → Str
  | 0 => ""
  | k + 1 => if has (pre parts (k + 1)) = true then pre parts (k + 1) else lawIx has parts k
def lawPar (has : Str → Bool) (t : Str) : Str := lawIx has (Txt.split t ".") ((Txt.split t ".").length - 1)
def spLawParent : Sp := fun vs H Q _ => ∃ (k : Addr) (kvs : List (Key × V)) (t : Str), vs = [.ref k, .str t] ∧ Rd H k (.dK kvs) ∧ Sized t ∧ ∀ H', Same H H' → Q (.str (lawPar (hasK kvs) t)) H'
/-- a name of good parts -/
structure Good (t : Str) : Prop where
  sz : Sized t
  ps : (Txt.split t ".").all partB = true
theorem pre_ne {t : Str} (g : Good t) (k : Nat) (h : k + 1 ≤ (Txt.split t ".").length) : pre (Txt.split t ".") (k + 1) ≠ "" := by
  have hp := g.ps
  generalize Txt.split t "." = parts at hp h
  cases parts with
  | nil => exact absurd h (by simp)
  | cons p r =>
    have h1 : partB p = true := by rw [List.all_cons] at hp; exact (Bool.and_eq_true_iff.mp hp).1
    have h2 : p ≠ "" := by
      unfold partB at h1
      exact of_decide_eq_true (Bool.and_eq_true_iff.mp h1).1
    intro z
    have e : ((p :: r).take (k + 1)).map (·.length) = p.length :: (r.take k).map (·.length) := rfl
    have a := PyProof.Rows.len_join_ge_sum "." ((p :: r).take (k + 1))
    rw [e, List.sum_cons] at a
    unfold pre at z
    rw [z] at a
    have c : (("" : Str)).length = 0 := rfl
    rw [c] at a
    have l : p.length = 0 := by omega
    refine h2 (TL.ext_tl ?_)
    have b : (TL.tl p).length = 0 := by rw [← TL.len_tl]; exact l
    exact List.length_eq_zero_iff.mp b
end
end K17

set_option Elab.async false
set_option linter.all false
set_option maxRecDepth 100000
set_option maxHeartbeats 0
namespace K17
open PySem PySem.Spec PyProof.Rows L2 RC
section
variable {P : Program} {w : World} {K : PySem.W.Frag} {mg : Str → Option Value} {base : Heap}
/-! ### the names that the law makes -/
def partsG : List Str := ["root", "a", "b", "ab", "A", "_1", "c", "x", "z"]
/-- a name as the law makes it, of the parts qs -/
structure Nm (qs : List Str) : Prop where
  in6 : ∀ p ∈ qs, p ∈ partsG
  pos : 1 ≤ qs.length
  few : qs.length ≤ 5
  noroot : qs ≠ (["root"] : List Str)
theorem in6_dot : ∀ p ∈ partsG, (46 : Nat) ∉ TL.tl p := by decide +kernel
theorem in6_part : ∀ p ∈ partsG, partB p = true := by decide +kernel
theorem in6_len : ∀ p ∈ partsG, p.length ≤ 4 := by decide +kernel
theorem in6_ne : ∀ p ∈ partsG, p ≠ "" := by decide +kernel
theorem split_in6 {qs : List Str} (h : ∀ p ∈ qs, p ∈ partsG) (hp : 1 ≤ qs.length) : Txt.split (Txt.join "." qs) "." = qs :=
  TL.split_join (y := ".") (s := 46) (S := []) (by rfl) (by decide +kernel) (fun z => by rw [z] at hp; exact absurd hp (by decide)) (fun p hq => in6_dot p (h p hq))
theorem sum6 : ∀ qs : List Str, (∀ p ∈ qs, p ∈ partsG) → (qs.map (·.length)).sum ≤ qs.length * 4
  | [], _ => Nat.le_refl _
  | p :: r, h => by
    have i1 := sum6 r (fun z hz => h z (List.mem_cons_of_mem _ hz))
    have i2 := in6_len p (h p List.mem_cons_self)
    simp only [List.map_cons, List.sum_cons, List.length_cons]
    omega
theorem len6 {qs : List Str} (h : ∀ p ∈ qs, p ∈ partsG) (hf : qs.length ≤ 5) : (Txt.join "." qs).length ≤ 25 := by
  refine Nat.le_trans (join_size "." qs) ?_
  have e1 : (("." : Str)).length = 1 := rfl
  have e2 := sum6 qs h
  rw [e1]; omega
theorem good6 {qs : List Str} (h : ∀ p ∈ qs, p ∈ partsG) (hp : 1 ≤ qs.length) (hf : qs.length ≤ 5) : Good (Txt.join "." qs) := by
  have hs := split_in6 h hp
  have l := len6 h hf
  refine ⟨⟨Nat.le_trans l (by decide), by rw [hs]; omega, fun u hu => ?_⟩, ?_⟩
  · rw [hs] at hu
    have : u.length ≤ 4 := in6_len u (h u hu)
    exact Nat.le_trans this (by decide)
  · rw [hs, List.all_eq_true]
    exact fun p hp => in6_part p (h p hp)
theorem Nm.good {qs : List Str} (n : Nm qs) : Good (Txt.join "." qs) := good6 n.in6 n.pos n.few
theorem Nm.ne {qs : List Str} (n : Nm qs) : Txt.join "." qs ≠ "" ∧ Txt.join "." qs ≠ "root" := by
  have hs := split_in6 n.in6 n.pos
  constructor
  · intro z
    rw [z] at hs
    have e : Txt.split ("" : Str) "." = ([""] : List Str) := by decide +kernel
    rw [e] at hs
    exact in6_ne "" (n.in6 "" (by rw [← hs]; exact List.mem_cons_self)) rfl
  · intro z
    rw [z] at hs
    have e : Txt.split ("root" : Str) "." = (["root"] : List Str) := by decide +kernel
    rw [e] at hs
    exact n.noroot hs.symm
theorem join_cons (q r : Str) (rs : List Str) : Txt.join "." (q :: r :: rs) = q ++ "." ++ Txt.join "." (r :: rs) := by
  rw [TL.join_eq, TL.join_eq]; rfl
theorem join_one (q : Str) : Txt.join "." [q] = q := by rw [TL.join_eq]; rfl
theorem part_one {q : Str} (h : q ∈ partsG) : Txt.partition (Txt.join "." [q]) "." = (q, Str.empty, Str.empty) := by
  rw [join_one]
  exact TL.partition_none (y := ".") (s := 46) (S := []) (by rfl) (in6_dot q h)
theorem part_more {q r : Str} {rs : List Str} (h : q ∈ partsG) : Txt.partition (Txt.join "." (q :: r :: rs)) "." = (q, ((".": Str), Txt.join "." (r :: rs)) ) := by
  rw [join_cons]
  exact TL.partition_app (y := ".") (s := 46) (S := []) (by rfl) (in6_dot q h)
theorem in56 : ∀ p ∈ parts5, p ∈ partsG := by decide +kernel
theorem nm_plain {ps : List Str} (h : ∀ p ∈ ps, p ∈ parts5) (h1 : 1 ≤ ps.length) (h2 : ps.length ≤ 4) : Nm ps := by
  refine ⟨fun p hp => in56 p (h p hp), h1, by omega, fun z => ?_⟩
  have := h "root" (by rw [z]; exact List.mem_cons_self)
  exact absurd this (by decide +kernel)
theorem nm_root {ps : List Str} (h : ∀ p ∈ ps, p ∈ parts5) (h1 : 1 ≤ ps.length) (h2 : ps.length ≤ 4) : Nm (("root" : Str) :: ps) := by
  refine ⟨fun p hp => ?_, by simp, by simp only [List.length_cons]; omega, fun z => ?_⟩
  · rcases List.mem_cons.mp hp with rfl | hp
    · exact List.mem_cons_self
    · exact in56 p (h p hp)
  · have := congrArg List.length z
    simp only [List.length_cons, List.length_nil] at this
    omega
theorem join_root {ps : List Str} (h1 : 1 ≤ ps.length) : ("root." : Str) ++ Txt.join "." ps = Txt.join "." (("root" : Str) :: ps) := by
  cases ps with
  | nil => exact absurd h1 (by decide)
  | cons r rs =>
    rw [join_cons]
    refine TL.ext_tl ?_
    rw [TL.tl_append, TL.tl_append, TL.tl_append]
    rfl
theorem mul_root (b : Bool) : Txt.mul ("root." : Str) (if b = true then 1 else 0) = (if b = true then "root." else "") := by
  cases b <;> decide +kernel
theorem mul_ok (b : Bool) : MulOk ("root." : Str) (if b = true then 1 else 0) := by
  cases b
  · refine ⟨by decide, fun h => absurd (show (0 : Int) < 1 by decide) h, fun h => absurd (show (0 : Int) < 1 by decide) h⟩
  · exact ⟨by decide, fun _ h => absurd h (by decide), fun _ h => absurd h (by decide)⟩
theorem nil_app (x : Str) : ("" : Str) ++ x = x := by
  refine TL.ext_tl ?_
  rw [TL.tl_append]; rfl
end
end K17

set_option Elab.async false
set_option linter.all false
set_option maxRecDepth 100000
set_option maxHeartbeats 0
namespace K17
open PySem PySem.Spec PyProof.Rows L2 RC
section
variable {P : Program} {w : World} {K : PySem.W.Frag} {mg : Str → Option Value} {base : Heap}
/-! ### children -/
/-- the root of the yard -/
def RootAt (K : PySem.W.Frag) (H : Hp) (y rt : Addr) (g : Addr → LG) : Prop := H rt = some (.ins (CL K) (g rt).d (lG (g rt) y "root" .non))
theorem lookup_mem : ∀ {es : Es} {t : Str} {a : Addr}, es.lookup t = some a → (t, a) ∈ es
  | [], _, _, h => nomatch h
  | e :: es, t, a, h => by
    rw [List.lookup_cons] at h
    by_cases c : t = e.1
    · rw [beq_iff_eq.mpr c] at h
      have h2 : e.2 = a := Option.some.inj h
      rw [c, ← h2]
      exact List.mem_cons_self
    · rw [show (t == e.1) = false from by simpa using c] at h
      exact List.mem_cons_of_mem _ (lookup_mem h)
theorem parIx_mem {es : Es} {parts : List Str} : ∀ {k : Nat} {a : Addr}, parIx es parts k = some a → ∃ t, (t, a) ∈ es
  | 0, _, h => nomatch h
  | k + 1, a, h => by
    have h : (match es.lookup (pre parts (k + 1)) with | some a => some a | none => parIx es parts k) = some a := h
    cases e : es.lookup (pre parts (k + 1)) with
    | some b =>
      rw [e] at h
      have h2 : b = a := Option.some.inj h
      rw [← h2]
      exact ⟨_, lookup_mem e⟩
    | none => rw [e] at h; exact parIx_mem h
theorem parA_cases (es : Es) (rt : Addr) (n : Str) : parA es rt n = rt ∨ ∃ t, (t, parA es rt n) ∈ es := by
  unfold parA
  cases e : parIx es (Txt.split n ".") ((Txt.split n ".").length - 1) with
  | none => exact .inl rfl
  | some a => exact .inr (parIx_mem e)
theorem par_ins {H : Hp} {y dy lm rt : Addr} {fs : List (Str × V)} {es : Es} {g : Addr → LG} (TR : Tree K H y dy lm rt fs es g) (R : RootAt K H y rt g) (n : Str) : ∃ d fs', H (parA es rt n) = some (.ins (CL K) d fs') := by
  rcases parA_cases es rt n with h | ⟨t, h⟩
  · rw [h]; exact ⟨_, _, R⟩
  · exact ⟨_, _, TR.lg _ h⟩
end
end K17

set_option Elab.async false
set_option linter.all false
set_option maxRecDepth 100000
set_option maxHeartbeats 0
namespace K17
open PySem PySem.Spec PyProof.Rows L2 RC
section
variable {P : Program} {w : World} {K : PySem.W.Frag} {mg : Str → Option Value} {base : Heap}
/-! ### levels in force -/
/-- the level in force at a, n steps up -/
inductive EffN (es : Es) (rt : Addr) (g : Addr → LG) : Nat → Addr → Int → Prop where
  | here {a : Addr} (h : (g a).lev ≠ 0) : EffN es rt g 0 a (g a).lev
  | root (h : (g rt).lev = 0) : EffN es rt g 0 rt 0
  | up {t : Str} {a : Addr} {n : Nat} {v : Int} (ha : (t, a) ∈ es) (h : (g a).lev = 0) (p : EffN es rt g n (parA es rt t) v) : EffN es rt g (n + 1) a v
/-- a logger of the tree -/
def InT (es : Es) (rt a : Addr) : Prop := a = rt ∨ ∃ t, (t, a) ∈ es
theorem inT_at {H : Hp} {y dy lm rt a : Addr} {fs : List (Str × V)} {es : Es} {g : Addr → LG} (TR : Tree K H y dy lm rt fs es g) (R : RootAt K H y rt g) (h : InT es rt a) : ∃ nm par, H a = some (.ins (CL K) (g a).d (lG (g a) y nm par)) := by
  rcases h with rfl | ⟨t, h⟩
  · exact ⟨_, _, R⟩
  · exact ⟨_, _, TR.lg _ h⟩
def spEff (K : PySem.W.Frag) : Sp := fun vs H Q _ => ∃ (a y dy lm rt : Addr) (fs : List (Str × V)) (es : Es) (g : Addr → LG) (n : Nat) (v : Int), vs = [.ref a] ∧ Tree K H y dy lm rt fs es g ∧ RootAt K H y rt g ∧ InT es rt a ∧ EffN es rt g n a v ∧ Q (.int v) H
theorem ok_eff {f : Addr} (T : Txt P w K mg) (F : Stands K "getEffectiveLevel" "Logger.getEffectiveLevel" s_Logger_getEffectiveLevel [] f) : Callable P w K mg base 1 f ["self"] [] (spEff K) := by
  refine F.call0 sc_Logger_getEffectiveLevel (fun vs H Q E h => ?_) (fun cdv A outer s H vs Q E hr h => ?_) (fun _ _ _ _ _ _ us hl => match us, hl with | [_], _ => rfl)
  · obtain ⟨a, y, dy, lm, rt, fs, es, g, n, v, rfl, _⟩ := h; rfl
  obtain ⟨a0, y, dy, lm, rt, fs, es, g, n0, v, rfl, TR, R, hT0, hE0, hQ⟩ := h
  refine ⟨_, (pss_cons (ps_set (i := 1) sc_Logger_getEffectiveLevel.nd rfl (by first | exact Or.inl rfl | exact Or.inr rfl) (pv 0))
      (pss_cons (ps_while PassesOwn.never (pt_cmpR op_notN (pv 1) pe_non (nomark _)) (pss_cons (ps_if (pt_cmpR op_ne (pe_fld (pv 1) rfl) (pe_gi (by rfl) T.g_NOTSET) (nomark _)) (pss_one (ps_ret (pe_fld (pv 1) rfl))) pss_nil)
      (pss_one (ps_set (i := 1) sc_Logger_getEffectiveLevel.nd rfl (by first | exact Or.inl rfl | exact Or.inr rfl) (pe_fld (pv 1) rfl)))))
      (pss_one (ps_ret (pe_gi (by rfl) T.g_NOTSET))))), ?_⟩
  refine ⟨_, rfl, ?_⟩
  have hE0 : ∃ n, EffN es rt g n a0 v := ⟨n0, hE0⟩
  refine ⟨fun m σ H' => H' = H ∧ ((∃ (n : Nat) (a : Addr), m = n + 1 ∧ InT es rt a ∧ EffN es rt g n a v ∧ σ = [some (.ref a0), some (.ref a)]) ∨ (m = 0 ∧ v = 0 ∧ σ = [some (.ref a0), some .non])), ⟨n0 + 1, rfl, .inl ⟨n0, a0, rfl, hT0, hE0.choose_spec |> fun _ => ‹EffN es rt g n0 a0 v›, rfl⟩⟩, ?_⟩
  rintro m σ H1 ⟨rfl, h⟩
  rcases h with ⟨n, a, rfl, hT, hE, rfl⟩ | ⟨rfl, rfl, rfl⟩
  · obtain ⟨nm, par, ha⟩ := inT_at TR R hT
    refine ⟨_, rfl, rfl, _, rfl, iteT' (by rfl) ?_⟩
    refine ⟨fun σ' H' => ∃ m', m' < n + 1 ∧ (H' = H1 ∧ ((∃ (n : Nat) (a : Addr), m' = n + 1 ∧ InT es rt a ∧ EffN es rt g n a v ∧ σ' = [some (.ref a0), some (.ref a)]) ∨ (m' = 0 ∧ v = 0 ∧ σ' = [some (.ref a0), some .non]))), fun σ' H' z => z, ?_⟩
    refine ⟨_, rfl, a, _, _, _, _, rfl, ha, T.c_Logger, T.n_Logger_level, rfl, rfl, _, rfl, ?_⟩
    cases hE with
    | here h =>
      exact iteT' (by simp [h]) ⟨_, rfl, a, _, _, _, _, rfl, ha, T.c_Logger, T.n_Logger_level, rfl, hQ⟩
    | root h =>
      refine iteF' (by simp [h]) ⟨_, rfl, rt, _, _, _, _, rfl, R, T.c_Logger, T.n_Logger_parent, rfl, 0, by omega, rfl, .inr ⟨rfl, rfl, rfl⟩⟩
    | up ha2 h p =>
      refine iteF' (by simp [h]) ⟨_, rfl, a, _, _, _, _, rfl, TR.lg _ ha2, T.c_Logger, T.n_Logger_parent, rfl, _, Nat.lt_succ_self _, rfl, .inl ⟨_, _, rfl, ?_, p, rfl⟩⟩
      rcases parA_cases es rt _ with z | z
      · exact .inl z
      · exact .inr z
  · exact ⟨_, rfl, rfl, _, rfl, iteF' (by rfl) hQ⟩
end
end K17

set_option Elab.async false
set_option linter.all false
set_option maxRecDepth 100000
set_option maxHeartbeats 0
namespace K17
open PySem PySem.Spec PyProof.Rows L2 RC
section
variable {P : Program} {w : World} {K : PySem.W.Frag} {mg : Str → Option Value} {base : Heap}
/-! ### what is known of a tree -/
def kn (es : Es) (rt : Addr) : Es := (("" : Str), rt) :: es
def mapK (F : Addr → V) (es : Es) : List (Key × V) := es.map fun e => ((Sum.inr e.1 : Key), F e.2)
theorem valV_mapK (F : Addr → V) (x : Str) : ∀ es : Es, valV (mapK F es) (Sum.inr x) = (es.lookup x).map F
  | [] => rfl
  | e :: es => by
    by_cases h : e.1 = x
    · have h1 : valV (mapK F (e :: es)) (Sum.inr x) = some (F e.2) := valV_pos (p := ((Sum.inr e.1 : Key), F e.2)) (r := mapK F es) (congrArg Sum.inr h)
      rw [h1, List.lookup_cons, beq_iff_eq.mpr h.symm]; rfl
    · have h1 : valV (mapK F (e :: es)) (Sum.inr x) = valV (mapK F es) (Sum.inr x) := by
        show valV (((Sum.inr e.1 : Key), F e.2) :: mapK F es) (Sum.inr x) = _
        unfold valV
        rw [List.find?_cons, show decide ((Sum.inr e.1 : Key) = Sum.inr x) = false from decide_eq_false fun z => h (Sum.inr.inj z)]
      rw [h1, List.lookup_cons, show (x == e.1) = false from by simpa using fun z : x = e.1 => h z.symm, valV_mapK F x es]
theorem putK_mapK_new {F : Addr → V} {es : Es} {t : Str} {v : V} (h : es.lookup t = none) : putK (mapK F es) (Sum.inr t) v = mapK F es ++ [(Sum.inr t, v)] := by
  unfold putK
  rw [if_neg ?_]
  intro z
  obtain ⟨kv, h1, h2⟩ := List.any_eq_true.mp z
  obtain ⟨e, he, rfl⟩ := List.mem_map.mp h1
  exact lookup_none h (by rw [← Sum.inr.inj (of_decide_eq_true h2)]; exact List.mem_map_of_mem he)
/-- a value is set where the name stands: the addresses tell the names -/
theorem putK_mapK_at {F : Addr → V} {es : Es} {t : Str} {a : Addr} {v : V} (hm : (t, a) ∈ es) (inj : ∀ e ∈ es, e.2 = a → e.1 = t) (nd : (es.map (·.1)).Nodup) : putK (mapK F es) (Sum.inr t) v = mapK (fun b => if b = a then v else F b) es := by
  unfold putK
  rw [if_pos]
  · unfold mapK
    rw [List.map_map]
    refine List.map_congr_left fun e he => ?_
    show (if (Sum.inr e.1 : Key) = Sum.inr t then ((Sum.inr e.1 : Key), v) else ((Sum.inr e.1 : Key), F e.2)) = (Sum.inr e.1, if e.2 = a then v else F e.2)
    by_cases c : e.1 = t
    · have e2 := lookup_nd he nd
      have e3 := lookup_nd hm nd
      rw [c] at e2
      have e4 : e.2 = a := Option.some.inj (e2.symm.trans e3)
      rw [if_pos (congrArg Sum.inr c), if_pos e4]
    · rw [if_neg (fun z => c (Sum.inr.inj z)), if_neg (fun z => c (inj e he z))]
  · exact List.any_eq_true.mpr ⟨((Sum.inr t : Key), F a), List.mem_map_of_mem (f := fun e : Str × Addr => ((Sum.inr e.1 : Key), F e.2)) hm, decide_eq_true rfl⟩
theorem mapK_congr {F G : Addr → V} {es : Es} (h : ∀ e ∈ es, F e.2 = G e.2) : mapK F es = mapK G es := List.map_congr_left fun e he => by rw [h e he]
def rn (n : Str) : Str := if n = "" then "root" else n
def parV (es : Es) (rt : Addr) (n : Str) : V := if n = "" then .non else .ref (parA es rt n)
structure Known (K : PySem.W.Frag) (H : Hp) (y dy lm rt : Addr) (fs : List (Str × V)) (es : Es) (g : Addr → LG) : Prop where
  tr : Tree K H y dy lm rt fs es g
  rt_ : RootAt K H y rt g
  nm : ∀ e ∈ es, ∃ qs, Nm qs ∧ e.1 = Txt.join "." qs
  few : es.length ≤ 50
section
variable {H H' : Hp} {y dy lm rt k : Addr} {fs : List (Str × V)} {es : Es} {g : Addr → LG}
theorem Known.good (N : Known K H y dy lm rt fs es g) : ∀ e ∈ es, Good e.1 := fun e he => by
  obtain ⟨qs, h, z⟩ := N.nm e he
  rw [z]; exact h.good
theorem Known.ne (N : Known K H y dy lm rt fs es g) : ∀ e ∈ es, e.1 ≠ "" ∧ e.1 ≠ "root" := fun e he => by
  obtain ⟨qs, h, z⟩ := N.nm e he
  rw [z]; exact h.ne
/-- instances and the dict of loggers stay -/
theorem Known.frame (N : Known K H y dy lm rt fs es g) (hl : H' lm = some (.dK (lmK es))) (s : ∀ b C d f, H b = some (.ins C d f) → H' b = some (.ins C d f)) : Known K H' y dy lm rt fs es g where
  tr := ⟨s _ _ _ _ N.tr.yd, N.tr.root, N.tr.map, N.tr.ms, hl, N.tr.nd, N.tr.sz, fun e he => s _ _ _ _ (N.tr.lg e he)⟩
  rt_ := s _ _ _ _ N.rt_
  nm := N.nm
  few := N.few
theorem Known.same (N : Known K H y dy lm rt fs es g) (s : Same H H') : Known K H' y dy lm rt fs es g := N.frame (s _ _ N.tr.lmo) fun _ _ _ _ e => s _ _ e
theorem Known.nonil (N : Known K H y dy lm rt fs es g) : ("" : Str) ∉ es.map (·.1) := fun z => by
  obtain ⟨e, he, z⟩ := List.mem_map.mp z
  exact (N.ne e he).1 z
theorem Known.nd (N : Known K H y dy lm rt fs es g) : ((kn es rt).map (·.1)).Nodup := List.nodup_cons.mpr ⟨N.nonil, N.tr.nd⟩
theorem Known.at_ (N : Known K H y dy lm rt fs es g) {e : Str × Addr} (he : e ∈ kn es rt) : H e.2 = some (.ins (CL K) (g e.2).d (lG (g e.2) y (rn e.1) (parV es rt e.1))) := by
  rcases List.mem_cons.mp he with rfl | he
  · exact N.rt_
  · have h := N.tr.lg e he
    unfold rn parV
    rw [if_neg (N.ne e he).1, if_neg (N.ne e he).1]; exact h
theorem Known.inj (N : Known K H y dy lm rt fs es g) {e e' : Str × Addr} (he : e ∈ kn es rt) (he' : e' ∈ kn es rt) (z : e.2 = e'.2) : e.1 = e'.1 := by
  have a := N.at_ he
  have b := N.at_ he'
  rw [z, b] at a
  have c : rn e'.1 = rn e.1 := lG_name (HO.ins.inj (Option.some.inj a)).2.2
  unfold rn at c
  rcases List.mem_cons.mp he with rfl | h1
  · rcases List.mem_cons.mp he' with rfl | h2
    · rfl
    · rw [if_neg (N.ne e' h2).1, if_pos rfl] at c
      exact absurd c (N.ne e' h2).2
  · rcases List.mem_cons.mp he' with rfl | h2
    · rw [if_neg (N.ne e h1).1, if_pos rfl] at c
      exact absurd c.symm (N.ne e h1).2
    · rw [if_neg (N.ne e h1).1, if_neg (N.ne e' h2).1] at c
      exact c.symm
theorem Known.root_iff (N : Known K H y dy lm rt fs es g) {e : Str × Addr} (he : e ∈ kn es rt) : e.2 = rt ↔ e.1 = "" := by
  constructor
  · intro z; exact N.inj he (e' := (("" : Str), rt)) List.mem_cons_self z
  · intro z
    rcases List.mem_cons.mp he with rfl | h
    · rfl
    · exact absurd z (N.ne e h).1
theorem Known.inT (N : Known K H y dy lm rt fs es g) {e : Str × Addr} (he : e ∈ kn es rt) : InT es rt e.2 := by
  rcases List.mem_cons.mp he with rfl | h
  · exact .inl rfl
  · exact .inr ⟨e.1, h⟩
theorem kn_lookup {t : Str} (h : t ≠ "") : (kn es rt).lookup t = es.lookup t := by
  unfold kn
  rw [List.lookup_cons, show (t == ("" : Str)) = false from by simpa using h]
/-- a logger's own things are set otherwise -/
theorem Known.set (N : Known K H y dy lm rt fs es g) {e : Str × Addr} (he : e ∈ kn es rt) {q : LG} (hd : q.d = (g e.2).d) : Known K (upd H e.2 (.ins (CL K) q.d (lG q y (rn e.1) (parV es rt e.1)))) y dy lm rt fs es (updG g e.2 q) := by
  have hE := N.at_ he
  have nly : y ≠ e.2 := fun z => by
    have a := N.tr.yd
    rw [z, hE] at a
    have := (HO.ins.inj (Option.some.inj a)).2.2
    have r := N.tr.map
    rw [← this] at r
    exact absurd r (by show (none : Option V) ≠ _; exact fun z => nomatch z)
  have nlm : lm ≠ e.2 := fun z => by have a := N.tr.lmo; rw [z, hE] at a; cases a
  have one : ∀ e' ∈ kn es rt, upd H e.2 (.ins (CL K) q.d (lG q y (rn e.1) (parV es rt e.1))) e'.2 = some (.ins (CL K) (updG g e.2 q e'.2).d (lG (updG g e.2 q e'.2) y (rn e'.1) (parV es rt e'.1))) := fun e' he' => by
    by_cases c : e'.2 = e.2
    · have c1 := N.inj he' he c
      unfold updG
      rw [c, c1, upd_same, if_pos rfl]
    · unfold updG
      rw [upd_ne c, if_neg c]; exact N.at_ he'
  refine ⟨⟨by rw [upd_ne nly]; exact N.tr.yd, N.tr.root, N.tr.map, N.tr.ms, by rw [upd_ne nlm]; exact N.tr.lmo, N.tr.nd, N.tr.sz, fun e' he' => ?_⟩, ?_, N.nm, N.few⟩
  · have h := one e' (List.mem_cons_of_mem _ he')
    unfold rn parV at h
    rw [if_neg (N.ne e' he').1, if_neg (N.ne e' he').1] at h
    exact h
  · exact one (("" : Str), rt) List.mem_cons_self
/-- a logger is got: it is there, or made -/
theorem Known.get (N : Known K H y dy lm rt fs es g) (hes : es.length ≤ 40) {t : Str} {qs : List Str} (hq : Nm qs) (ht : t = Txt.join "." qs) {Q : VK}
    (h : ∀ (H' : Hp) (a : Addr) (es' : Es) (g' : Addr → LG), (∀ b o, b ≠ lm → b ∉ es.map (·.2) → H b = some o → H' b = some o) → Known K H' y dy lm rt fs es' g' →
      ((es.lookup t = some a ∧ es' = es ∧ g' = g ∧ Same H H') ∨ (es.lookup t = none ∧ es' = es ++ [(t, a)] ∧ (∃ q : LG, g' = updG g a q ∧ q.lev = 0 ∧ q.prop = true ∧ q.dis = false ∧ H' q.hl = some (.lst []) ∧ H q.hl = none ∧ H' q.l = some (.lst []) ∧ H q.l = none ∧ q.l ≠ q.hl) ∧ H a = none)) → Q (.ref a) H') : spGetLog K [.ref y, .str t] H Q E0 := by
  subst ht
  have gd := hq.good
  have hne := hq.ne
  refine ⟨y, dy, lm, rt, fs, es, g, _, rfl, N.tr, by omega, hne.1, hne.2, gd.sz, gd.ps, ?_⟩
  cases hl : es.lookup (Txt.join "." qs) with
  | some a => exact .inl ⟨a, rfl, fun H' s' => h H' a es g (fun b o _ _ e => s' _ _ e) (N.same s') (.inl ⟨hl, rfl, rfl, s'⟩)⟩
  | none =>
    refine .inr ⟨rfl, fun H' a q NL T' => h H' a _ _ NL.kp ?_ (.inr ⟨hl, rfl, ⟨q, rfl, NL.fl.1, NL.fl.2.1, NL.fl.2.2, NL.h1, NL.h0, NL.l1, NL.l0, NL.ne⟩, NL.a0⟩)⟩
    have nroot : rt ∉ es.map (·.2) := fun z => by
      obtain ⟨e, he, z⟩ := List.mem_map.mp z
      have := N.inj (e := e) (e' := (("" : Str), rt)) (List.mem_cons_of_mem _ he) List.mem_cons_self z
      exact (N.ne e he).1 this
    have nrl : rt ≠ lm := fun z => by have e := N.rt_; unfold RootAt at e; rw [z, N.tr.lmo] at e; cases e
    have nra : rt ≠ a := fun z => by have e := N.rt_; unfold RootAt at e; rw [z, NL.a0] at e; cases e
    have R' : RootAt K H' y rt (updG g a q) := by
      unfold RootAt updG
      rw [if_neg nra]
      exact NL.kp _ _ nrl nroot N.rt_
    refine ⟨T', R', fun e he => ?_, by rw [List.length_append, List.length_singleton]; omega⟩
    rcases List.mem_append.mp he with he | he
    · exact N.nm e he
    · cases List.mem_singleton.mp he; exact ⟨qs, hq, rfl⟩
end
end
end K17

set_option Elab.async false
set_option linter.all false
set_option maxRecDepth 100000
set_option maxHeartbeats 0
namespace K17
open PySem PySem.Spec PyProof.Rows L2 RC
section
variable {P : Program} {w : World} {K : PySem.W.Frag} {mg : Str → Option Value} {base : Heap}
inductive Chain (has : Str → Bool) : Str → List Str → Prop where
  | top : Chain has "" [""]
  | up {t : Str} {l : List Str} (h : t ≠ "") (p : Chain has (lawPar has t) l) : Chain has t (t :: l)
theorem Chain.pos {has : Str → Bool} {t : Str} {l : List Str} (h : Chain has t l) : ∃ r, l = t :: r := by
  cases h with
  | top => exact ⟨[], rfl⟩
  | up h p => exact ⟨_, rfl⟩
def spChain : Sp := fun vs H Q _ => ∃ (k : Addr) (kvs : List (Key × V)) (t : Str) (l : List Str), vs = [.ref k, .str t] ∧ Rd H k (.dK kvs) ∧ Chain (hasK kvs) t l ∧ (∀ x ∈ l, Sized x) ∧ l.length ≤ 1000 ∧ ∀ (H' : Hp) (p : Addr), Same H H' → H p = none → H' p = some (.lst (l.map V.str)) → Q (.ref p) H'
end
end K17

set_option Elab.async false
set_option linter.all false
set_option maxRecDepth 100000
set_option maxHeartbeats 0
namespace K17
open PySem PySem.Spec PyProof.Rows L2 RC
section
variable {P : Program} {w : World} {K : PySem.W.Frag} {mg : Str → Option Value} {base : Heap}
/-! ### the law's model of the tree -/
structure MAd where
  (m lv pr of hd sv : Addr)
def MAd.all (A : MAd) : List Addr := [A.m, A.lv, A.pr, A.of, A.hd, A.sv]
def mdK (A : MAd) (bar : V) (h t : Addr) : List (Key × V) := [(Sum.inr "levels", .ref A.lv), (Sum.inr "props", .ref A.pr), (Sum.inr "off", .ref A.of), (Sum.inr "hands", .ref A.hd), (Sum.inr "sieves", .ref A.sv), (Sum.inr "bar", bar), (Sum.inr "handlers", .ref h), (Sum.inr "texts", .ref t)]
/-- what was laid since H0 -/
structure Gr (H0 H : Hp) (L : List (Addr × HO)) : Prop where
  sm : Same H0 H
  nd : (L.map (·.1)).Nodup
  has : ∀ x ∈ L, H0 x.1 = none ∧ H x.1 = some x.2
theorem Gr.nil (H : Hp) : Gr H H [] := ⟨Same.refl H, List.nodup_nil, fun _ h => nomatch h⟩
theorem Gr.add {H0 H : Hp} {L : List (Addr × HO)} (G : Gr H0 H L) {q : Addr} {o : HO} (h : H q = none) : Gr H0 (upd H q o) ((q, o) :: L) := by
  refine ⟨G.sm.trans (same_new h _), List.nodup_cons.mpr ⟨fun z => ?_, G.nd⟩, fun x hx => ?_⟩
  · obtain ⟨x, hx, z⟩ := List.mem_map.mp z
    have e := (G.has x hx).2
    rw [z, h] at e; cases e
  · rcases List.mem_cons.mp hx with rfl | hx
    · exact ⟨G.sm.free h, upd_same⟩
    · exact ⟨(G.has x hx).1, same_new h _ _ _ (G.has x hx).2⟩
theorem Gr.put {H0 H : Hp} {L : List (Addr × HO)} {q : Addr} {o o' : HO} (G : Gr H0 H ((q, o) :: L)) : Gr H0 (upd H q o') ((q, o') :: L) := by
  have hq := G.has _ List.mem_cons_self
  refine ⟨fun b u e => ?_, G.nd, fun x hx => ?_⟩
  · rw [upd_ne (ne_of_none e hq.1)]; exact G.sm b u e
  · rcases List.mem_cons.mp hx with rfl | hx
    · exact ⟨hq.1, upd_same⟩
    · have n : x.1 ≠ q := fun z => (List.nodup_cons.mp (show (q :: L.map (·.1)).Nodup from G.nd)).1 (by rw [← z]; exact List.mem_map_of_mem (f := (·.1)) hx)
      rw [upd_ne n]; exact G.has x (List.mem_cons_of_mem _ hx)
theorem Gr.last {H0 H : Hp} (L : List (Addr × HO)) {q : Addr} {o o' : HO} (G : Gr H0 H (L ++ [(q, o)])) : Gr H0 (upd H q o') (L ++ [(q, o')]) := by
  have G1 : Gr H0 H ((q, o) :: L) := ⟨G.sm, by
    have e := G.nd
    rw [List.map_append] at e
    exact (List.perm_append_singleton q (L.map (·.1))).nodup_iff.mp e, fun x hx => G.has x (by rcases List.mem_cons.mp hx with rfl | hx; exact List.mem_append_right _ List.mem_cons_self; exact List.mem_append_left _ hx)⟩
  have G2 := G1.put (o' := o')
  refine ⟨G2.sm, ?_, fun x hx => G2.has x ?_⟩
  · rw [List.map_append]
    exact (List.perm_append_singleton q (L.map (·.1))).nodup_iff.mpr (show (q :: L.map (fun x : Addr × HO => x.1)).Nodup from G2.nd)
  · rcases List.mem_append.mp hx with hx | hx
    · exact List.mem_cons_of_mem _ hx
    · cases List.mem_singleton.mp hx; exact List.mem_cons_self
theorem Gr.idx {H0 H : Hp} {L : List (Addr × HO)} (G : Gr H0 H L) (i : Nat) {q : Addr} {o : HO} (h : L[i]? = some (q, o)) : H q = some o := (G.has _ (List.mem_of_getElem? h)).2
theorem Gr.idn {H0 H : Hp} {L : List (Addr × HO)} (G : Gr H0 H L) (i : Nat) {q : Addr} {o : HO} (h : L[i]? = some (q, o)) : H0 q = none := (G.has _ (List.mem_of_getElem? h)).1
/-- one entry is changed -/
theorem Gr.at_ {H0 H : Hp} {L : List (Addr × HO)} (G : Gr H0 H L) (i : Nat) {q : Addr} {o : HO} (h : L[i]? = some (q, o)) (o' : HO) : Gr H0 (upd H q o') (L.set i (q, o')) := by
  have hq := G.has _ (List.mem_of_getElem? h)
  have hi := (List.getElem?_eq_some_iff.mp h).1
  have em : (L.set i (q, o')).map (·.1) = L.map (·.1) := by
    rw [List.map_set]
    refine List.ext_getElem? fun j => ?_
    by_cases c : i = j
    · subst c
      rw [List.getElem?_set_self (by rw [List.length_map]; exact hi), List.getElem?_map, h]; rfl
    · rw [List.getElem?_set_ne c]
  refine ⟨fun b u e => ?_, by rw [em]; exact G.nd, fun x hx => ?_⟩
  · rw [upd_ne (ne_of_none e hq.1)]; exact G.sm b u e
  · obtain ⟨j, hj⟩ := List.getElem?_of_mem hx
    by_cases c : i = j
    · subst c
      rw [List.getElem?_set_self hi] at hj
      cases hj
      exact ⟨hq.1, upd_same⟩
    · rw [List.getElem?_set_ne c] at hj
      have g := G.has x (List.mem_of_getElem? hj)
      have n : x.1 ≠ q := fun z => by
        have n1 : (L.map (·.1))[j]? = some q := by rw [List.getElem?_map, hj, ← z]; rfl
        have n2 : (L.map (·.1))[i]? = some q := by rw [List.getElem?_map, h]; rfl
        have l := (List.getElem?_eq_some_iff.mp n1).1
        exact c ((List.getElem?_inj l G.nd).mp (n1.trans n2.symm)).symm
      rw [upd_ne n]; exact g
theorem Gr.perm {H0 H : Hp} {L M : List (Addr × HO)} (G : Gr H0 H L) (p : M.Perm L) : Gr H0 H M := ⟨G.sm, (p.map _).nodup_iff.mpr G.nd, fun x hx => G.has x (p.mem_iff.mp hx)⟩
def spTree : Sp := fun vs H Q _ => vs = [] ∧ ∀ (H' : Hp) (A : MAd) (h t u b4 b5 : Addr) (ou : HO), Gr H H' [(t, .dK []), (h, .lst []), (u, ou), (A.sv, .dK [(Sum.inr "", .ref b5)]), (b5, .lst []), (A.hd, .dK [(Sum.inr "", .ref b4)]), (b4, .lst []), (A.of, .dK [(Sum.inr "", .bl false)]), (A.pr, .dK [(Sum.inr "", .bl true)]), (A.lv, .dK [(Sum.inr "", .int 30)]), (A.m, .dK (mdK A (.int 0) h t))] → Q (.ref A.m) H'
theorem ok_tree {f : Addr} (T : Txt P w K mg) (F : Stands K "_law_tree" "_law_tree" s__law_tree [] f) : Callable P w K mg base 1 f [] [] spTree := by
  refine F.call0 sc__law_tree (fun vs H Q E h => ?_) (fun cdv A outer s H vs Q E hr h => ?_) (fun _ _ _ _ _ _ us hl => match us, hl with | [], _ => rfl)
  · obtain ⟨rfl, _⟩ := h; rfl
  obtain ⟨rfl, hQ⟩ := h
  refine ⟨_, (pss_cons (ps_set (i := 0) sc__law_tree.nd rfl (by first | exact Or.inl rfl | exact Or.inr rfl) (pe_disp (pps_cons pe_str (pe_disp (pps_cons pe_str pe_int pps_nil) (by rfl) (by rfl) (fun z => by cases z) (by decide)) (pps_cons pe_str (pe_disp (pps_cons pe_str pe_bl pps_nil) (by rfl) (by rfl) (fun z => by cases z) (by decide)) (pps_cons pe_str (pe_disp (pps_cons pe_str pe_bl pps_nil) (by rfl) (by rfl) (fun z => by cases z) (by decide)) (pps_cons pe_str (pe_disp (pps_cons pe_str (pe_lst pa_nil) pps_nil) (by rfl) (by rfl) (fun z => by cases z) (by decide)) (pps_cons pe_str (pe_disp (pps_cons pe_str (pe_lst pa_nil) pps_nil) (by rfl) (by rfl) (fun z => by cases z) (by decide)) pps_nil))))) (by rfl) (by rfl) (fun z => by cases z) (by decide)))
      (pss_cons (ps_expr (pe_bm PySem.F.plainAttrs_dict PySem.F.slot_dict_update PySem.F.type_dict_update RF.mt_updD (pv 0) (pa_cons (pe_disp (pps_cons pe_str pe_int (pps_cons pe_str (pe_lst pa_nil) (pps_cons pe_str pe_dnewK pps_nil))) (by rfl) (by rfl) (fun z => by cases z) (by decide)) pa_nil)))
      (pss_one (ps_ret (pv 0))))), ?_⟩
  have G0 := Gr.nil H
  intro m hm
  have G1 := G0.add (o := .dK []) hm
  intro lv hlv
  have G2 := (G1.add (o := .dK []) hlv).put (o' := .dK (mergeK [] [((Sum.inr "" : Key), V.int 30)]))
  generalize e2 : upd (upd (upd H m (.dK [])) lv (.dK [])) lv (.dK (mergeK [] [((Sum.inr "" : Key), V.int 30)])) = H2 at G2
  refine ⟨upd_same, [((Sum.inr "" : Key), V.int 30)], rfl, (by show 1 ≤ 15; decide), ?_⟩
  rw [e2]; clear e2
  intro pr hpr
  have G3 := (G2.add (o := .dK []) hpr).put (o' := .dK (mergeK [] [((Sum.inr "" : Key), V.bl true)]))
  generalize e3 : upd (upd H2 pr (.dK [])) pr (.dK (mergeK [] [((Sum.inr "" : Key), V.bl true)])) = H3 at G3
  refine ⟨upd_same, [((Sum.inr "" : Key), V.bl true)], rfl, (by show 1 ≤ 15; decide), ?_⟩
  rw [e3]; clear e3
  intro o_ ho
  have G4 := (G3.add (o := .dK []) ho).put (o' := .dK (mergeK [] [((Sum.inr "" : Key), V.bl false)]))
  generalize e4 : upd (upd H3 o_ (.dK [])) o_ (.dK (mergeK [] [((Sum.inr "" : Key), V.bl false)])) = H4 at G4
  refine ⟨upd_same, [((Sum.inr "" : Key), V.bl false)], rfl, (by show 1 ≤ 15; decide), ?_⟩
  rw [e4]; clear e4
  intro hd hhd
  refine ⟨(by show 0 ≤ sizeLine; decide), fun b4 hb4 => ?_⟩
  have G5 := (((G4.add (o := .dK []) hhd).add (o := .lst []) hb4).perm (List.Perm.swap _ _ _)).put (o' := .dK (mergeK [] [((Sum.inr "" : Key), V.ref b4)]))
  have d5 := ((((G4.add (o := .dK []) hhd).add (o := .lst []) hb4).has (hd, .dK []) (by simp))).2
  generalize upd (upd H4 hd (.dK [])) b4 (.lst []) = H5a at G5 d5
  refine ⟨d5, [((Sum.inr "" : Key), V.ref b4)], rfl, (by show 1 ≤ 15; decide), ?_⟩
  generalize upd H5a hd (.dK (mergeK [] [((Sum.inr "" : Key), V.ref b4)])) = H5 at G5
  intro sv hsv
  refine ⟨(by show 0 ≤ sizeLine; decide), fun b5 hb5 => ?_⟩
  have G6 := (((G5.add (o := .dK []) hsv).add (o := .lst []) hb5).perm (List.Perm.swap _ _ _)).put (o' := .dK (mergeK [] [((Sum.inr "" : Key), V.ref b5)]))
  have d6 := ((((G5.add (o := .dK []) hsv).add (o := .lst []) hb5).has (sv, .dK []) (by simp))).2
  generalize upd (upd H5 sv (.dK [])) b5 (.lst []) = H6a at G6 d6
  refine ⟨d6, [((Sum.inr "" : Key), V.ref b5)], rfl, (by show 1 ≤ 15; decide), ?_⟩
  generalize upd H6a sv (.dK (mergeK [] [((Sum.inr "" : Key), V.ref b5)])) = H6 at G6
  have dm := (G6.has (m, .dK []) (by simp)).2
  refine ⟨dm, [(Sum.inr "levels", .ref lv), (Sum.inr "props", .ref pr), (Sum.inr "off", .ref o_), (Sum.inr "hands", .ref hd), (Sum.inr "sieves", .ref sv)], rfl, (by show 5 ≤ 15; decide), ?_⟩
  have G7 := Gr.last (o' := .dK (mergeK [] [(Sum.inr "levels", .ref lv), (Sum.inr "props", .ref pr), (Sum.inr "off", .ref o_), (Sum.inr "hands", .ref hd), (Sum.inr "sieves", .ref sv)])) [(sv, _), (b5, _), (hd, _), (b4, _), (o_, _), (pr, _), (lv, _)] G6
  have m7 : upd H6 m (.dK (mergeK [] [(Sum.inr "levels", .ref lv), (Sum.inr "props", .ref pr), (Sum.inr "off", .ref o_), (Sum.inr "hands", .ref hd), (Sum.inr "sieves", .ref sv)])) m = some (.dK (mergeK [] [(Sum.inr "levels", .ref lv), (Sum.inr "props", .ref pr), (Sum.inr "off", .ref o_), (Sum.inr "hands", .ref hd), (Sum.inr "sieves", .ref sv)])) := upd_same
  generalize upd H6 m _ = H7 at G7 m7
  refine ⟨_, rfl, .inr (.inr (.inl ⟨rfl, .inl ⟨_, m7⟩⟩)), ?_⟩
  intro u hu
  have G8 := G7.add (o := .dK []) hu
  refine ⟨(by show 0 ≤ sizeLine; decide), fun h1 hh1 => ?_⟩
  have G9 := G8.add (o := .lst []) hh1
  intro t1 ht1
  have G10 := G9.add (o := .dK []) ht1
  have u10 := (G10.has (u, .dK []) (by simp)).2
  generalize upd (upd (upd H7 u (.dK [])) h1 (.lst [])) t1 (.dK []) = H10 at G10 u10
  refine ⟨u10, [(Sum.inr "bar", .int 0), (Sum.inr "handlers", .ref h1), (Sum.inr "texts", .ref t1)], rfl, (by show 3 ≤ 15; decide), ?_⟩
  have m10 := (G10.has (m, .dK (mergeK [] [(Sum.inr "levels", .ref lv), (Sum.inr "props", .ref pr), (Sum.inr "off", .ref o_), (Sum.inr "hands", .ref hd), (Sum.inr "sieves", .ref sv)])) (by simp)).2
  have um : m ≠ u := fun z => by rw [z, hu] at m7; cases m7
  have G11 := G10.at_ 2 (q := u) (o := .dK []) rfl (.dK (mergeK [] [(Sum.inr "bar", .int 0), (Sum.inr "handlers", .ref h1), (Sum.inr "texts", .ref t1)]))
  have m11 : upd H10 u (.dK (mergeK [] [(Sum.inr "bar", .int 0), (Sum.inr "handlers", .ref h1), (Sum.inr "texts", .ref t1)])) m = some (.dK (mergeK [] [(Sum.inr "levels", .ref lv), (Sum.inr "props", .ref pr), (Sum.inr "off", .ref o_), (Sum.inr "hands", .ref hd), (Sum.inr "sieves", .ref sv)])) := by rw [upd_ne um]; exact m10
  have u11 : upd H10 u (.dK (mergeK [] [(Sum.inr "bar", .int 0), (Sum.inr "handlers", .ref h1), (Sum.inr "texts", .ref t1)])) u = some (.dK (mergeK [] [(Sum.inr "bar", .int 0), (Sum.inr "handlers", .ref h1), (Sum.inr "texts", .ref t1)])) := upd_same
  generalize upd H10 u _ = H11 at G11 m11 u11
  refine ⟨m, u, _, _, rfl, rfl, m11, .inl u11, um, (by show 5 + 3 ≤ sizeLine; decide), (by show 8 ≤ sizeLine; decide), ?_⟩
  have G12 := G11.at_ 10 (q := m) (o := .dK (mergeK [] [(Sum.inr "levels", .ref lv), (Sum.inr "props", .ref pr), (Sum.inr "off", .ref o_), (Sum.inr "hands", .ref hd), (Sum.inr "sieves", .ref sv)])) rfl (.dK (mdK ⟨m, lv, pr, o_, hd, sv⟩ (.int 0) h1 t1))
  exact ⟨_, rfl, hQ _ ⟨m, lv, pr, o_, hd, sv⟩ h1 t1 u b4 b5 _ G12⟩
end
end K17

set_option Elab.async false
set_option linter.all false
set_option maxRecDepth 100000
set_option maxHeartbeats 0
namespace K17
open PySem PySem.Spec PyProof.Rows L2 RC
section
variable {P : Program} {w : World} {K : PySem.W.Frag} {mg : Str → Option Value} {base : Heap}
/-! ### the law's model: a logger is made -/
structure MS (H : Hp) (A : MAd) (bar : V) (h t : Addr) (lv pr of_ hd sv : List (Key × V)) : Prop where
  m_ : H A.m = some (.dK (mdK A bar h t))
  lv_ : H A.lv = some (.dK lv)
  pr_ : H A.pr = some (.dK pr)
  of__ : H A.of = some (.dK of_)
  hd_ : H A.hd = some (.dK hd)
  sv_ : H A.sv = some (.dK sv)
  nd : A.all.Nodup
  ln : List.length lv ≤ 1000 ∧ List.length pr ≤ 1000 ∧ List.length of_ ≤ 1000 ∧ List.length hd ≤ 1000 ∧ List.length sv ≤ 1000
def MAd.ds (A : MAd) : List Addr := [A.lv, A.pr, A.of, A.hd, A.sv]
def spMade : Sp := fun vs H Q _ => ∃ (A : MAd) (bar : V) (h t : Addr) (lv pr of_ hd sv : List (Key × V)) (x : Str), vs = [.ref A.m, .str x] ∧ MS H A bar h t lv pr of_ hd sv ∧
  ((∃ u, valV lv (Sum.inr x) = some u ∧ Q .non H) ∨ (valV lv (Sum.inr x) = none ∧ ∀ (H' : Hp) (b4 b5 : Addr), (∀ b o, b ∉ A.ds → H b = some o → H' b = some o) → H b4 = none → H b5 = none → b4 ≠ b5 → H' b4 = some (.lst []) → H' b5 = some (.lst []) →
    H' A.m = some (.dK (mdK A bar h t)) → H' A.lv = some (.dK (putK lv (Sum.inr x) (.int 0))) → H' A.pr = some (.dK (putK pr (Sum.inr x) (.bl true))) → H' A.of = some (.dK (putK of_ (Sum.inr x) (.bl false))) → H' A.hd = some (.dK (putK hd (Sum.inr x) (.ref b4))) → H' A.sv = some (.dK (putK sv (Sum.inr x) (.ref b5))) → Q .non H'))
end
end K17

set_option Elab.async false
set_option linter.all false
set_option maxRecDepth 100000
set_option maxHeartbeats 0
namespace K17
open PySem PySem.Spec PyProof.Rows L2 RC
section
variable {P : Program} {w : World} {K : PySem.W.Frag} {mg : Str → Option Value} {base : Heap}
/-! ### the law's own level in force -/
def effL (lev : Str → Int) : List Str → Int
  | [] => 0
  | x :: r => if lev x = 0 then effL lev r else lev x
def spLawEff : Sp := fun vs H Q _ => ∃ (A : MAd) (bar : V) (h t : Addr) (lv : List (Key × V)) (x : Str) (l : List Str) (lev : Str → Int), vs = [.ref A.m, .str x] ∧ H A.m = some (.dK (mdK A bar h t)) ∧ H A.lv = some (.dK lv) ∧ Chain (hasK lv) x l ∧ (∀ y ∈ l, Sized y) ∧ l.length ≤ 1000 ∧ (∀ y ∈ l, valV lv (Sum.inr y) = some (.int (lev y))) ∧
  ∀ H', Same H H' → Q (.int (effL lev l)) H'
end
end K17

set_option Elab.async false
set_option linter.all false
set_option maxRecDepth 100000
set_option maxHeartbeats 0
namespace K17
open PySem PySem.Spec PyProof.Rows L2 RC
section
variable {P : Program} {w : World} {K : PySem.W.Frag} {mg : Str → Option Value} {base : Heap}
/-! ### the plain law of levels in force -/
theorem lawPar_parA {has : Str → Bool} {es : Es} {rt : Addr} {t : Str} (hh : ∀ x, has x = ((kn es rt).lookup x).isSome) (g : Good t) : (kn es rt).lookup (lawPar has t) = some (parA es rt t) := by
  unfold lawPar parA
  have key : ∀ k, k ≤ (Txt.split t ".").length → (kn es rt).lookup (lawIx has (Txt.split t ".") k) = some ((parIx es (Txt.split t ".") k).getD rt) := by
    intro k
    induction k with
    | zero => intro _; show (("", rt) :: es : Es).lookup ("" : Str) = some rt; rw [List.lookup_cons, beq_self_eq_true]
    | succ k ih =>
      intro hk
      have hne := pre_ne g k hk
      have e1 : (kn es rt).lookup (pre (Txt.split t ".") (k + 1)) = es.lookup (pre (Txt.split t ".") (k + 1)) := kn_lookup hne
      show (kn es rt).lookup (if has (pre (Txt.split t ".") (k + 1)) = true then _ else _) = some ((match es.lookup (pre (Txt.split t ".") (k + 1)) with | some a => some a | none => parIx es (Txt.split t ".") k).getD rt)
      rw [hh, e1]
      cases e : es.lookup (pre (Txt.split t ".") (k + 1)) with
      | some a => rw [if_pos (show (some a).isSome = true from rfl), e1, e]; rfl
      | none => rw [if_neg (by simp)]; exact ih (Nat.le_of_succ_le hk)
  exact key _ (Nat.sub_le _ _)
theorem lawIx_cases (has : Str → Bool) (parts : List Str) : ∀ k, lawIx has parts k = "" ∨ ∃ j, 1 ≤ j ∧ j ≤ k ∧ lawIx has parts k = pre parts j
  | 0 => .inl rfl
  | k + 1 => by
    show (if has (pre parts (k + 1)) = true then pre parts (k + 1) else lawIx has parts k) = "" ∨ ∃ j, 1 ≤ j ∧ j ≤ k + 1 ∧ (if has (pre parts (k + 1)) = true then pre parts (k + 1) else lawIx has parts k) = pre parts j
    by_cases c : has (pre parts (k + 1)) = true
    · rw [if_pos c]; exact .inr ⟨k + 1, by omega, Nat.le_refl _, rfl⟩
    · rw [if_neg c]
      rcases lawIx_cases has parts k with h | ⟨j, h1, h2, h3⟩
      · exact .inl h
      · exact .inr ⟨j, h1, by omega, h3⟩
def dpt (t : Str) : Nat := if t = "" then 0 else (Txt.split t ".").length
theorem dpt_join {qs : List Str} (h : ∀ p ∈ qs, p ∈ partsG) (hp : 1 ≤ qs.length) : dpt (Txt.join "." qs) ≤ qs.length := by
  unfold dpt
  rw [split_in6 h hp]
  split <;> omega
theorem sized_nil : Sized "" := ⟨by decide, by decide +kernel, by decide +kernel⟩
def levOf (es : Es) (rt : Addr) (g : Addr → LG) (y : Str) : Int := match (kn es rt).lookup y with
  | some a => (g a).lev
  | none => 0
section
variable {H : Hp} {y dy lm rt : Addr} {fs : List (Str × V)} {es : Es} {g : Addr → LG} {has : Str → Bool}
theorem Known.par_mem (N : Known K H y dy lm rt fs es g) (hh : ∀ x, has x = ((kn es rt).lookup x).isSome) {e : Str × Addr} (he : e ∈ es) : (lawPar has e.1, parA es rt e.1) ∈ kn es rt ∧ dpt (lawPar has e.1) < dpt e.1 := by
  refine ⟨lookup_mem (lawPar_parA hh (N.good e he)), ?_⟩
  obtain ⟨qs, hq, z⟩ := N.nm e he
  have hs := split_in6 hq.in6 hq.pos
  have d1 : dpt e.1 = qs.length := by
    unfold dpt
    rw [if_neg (N.ne e he).1, z, hs]
  rw [d1]
  unfold lawPar
  rw [z, hs]
  have hp := hq.pos
  rcases lawIx_cases has qs (qs.length - 1) with h | ⟨j, h1, h2, h3⟩
  · rw [h]; show (if ("" : Str) = "" then 0 else _) < _; rw [if_pos rfl]; omega
  · rw [h3]
    unfold pre
    refine Nat.lt_of_le_of_lt (dpt_join (fun p hp => hq.in6 p (List.mem_of_mem_take hp)) ?_) ?_
    · rw [List.length_take]; omega
    · rw [List.length_take]; omega
theorem Known.levOf (N : Known K H y dy lm rt fs es g) {e : Str × Addr} (he : e ∈ kn es rt) : levOf es rt g e.1 = (g e.2).lev := by
  unfold K17.levOf
  rw [lookup_nd he N.nd]
theorem Known.sized (N : Known K H y dy lm rt fs es g) {e : Str × Addr} (he : e ∈ kn es rt) : Sized e.1 := by
  rcases List.mem_cons.mp he with rfl | h
  · exact sized_nil
  · exact N.tr.sz e h
theorem Known.dpt5 (N : Known K H y dy lm rt fs es g) {e : Str × Addr} (he : e ∈ kn es rt) : dpt e.1 ≤ 5 := by
  rcases List.mem_cons.mp he with rfl | h
  · show (if ("" : Str) = "" then 0 else _) ≤ 5; rw [if_pos rfl]; omega
  · obtain ⟨qs, hq, z⟩ := N.nm e h
    rw [z]
    exact Nat.le_trans (dpt_join hq.in6 hq.pos) hq.few
theorem Known.chain (N : Known K H y dy lm rt fs es g) (hh : ∀ x, has x = ((kn es rt).lookup x).isSome) : ∀ (m : Nat) (e : Str × Addr), e ∈ kn es rt → dpt e.1 ≤ m →
    ∃ (l : List Str) (n : Nat), Chain has e.1 l ∧ l.length ≤ m + 1 ∧ (∀ x ∈ l, ∃ e' ∈ kn es rt, e'.1 = x) ∧ EffN es rt g n e.2 (effL (K17.levOf es rt g) l) := by
  intro m
  induction m with
  | zero =>
    intro e he hd
    rcases List.mem_cons.mp he with rfl | h
    · refine ⟨[""], 0, .top, by simp, fun x hx => ⟨_, he, (List.mem_singleton.mp hx).symm⟩, ?_⟩
      have hl := N.levOf he
      show EffN es rt g 0 rt (if K17.levOf es rt g "" = 0 then 0 else K17.levOf es rt g "")
      rw [hl]
      by_cases c : (g rt).lev = 0
      · rw [if_pos c]; exact .root c
      · rw [if_neg c]; exact .here c
    · have := (N.par_mem hh h).2; omega
  | succ m ih =>
    intro e he hd
    rcases List.mem_cons.mp he with rfl | h
    · obtain ⟨l, n, a, b, c, d⟩ := ih _ he (by show (if ("" : Str) = "" then 0 else _) ≤ m; rw [if_pos rfl]; omega)
      exact ⟨l, n, a, by omega, c, d⟩
    · obtain ⟨p1, p2⟩ := N.par_mem hh h
      obtain ⟨l, n, a, b, c, d⟩ := ih _ p1 (by show dpt (lawPar has e.1) ≤ m; omega)
      have hl := N.levOf he
      by_cases z : (g e.2).lev = 0
      · refine ⟨e.1 :: l, n + 1, .up (N.ne e h).1 a, by simp; omega, fun x hx => ?_, ?_⟩
        · rcases List.mem_cons.mp hx with rfl | hx
          · exact ⟨e, he, rfl⟩
          · exact c x hx
        · show EffN es rt g (n + 1) e.2 (if K17.levOf es rt g e.1 = 0 then _ else K17.levOf es rt g e.1)
          rw [hl, if_pos z]
          exact .up (t := e.1) h z d
      · refine ⟨e.1 :: l, 0, .up (N.ne e h).1 a, by simp; omega, fun x hx => ?_, ?_⟩
        · rcases List.mem_cons.mp hx with rfl | hx
          · exact ⟨e, he, rfl⟩
          · exact c x hx
        · show EffN es rt g 0 e.2 (if K17.levOf es rt g e.1 = 0 then _ else K17.levOf es rt g e.1)
          rw [hl, if_neg z]
          exact .here z
end
end
end K17

set_option Elab.async false
set_option linter.all false
set_option maxRecDepth 100000
set_option maxHeartbeats 0
namespace K17
open PySem PySem.Spec PyProof.Rows L2 RC
section
variable {P : Program} {w : World} {K : PySem.W.Frag} {mg : Str → Option Value} {base : Heap}
/-! ### filters -/
abbrev CF (K : PySem.W.Frag) : Addr := He.ga K "Filter"
abbrev CR (K : PySem.W.Frag) : Addr := He.ga K "LogRecord"
/-- a Filter of the name nm stands at a -/
def FilterAt (K : PySem.W.Frag) (H : Hp) (a : Addr) (nm : Str) : Prop := (∃ dx, H a = some (.ins (CF K) dx [("name", .str nm)])) ∧ nm.length ≤ 2000
/-- a record of the name rn stands at r -/
def RecName (K : PySem.W.Frag) (H : Hp) (r : Addr) (rn : Str) : Prop := ∃ dx fs, H r = some (.ins (CR K) dx fs) ∧ fs.lookup ("name" : Str) = some (.str rn)
def belowB (rn nm : Str) : Bool := decide (rn = nm) || Txt.startswith rn (nm ++ ".")
def passB (rn nm : Str) : Bool := decide (nm = "") || belowB rn nm
theorem len_dot (x : Str) : (x ++ ("." : Str)).length = x.length + 1 := by
  rw [TL.len_tl, TL.tl_append, List.length_append, ← TL.len_tl]; rfl
theorem bl_or (a b : Bool) : (if a = true then V.bl true else V.bl b) = V.bl (a || b) := by cases a <;> rfl
def spFilterInit : Sp := fun vs H Q _ => ∃ (C p dx : Addr) (nm : V), vs = [.ref p, nm] ∧ H p = some (.ins C dx []) ∧ Cls K C ∧ NoAttr K C "name" ∧ Q .non (upd H p (.ins C dx [("name", nm)]))
theorem ok_filter_init {f : Addr} {dvs : List V} (T : Txt P w K mg) (F : Stands K "__init__" "Filter.__init__" s_Filter_init [.str ""] f) : Callable P w K mg base 1 f ["self", "name"] [] (spFilterInit (K := K)) ∧ Callable P w K mg base 1 f ["self", "name"] [.str ""] (spFilterInit (K := K)) := by
  have body : ∀ (cdv : Value) (A : Around) (outer : List Env) (s : Shared) (H : Hp) (vs : List V) (Q : VK) (E : XK), Room 0 (A.deeper (envOfC "Filter.__init__" (defScope s_Filter_init) s.heap.objs.size f cdv)) → spFilterInit (K := K) vs H Q E →
      ∃ t, PSs (cxOf CX0 P w K mg base nm_Filter_init "Filter.__init__" (defScope s_Filter_init) f cdv A outer s H E).nox (defBody s_Filter_init) t ∧ t { nx := fun _ H' => Q .non H', rt := Q } (start nm_Filter_init vs) H := fun cdv A outer s H vs Q E hr h => by
    obtain ⟨C, p, dx, nm, rfl, hp, c, n, hQ⟩ := h
    refine ⟨_, (pss_one (ps_fld (pv 0) (pv 1) rfl)), ?_⟩
    exact ⟨_, rfl, _, rfl, p, C, dx, [], rfl, hp, c, n, (by show 0 < 1000; decide), hQ⟩
  have len : ∀ vs H Q E, spFilterInit (K := K) vs H Q E → vs.length = 2 := fun vs H Q E h => by
    obtain ⟨C, p, dx, nm, rfl, _⟩ := h; rfl
  exact ⟨F.call sc_Filter_init 2 1 len body (fun z => nomatch z) fun _ => ⟨rfl, fun _ _ _ _ _ _ _ us its hl hi => match us, hl, its, hi with | [_, _], _, [_], _ => ⟨_, rfl, rfl⟩⟩,
    F.call sc_Filter_init 1 0 len body (fun z => nomatch z) fun _ => ⟨rfl, fun _ _ _ _ _ _ _ us its hl hi => match us, hl, its, hi with | [_], _, [_], _ => ⟨_, rfl, rfl⟩⟩⟩
def spBelow : Sp := fun vs H Q _ => ∃ (a b : Str), vs = [.str a, .str b] ∧ b.length ≤ 2000 ∧ Q (.bl (belowB a b)) H
theorem ok_below {f : Addr} (T : Txt P w K mg) (F : Stands K "is_below" "is_below" s_is_below [] f) : Callable P w K mg base 1 f ["name", "above"] [] spBelow := by
  refine F.call0 sc_is_below (fun vs H Q E h => ?_) (fun cdv A outer s H vs Q E hr h => ?_) (fun _ _ _ _ _ _ us hl => match us, hl with | [_, _], _ => rfl)
  · obtain ⟨a, b, rfl, _⟩ := h; rfl
  obtain ⟨a, b, rfl, hb, hQ⟩ := h
  refine ⟨_, (pss_one (ps_ret (pe_or (pe_cmpR op_eq (pv 0) (pv 1) (nomark _)) (pe_one (pe_m1 PySem.F.slot_str_startswith PySem.F.type_str_startswith mt_startswith (pv 0) (pe_op op_add_str (pv 1) pe_str)))))), ?_⟩
  refine ⟨_, rfl, _, rfl, rfl, _, rfl, ?_⟩
  unfold belowB at hQ
  by_cases e : a = b
  · have e1 : decide (V.str a = V.str b) = true := decide_eq_true (congrArg V.str e)
    rw [decide_eq_true e, Bool.true_or] at hQ
    exact iteT' e1 hQ
  · have e1 : decide (V.str a = V.str b) = false := decide_eq_false fun z => e (V.str.inj z)
    rw [decide_eq_false e, Bool.false_or] at hQ
    refine iteF' e1 ?_
    exact ⟨_, rfl, ⟨_, rfl⟩, _, rfl, _, _, rfl, rfl, (by rw [sizeLine_eq]; show b.length + 1 ≤ _; omega), _, _, rfl, rfl, hQ⟩
def spPasses (K : PySem.W.Frag) : Sp := fun vs H Q _ => ∃ (f r : Addr) (nm rn : Str), vs = [.ref f, .ref r] ∧ FilterAt K H f nm ∧ RecName K H r rn ∧ Q (.bl (passB rn nm)) H
theorem ok_passes {f fb : Addr} (T : Txt P w K mg) (F : Stands K "passes" "Filter.passes" s_Filter_passes [] f) (c_is_below : Callable P w K mg base 1 (He.ga K "is_below") ["name", "above"] [] spBelow) : Callable P w K mg base 2 f ["self", "record"] [] (spPasses K) := by
  refine F.call0 sc_Filter_passes (fun vs H Q E h => ?_) (fun cdv A outer s H vs Q E hr h => ?_) (fun _ _ _ _ _ _ us hl => match us, hl with | [_, _], _ => rfl)
  · obtain ⟨f, r, nm, rn, rfl, _⟩ := h; rfl
  obtain ⟨f, r, nm, rn, rfl, ⟨⟨dx, hf⟩, hl⟩, ⟨dr, fs, hr1, hr2⟩, hQ⟩ := h
  refine ⟨_, (pss_one (ps_ret (pe_or (pe_cmpR op_eq (pe_fld (pv 0) rfl) pe_str (nomark _)) (pe_one (pe_fn T.g_is_below c_is_below (hr.mono (by first | decide | exact Nat.le_refl _)) (by rfl) (pa_cons (pe_fld (pv 1) rfl) (pa_cons (pe_fld (pv 0) rfl) pa_nil))))))), ?_⟩
  refine ⟨_, rfl, f, _, dx, _, _, rfl, hf, T.c_Filter, T.n_Filter_name, rfl, rfl, _, rfl, ?_⟩
  unfold passB at hQ
  by_cases e : nm = ""
  · rw [decide_eq_true e, Bool.true_or] at hQ
    exact iteT' (decide_eq_true (congrArg V.str e)) hQ
  · rw [decide_eq_false e, Bool.false_or] at hQ
    refine iteF' (decide_eq_false fun z => e (V.str.inj z)) ?_
    exact ⟨_, rfl, r, _, dr, _, _, rfl, hr1, T.c_LogRecord, T.n_LogRecord_name, hr2, _, rfl, f, _, dx, _, _, rfl, hf, T.c_Filter, T.n_Filter_name, rfl, _, _, rfl, hl, hQ⟩
def spLetBy (K : PySem.W.Frag) : Sp := fun vs H Q _ => ∃ (f r : Addr) (nm rn : Str), vs = [.ref f, .ref r] ∧ FilterAt K H f nm ∧ RecName K H r rn ∧ Q (if passB rn nm = true then .ref r else .non) H
theorem ok_let_by {f : Addr} (T : Txt P w K mg) (F : Stands K "let_by" "let_by" s_let_by [] f) (c_Filter_passes : Callable P w K mg base 2 (He.ma K (He.ga K "Filter") "passes") ["self", "record"] [] (spPasses K)) : Callable P w K mg base 3 f ["one", "record"] [] (spLetBy K) := by
  refine F.call0 sc_let_by (fun vs H Q E h => ?_) (fun cdv A outer s H vs Q E hr h => ?_) (fun _ _ _ _ _ _ us hl => match us, hl with | [_, _], _ => rfl)
  · obtain ⟨f, r, nm, rn, rfl, _⟩ := h; rfl
  obtain ⟨f, r, nm, rn, rfl, hF, hR, hQ⟩ := h
  obtain ⟨⟨dx, hf⟩, hl⟩ := id hF
  refine ⟨_, (pss_cons (ps_if (pt_val (pe_callB call_isi (by rfl) T.b_isinstance (by decide +kernel) (pa_cons (pv 0) (pa_cons (pe_glob (v := .ref _) (by rfl) T.g_Filter rfl) pa_nil)))) (pss_one (ps_ret (pe_ifExp (pt_val (pe_mt T.c_Filter T.m_Filter_passes c_Filter_passes (hr.mono (by first | decide | exact Nat.le_refl _)) (pv 0) (pa_cons (pv 1) pa_nil))) (pv 1) pe_non))) pss_nil)
      (pss_cons ps_never
      (pss_cons (ps_if (pt_val (pe_callB call_isi (by rfl) T.b_isinstance (by decide +kernel) (pa_cons (pv 2) (pa_cons (pe_glob (v := .ref _) (by rfl) T.g_LogRecord rfl) pa_nil)))) (pss_one (ps_ret (pv 2))) pss_nil)
      (pss_one (ps_ret (pe_ifExp (pt_val (pv 2)) (pv 1) pe_non)))))), ?_⟩
  refine ⟨_, rfl, _, _, _, _, _, rfl, .own _, T.ty_Filter.tyx T.c_Filter hf, T.kit_Filter_Filter, _, rfl, ?_⟩
  refine iteT ?_
  refine ⟨_, rfl, f, dx, _, rfl, hf, rfl, _, rfl, f, r, nm, rn, rfl, hF, hR, _, rfl, ?_⟩
  cases e : passB rn nm with
  | true => rw [e] at hQ; exact iteT ⟨_, rfl, hQ⟩
  | false => rw [e] at hQ; exact iteF hQ
end
end K17

set_option Elab.async false
set_option linter.all false
set_option maxRecDepth 100000
set_option maxHeartbeats 4000000
/-! A model M of what stands at the places ad: what is changed at one model leaves the others. -/
namespace RR
open PySem PySem.Spec PyProof.Rows L2 RC
section
variable {R S : Type} {M M' M'' : R → Option HO} {N N' : S → Option HO} {ad ad' ad'' : R → Addr} {bd bd' : S → Addr} {H H' H'' : Hp} {b p s l : Addr} {o o0 o1 : HO}
structure Rep (M : R → Option HO) (ad : R → Addr) (H : Hp) : Prop where
  at_ : ∀ r o, M r = some o → H (ad r) = some o
  inj : ∀ r r' o o', M r = some o → M r' = some o' → ad r = ad r' → r = r'
def Out (M : R → Option HO) (ad : R → Addr) (b : Addr) : Prop := ∀ r u, M r = some u → ad r ≠ b
structure Mv {R S : Type} (M : R → Option HO) (ad : R → Addr) (H : Hp) (M' : S → Option HO) (ad' : S → Addr) (H' : Hp) : Prop where
  keep : ∀ b o, Out M ad b → H b = some o → H' b = some o
  img : ∀ r u, M' r = some u → (∃ r' u', M r' = some u' ∧ ad r' = ad' r) ∨ H (ad' r) = none
theorem Rep.out (h : Rep M ad H) (hp : H p = none) : Out M ad p := fun r u e z => by rw [← z, h.at_ _ _ e] at hp; cases hp
theorem Mv.refl (H : Hp) : Mv M ad H M ad H := ⟨fun _ _ _ e => e, fun r u e => .inl ⟨r, u, e, rfl⟩⟩
theorem Mv.out {R S : Type} {M : R → Option HO} {ad : R → Addr} {M' : S → Option HO} {ad' : S → Addr} (m : Mv M ad H M' ad' H') (h : Out M ad b) (e : H b = some o) : Out M' ad' b := fun r u er z => by
  rcases m.img r u er with ⟨r', u', e', z'⟩ | hn
  · exact h r' u' e' (z'.trans z)
  · rw [z, e] at hn; cases hn
theorem Mv.trans {R S U : Type} {M : R → Option HO} {ad : R → Addr} {M' : S → Option HO} {ad' : S → Addr} {M'' : U → Option HO} {ad'' : U → Addr} (a : Mv M ad H M' ad' H') (c : Mv M' ad' H' M'' ad'' H'') : Mv M ad H M'' ad'' H'' where
  keep := fun b o h e => c.keep b o (a.out h e) (a.keep b o h e)
  img := fun r u e => by
    rcases c.img r u e with ⟨r', u', e', z⟩ | hn
    · rcases a.img r' u' e' with ⟨r2, u2, e2, z2⟩ | h
      · exact .inl ⟨r2, u2, e2, z2.trans z⟩
      · exact .inr (by rw [← z]; exact h)
    · cases hH : H (ad'' r) with
      | none => exact .inr rfl
      | some o =>
        by_cases ho : Out M ad (ad'' r)
        · rw [a.keep _ _ ho hH] at hn; cases hn
        · refine .inl ?_
          apply Classical.byContradiction
          intro z
          exact ho fun r' u' e' q => z ⟨r', u', e', q⟩
theorem Rep.same (h : Rep M ad H) (e : Same H H') : Rep M ad H' := ⟨fun r o q => e _ _ (h.at_ r o q), h.inj⟩
theorem Mv.same (e : Same H H') : Mv M ad H M ad H' := ⟨fun b o _ q => e b o q, fun r u q => .inl ⟨r, u, q, rfl⟩⟩
theorem Mv.sameR {R S : Type} {M : R → Option HO} {ad : R → Addr} {M' : S → Option HO} {ad' : S → Addr} (a : Mv M ad H M' ad' H') (e : Same H' H'') : Mv M ad H M' ad' H'' := a.trans (Mv.same e)
theorem Mv.sameL {R S : Type} {M : R → Option HO} {ad : R → Addr} {M' : S → Option HO} {ad' : S → Addr} (a : Mv M ad H' M' ad' H'') (e : Same H H') : Mv M ad H M' ad' H'' := (Mv.same e).trans a
def Dj (M : R → Option HO) (ad : R → Addr) (N : S → Option HO) (bd : S → Addr) : Prop := ∀ r u, N r = some u → Out M ad (bd r)
theorem Dj.symm (d : Dj M ad N bd) : Dj N bd M ad := fun r u e r' u' e' z => d r' u' e' r u e z.symm
theorem Mv.rep {R S U : Type} {M : R → Option HO} {ad : R → Addr} {M' : S → Option HO} {ad' : S → Addr} {N : U → Option HO} {bd : U → Addr} (a : Mv M ad H M' ad' H') (d : Dj M ad N bd) (n : Rep N bd H) : Rep N bd H' := ⟨fun r o q => a.keep _ _ (d r o q) (n.at_ r o q), n.inj⟩
theorem Mv.dj {R S U : Type} {M : R → Option HO} {ad : R → Addr} {M' : S → Option HO} {ad' : S → Addr} {N : U → Option HO} {bd : U → Addr} (a : Mv M ad H M' ad' H') (d : Dj M ad N bd) (n : Rep N bd H) : Dj M' ad' N bd := fun r u q => a.out (d r u q) (n.at_ r u q)
theorem Rep.set (h : Rep M ad H) (r : R) (h0 : M r = some o0) (h1 : M' r = some o) (h2 : ∀ r', r' ≠ r → M' r' = M r') : Rep M' ad (upd H (ad r) o) ∧ Mv M ad H M' ad (upd H (ad r) o) := by
  have k : ∀ r' u, M' r' = some u → ∃ u', M r' = some u' := fun r' u e => by
    by_cases c : r' = r
    · rw [c]; exact ⟨_, h0⟩
    · rw [h2 r' c] at e; exact ⟨_, e⟩
  refine ⟨⟨fun r' u e => ?_, fun r1 r2 u1 u2 e1 e2 z => ?_⟩, fun b u hb e => ?_, fun r' u e => ?_⟩
  · by_cases c : r' = r
    · rw [c, upd_same]; rw [c, h1] at e; exact e
    · rw [h2 r' c] at e
      rw [upd_ne (fun z => c (h.inj _ _ _ _ e h0 z))]; exact h.at_ _ _ e
  · obtain ⟨v1, q1⟩ := k _ _ e1
    obtain ⟨v2, q2⟩ := k _ _ e2
    exact h.inj _ _ _ _ q1 q2 z
  · rw [upd_ne (fun z => hb r _ h0 z.symm)]; exact e
  · obtain ⟨u', q⟩ := k _ _ e
    exact .inl ⟨r', u', q, rfl⟩
theorem Rep.new (h : Rep M ad H) (hp : H p = none) (r : R) (h1 : M' r = some o) (h2 : ∀ r', r' ≠ r → M' r' = M r') (a1 : ad' r = p) (a2 : ∀ r', r' ≠ r → ad' r' = ad r') : Rep M' ad' (upd H p o) ∧ Mv M ad H M' ad' (upd H p o) := by
  refine ⟨⟨fun r' u e => ?_, fun r1 r2 u1 u2 e1 e2 z => ?_⟩, fun b u hb e => ?_, fun r' u e => ?_⟩
  · by_cases c : r' = r
    · rw [c, a1, upd_same]; rw [c, h1] at e; exact e
    · rw [h2 r' c] at e
      have g := h.at_ _ _ e
      rw [a2 r' c, upd_ne (fun z => by rw [z, hp] at g; cases g)]; exact g
  · by_cases c1 : r1 = r
    · by_cases c2 : r2 = r
      · rw [c1, c2]
      · rw [h2 r2 c2] at e2
        have g := h.at_ _ _ e2
        rw [c1, a1, a2 r2 c2] at z
        rw [← z, hp] at g; cases g
    · by_cases c2 : r2 = r
      · rw [h2 r1 c1] at e1
        have g := h.at_ _ _ e1
        rw [c2, a1, a2 r1 c1] at z
        rw [z, hp] at g; cases g
      · rw [h2 r1 c1] at e1
        rw [h2 r2 c2] at e2
        rw [a2 r1 c1, a2 r2 c2] at z
        exact h.inj _ _ _ _ e1 e2 z
  · rw [upd_ne (fun z => by rw [z, hp] at e; cases e)]; exact e
  · by_cases c : r' = r
    · rw [c, a1]; exact .inr hp
    · rw [h2 r' c] at e
      exact .inl ⟨r', u, e, (a2 r' c).symm⟩
/-- a new thing at one place, and a place that tells of it -/
theorem Rep.newset (h : Rep M ad H) (hp : H p = none) (r r0 : R) (hr : r0 ≠ r) (h0 : M r0 = some o0) (h1 : M' r = some o) (h3 : M' r0 = some o1) (h2 : ∀ r', r' ≠ r → r' ≠ r0 → M' r' = M r') (a1 : ad' r = p) (a2 : ∀ r', r' ≠ r → ad' r' = ad r') :
    Rep M' ad' (upd (upd H p o) (ad r0) o1) ∧ Mv M ad H M' ad' (upd (upd H p o) (ad r0) o1) := by
  classical
  obtain ⟨g1, g2⟩ := h.new (M' := fun r' => if r' = r then some o else M r') hp r (if_pos rfl) (fun r' c => if_neg c) a1 a2
  have e0 : (fun r' => if r' = r then some o else M r') r0 = some o0 := (if_neg hr).trans h0
  obtain ⟨g3, g4⟩ := g1.set (M' := M') r0 e0 h3 (fun r' c => by
    by_cases d : r' = r
    · rw [d, h1]; exact (if_pos rfl).symm
    · rw [h2 r' d c]; exact (if_neg d).symm)
  rw [a2 r0 hr] at g3 g4
  exact ⟨g3, g2.trans g4⟩
theorem Rep.old (h : Rep M ad H) (e : Old s l H H') (hs : Out M ad s) (hl : Out M ad l) : Rep M ad H' := ⟨fun r o q => e _ _ (fun z => hs r o q z) (fun z => hl r o q z) (h.at_ r o q), h.inj⟩
theorem Stm.mv {R S : Type} {M : R → Option HO} {ad : R → Addr} {M' : S → Option HO} {ad' : S → Addr} {n : Nat} (st : Stm H s l n) (a : Mv M ad H M' ad' H') (hs : Out M ad s) (hl : Out M ad l) : Stm H' s l n := by
  obtain ⟨ne, ns, x, c, d, g1, g2, g3⟩ := st
  exact ⟨ne, ns, x, c, d, a.keep _ _ hs g1, a.keep _ _ hl g2, g3⟩
end
end RR

set_option Elab.async false
set_option linter.all false
set_option maxRecDepth 100000
set_option maxHeartbeats 0
namespace K17
open PySem PySem.Spec PyProof.Rows L2 RC
section
variable {P : Program} {w : World} {K : PySem.W.Frag} {mg : Str → Option Value} {base : Heap}
/-! ### a yard and the law's own of it: one model of both -/
abbrev CS (K : PySem.W.Frag) : Addr := He.ga K "StreamHandler"
abbrev CN (K : PySem.W.Frag) : Addr := He.ga K "NullHandler"
/-- a handler: whether it is a NullHandler, its stream, level, filters' names, terminator -/
structure HM where
  (null : Bool) (st : Str) (lv : Int) (sv : List Str) (tm : Str)
/-- what a yard knows -/
structure TM where
  (names : List Str) (lev : Str → Int) (prop dis : Str → Bool) (hands : Str → List Nat) (sv : Str → List Str)
  (hs : List HM) (texts : List (Str × Str)) (fails : List (Str × Str)) (bar clk : Int) (nms nums : List (Key × V))
def TM.all (m : TM) : List Str := "" :: m.names
/-- the places of a yard -/
inductive YRo where
  | y | yD | st | fi | na | nu | lm | md | hn | fr | lr | lrD | lrF
  | lg (x : Str) | lgD (x : Str) | lgF (x : Str) | lgH (x : Str) | lf (x : Str) (k : Nat) | lfD (x : Str) (k : Nat)
  | hd (j : Nat) | hdD (j : Nat) | hdF (j : Nat) | hf (j k : Nat) | hfD (j k : Nat) | ft (k : Nat)
def yFm (m : TM) (ad : YRo → Addr) : List (Str × V) := [("clock", .int m.clk), ("stream_texts", .ref (ad .st)), ("file_rows", .ref (ad .fi)), ("names_of", .ref (ad .na)), ("numbers_of", .ref (ad .nu)), ("bar_level", .int m.bar), ("logger_map", .ref (ad .lm)), ("made", .ref (ad .md)), ("handler_names", .ref (ad .hn)), ("failure_rows", .ref (ad .fr)), ("root", .ref (ad (.lg ""))), ("last_resort", .ref (ad .lr))]
def hdF (fl y : Addr) (lv : Int) (tm : Str) : List (Str × V) := [("filters", .ref fl), ("yard", .ref y), ("level", .int lv), ("formatter", .non), ("name", .non), ("terminator", .str tm), ("closed", .bl false)]
def hdS (fl y : Addr) (lv : Int) (tm st : Str) : List (Str × V) := [("filters", .ref fl), ("yard", .ref y), ("level", .int lv), ("formatter", .non), ("name", .non), ("terminator", .str tm), ("closed", .bl false), ("stream", .str st)]
def esM (m : TM) (ad : YRo → Addr) : Es := m.names.map fun x => (x, ad (.lg x))
def LGm (m : TM) (ad : YRo → Addr) (x : Str) : LG := ⟨ad (.lgD x), ad (.lgF x), ad (.lgH x), m.lev x, m.prop x, m.dis x⟩
def hdO (K : PySem.W.Frag) (ad : YRo → Addr) (j : Nat) (h : HM) : HO := if h.null = true then .ins (CN K) (ad (.hdD j)) (hdF (ad (.hdF j)) (ad .y) h.lv h.tm) else .ins (CS K) (ad (.hdD j)) (hdS (ad (.hdF j)) (ad .y) h.lv h.tm h.st)
def strK (ts : List (Str × Str)) : List (Key × V) := ts.map fun e => ((Sum.inr e.1 : Key), V.str e.2)
def Y (K : PySem.W.Frag) (m : TM) (ad : YRo → Addr) : YRo → Option HO
  | .y => some (.ins (CY K) (ad .yD) (yFm m ad))
  | .st => some (.dK (strK m.texts))
  | .fi => some (.dK [])
  | .na => some (.dK m.nms)
  | .nu => some (.dK m.nums)
  | .lm => some (.dK (lmK (esM m ad)))
  | .md => some (.lst ((List.range m.hs.length).map fun j => .ref (ad (.hd j))))
  | .hn => some (.dK [])
  | .fr => some (.lst ((List.range m.fails.length).map fun k => .ref (ad (.ft k))))
  | .lr => some (.ins (CS K) (ad .lrD) (hdS (ad .lrF) (ad .y) 0 "\n" "stderr"))
  | .lrF => some (.lst [])
  | .lg x => if x ∈ m.all then some (.ins (CL K) (ad (.lgD x)) (lG (LGm m ad x) (ad .y) (rn x) (parV (esM m ad) (ad (.lg "")) x))) else none
  | .lgF x => if x ∈ m.all then some (.lst ((List.range (m.sv x).length).map fun k => .ref (ad (.lf x k)))) else none
  | .lgH x => if x ∈ m.all then some (.lst ((m.hands x).map fun j => .ref (ad (.hd j)))) else none
  | .lf x k => if x ∈ m.all then (m.sv x)[k]?.map fun n => .ins (CF K) (ad (.lfD x k)) [("name", .str n)] else none
  | .hd j => m.hs[j]?.map (hdO K ad j)
  | .hdF j => m.hs[j]?.map fun h => .lst ((List.range h.sv.length).map fun k => .ref (ad (.hf j k)))
  | .hf j k => (m.hs[j]?.bind fun h => h.sv[k]?).map fun n => .ins (CF K) (ad (.hfD j k)) [("name", .str n)]
  | .ft k => m.fails[k]?.map fun e => .tup [.str e.1, .str e.2]
  | .yD | .lrD | .lgD _ | .lfD _ _ | .hdD _ | .hfD _ _ => none
abbrev YR (K : PySem.W.Frag) (m : TM) (ad : YRo → Addr) (H : Hp) : Prop := RR.Rep (Y K m ad) ad H
abbrev YM (K : PySem.W.Frag) (m : TM) (ad : YRo → Addr) (H : Hp) (m' : TM) (ad' : YRo → Addr) (H' : Hp) : Prop := RR.Mv (Y K m ad) ad H (Y K m' ad') ad' H'
/-- sizes and names -/
structure TM.Ok (m : TM) : Prop where
  nm : ∀ x ∈ m.names, ∃ qs, Nm qs ∧ x = Txt.join "." qs
  nd : m.names.Nodup
  few : m.names.length ≤ 40
  hj : ∀ x ∈ m.all, ∀ j ∈ m.hands x, j < m.hs.length
  hl : ∀ x, (m.hands x).Nodup
  nh : m.hs.length ≤ 30
  svl : ∀ x, (m.sv x).length ≤ 20
  svs : ∀ x, ∀ n ∈ m.sv x, n.length ≤ 2000
  hsv : ∀ h ∈ m.hs, h.sv.length ≤ 20 ∧ (∀ n ∈ h.sv, n.length ≤ 2000) ∧ h.tm.length ≤ 100 ∧ h.st.length ≤ 100 ∧ h.null = false
theorem TM.mem_root (m : TM) : ("" : Str) ∈ m.all := List.mem_cons_self
section
variable {m m' : TM} {ad ad' : YRo → Addr} {H H' : Hp} {x : Str} {j k : Nat}
theorem Y_lg (hx : x ∈ m.all) : Y K m ad (.lg x) = some (.ins (CL K) (ad (.lgD x)) (lG (LGm m ad x) (ad .y) (rn x) (parV (esM m ad) (ad (.lg "")) x))) := if_pos hx
theorem Y_lgF (hx : x ∈ m.all) : Y K m ad (.lgF x) = some (.lst ((List.range (m.sv x).length).map fun k => .ref (ad (.lf x k)))) := if_pos hx
theorem Y_lgH (hx : x ∈ m.all) : Y K m ad (.lgH x) = some (.lst ((m.hands x).map fun j => .ref (ad (.hd j)))) := if_pos hx
theorem _root_.RR.Rep.y_ (R : YR K m ad H) : H (ad .y) = some (.ins (CY K) (ad .yD) (yFm m ad)) := R.at_ .y _ rfl
theorem _root_.RR.Rep.st_ (R : YR K m ad H) : H (ad .st) = some (.dK (strK m.texts)) := R.at_ .st _ rfl
theorem _root_.RR.Rep.na_ (R : YR K m ad H) : H (ad .na) = some (.dK m.nms) := R.at_ .na _ rfl
theorem _root_.RR.Rep.nu_ (R : YR K m ad H) : H (ad .nu) = some (.dK m.nums) := R.at_ .nu _ rfl
theorem _root_.RR.Rep.lm_ (R : YR K m ad H) : H (ad .lm) = some (.dK (lmK (esM m ad))) := R.at_ .lm _ rfl
theorem _root_.RR.Rep.md_ (R : YR K m ad H) : H (ad .md) = some (.lst ((List.range m.hs.length).map fun j => .ref (ad (.hd j)))) := R.at_ .md _ rfl
theorem _root_.RR.Rep.fr_ (R : YR K m ad H) : H (ad .fr) = some (.lst ((List.range m.fails.length).map fun k => .ref (ad (.ft k)))) := R.at_ .fr _ rfl
theorem _root_.RR.Rep.lr_ (R : YR K m ad H) : H (ad .lr) = some (.ins (CS K) (ad .lrD) (hdS (ad .lrF) (ad .y) 0 "\n" "stderr")) := R.at_ .lr _ rfl
theorem _root_.RR.Rep.lrF_ (R : YR K m ad H) : H (ad .lrF) = some (.lst []) := R.at_ .lrF _ rfl
theorem _root_.RR.Rep.lg_ (R : YR K m ad H) (hx : x ∈ m.all) : H (ad (.lg x)) = some (.ins (CL K) (ad (.lgD x)) (lG (LGm m ad x) (ad .y) (rn x) (parV (esM m ad) (ad (.lg "")) x))) := R.at_ (.lg x) _ (Y_lg hx)
theorem _root_.RR.Rep.lgF_ (R : YR K m ad H) (hx : x ∈ m.all) : H (ad (.lgF x)) = some (.lst ((List.range (m.sv x).length).map fun k => .ref (ad (.lf x k)))) := R.at_ (.lgF x) _ (Y_lgF hx)
theorem _root_.RR.Rep.lgH_ (R : YR K m ad H) (hx : x ∈ m.all) : H (ad (.lgH x)) = some (.lst ((m.hands x).map fun j => .ref (ad (.hd j)))) := R.at_ (.lgH x) _ (Y_lgH hx)
theorem _root_.RR.Rep.hd_ (R : YR K m ad H) {h : HM} (hj : m.hs[j]? = some h) : H (ad (.hd j)) = some (hdO K ad j h) := R.at_ (.hd j) _ (by show m.hs[j]?.map _ = _; rw [hj]; rfl)
theorem _root_.RR.Rep.hdF_ (R : YR K m ad H) {h : HM} (hj : m.hs[j]? = some h) : H (ad (.hdF j)) = some (.lst ((List.range h.sv.length).map fun k => .ref (ad (.hf j k)))) := R.at_ (.hdF j) _ (by show m.hs[j]?.map _ = _; rw [hj]; rfl)
theorem _root_.RR.Rep.hf_ (R : YR K m ad H) {h : HM} {n : Str} (hj : m.hs[j]? = some h) (hk : h.sv[k]? = some n) : H (ad (.hf j k)) = some (.ins (CF K) (ad (.hfD j k)) [("name", .str n)]) := R.at_ (.hf j k) _ (by show (m.hs[j]?.bind _).map _ = _; rw [hj]; show (h.sv[k]?).map _ = _; rw [hk]; rfl)
theorem _root_.RR.Rep.lf_ (R : YR K m ad H) {n : Str} (hx : x ∈ m.all) (hk : (m.sv x)[k]? = some n) : H (ad (.lf x k)) = some (.ins (CF K) (ad (.lfD x k)) [("name", .str n)]) := R.at_ (.lf x k) _ (by show (if x ∈ m.all then (m.sv x)[k]?.map _ else none) = _; rw [if_pos hx, hk]; rfl)
/-! the older words for the tree -/
def gOf (m : TM) (ad : YRo → Addr) (a : Addr) : LG := match m.all.find? (fun x => decide (ad (.lg x) = a)) with
  | some x => LGm m ad x
  | none => ⟨0, 0, 0, 0, false, false⟩
theorem gOf_at (R : YR K m ad H) (hx : x ∈ m.all) : gOf m ad (ad (.lg x)) = LGm m ad x := by
  unfold gOf
  cases e : m.all.find? (fun z => decide (ad (.lg z) = ad (.lg x))) with
  | none => exact absurd (decide_eq_true (rfl : ad (.lg x) = ad (.lg x))) (List.find?_eq_none.mp e x hx)
  | some z =>
    have h1 : ad (.lg z) = ad (.lg x) := of_decide_eq_true (List.find?_some (p := fun z => decide (ad (.lg z) = ad (.lg x))) e)
    have h2 := List.mem_of_find?_eq_some e
    have h3 := R.inj _ _ _ _ (Y_lg h2) (Y_lg hx) h1
    cases h3; rfl
theorem kn_esM (m : TM) (ad : YRo → Addr) : kn (esM m ad) (ad (.lg "")) = m.all.map fun x => (x, ad (.lg x)) := rfl
theorem mem_kn (ad : YRo → Addr) (hx : x ∈ m.all) : (x, ad (.lg x)) ∈ kn (esM m ad) (ad (.lg "")) := by
  rw [kn_esM]; exact List.mem_map_of_mem (f := fun x => (x, ad (.lg x))) hx
theorem esM_fst (m : TM) (ad : YRo → Addr) : (esM m ad).map (·.1) = m.names := by
  unfold esM; rw [List.map_map]; exact (List.map_congr_left (fun _ _ => rfl)).trans (List.map_id _)
theorem _root_.RR.Rep.known (R : YR K m ad H) (O : m.Ok) : Known K H (ad .y) (ad .yD) (ad .lm) (ad (.lg "")) (yFm m ad) (esM m ad) (gOf m ad) := by
  have ne : ∀ x ∈ m.names, x ≠ "" ∧ x ≠ "root" := fun x hx => by
    obtain ⟨qs, h, z⟩ := O.nm x hx
    rw [z]; exact h.ne
  refine ⟨⟨R.y_, rfl, rfl, rfl, R.lm_, by rw [esM_fst]; exact O.nd, fun e he => ?_, fun e he => ?_⟩, ?_, fun e he => ?_, by unfold esM; rw [List.length_map]; have := O.few; omega⟩
  · obtain ⟨x, hx, rfl⟩ := List.mem_map.mp he
    obtain ⟨qs, h, z⟩ := O.nm x hx
    show Sized x
    rw [z]; exact h.good.sz
  · obtain ⟨x, hx, rfl⟩ := List.mem_map.mp he
    have hm : x ∈ m.all := List.mem_cons_of_mem _ hx
    have g := R.lg_ hm
    unfold rn parV at g
    rw [if_neg (ne x hx).1, if_neg (ne x hx).1] at g
    show H (ad (.lg x)) = some (.ins (CL K) (gOf m ad (ad (.lg x))).d (lG (gOf m ad (ad (.lg x))) (ad .y) x (.ref (parA (esM m ad) (ad (.lg "")) x))))
    rw [gOf_at R hm]
    exact g
  · have g := R.lg_ m.mem_root
    show H (ad (.lg "")) = some (.ins (CL K) (gOf m ad (ad (.lg ""))).d (lG (gOf m ad (ad (.lg ""))) (ad .y) "root" .non))
    rw [gOf_at R m.mem_root]
    exact g
  · obtain ⟨x, hx, rfl⟩ := List.mem_map.mp he
    exact O.nm x hx
end
end
end K17

set_option Elab.async false
set_option linter.all false
set_option maxRecDepth 100000
set_option maxHeartbeats 0
namespace K17
open PySem PySem.Spec PyProof.Rows L2 RC
section
variable {P : Program} {w : World} {K : PySem.W.Frag} {mg : Str → Option Value} {base : Heap}
/-! ### records -/
theorem bl_true {b : Bool} (h : b = true) : V.bl b = V.bl true := by rw [h]
/-- copies of what is empty: () and {} -/
def spCopied (K : PySem.W.Frag) : Sp := fun vs H Q _ => ∃ a : Addr, vs = [.ref a] ∧ ((SqT K H a [] ∧ ∀ (H' : Hp) (t : Addr), Same H H' → H t = none → H' t = some (.tup []) → Q (.ref t) H') ∨ (H a = some (.dK []) ∧ ∀ (H' : Hp) (t : Addr), Same H H' → H t = none → H' t = some (.dK []) → Q (.ref t) H'))
theorem ok_copied {f : Addr} (T : Txt P w K mg) (F : Stands K "copied_value" "copied_value" s_copied_value [] f) : Callable P w K mg base 1 f ["thing"] [] (spCopied K) := by
  refine F.call0 sc_copied_value (fun vs H Q E h => ?_) (fun cdv A outer s H vs Q E hr h => ?_) (fun _ _ _ _ _ _ us hl => match us, hl with | [_], _ => rfl)
  · obtain ⟨a, rfl, _⟩ := h; rfl
  obtain ⟨a, rfl, h⟩ := h
  refine ⟨_, (pss_cons (ps_if (pt_val (pe_callB call_isi (by rfl) T.b_isinstance (by decide +kernel) (pa_cons (pv 0) (pa_cons (pe_bltn (v := .ty "list") (u := .type "list") (by rfl) T.b_list (by decide +kernel) rfl) pa_nil)))) (pss_one ps_never) pss_nil)
      (pss_cons (ps_if (pt_val (pe_callB call_isi (by rfl) T.b_isinstance (by decide +kernel) (pa_cons (pv 0) (pa_cons (pe_bltn (v := .ty "tuple") (u := .type "tuple") (by rfl) T.b_tuple (by decide +kernel) rfl) pa_nil)))) (pss_one (ps_ret (pe_callTy call_tuple_of (by rfl) T.b_tuple (by decide +kernel) (pa_cons (pe_lc (own := [("part", 1)]) (by rfl) sc_copied_value.nd (pi_tup (pv 0)) (blkOk_by (own := [("part", 1)]) (N := nm_copied_value) (sc := defScope s_copied_value) (by decide +kernel)) (fun _ _ _ _ _ => (pg_name (i := 1) sc_copied_value.nd rfl (by first | exact Or.inl rfl | exact Or.inr rfl))) (fun _ _ _ _ _ => pts_nil) (fun _ _ _ _ _ => pe_never)) pa_nil)))) pss_nil)
      (pss_cons (ps_if (pt_val (pe_callB call_isi (by rfl) T.b_isinstance (by decide +kernel) (pa_cons (pv 0) (pa_cons (pe_bltn (v := .ty "dict") (u := .type "dict") (by rfl) T.b_dict (by decide +kernel) rfl) pa_nil)))) (pss_one (ps_ret (pe_callTy (call_dictP rfl) (by rfl) T.b_dict (by decide +kernel) (pa_cons (pe_lock (pe_lc (own := [("name", 2)]) (by rfl) sc_copied_value.nd (pi_keys (pv 0)) (blkOk_by (own := [("name", 2)]) (N := nm_copied_value) (sc := defScope s_copied_value) (by decide +kernel)) (fun _ _ _ _ _ => (pg_name (i := 2) sc_copied_value.nd rfl (by first | exact Or.inl rfl | exact Or.inr rfl))) (fun _ _ _ _ _ => pts_nil) (fun _ _ _ _ _ => pe_never))) pa_nil)))) pss_nil)
      (pss_one (ps_ret (pv 0)))))), ?_⟩
  rcases h with ⟨hT, hQ⟩ | ⟨hD, hQ⟩
  · refine ⟨_, rfl, _, _, _, _, _, rfl, .ty _, tyx_tup hT, kit_ty (b := "list") (by decide +kernel), _, rfl, iteF ?_⟩
    refine ⟨_, rfl, _, _, _, _, _, rfl, .ty _, tyx_tup hT, kit_ty (b := "tuple") (by decide +kernel), _, rfl, iteT ?_⟩
    refine ⟨_, rfl, a, rfl, ⟨_, hT⟩, fun D hD => ?_⟩
    refine lc_tup (xs := []) (fun i H' => H' = upd H D (.lst [])) rfl (fun i H' _ h => ?_) (fun i x H' hx h => nomatch hx) (fun H' h => ?_)
    · subst h; rcases hT with (z | ⟨o, z⟩) | z
      · exact .inl (.inl (by rw [upd_ne (ne_of_none z hD)]; exact z))
      · exact .inl (.inr ⟨o, by rw [upd_ne (ne_of_none z hD)]; exact z⟩)
      · exact .inr z
    · subst h
      refine ⟨D, [], rfl, .inl ⟨SqL.of upd_same, fun t ht => ?_⟩⟩
      exact hQ _ t ((same_new hD _).trans (same_new ht _)) (upd_none ht).2 upd_same
  · refine ⟨_, rfl, _, _, _, _, _, rfl, .ty _, .base (.dK hD), kit_ty (b := "list") (by decide +kernel), _, rfl, iteF ?_⟩
    refine ⟨_, rfl, _, _, _, _, _, rfl, .ty _, .base (.dK hD), kit_ty (b := "tuple") (by decide +kernel), _, rfl, iteF ?_⟩
    refine ⟨_, rfl, _, _, _, _, _, rfl, .ty _, .base (.dK hD), kit_ty (b := "dict") (by decide +kernel), _, rfl, iteT ?_⟩
    refine ⟨a, _, hD, trivial, fun od => ?_⟩
    refine ⟨_, rfl, a, od, rfl, .inl ⟨[], upd_same, fun D hD2 => ?_⟩⟩
    refine lc_it walk_keys (fun i H' => H' = upd (upd H a (.frz od (.dK []))) D (.lst [])) rfl (fun i H' _ h => ?_) (fun i x H' H'' hi => nomatch hi) (fun H' h => ?_)
    · subst h; rw [upd_ne (Ne.symm (upd_none hD2).1)]; exact upd_same
    · subst h
      refine ⟨by rw [upd_ne (Ne.symm (upd_none hD2).1)]; exact upd_same, ?_⟩
      rw [unlock hD hD2]
      have hD3 := (upd_none hD2).2
      refine ⟨D, [], [], rfl, SqL.of upd_same, .nil, fun t ht => ?_⟩
      exact hQ _ t ((same_new hD3 _).trans (same_new ht _)) (upd_none ht).2 upd_same
def recF (name : Str) (lv : Int) (ln msg : Str) (g : Addr) (clk : Int) (e : Addr) : List (Str × V) := [("name", .str name), ("levelno", .int lv), ("levelname", .str ln), ("msg", .str msg), ("given", .ref g), ("created", .int clk), ("extra", .ref e)]
def spRecInit (K : PySem.W.Frag) : Sp := fun vs H Q _ => ∃ (p dx a d : Addr) (name ln msg : Str) (lv clk : Int), vs = [.ref p, .str name, .int lv, .str ln, .str msg, .ref a, .int clk, .ref d] ∧ H p = some (.ins (CR K) dx []) ∧ SqT K H a [] ∧ H d = some (.dK []) ∧
  ∀ (H' : Hp) (g e : Addr), SameBut p H H' → H' p = some (.ins (CR K) dx (recF name lv ln msg g clk e)) → H' g = some (.tup []) → H' e = some (.dK []) → H g = none → H e = none → Q .non H'
theorem SqT.but {K : PySem.W.Frag} {H H' : Hp} {a p : Addr} {xs : List V} {C dx : Addr} {fs : List (Str × V)} (e : SameBut p H H') (hp : H p = some (.ins C dx fs)) (h : SqT K H a xs) : SqT K H' a xs := by
  rcases h with (h | ⟨o, h⟩) | h
  · exact .inl (.inl (e _ _ (fun z => by rw [z, hp] at h; cases h) h))
  · exact .inl (.inr ⟨o, e _ _ (fun z => by rw [z, hp] at h; cases h) h⟩)
  · exact .inr h
theorem ok_rec_init {f : Addr} (T : Txt P w K mg) (F : Stands K "__init__" "LogRecord.__init__" s_LogRecord_init [] f) (c_copied_value : Callable P w K mg base 1 (He.ga K "copied_value") ["thing"] [] (spCopied K)) :
    Callable P w K mg base 2 f ["self", "name", "levelno", "levelname", "msg", "args", "created", "extra"] [] (spRecInit K) := by
  refine F.call0 sc_LogRecord_init (fun vs H Q E h => ?_) (fun cdv A outer s H vs Q E hr h => ?_) (fun _ _ _ _ _ _ us hl => match us, hl with | [_, _, _, _, _, _, _, _], _ => rfl)
  · obtain ⟨p, dx, a, d, name, ln, msg, lv, clk, rfl, _⟩ := h; rfl
  obtain ⟨p, dx, a, d, name, ln, msg, lv, clk, rfl, hp, hT, hD, hQ⟩ := h
  refine ⟨_, (pss_cons (ps_fld (pv 0) (pv 1) rfl)
      (pss_cons (ps_fld (pv 0) (pv 2) rfl)
      (pss_cons (ps_fld (pv 0) (pv 3) rfl)
      (pss_cons (ps_fld (pv 0) (pv 4) rfl)
      (pss_cons (ps_fld (pv 0) (pe_fn T.g_copied_value c_copied_value (hr.mono (by first | decide | exact Nat.le_refl _)) (by rfl) (pa_cons (pe_callTy call_tuple_of (by rfl) T.b_tuple (by decide +kernel) (pa_cons (pv 5) pa_nil)) pa_nil)) rfl)
      (pss_cons (ps_fld (pv 0) (pv 6) rfl)
      (pss_one (ps_fld (pv 0) (pe_fn T.g_copied_value c_copied_value (hr.mono (by first | decide | exact Nat.le_refl _)) (by rfl) (pa_cons (pv 7) pa_nil)) rfl)))))))), ?_⟩
  refine ⟨_, rfl, _, rfl, p, _, dx, _, rfl, hp, T.c_LogRecord, T.n_LogRecord_name, (by show 0 < 1000; decide), ?_⟩
  refine ⟨_, rfl, _, rfl, p, _, dx, _, rfl, upd_same, T.c_LogRecord, T.n_LogRecord_levelno, (by show 1 < 1000; decide), ?_⟩
  rw [upd_upd]
  refine ⟨_, rfl, _, rfl, p, _, dx, _, rfl, upd_same, T.c_LogRecord, T.n_LogRecord_levelname, (by show 2 < 1000; decide), ?_⟩
  rw [upd_upd]
  refine ⟨_, rfl, _, rfl, p, _, dx, _, rfl, upd_same, T.c_LogRecord, T.n_LogRecord_msg, (by show 3 < 1000; decide), ?_⟩
  rw [upd_upd]
  generalize e1 : upd H p _ = H1
  have b1 : SameBut p H H1 := by rw [← e1]; exact SameBut.put
  have p1 : H1 p = some (.ins (CR K) dx [("name", .str name), ("levelno", .int lv), ("levelname", .str ln), ("msg", .str msg)]) := by rw [← e1]; exact upd_same
  clear e1
  refine ⟨_, rfl, a, [], rfl, .inr ⟨SqT.but b1 hp hT, a, rfl, .inl ⟨SqT.but b1 hp hT, fun H2 t s2 n2 t2 => ?_⟩⟩⟩
  refine ⟨_, rfl, p, _, dx, _, rfl, s2 _ _ p1, T.c_LogRecord, T.n_LogRecord_given, (by show 4 < 1000; decide), ?_⟩
  refine ⟨_, rfl, _, rfl, p, _, dx, _, rfl, upd_same, T.c_LogRecord, T.n_LogRecord_created, (by show 5 < 1000; decide), ?_⟩
  rw [upd_upd]
  have ntp : t ≠ p := fun z => by rw [z, p1] at n2; cases n2
  have ndp : d ≠ p := fun z => by rw [z, hp] at hD; cases hD
  generalize e3 : upd H2 p _ = H3
  have b3 : SameBut p H2 H3 := by rw [← e3]; exact SameBut.put
  have p3 : H3 p = some (.ins (CR K) dx [("name", .str name), ("levelno", .int lv), ("levelname", .str ln), ("msg", .str msg), ("given", .ref t), ("created", .int clk)]) := by rw [← e3]; exact upd_same
  clear e3
  have d3 : H3 d = some (.dK []) := b3 _ _ ndp (s2 _ _ (b1 _ _ ndp hD))
  refine ⟨_, rfl, d, rfl, .inr ⟨d3, fun H4 e s4 n4 e4 => ?_⟩⟩
  refine ⟨_, rfl, p, _, dx, _, rfl, s4 _ _ p3, T.c_LogRecord, T.n_LogRecord_extra, (by show 6 < 1000; decide), ?_⟩
  have nep : e ≠ p := fun z => by rw [z, p3] at n4; cases n4
  refine hQ _ t e ?_ upd_same ?_ ?_ ?_ ?_
  · exact ((b1.trans (SameBut.of s2)).trans (b3.trans (SameBut.of s4))).trans SameBut.put
  · rw [upd_ne ntp]; exact s4 _ _ (b3 _ _ ntp t2)
  · rw [upd_ne nep]; exact e4
  · have h1 := n2
    cases z : H t with
    | none => rfl
    | some o => rw [b1 _ _ ntp z] at h1; cases h1
  · cases z : H e with
    | none => rfl
    | some o => rw [b3 _ _ nep (s2 _ _ (b1 _ _ nep z))] at n4; cases n4
end
end K17

set_option Elab.async false
set_option linter.all false
set_option maxRecDepth 100000
set_option maxHeartbeats 0
namespace K17
open PySem PySem.Spec PyProof.Rows L2 RC
section
variable {P : Program} {w : World} {K : PySem.W.Frag} {mg : Str → Option Value} {base : Heap}
/-! ### levels -/
/-- what a level may be here -/
inductive LvIn where
  | int (i : Int)
  | nm (x : Str)
def LvIn.v : LvIn → V
  | .int i => .int i
  | .nm x => .str x
def spIsInt : Sp := fun vs H Q _ => ∃ v : LvIn, vs = [v.v] ∧ Q (.bl (match v with | .int _ => true | .nm _ => false)) H
theorem ok_is_integer {f : Addr} (T : Txt P w K mg) (F : Stands K "is_integer" "is_integer" s_is_integer [] f) : Callable P w K mg base 1 f ["thing"] [] spIsInt := by
  refine F.call0 sc_is_integer (fun vs H Q E h => ?_) (fun cdv A outer s H vs Q E hr h => ?_) (fun _ _ _ _ _ _ us hl => match us, hl with | [_], _ => rfl)
  · obtain ⟨v, rfl, _⟩ := h; rfl
  obtain ⟨v, rfl, hQ⟩ := h
  refine ⟨_, (pss_one (ps_ret (pe_and (pe_callB call_isi (by rfl) T.b_isinstance (by decide +kernel) (pa_cons (pv 0) (pa_cons (pe_bltn (v := .ty "int") (u := .type "int") (by rfl) T.b_int (by decide +kernel) rfl) pa_nil))) (pe_one (pe_not (pe_callB call_isi (by rfl) T.b_isinstance (by decide +kernel) (pa_cons (pv 0) (pa_cons (pe_bltn (v := .ty "bool") (u := .type "bool") (by rfl) T.b_bool (by decide +kernel) rfl) pa_nil)))))))), ?_⟩
  cases v with
  | int i =>
    refine ⟨_, rfl, _, _, _, _, true, rfl, .ty _, .base (.int i), kit_ty (b := "int") (by decide +kernel), _, rfl, iteT ?_⟩
    exact ⟨_, rfl, _, _, _, _, false, rfl, .ty _, .base (.int i), kit_ty (b := "bool") (by decide +kernel), _, rfl, hQ⟩
  | nm x =>
    exact ⟨_, rfl, _, _, _, _, false, rfl, .ty _, .base (.str x), kit_ty (b := "int") (by decide +kernel), _, rfl, iteF hQ⟩
/-- the number of a level by the yard's table -/
def lvNum (nums : List (Key × V)) : LvIn → Option V
  | .int i => some (.int i)
  | .nm x => valV nums (Sum.inr x)
def spLevelOf (K : PySem.W.Frag) : Sp := fun vs H Q _ => ∃ (y dy nu : Addr) (fs : List (Str × V)) (nums : List (Key × V)) (v : LvIn) (r : V), vs = [.ref y, v.v] ∧ H y = some (.ins (CY K) dy fs) ∧ fs.lookup ("numbers_of" : Str) = some (.ref nu) ∧ H nu = some (.dK nums) ∧ lvNum nums v = some r ∧ Q r H
theorem ok_level_of {f : Addr} (T : Txt P w K mg) (F : Stands K "level_of" "Yard.level_of" s_Yard_level_of [] f) (c_is_integer : Callable P w K mg base 1 (He.ga K "is_integer") ["thing"] [] spIsInt) : Callable P w K mg base 2 f ["self", "level"] [] (spLevelOf K) := by
  refine F.call0 sc_Yard_level_of (fun vs H Q E h => ?_) (fun cdv A outer s H vs Q E hr h => ?_) (fun _ _ _ _ _ _ us hl => match us, hl with | [_, _], _ => rfl)
  · obtain ⟨y, dy, nu, fs, nums, v, r, rfl, _⟩ := h; rfl
  obtain ⟨y, dy, nu, fs, nums, v, r, rfl, hy, hnu, hnums, hr2, hQ⟩ := h
  refine ⟨_, (pss_cons (ps_if (pt_val (pe_fn T.g_is_integer c_is_integer (hr.mono (by first | decide | exact Nat.le_refl _)) (by rfl) (pa_cons (pv 1) pa_nil))) (pss_one (ps_ret (pv 1))) pss_nil)
      (pss_cons (ps_if (PW.pt (pw_and (pt_val (pe_callB call_isi (by rfl) T.b_isinstance (by decide +kernel) (pa_cons (pv 1) (pa_cons (pe_bltn (v := .ty "str") (u := .type "str") (by rfl) T.b_str (by decide +kernel) rfl) pa_nil)))) (pw_and1 (pt_cmp (pc_din (hu_of hr) (pv 1) (pe_fld (pv 0) rfl)))))) (pss_one (ps_ret (pe_dget (hu_of hr) (pe_fld (pv 0) rfl) (pv 1) (fun _ _ => rfl)))) pss_nil)
      (pss_one ps_never))), ?_⟩
  cases v with
  | int i =>
    cases hr2
    exact ⟨_, rfl, .int i, rfl, _, rfl, iteT ⟨_, rfl, hQ⟩⟩
  | nm x =>
    have g := DGet.k (k := Sum.inr x) hnums
    rw [show valV nums (Sum.inr x) = some r from hr2] at g
    refine ⟨_, rfl, .nm x, rfl, _, rfl, iteF ?_⟩
    refine ⟨_, rfl, _, _, _, _, true, rfl, .ty _, .base (.str x), kit_ty (b := "str") (by decide +kernel), _, rfl, iteT ?_⟩
    refine ⟨_, rfl, _, rfl, y, _, dy, fs, _, rfl, hy, T.c_Yard, T.n_Yard_numbers_of, hnu, nu, _, rfl, g, _, rfl, iteT' (by rfl) ?_⟩
    exact ⟨_, rfl, y, _, dy, fs, _, rfl, hy, T.c_Yard, T.n_Yard_numbers_of, hnu, _, rfl, nu, _, rfl, g, hQ⟩
end
end K17

set_option Elab.async false
set_option linter.all false
set_option maxRecDepth 100000
set_option maxHeartbeats 0
set_option pp.maxSteps 1000
local macro_rules | `(tactic| walk_at "cls") => `(tactic| first
  | with_reducible exact K17.Txt.c_Logger (by assumption)
  | with_reducible exact K17.Txt.c_StreamHandler (by assumption)
  | with_reducible exact K17.Txt.c_Filter (by assumption)
  | with_reducible exact K17.Txt.c_LogRecord (by assumption)
  | with_reducible exact K17.Txt.c_Yard (by assumption))
local macro_rules | `(tactic| walk_at "noat") => `(tactic| first
  | with_reducible exact K17.Txt.n_Logger_filters (by assumption)
  | with_reducible exact K17.Txt.n_Logger_yard (by assumption)
  | with_reducible exact K17.Txt.n_Logger_name (by assumption)
  | with_reducible exact K17.Txt.n_Logger_level (by assumption)
  | with_reducible exact K17.Txt.n_Logger_propagate (by assumption)
  | with_reducible exact K17.Txt.n_Logger_disabled (by assumption)
  | with_reducible exact K17.Txt.n_Logger_handlers (by assumption)
  | with_reducible exact K17.Txt.n_Logger_parent (by assumption)
  | with_reducible exact K17.Txt.n_StreamHandler_filters (by assumption)
  | with_reducible exact K17.Txt.n_StreamHandler_yard (by assumption)
  | with_reducible exact K17.Txt.n_StreamHandler_level (by assumption)
  | with_reducible exact K17.Txt.n_StreamHandler_formatter (by assumption)
  | with_reducible exact K17.Txt.n_StreamHandler_name (by assumption)
  | with_reducible exact K17.Txt.n_StreamHandler_terminator (by assumption)
  | with_reducible exact K17.Txt.n_StreamHandler_closed (by assumption)
  | with_reducible exact K17.Txt.n_StreamHandler_stream (by assumption)
  | with_reducible exact K17.Txt.n_Filter_name (by assumption)
  | with_reducible exact K17.Txt.n_LogRecord_name (by assumption)
  | with_reducible exact K17.Txt.n_LogRecord_levelno (by assumption)
  | with_reducible exact K17.Txt.n_LogRecord_levelname (by assumption)
  | with_reducible exact K17.Txt.n_LogRecord_msg (by assumption)
  | with_reducible exact K17.Txt.n_LogRecord_given (by assumption)
  | with_reducible exact K17.Txt.n_LogRecord_created (by assumption)
  | with_reducible exact K17.Txt.n_LogRecord_extra (by assumption)
  | with_reducible exact K17.Txt.n_Yard_clock (by assumption)
  | with_reducible exact K17.Txt.n_Yard_stream_texts (by assumption)
  | with_reducible exact K17.Txt.n_Yard_file_rows (by assumption)
  | with_reducible exact K17.Txt.n_Yard_names_of (by assumption)
  | with_reducible exact K17.Txt.n_Yard_numbers_of (by assumption)
  | with_reducible exact K17.Txt.n_Yard_bar_level (by assumption)
  | with_reducible exact K17.Txt.n_Yard_logger_map (by assumption)
  | with_reducible exact K17.Txt.n_Yard_made (by assumption)
  | with_reducible exact K17.Txt.n_Yard_handler_names (by assumption)
  | with_reducible exact K17.Txt.n_Yard_failure_rows (by assumption)
  | with_reducible exact K17.Txt.n_Yard_root (by assumption)
  | with_reducible exact K17.Txt.n_Yard_last_resort (by assumption))
local macro_rules | `(tactic| walk_at "hp") => `(tactic| first
  | with_reducible assumption
  | with_reducible exact L2.upd_same
  | ((with_reducible apply RW.at_upd); (focus (walk_at "ne"; done)); (focus (walk_at "hp"; done)))
  | ((with_reducible apply RW.at_same); (focus (with_reducible assumption; done)); (focus (walk_at "hp"; done)))
  | ((with_reducible apply RW.at_old); (focus (with_reducible assumption; done)); (focus (walk_at "ne"; done)); (focus (walk_at "ne"; done)); (focus (walk_at "hp"; done))))
local macro_rules | `(tactic| walk_at "ne") => `(tactic| first
  | with_reducible assumption
  | with_reducible exact Ne.symm (by with_reducible assumption)
  | with_reducible exact RW.ne_upd (by with_reducible assumption)
  | with_reducible exact Ne.symm (RW.ne_upd (by with_reducible assumption))
  | ((with_reducible apply RW.ne_new); (focus (with_reducible assumption; done)); (focus (walk_at "hp"; done)))
  | ((with_reducible apply RW.ne_new'); (focus (with_reducible assumption; done)); (focus (walk_at "hp"; done)))
  | ((with_reducible apply RW.ne_kind); (focus (walk_at "hp"; done)); (focus (walk_at "hp"; done)); (exact fun z => nomatch z)))
local macro_rules | `(tactic| walk_at "no") => `(tactic| first
  | with_reducible assumption
  | ((with_reducible apply RW.no_upd); (focus (walk_at "ne"; done)); (focus (walk_at "no"; done)))
  | ((with_reducible apply RW.free_same); (focus (with_reducible assumption; done)); (focus (with_reducible assumption; done))))
local macro_rules | `(tactic| walk_at "sm") => `(tactic| first
  | with_reducible assumption
  | with_reducible exact L2.Same.refl _
  | ((with_reducible apply RW.same_put_new); (focus (walk_at "sm"; done)); (focus (walk_at "no"; done)))
  | ((with_reducible apply RW.same_put); (focus (walk_at "sm"; done)); (focus (walk_at "no"; done)))
  | ((with_reducible apply RW.same_then); (focus (with_reducible assumption; done)); (focus (walk_at "sm"; done))))
local macro_rules | `(tactic| walk_at "sq") => `(tactic| first
  | with_reducible assumption
  | ((with_reducible apply L2.SqL.of); (focus (walk_at "hp"; done)))
  | ((with_reducible apply L2.SqT.of); (focus (walk_at "hp"; done)))
  | ((with_reducible apply RW.sql_same); (focus (with_reducible assumption; done)); (focus (walk_at "sm"; done)))
  | ((with_reducible apply RW.sqt_same); (focus (with_reducible assumption; done)); (focus (walk_at "sm"; done))))
local macro_rules | `(tactic| walk_at "pr") => `(tactic| first
  | with_reducible exact PySem.Paired.nil
  | ((with_reducible apply PySem.Paired.cons); (focus (first | exact L2.ClsV.ty _ | exact L2.ClsV.own _; done)); (focus (walk_at "pr"; done))))
local macro_rules | `(tactic| walk_at "stm") => `(tactic| first
  | with_reducible assumption
  | ((with_reducible apply RW.stm_upd); (focus (walk_at "ne"; done)); (focus (walk_at "ne"; done)); (focus (walk_at "stm"; done)))
  | ((with_reducible apply RW.stm_same); (focus (with_reducible assumption; done)); (focus (walk_at "sm"; done))))
local macro_rules | `(tactic| walk_at "od") => `(tactic| first
  | with_reducible assumption
  | with_reducible exact RC.Old.refl _
  | ((with_reducible apply RW.old_upd); (focus (walk_at "od"; done)); (focus (walk_at "no"; done)))
  | ((with_reducible apply RW.old_then); (focus (with_reducible assumption; done)); (focus (walk_at "od"; done)))
  | ((with_reducible apply RW.old_same); (focus (walk_at "od"; done)); (focus (with_reducible assumption; done))))
local macro_rules | `(tactic| walk_at "num") => `(tactic| first
  | exact Nat.le_of_ble_eq_true rfl
  | omega
  | (simp only [List.length_cons, List.length_nil, List.length_append, List.length_map, List.length_replicate, List.length_take, PySem.sizeLine_eq]; omega))
local macro_rules | `(tactic| walk_at "ki") => `(tactic| first
  | with_reducible exact RW.k_int_int
  | with_reducible exact RW.k_bool_int
  | with_reducible exact RW.k_str_int
  | with_reducible exact RW.k_NoneType_int
  | with_reducible exact RW.k_list_int
  | with_reducible exact RW.k_tuple_int
  | with_reducible exact RW.k_dict_int)
local macro_rules | `(tactic| walk_at "kb") => `(tactic| first
  | with_reducible exact RW.k_int_bool
  | with_reducible exact RW.k_bool_bool
  | with_reducible exact RW.k_str_bool
  | with_reducible exact RW.k_NoneType_bool
  | with_reducible exact RW.k_list_bool
  | with_reducible exact RW.k_tuple_bool
  | with_reducible exact RW.k_dict_bool)
local macro_rules | `(tactic| walk_at "ks") => `(tactic| first
  | with_reducible exact RW.k_int_str
  | with_reducible exact RW.k_bool_str
  | with_reducible exact RW.k_str_str
  | with_reducible exact RW.k_NoneType_str
  | with_reducible exact RW.k_list_str
  | with_reducible exact RW.k_tuple_str
  | with_reducible exact RW.k_dict_str)
local macro_rules | `(tactic| walk_at "kl") => `(tactic| first
  | with_reducible exact RW.k_int_list
  | with_reducible exact RW.k_bool_list
  | with_reducible exact RW.k_str_list
  | with_reducible exact RW.k_NoneType_list
  | with_reducible exact RW.k_list_list
  | with_reducible exact RW.k_tuple_list
  | with_reducible exact RW.k_dict_list)
local macro_rules | `(tactic| walk_at "kt") => `(tactic| first
  | with_reducible exact RW.k_int_tuple
  | with_reducible exact RW.k_bool_tuple
  | with_reducible exact RW.k_str_tuple
  | with_reducible exact RW.k_NoneType_tuple
  | with_reducible exact RW.k_list_tuple
  | with_reducible exact RW.k_tuple_tuple
  | with_reducible exact RW.k_dict_tuple)
local macro_rules | `(tactic| walk_at "kd") => `(tactic| first
  | with_reducible exact RW.k_int_dict
  | with_reducible exact RW.k_bool_dict
  | with_reducible exact RW.k_str_dict
  | with_reducible exact RW.k_NoneType_dict
  | with_reducible exact RW.k_list_dict
  | with_reducible exact RW.k_tuple_dict
  | with_reducible exact RW.k_dict_dict)
local macro_rules | `(tactic| walk_at "kit") => `(tactic| first
  | ((with_reducible apply RW.gKb); walk_at "kb")
  | ((with_reducible apply RW.gKi); walk_at "ki")
  | ((with_reducible apply RW.gKl); walk_at "kl")
  | ((with_reducible apply RW.gKs); walk_at "ks")
  | ((with_reducible apply RW.gKt); walk_at "kt")
  | ((with_reducible apply RW.gKd); walk_at "kd"))
local macro_rules | `(tactic| walk_at "kita") => `(tactic| first
  | ((with_reducible apply RW.ka2) <;> walk_at "kit")
  | ((with_reducible apply RW.ka3) <;> walk_at "kit")
  | ((with_reducible apply RW.ka4) <;> walk_at "kit")
  | ((with_reducible apply RW.ka5) <;> walk_at "kit"))
local macro_rules | `(tactic| walk_at "ty") => `(tactic| first
  | with_reducible exact L2.TyX.base (.int _)
  | with_reducible exact L2.TyX.base (.str _)
  | with_reducible exact L2.TyX.base (.bl _)
  | with_reducible exact L2.TyX.base .non
  | ((with_reducible apply L2.TyX.base); (with_reducible apply L2.TyOf.lst); (focus (walk_at "hp"; done)))
  | ((with_reducible apply L2.TyX.base); (with_reducible apply L2.TyOf.tup); (focus (walk_at "hp"; done)))
  | ((with_reducible apply L2.TyX.base); (with_reducible apply L2.TyOf.dK); (focus (walk_at "hp"; done)))
  | ((with_reducible apply RC.tyx_lst); (focus (walk_at "sq"; done)))
  | ((with_reducible apply RC.tyx_tup); (focus (walk_at "sq"; done))))
local macro_rules | `(tactic| walk_at "val") => `(tactic| first
  | with_reducible assumption
  | rfl)
local macro_rules | `(tactic| walk_at "dg") => `(tactic| first
  | (apply RW.dget_s; (focus (walk_at "hp"; done)); (focus (walk_at "val"; done)))
  | (apply RW.dget_i; (focus (walk_at "hp"; done)); (focus (walk_at "val"; done)))
  | (apply RW.dget_sF; (focus (walk_at "hp"; done)); (focus (walk_at "val"; done)))
  | (apply RW.dget_sR; (focus (assumption; done)); (focus (walk_at "val"; done)))
  | (apply RW.dput_s; (focus (walk_at "hp"; done)); (focus (walk_at "num"; done)))
  | (apply RW.dput_i; (focus (walk_at "hp"; done)); (focus (walk_at "num"; done)))
  | ((with_reducible apply RW.tyv_l); (focus (walk_at "hp"; done)))
  | ((with_reducible apply RW.tyv_s); (focus (walk_at "sq"; done)))
  | (apply RW.isd; (focus (walk_at "hp"; done)))
  | (apply RW.rd_of; (focus (walk_at "hp"; done)))
  | (apply RW.sql_of; (focus (walk_at "hp"; done)))
  | (apply RW.sqt_of; (focus (walk_at "hp"; done)))
  | (apply RW.len_l; (focus (walk_at "hp"; done)))
  | (apply RW.len_sl; (focus (walk_at "sq"; done)))
  | (apply RW.len_st; (focus (walk_at "sq"; done))))
local macro_rules | `(tactic| walk_at "side") => `(tactic| first
  | with_reducible rfl
  | ((with_reducible apply RW.gHp); walk_at "hp")
  | ((with_reducible apply RW.gSm); walk_at "sm")
  | ((with_reducible apply RW.gNe); walk_at "ne")
  | ((with_reducible apply RW.gStm); walk_at "stm")
  | ((with_reducible apply RW.gOld); walk_at "od")
  | ((with_reducible apply RW.gNo); walk_at "noat")
  | ((with_reducible apply RW.gCls); walk_at "cls")
  | ((with_reducible apply RW.gCv); (first | with_reducible exact L2.ClsV.ty _ | with_reducible exact L2.ClsV.own _))
  | ((with_reducible apply RW.gTy); walk_at "ty")
  | ((with_reducible apply RW.gKit); walk_at "kit")
  | ((with_reducible apply RW.gKita); walk_at "kita")
  | ((with_reducible apply RW.gSl); walk_at "sq")
  | ((with_reducible apply RW.gSt); walk_at "sq")
  | ((with_reducible apply RW.gPr); walk_at "pr")
  | with_reducible assumption
  | with_reducible exact RW.gCp ⟨by decide, by decide, by decide⟩
  | walk_at "dg"
  | rfl
  | walk_at "num")
local macro_rules | `(tactic| walk_at "nu") => `(tactic| (repeat (refine RW.fr ?_)))
local macro_rules | `(tactic| walk_at "tt") => `(tactic| first
  | with_reducible rfl
  | with_reducible assumption
  | rfl
  | with_reducible exact RW.cSsT (by with_reducible assumption)
  | with_reducible exact RW.cSsF (by with_reducible assumption)
  | with_reducible exact RW.cNsT (by with_reducible assumption)
  | with_reducible exact RW.cNsF (by with_reducible assumption)
  | with_reducible exact RW.cSiT (by with_reducible assumption)
  | with_reducible exact RW.cSiF (by with_reducible assumption)
  | with_reducible exact RW.cNiT (by with_reducible assumption)
  | with_reducible exact RW.cNiF (by with_reducible assumption)
  | with_reducible exact RW.someT (by with_reducible assumption)
  | with_reducible exact RW.someF (by with_reducible assumption)
  | with_reducible exact RW.nsomeT (by with_reducible assumption)
  | with_reducible exact RW.nsomeF (by with_reducible assumption))
local macro_rules | `(tactic| walk_at "disp") => `(tactic| first
  | with_reducible refine RW.disp1 ?_
  | with_reducible refine RW.disp2 ?_
  | with_reducible refine RW.disp3 ?_
  | with_reducible refine RW.disp4 ?_
  | with_reducible refine RW.disp5 ?_
  | with_reducible refine RW.disp6 ?_
  | with_reducible refine RW.disp7 ?_
  | with_reducible refine RW.disp8 ?_)
local macro_rules | `(tactic| walk_at "ex") => `(tactic| ((fail_if_success (apply @Exists.intro (Nat → Nat → _))); (fail_if_success (apply @Exists.intro (Nat → L2.St → L2.Hp → Prop))); (fail_if_success (apply @Exists.intro (L2.St → L2.Hp → Prop))); apply Exists.intro))
local macro_rules | `(tactic| walk_at "st") => `(tactic| first
  | ((fail_if_success (with_reducible apply RW.isMut)); (fail_if_success (with_reducible apply RW.isMut2)); (apply And.intro); (focus (walk_at "side"; done)))
  | walk_at "disp"
  | walk_at "ex"
  | refine RC.iteT' (by walk_at "tt") ?_
  | refine RC.iteF' (by walk_at "tt") ?_)
local macro_rules | `(tactic| walk_at "gi") => `(tactic| (repeat (first | walk_at "st" | ((walk_at "nu"); (intro _ h0; have h1 : _ = none := h0; clear h1); intros))))
local macro_rules | `(tactic| walk_at "in") => `(tactic| (try dsimp only [RW.cxK]))
local macro_rules | `(tactic| walk_at "go") => `(tactic| (repeat walk_at "st"))
namespace K17
open PySem PySem.Spec PyProof.Rows L2 RC
section
variable {P : Program} {w : World} {K : PySem.W.Frag} {mg : Str → Option Value} {base : Heap}
/-! ### make_record, of a number and no args -/
def NmsOk (nms : List (Key × V)) : Prop := ∀ k v, valV nms k = some v → ∃ z : Str, v = .str z
def lvName (nms : List (Key × V)) (i : Int) : Str := match valV nms (Sum.inl i) with
  | some (.str z) => z
  | _ => ("Level " : Str) ++ (toString i : Str)
def spLevelName (K : PySem.W.Frag) : Sp := fun vs H Q _ => ∃ (y dy na : Addr) (fs : List (Str × V)) (nms : List (Key × V)) (i : Int), vs = [.ref y, .int i] ∧ H y = some (.ins (CY K) dy fs) ∧ fs.lookup ("names_of" : Str) = some (.ref na) ∧ H na = some (.dK nms) ∧ NmsOk nms ∧ i.natAbs < 2 ^ 63 ∧ Q (.str (lvName nms i)) H
theorem ok_level_name {f : Addr} (T : Txt P w K mg) (F : Stands K "level_name" "Yard.level_name" s_Yard_level_name [] f) : Callable P w K mg base 1 f ["self", "level"] [] (spLevelName K) := by
  refine F.call0 sc_Yard_level_name (fun vs H Q E h => ?_) (fun cdv A outer s H vs Q E hr h => ?_) (fun _ _ _ _ _ _ us hl => match us, hl with | [_, _], _ => rfl)
  · obtain ⟨y, dy, na, fs, nms, i, rfl, _⟩ := h; rfl
  obtain ⟨y, dy, na, fs, nms, i, rfl, hy, hn, hna, hz, hi, hQ⟩ := h
  refine ⟨_, (pss_one (ps_ret (pe_ifExp (pt_cmp (pc_din (hu_of hr) (pv 1) (pe_fld (pv 0) rfl))) (pe_dget (hu_of hr) (pe_fld (pv 0) rfl) (pv 1) (fun _ _ => rfl)) (pe_op op_add_str pe_str (pe_callTy call_str_int (by rfl) T.b_str (by decide +kernel) (pa_cons (pv 1) pa_nil)))))), ?_⟩
  walk_at "in"
  unfold lvName at hQ
  cases e : valV nms (Sum.inl i) with
  | some v =>
    obtain ⟨z, rfl⟩ := hz _ _ e
    rw [e] at hQ
    walk_at "go"
    exact hQ
  | none =>
    rw [e] at hQ
    walk_at "go"
    have hl := RN.len_toString i
    have hl2 : i.natAbs.log2 < 63 := by
      by_cases c : i.natAbs = 0
      · rw [c]; decide
      · exact (Nat.log2_lt c).mpr hi
    refine ⟨by omega, _, _, rfl, rfl, ?_, hQ⟩
    show 6 + (Str.ofString (toString i)).length ≤ sizeLine
    rw [sizeLine_eq]; omega
/-- a record as the yard makes it, without args and extra -/
def RecAt (K : PySem.W.Frag) (H : Hp) (r : Addr) (name : Str) (lv : Int) (ln msg : Str) (clk : Int) : Prop := ∃ dx g e, H r = some (.ins (CR K) dx (recF name lv ln msg g clk e)) ∧ H g = some (.tup []) ∧ H e = some (.dK [])
theorem RecAt.same {H H' : Hp} {r : Addr} {name : Str} {lv : Int} {ln msg : Str} {clk : Int} (h : RecAt K H r name lv ln msg clk) (s : Same H H') : RecAt K H' r name lv ln msg clk := by
  obtain ⟨dx, g, e, h1, h2, h3⟩ := h
  exact ⟨dx, g, e, s _ _ h1, s _ _ h2, s _ _ h3⟩
theorem RecAt.name {H : Hp} {r : Addr} {name : Str} {lv : Int} {ln msg : Str} {clk : Int} (h : RecAt K H r name lv ln msg clk) : RecName K H r name := by
  obtain ⟨dx, g, e, h1, _⟩ := h
  exact ⟨dx, _, h1, rfl⟩
def spMakeRecord (K : PySem.W.Frag) : Sp := fun vs H Q _ => ∃ (y dy na nu a : Addr) (fs : List (Str × V)) (nms nums : List (Key × V)) (name msg : Str) (lv clk : Int), vs = [.ref y, .str name, .int lv, .str msg, .ref a, .non] ∧ SqT K H a [] ∧ H y = some (.ins (CY K) dy fs) ∧
  fs.lookup ("names_of" : Str) = some (.ref na) ∧ fs.lookup ("numbers_of" : Str) = some (.ref nu) ∧ fs.lookup ("clock" : Str) = some (.int clk) ∧ fs.lookup ("level_of" : Str) = none ∧ fs.lookup ("level_name" : Str) = none ∧ H na = some (.dK nms) ∧ H nu = some (.dK nums) ∧ NmsOk nms ∧ lv.natAbs < 2 ^ 63 ∧
  ∀ (H' : Hp) (r g e : Addr), Same H H' → H r = none → H g = none → H e = none → (∃ dx, H' r = some (.ins (CR K) dx (recF name lv (lvName nms lv) msg g clk e))) → H' g = some (.tup []) → H' e = some (.dK []) → Q (.ref r) H'
theorem body_make_record {f : Addr} (T : Txt P w K mg) {cdv : Value} {A : Around} {outer : List Env} {st0 : Shared} {E : XK} {vs : List V} {H : Hp} {Q : VK} (hr : Room 3 (A.deeper (envOfC "Yard.make_record" (defScope s_Yard_make_record) st0.heap.objs.size f cdv))) (h : spMakeRecord K vs H Q E)
    (c_Yard_level_of : Callable P w K mg base 2 (He.ma K (He.ga K "Yard") "level_of") ["self", "level"] [] (spLevelOf K)) (c_Yard_level_name : Callable P w K mg base 1 (He.ma K (He.ga K "Yard") "level_name") ["self", "level"] [] (spLevelName K))
    (c_LogRecord_init : Callable P w K mg base 2 (He.ma K (He.ga K "LogRecord") "__init__") ["self", "name", "levelno", "levelname", "msg", "args", "created", "extra"] [] (spRecInit K)) :
    ∃ t, PSs (cxOf CX0 P w K mg base nm_Yard_make_record "Yard.make_record" (defScope s_Yard_make_record) f cdv A outer st0 H E).nox (defBody s_Yard_make_record) t ∧ t { nx := fun _ H' => Q .non H', rt := Q } (start nm_Yard_make_record vs) H := by
  obtain ⟨y, dy, na, nu, a, fs, nms, nums, name, msg, lv, clk, rfl, hT, hy, hna, hnu, hck, hlo, hln, gna, gnu, hz, hlv, hQ⟩ := h
  refine ⟨_, (pss_cons (ps_set (i := 6) sc_Yard_make_record.nd rfl (by first | exact Or.inl rfl | exact Or.inr rfl) (pe_mt T.c_Yard T.m_Yard_level_of c_Yard_level_of (hr.mono (by first | decide | exact Nat.le_refl _)) (pv 0) (pa_cons (pv 2) pa_nil)))
      (pss_cons (ps_set (i := 7) sc_Yard_make_record.nd rfl (by first | exact Or.inl rfl | exact Or.inr rfl) (pe_ifExp (pt_cmpR op_isN (pv 5) pe_non (nomark _)) pe_dnewK (pv 5)))
      (pss_cons (ps_set (i := 8) sc_Yard_make_record.nd rfl (by first | exact Or.inl rfl | exact Or.inr rfl) (pe_callB cr_sortedS (by rfl) T.b_sorted (by decide +kernel) (pa_cons (pe_lock (pe_lc (own := [("key", 9)]) (by rfl) sc_Yard_make_record.nd (pi_keys (pv 7)) (blkOk_by (own := [("key", 9)]) (N := nm_Yard_make_record) (sc := defScope s_Yard_make_record) (by decide +kernel)) (fun _ _ _ _ _ => (pg_name (i := 9) sc_Yard_make_record.nd rfl (by first | exact Or.inl rfl | exact Or.inr rfl))) (fun _ _ _ _ _ => (pts_one pt_never)) (fun _ _ _ _ _ => (pv 9)))) pa_nil)))
      (pss_cons (ps_if (pt_cmpR (op_neD hr.units) (pv 8) (pe_lst pa_nil) (nomark _)) (pss_one ps_never) pss_nil)
      (pss_one (ps_ret (pe_mk T.k_LogRecord T.g_LogRecord c_LogRecord_init (hr.mono (by first | decide | exact Nat.le_refl _)) (by rfl) (pa_cons (pv 1) (pa_cons (pv 6) (pa_cons (pe_mt T.c_Yard T.m_Yard_level_name c_Yard_level_name (hr.mono (by first | decide | exact Nat.le_refl _)) (pv 0) (pa_cons (pv 6) pa_nil)) (pa_cons (pv 3) (pa_cons (pv 4) (pa_cons (pe_fld (pv 0) rfl) (pa_cons (pv 7) pa_nil)))))))))))))), ?_⟩
  -- number = self.level_of(level)
  refine ⟨_, rfl, y, dy, fs, rfl, hy, hlo, _, rfl, y, dy, nu, fs, nums, .int lv, .int lv, rfl, hy, hnu, gnu, rfl, ?_⟩
  -- more = {}
  refine ⟨_, rfl, rfl, _, rfl, iteT' (by rfl) fun m hm => ?_⟩
  have s1 : Same H (upd H m (.dK [])) := same_new hm _
  -- bad = sorted([..])
  refine ⟨m, _, upd_same, trivial, fun od => ?_⟩
  refine ⟨_, rfl, m, od, rfl, .inl ⟨[], upd_same, fun D hD => ?_⟩⟩
  have hD' : upd H m (.dK []) D = none := (upd_none hD).2
  refine lc_it walk_keys (fun i H' => H' = upd (upd (upd H m (.dK [])) m (.frz od (.dK []))) D (.lst [])) rfl (fun i H' _ h => ?_) (fun i x H' H'' hi => nomatch hi) (fun H' h => ?_)
  · subst h; rw [upd_ne (Ne.symm (upd_none hD).1)]; exact upd_same
  subst h
  refine ⟨by rw [upd_ne (Ne.symm (upd_none hD).1)]; exact upd_same, ?_⟩
  rw [unlock upd_same hD]
  have s2 := s1.trans (same_new hD' (.lst []))
  refine ⟨D, [], rfl, SqL.of upd_same, (by decide), fun ys q hp _ hq => ?_⟩
  have e0 : ys = [] := hp.eq_nil
  subst e0
  have s3 := s2.trans (same_new hq (.lst ([].map V.str)))
  -- if bad != []
  refine ⟨_, rfl, (by show 0 ≤ sizeLine; decide), fun q2 hq2 => ?_⟩
  have s4 := s3.trans (same_new hq2 (.lst []))
  refine ⟨_, _, Dp.lst (SqL.of (by rw [upd_ne (ne_of_none upd_same hq2)]; exact upd_same)) .nil, Dp.lst (SqL.of upd_same) .nil, by decide +kernel, by decide +kernel, _, rfl, iteF' (by decide +kernel) ?_⟩
  have m4 : (upd (upd (upd (upd H m (.dK [])) D (.lst [])) q (.lst ([].map V.str))) q2 (.lst [])) m = some (.dK []) := by
    have k1 : upd H m (.dK []) m = some (.dK []) := upd_same
    exact (same_new hq2 _) _ _ ((same_new hq _) _ _ ((same_new hD' _) _ _ k1))
  generalize upd (upd (upd (upd H m (.dK [])) D (.lst [])) q (.lst ([].map V.str))) q2 (.lst []) = H4 at s4 m4
  have hT4 := s4.seqT hT
  have g1 := s4 _ _ hy
  have g2 := s4 _ _ gna
  refine ⟨_, rfl, _, rfl, _, rfl, y, dy, fs, rfl, g1, hln, _, rfl, y, dy, na, fs, nms, lv, rfl, g1, hna, g2, hz, hlv, _, rfl, _, rfl, _, rfl, y, _, dy, fs, _, rfl, g1, T.c_Yard, T.n_Yard_clock, hck, _, rfl, fun x dx hx hdx hne => ?_⟩
  have ea : ∀ o, SqT K (upd (upd H4 dx (.own x)) x o) a [] := fun o => by
    rcases hT4 with (u | ⟨ob, u⟩) | u
    · exact .inl (.inl (by rw [upd_ne (ne_of_none u hx), upd_ne (ne_of_none u hdx)]; exact u))
    · exact .inl (.inr ⟨ob, by rw [upd_ne (ne_of_none u hx), upd_ne (ne_of_none u hdx)]; exact u⟩)
    · exact .inr u
  refine ⟨x, dx, a, m, name, _, msg, lv, clk, rfl, upd_same, ea _, (by rw [upd_ne (ne_of_none m4 hx), upd_ne (ne_of_none m4 hdx)]; exact m4), fun H' g e b5 h5' hg he g0 e0 => ⟨rfl, ?_⟩⟩
  have f0 : ∀ b, upd (upd H4 dx (.own x)) x (.ins (CR K) dx []) b = none → H b = none := fun b hb => s4.free (upd_none (upd_none hb).2).2
  exact hQ H' x g e (s4.trans (made_same hx hdx b5)) (s4.free hx) (f0 _ g0) (f0 _ e0) ⟨dx, h5'⟩ hg he
theorem ok_make_record {f : Addr} (T : Txt P w K mg) (F : Stands K "make_record" "Yard.make_record" s_Yard_make_record [.ref (He.dflAt ("Yard", some "make_record") 0 K), .non] f)
    (c_Yard_level_of : Callable P w K mg base 2 (He.ma K (He.ga K "Yard") "level_of") ["self", "level"] [] (spLevelOf K)) (c_Yard_level_name : Callable P w K mg base 1 (He.ma K (He.ga K "Yard") "level_name") ["self", "level"] [] (spLevelName K))
    (c_LogRecord_init : Callable P w K mg base 2 (He.ma K (He.ga K "LogRecord") "__init__") ["self", "name", "levelno", "levelname", "msg", "args", "created", "extra"] [] (spRecInit K)) :
    Callable P w K mg base 4 f ["self", "name", "level", "msg", "args", "extra"] [] (spMakeRecord K) ∧ Callable P w K mg base 4 f ["self", "name", "level", "msg", "args", "extra"] [.ref (He.dflAt ("Yard", some "make_record") 0 K), .non] (spMakeRecord K) := by
  have len : ∀ vs H Q E, spMakeRecord K vs H Q E → vs.length = 6 := fun vs H Q E h => by
    obtain ⟨y, dy, na, nu, a, fs, nms, nums, name, msg, lv, clk, rfl, _⟩ := h; rfl
  exact ⟨F.call sc_Yard_make_record 6 2 len (fun cdv A outer s H vs Q E hr h => body_make_record T hr h c_Yard_level_of c_Yard_level_name c_LogRecord_init) (fun z => nomatch z) fun _ => ⟨rfl, fun _ _ _ _ _ _ _ us its hl hi => match us, hl, its, hi with | [_, _, _, _, _, _], _, [_, _], _ => ⟨_, rfl, rfl⟩⟩,
   F.call sc_Yard_make_record 4 0 len (fun cdv A outer s H vs Q E hr h => body_make_record T hr h c_Yard_level_of c_Yard_level_name c_LogRecord_init) (fun z => nomatch z) fun _ => ⟨rfl, fun _ _ _ _ _ _ _ us its hl hi => match us, hl, its, hi with | [_, _, _, _], _, [_, _], _ => ⟨_, rfl, rfl⟩⟩⟩
end
end K17

set_option Elab.async false
set_option linter.all false
set_option maxRecDepth 100000
set_option maxHeartbeats 0
namespace K17
open PySem PySem.Spec PyProof.Rows L2 RC
section
variable {P : Program} {w : World} {K : PySem.W.Frag} {mg : Str → Option Value} {base : Heap}
/-- what has filters: an object at p of the class C, its filters' list at l -/
structure HasF (K : PySem.W.Frag) (H : Hp) (p C dx l : Addr) (fs : List (Str × V)) (as : List Addr) : Prop where
  ob : H p = some (.ins C dx fs)
  cl : Cls K C
  no : NoAttr K C "filters"
  lk : fs.lookup ("filters" : Str) = some (.ref l)
  ls : H l = some (.lst (as.map V.ref))
  ln : as.length ≤ 100
  fl : fs.length < 100
/-- Filters of the names ns let by records of the name rn -/
def lets (ns : List Str) (rn : Str) : Bool := ns.all fun n => passB rn n
def spFiltered (K : PySem.W.Frag) : Sp := fun vs H Q _ => ∃ (p C dx l r : Addr) (fs : List (Str × V)) (as : List Addr) (ns : List Str) (rn : Str), vs = [.ref p, .ref r] ∧ HasF K H p C dx l fs as ∧ as.length = ns.length ∧ (∀ (k : Nat) (a : Addr), as[k]? = some a → ∃ n, ns[k]? = some n ∧ FilterAt K H a n) ∧ RecName K H r rn ∧ Q (if lets ns rn = true then .ref r else .non) H
theorem take_all {α : Type} (p : α → Bool) (as : List α) (i : Nat) (x : α) (h : as[i]? = some x) : (as.take (i + 1)).all p = ((as.take i).all p && p x) := by
  rw [List.take_add_one, h, List.all_append]
  simp
theorem ok_filtered {f : Addr} (T : Txt P w K mg) (F : Stands K "filtered" "Filterer.filtered" s_Filterer_filtered [] f) (c_let_by : Callable P w K mg base 3 (He.ga K "let_by") ["one", "record"] [] (spLetBy K)) : Callable P w K mg base 4 f ["self", "record"] [] (spFiltered K) := by
  refine F.call0 sc_Filterer_filtered (fun vs H Q E h => ?_) (fun cdv A outer s H vs Q E hr h => ?_) (fun _ _ _ _ _ _ us hl => match us, hl with | [_, _], _ => rfl)
  · obtain ⟨p, C, dx, l, r, fs, as, ns, rn, rfl, _⟩ := h; rfl
  obtain ⟨p, C, dx, l, r, fs, as, ns, rn, rfl, hF, hlen, hA, hR, hQ⟩ := h
  unfold lets at hQ
  refine ⟨_, (pss_cons (ps_set (i := 2) sc_Filterer_filtered.nd rfl (by first | exact Or.inl rfl | exact Or.inr rfl) (pv 1))
      (pss_cons (ps_for PassesOwn.never rfl (pi_list (pe_fld (pv 0) rfl)) (pg_name (i := 3) sc_Filterer_filtered.nd rfl (by first | exact Or.inl rfl | exact Or.inr rfl)) (pss_cons (ps_set (i := 2) sc_Filterer_filtered.nd rfl (by first | exact Or.inl rfl | exact Or.inr rfl) (pe_fn T.g_let_by c_let_by (hr.mono (by first | decide | exact Nat.le_refl _)) (by rfl) (pa_cons (pv 3) (pa_cons (pv 2) pa_nil))))
      (pss_one (ps_if (pt_cmpR op_isN (pv 2) pe_non (nomark _)) (pss_one (ps_ret pe_non)) pss_nil))))
      (pss_one (ps_ret (pv 2))))), ?_⟩
  refine ⟨_, rfl, ?_⟩
  refine ⟨_, rfl, p, C, dx, fs, _, rfl, hF.ob, hF.cl, hF.no, hF.lk, l, rfl, ⟨_, SqL.of hF.ls⟩, ?_⟩
  refine for_list (xs := as.map V.ref) (fun i σ H' => H' = H ∧ (ns.take i).all (fun n => passB rn n) = true ∧ ∃ o, σ = [some (.ref p), some (.ref r), some (.ref r), o]) ⟨rfl, rfl, _, rfl⟩ (fun i σ H' _ h => by rw [h.1]; exact SqL.of hF.ls) (fun i x σ H' hx h => ?_) (fun σ H' h => ?_)
  · obtain ⟨rfl, ha, o, rfl⟩ := h
    rw [List.getElem?_map] at hx
    cases e : as[i]? with
    | none => rw [e] at hx; cases hx
    | some a =>
      rw [e] at hx
      cases hx
      obtain ⟨n, hn, hFA⟩ := hA i a e
      have hm : n ∈ ns := List.mem_of_getElem? hn
      refine ⟨_, rfl, _, rfl, a, r, n, rn, rfl, hFA, hR, ?_⟩
      have ht := take_all (fun n => passB rn n) ns i n hn
      cases hb : passB rn n with
      | true =>
        refine ⟨_, rfl, rfl, _, rfl, iteF' (by rfl) ⟨rfl, ?_, _, rfl⟩⟩
        rw [ht, ha, hb]; rfl
      | false =>
        refine ⟨_, rfl, rfl, _, rfl, iteT' (by rfl) ?_⟩
        have hn : ns.all (fun n => passB rn n) = false := by
          rw [List.all_eq_false]
          exact ⟨n, hm, by rw [hb]; decide⟩
        rw [hn] at hQ
        exact hQ
  · obtain ⟨rfl, ha, o, rfl⟩ := h
    rw [List.length_map, hlen, List.take_length] at ha
    rw [ha] at hQ
    exact ⟨_, rfl, hQ⟩
/-- a Filter stands at a -/
def IsF (K : PySem.W.Frag) (H : Hp) (a : Addr) : Prop := ∃ dx fs, H a = some (.ins (CF K) dx fs)
theorem IsF.insp {T : Txt P w K mg} {H : Hp} {a : Addr} (h : IsF K H a) : RA.InsP K H a (CF K) := ⟨h, T.p_Filter⟩
def spAddFilter (K : PySem.W.Frag) : Sp := fun vs H Q _ => ∃ (p C dx l a : Addr) (fs : List (Str × V)) (as : List Addr), vs = [.ref p, .ref a] ∧ HasF K H p C dx l fs as ∧ (∀ b ∈ a :: as, IsF K H b) ∧ Q .non (if a ∈ as then H else upd H l (.lst ((as ++ [a]).map V.ref)))
theorem ok_addFilter {f : Addr} (T : Txt P w K mg) (F : Stands K "addFilter" "Filterer.addFilter" s_Filterer_addFilter [] f) : Callable P w K mg base 1 f ["self", "one"] [] (spAddFilter K) := by
  refine F.call0 sc_Filterer_addFilter (fun vs H Q E h => ?_) (fun cdv A outer s H vs Q E hr h => ?_) (fun _ _ _ _ _ _ us hl => match us, hl with | [_, _], _ => rfl)
  · obtain ⟨p, C, dx, l, r, fs, as, rfl, _⟩ := h; rfl
  obtain ⟨p, C, dx, l, a, fs, as, rfl, hF, hA, hQ⟩ := h
  refine ⟨_, (pss_one (ps_if (pt_cmpR (RA.op_notInP hr.units) (pv 1) (pe_fld (pv 0) rfl) (by rfl)) (pss_one (ps_expr (pe_bm PySem.F.plainAttrs_list PySem.F.slot_list_append PySem.F.type_list_append mt_append (pe_fld (pv 0) rfl) (pa_cons (pv 1) pa_nil)))) pss_nil)), ?_⟩
  refine ⟨_, rfl, _, rfl, p, C, dx, fs, _, rfl, hF.ob, hF.cl, hF.no, hF.lk, a, CF K, l, as, rfl, ⟨hA a (List.mem_cons_self ..), T.p_Filter⟩, rfl, SqL.of hF.ls, fun b hb => ⟨CF K, ⟨hA b (List.mem_cons_of_mem _ hb), T.p_Filter⟩, T.sub_Filter_Filter⟩, _, rfl, ?_⟩
  by_cases e : a ∈ as
  · rw [if_pos e] at hQ
    exact iteF' (by simp [e]) hQ
  · rw [if_neg e] at hQ
    refine iteT' (by simp [e]) ?_
    refine ⟨_, rfl, p, C, dx, fs, _, rfl, hF.ob, hF.cl, hF.no, hF.lk, .inl ⟨rfl, _, SqL.of hF.ls⟩, _, rfl, l, _, _, rfl, rfl, hF.ls, (by rw [List.length_map, sizeLine_eq]; have := hF.ln; omega), ?_⟩
    rw [List.map_append] at hQ
    exact hQ
theorem take_filter {α : Type} (p : α → Bool) (as : List α) (i : Nat) (x : α) (h : as[i]? = some x) : (as.take (i + 1)).filter p = (as.take i).filter p ++ (if p x = true then [x] else []) := by
  rw [List.take_add_one, h, List.filter_append]
  cases e : p x <;> simp [e]
end
end K17

set_option Elab.async false
set_option linter.all false
set_option maxRecDepth 100000
set_option maxHeartbeats 0

namespace K17
open PySem PySem.Spec PyProof.Rows L2 RC
section
variable {P : Program} {w : World} {K : PySem.W.Frag} {mg : Str → Option Value} {base : Heap}
/-! ### streams -/
def txt (ts : List (Str × Str)) (s : Str) : Str := (ts.lookup s).getD ""
def putS (ts : List (Str × Str)) (s t : Str) : List (Str × Str) := if ts.any (fun e => decide (e.1 = s)) = true then ts.map (fun e => if e.1 = s then (e.1, t) else e) else ts ++ [(s, t)]
theorem valV_strK (s : Str) : ∀ ts : List (Str × Str), valV (strK ts) (Sum.inr s) = (ts.lookup s).map V.str
  | [] => rfl
  | e :: es => by
    by_cases h : e.1 = s
    · have h1 : valV (strK (e :: es)) (Sum.inr s) = some (V.str e.2) := valV_pos (p := ((Sum.inr e.1 : Key), V.str e.2)) (r := strK es) (congrArg Sum.inr h)
      rw [h1, List.lookup_cons, beq_iff_eq.mpr h.symm]; rfl
    · have h1 : valV (strK (e :: es)) (Sum.inr s) = valV (strK es) (Sum.inr s) := by
        show valV (((Sum.inr e.1 : Key), V.str e.2) :: strK es) (Sum.inr s) = _
        unfold valV
        rw [List.find?_cons, show decide ((Sum.inr e.1 : Key) = Sum.inr s) = false from decide_eq_false fun z => h (Sum.inr.inj z)]
      rw [h1, List.lookup_cons, show (s == e.1) = false from by simpa using fun z : s = e.1 => h z.symm, valV_strK s es]
theorem putK_strK (ts : List (Str × Str)) (s t : Str) : putK (strK ts) (Sum.inr s) (.str t) = strK (putS ts s t) := by
  unfold putK putS
  have e : (strK ts).any (fun p => decide (p.1 = (Sum.inr s : Key))) = ts.any (fun e => decide (e.1 = s)) := by
    unfold strK
    rw [List.any_map]
    congr 1
    funext e
    exact decide_eq_decide.mpr ⟨fun z => Sum.inr.inj z, fun z => congrArg Sum.inr z⟩
  rw [e]
  split
  · unfold strK
    rw [List.map_map, List.map_map]
    refine List.map_congr_left fun e _ => ?_
    show (if (Sum.inr e.1 : Key) = Sum.inr s then _ else _) = _
    by_cases c : e.1 = s
    · rw [if_pos (congrArg Sum.inr c)]
      show _ = ((Sum.inr (if e.1 = s then (e.1, t) else e).1 : Key), V.str (if e.1 = s then (e.1, t) else e).2)
      rw [if_pos c]
    · rw [if_neg (fun z => c (Sum.inr.inj z))]
      show _ = ((Sum.inr (if e.1 = s then (e.1, t) else e).1 : Key), V.str (if e.1 = s then (e.1, t) else e).2)
      rw [if_neg c]
  · unfold strK; rw [List.map_append]; rfl
theorem putS_length (ts : List (Str × Str)) (s t : Str) : (putS ts s t).length ≤ ts.length + 1 := by
  unfold putS
  split
  · rw [List.length_map]; omega
  · rw [List.length_append]; exact Nat.le_refl _
def TM.write (m : TM) (s t : Str) : TM := { m with texts := putS m.texts s (txt m.texts s ++ t) }
/-- no text is longer than n, nor are there more of them -/
def Cap (ts : List (Str × Str)) (n : Nat) : Prop := ts.length ≤ n ∧ ∀ e ∈ ts, e.2.length ≤ n
theorem txt_cap {ts : List (Str × Str)} {n : Nat} (c : Cap ts n) (s : Str) : (txt ts s).length ≤ n := by
  unfold txt
  cases e : ts.lookup s with
  | none => exact Nat.zero_le _
  | some t =>
    have hm : ∃ k, (k, t) ∈ ts := by
      clear c
      induction ts with
      | nil => cases e
      | cons a r ih =>
        rw [List.lookup_cons] at e
        split at e
        · cases e; exact ⟨a.1, List.mem_cons_self⟩
        · obtain ⟨k, hk⟩ := ih e; exact ⟨k, List.mem_cons_of_mem _ hk⟩
    obtain ⟨k, hk⟩ := hm
    exact c.2 _ hk
theorem len_app (x y : Str) : (x ++ y).length = x.length + y.length := by
  rw [TL.len_tl, TL.tl_append, List.length_append, ← TL.len_tl, ← TL.len_tl]
theorem app_assoc (x y z : Str) : x ++ y ++ z = x ++ (y ++ z) := by
  refine TL.ext_tl ?_
  rw [TL.tl_append, TL.tl_append, TL.tl_append, TL.tl_append, List.append_assoc]
theorem putS_cap {ts : List (Str × Str)} {n k : Nat} (c : Cap ts n) (s : Str) {t : Str} (ht : t.length ≤ n + k) (hk : 1 ≤ k) : Cap (putS ts s t) (n + k) := by
  refine ⟨Nat.le_trans (putS_length _ _ _) (by have := c.1; omega), fun e he => ?_⟩
  unfold putS at he
  split at he
  · obtain ⟨e', h1, rfl⟩ := List.mem_map.mp he
    split
    · exact ht
    · exact Nat.le_trans (c.2 _ h1) (by omega)
  · rcases List.mem_append.mp he with h | h
    · exact Nat.le_trans (c.2 _ h) (by omega)
    · cases List.mem_singleton.mp h; exact ht
theorem write_cap {m : TM} {n k : Nat} (c : Cap m.texts n) (s : Str) {t : Str} (ht : t.length ≤ k) (hk : 1 ≤ k) : Cap (m.write s t).texts (n + k) :=
  putS_cap c s (by rw [len_app]; have := txt_cap c s; omega) hk
theorem _root_.RR.Rep.write {m : TM} {ad : YRo → Addr} {H : Hp} (R : YR K m ad H) (s t : Str) : YR K (m.write s t) ad (upd H (ad .st) (.dK (strK (putS m.texts s (txt m.texts s ++ t))))) ∧ YM K m ad H (m.write s t) ad (upd H (ad .st) (.dK (strK (putS m.texts s (txt m.texts s ++ t))))) :=
  RR.Rep.set R .st rfl rfl fun r hr => by cases r <;> first | rfl | exact absurd rfl hr
def spText (K : PySem.W.Frag) : Sp := fun vs H Q _ => ∃ (m : TM) (ad : YRo → Addr) (s : Str), vs = [.ref (ad .y), .str s] ∧ YR K m ad H ∧ Q (.str (txt m.texts s)) H
theorem ok_text {f : Addr} (T : Txt P w K mg) (F : Stands K "text" "Yard.text" s_Yard_text [] f) : Callable P w K mg base 1 f ["self", "stream"] [] (spText K) := by
  refine F.call0 sc_Yard_text (fun vs H Q E h => ?_) (fun cdv A outer s H vs Q E hr h => ?_) (fun _ _ _ _ _ _ us hl => match us, hl with | [_, _], _ => rfl)
  · obtain ⟨m, ad, s, rfl, _⟩ := h; rfl
  obtain ⟨m, ad, s, rfl, R, hQ⟩ := h
  refine ⟨_, (pss_one (ps_ret (pe_dget2 (hu_of hr) (pe_fld (pv 0) rfl) (pv 1) pe_str ⟨rfl, rfl, rfl, rfl⟩))), ?_⟩
  walk_at "in"
  have hy := R.y_
  have hst := R.st_
  have hv := valV_strK s m.texts
  unfold txt at hQ
  cases e : m.texts.lookup s with
  | none =>
    rw [e] at hv hQ
    walk_at "go"
    exact hQ
  | some t =>
    rw [e] at hv hQ
    walk_at "go"
    exact hQ
def spWrite (K : PySem.W.Frag) : Sp := fun vs H Q _ => ∃ (m : TM) (ad : YRo → Addr) (s t : Str), vs = [.ref (ad .y), .str s, .str t] ∧ YR K m ad H ∧ Cap m.texts 8000000 ∧ t.length ≤ 8000000 ∧ ∀ H', YR K (m.write s t) ad H' → YM K m ad H (m.write s t) ad H' → Q .non H'
theorem ok_write {f : Addr} (T : Txt P w K mg) (F : Stands K "write_stream" "Yard.write_stream" s_Yard_write_stream [] f) (c_Yard_text : Callable P w K mg base 1 (He.ma K (He.ga K "Yard") "text") ["self", "stream"] [] (spText K)) : Callable P w K mg base 2 f ["self", "name", "text"] [] (spWrite K) := by
  refine F.call0 sc_Yard_write_stream (fun vs H Q E h => ?_) (fun cdv A outer s H vs Q E hr h => ?_) (fun _ _ _ _ _ _ us hl => match us, hl with | [_, _, _], _ => rfl)
  · obtain ⟨m, ad, s, t, rfl, _⟩ := h; rfl
  obtain ⟨m, ad, s, t, rfl, R, hc, ht, hQ⟩ := h
  refine ⟨_, (pss_one (ps_dput (hu_of hr) (pe_fld (pv 0) rfl) (pv 1) (pe_op op_add_str (pe_mt T.c_Yard T.m_Yard_text c_Yard_text (hr.mono (by first | decide | exact Nat.le_refl _)) (pv 0) (pa_cons (pv 1) pa_nil)) (pv 2)) rfl)), ?_⟩
  walk_at "in"
  have hy := R.y_
  have hst := R.st_
  have h1 := txt_cap hc s
  have h2 : (strK m.texts).length < sizeLine := by unfold strK; rw [List.length_map, sizeLine_eq]; have := hc.1; omega
  obtain ⟨R', M'⟩ := R.write s t
  walk_at "go"
  rw [putK_strK]
  exact hQ _ R' M'
/-! ### a record's message -/
def spMessage (K : PySem.W.Frag) : Sp := fun vs H Q _ => ∃ (r : Addr) (name ln msg : Str) (lv clk : Int), vs = [.ref r] ∧ RecAt K H r name lv ln msg clk ∧ ∀ H', Same H H' → Q (.str msg) H'
theorem ok_message {f : Addr} (T : Txt P w K mg) (F : Stands K "message" "LogRecord.message" s_LogRecord_message [] f) : Callable P w K mg base 1 f ["self"] [] (spMessage K) := by
  refine F.call0 sc_LogRecord_message (fun vs H Q E h => ?_) (fun cdv A outer s H vs Q E hr h => ?_) (fun _ _ _ _ _ _ us hl => match us, hl with | [_], _ => rfl)
  · obtain ⟨r, name, ln, msg, lv, clk, rfl, _⟩ := h; rfl
  obtain ⟨r, name, ln, msg, lv, clk, rfl, ⟨dx, g, e, hr1, hg, he⟩, hQ⟩ := h
  refine ⟨_, (pss_one (ps_ret (pe_ifExp (pt_cmpR (op_eqD hr.units) (pe_fld (pv 0) rfl) (pe_tup pa_nil) (nomark _)) (pe_fld (pv 0) rfl) pe_never))), ?_⟩
  walk_at "in"
  walk_at "go"
  intro p fp
  have hg2 := same_new fp (.tup []) _ _ hg
  have hr2 := same_new fp (.tup []) _ _ hr1
  refine ⟨_, _, Dp.tup (SqT.of hg2) .nil, Dp.tup (SqT.of upd_same) .nil, by decide +kernel, by decide +kernel, true, rfl, iteT ?_⟩
  walk_at "go"
  exact hQ _ (same_new fp _)
def spFormatted (K : PySem.W.Frag) : Sp := fun vs H Q _ => ∃ (h dh r : Addr) (fs : List (Str × V)) (name ln msg : Str) (lv clk : Int), vs = [.ref h, .ref r] ∧ H h = some (.ins (CS K) dh fs) ∧ fs.lookup ("formatter" : Str) = some .non ∧ RecAt K H r name lv ln msg clk ∧ ∀ H', Same H H' → Q (.str msg) H'
theorem ok_formatted {f : Addr} (T : Txt P w K mg) (F : Stands K "formatted" "Handler.formatted" s_Handler_formatted [] f) (c_LogRecord_message : Callable P w K mg base 1 (He.ma K (He.ga K "LogRecord") "message") ["self"] [] (spMessage K)) : Callable P w K mg base 2 f ["self", "record"] [] (spFormatted K) := by
  refine F.call0 sc_Handler_formatted (fun vs H Q E h => ?_) (fun cdv A outer s H vs Q E hr h => ?_) (fun _ _ _ _ _ _ us hl => match us, hl with | [_, _], _ => rfl)
  · obtain ⟨h, dh, r, fs, name, ln, msg, lv, clk, rfl, _⟩ := h; rfl
  obtain ⟨h, dh, r, fs, name, ln, msg, lv, clk, rfl, hh, hf, hR, hQ⟩ := h
  obtain ⟨dx, g, e, hr1, hg, he⟩ := id hR
  refine ⟨_, (pss_one (ps_ret (pe_ifExp (pt_cmpR op_isN (pe_fld (pv 0) rfl) pe_non (nomark _)) (pe_mt0 T.c_LogRecord T.m_LogRecord_message c_LogRecord_message (hr.mono (by first | decide | exact Nat.le_refl _)) (pv 1)) pe_never))), ?_⟩
  walk_at "in"
  walk_at "go"
  exact hQ
def spTextOf (K : PySem.W.Frag) : Sp := fun vs H Q _ => ∃ (h dh r : Addr) (fs : List (Str × V)) (name ln msg : Str) (lv clk : Int), vs = [.ref h, .ref r] ∧ H h = some (.ins (CS K) dh fs) ∧ fs.lookup ("formatter" : Str) = some .non ∧ fs.lookup ("formatted" : Str) = none ∧ RecAt K H r name lv ln msg clk ∧ ∀ H', Same H H' → Q (.str msg) H'
theorem ok_text_of {f : Addr} (T : Txt P w K mg) (F : Stands K "text_of" "Handler.text_of" s_Handler_text_of [] f) (c_StreamHandler_formatted : Callable P w K mg base 2 (He.ma K (He.ga K "StreamHandler") "formatted") ["self", "record"] [] (spFormatted K)) : Callable P w K mg base 3 f ["self", "record"] [] (spTextOf K) := by
  refine F.call0 sc_Handler_text_of (fun vs H Q E h => ?_) (fun cdv A outer s H vs Q E hr h => ?_) (fun _ _ _ _ _ _ us hl => match us, hl with | [_, _], _ => rfl)
  · obtain ⟨h, dh, r, fs, name, ln, msg, lv, clk, rfl, _⟩ := h; rfl
  obtain ⟨h, dh, r, fs, name, ln, msg, lv, clk, rfl, hh, hf, hf2, hR, hQ⟩ := h
  refine ⟨_, (pss_cons (ps_set (i := 2) sc_Handler_text_of.nd rfl (by first | exact Or.inl rfl | exact Or.inr rfl) pe_non)
      (pss_cons (ps_try_many rfl rfl takes_none5 (fun W pn xe tk _ => (pss_one (ps_set (i := 2) sc_Handler_text_of.nd rfl (by first | exact Or.inl rfl | exact Or.inr rfl) (pe_mt T.c_StreamHandler T.m_StreamHandler_formatted c_StreamHandler_formatted (hr.mono (by first | decide | exact Nat.le_refl _)) (pv 0) (pa_cons (pv 1) pa_nil))))) (HdsOk.cons ⟨by rfl, by decide, .inl T.g_BadMessage⟩ (fun a oe cls d pn _ _ => (pss_one ps_never)) (HdsOk.cons ⟨by rfl, by decide, .inl T.g_BadField⟩ (fun a oe cls d pn _ _ => (pss_one ps_never)) HdsOk.nil)))
      (pss_one (ps_ret (pv 2))))), ?_⟩
  walk_at "in"
  walk_at "go"
  intro H1 s1
  walk_at "go"
  exact hQ _ s1
end
end K17

set_option Elab.async false
set_option linter.all false
set_option maxRecDepth 100000
set_option maxHeartbeats 0

namespace K17
open PySem PySem.Spec PyProof.Rows L2 RC
section
variable {P : Program} {w : World} {K : PySem.W.Frag} {mg : Str → Option Value} {base : Heap}
/-! ### handlers at work -/
def spEmit (K : PySem.W.Frag) : Sp := fun vs H Q _ => ∃ (m : TM) (ad : YRo → Addr) (a d fl r : Addr) (lv rl clk : Int) (tm st name ln msg : Str), vs = [.ref a, .ref r] ∧ YR K m ad H ∧ H a = some (.ins (CS K) d (hdS fl (ad .y) lv tm st)) ∧ RecAt K H r name rl ln msg clk ∧ Cap m.texts 7000000 ∧ msg.length ≤ 1000 ∧ tm.length ≤ 100 ∧
  ∀ H', YR K (m.write st (msg ++ tm)) ad H' → YM K m ad H (m.write st (msg ++ tm)) ad H' → Q .non H'
theorem ok_emit {f : Addr} (T : Txt P w K mg) (F : Stands K "emit" "StreamHandler.emit" s_StreamHandler_emit [] f) (c_StreamHandler_text_of : Callable P w K mg base 3 (He.ma K (He.ga K "StreamHandler") "text_of") ["self", "record"] [] (spTextOf K))
    (c_Yard_write_stream : Callable P w K mg base 2 (He.ma K (He.ga K "Yard") "write_stream") ["self", "name", "text"] [] (spWrite K)) : Callable P w K mg base 4 f ["self", "record"] [] (spEmit K) := by
  refine F.call0 sc_StreamHandler_emit (fun vs H Q E h => ?_) (fun cdv A outer s H vs Q E hr h => ?_) (fun _ _ _ _ _ _ us hl => match us, hl with | [_, _], _ => rfl)
  · obtain ⟨m, ad, a, d, fl, r, lv, rl, clk, tm, st, name, ln, msg, rfl, _⟩ := h; rfl
  obtain ⟨m, ad, a, d, fl, r, lv, rl, clk, tm, st, name, ln, msg, rfl, R, ha, hR, hc, hm, ht, hQ⟩ := h
  refine ⟨_, (pss_cons (ps_set (i := 2) sc_StreamHandler_emit.nd rfl (by first | exact Or.inl rfl | exact Or.inr rfl) (pe_mt T.c_StreamHandler T.m_StreamHandler_text_of c_StreamHandler_text_of (hr.mono (by first | decide | exact Nat.le_refl _)) (pv 0) (pa_cons (pv 1) pa_nil)))
      (pss_one (ps_if (pt_cmpR op_notN (pv 2) pe_non (nomark _)) (pss_one (ps_expr (pe_mt T.c_Yard T.m_Yard_write_stream c_Yard_write_stream (hr.mono (by first | decide | exact Nat.le_refl _)) (pe_fld (pv 0) rfl) (pa_cons (pe_fld (pv 0) rfl) (pa_cons (pe_op op_add_str (pv 2) (pe_fld (pv 0) rfl)) pa_nil))))) pss_nil))), ?_⟩
  walk_at "in"
  walk_at "go"
  intro H1 s1
  have R1 := R.same s1
  have hy := R1.y_
  have hc2 : Cap m.texts 8000000 := ⟨Nat.le_trans hc.1 (by decide), fun e he => Nat.le_trans (hc.2 e he) (by decide)⟩
  have hl : (msg ++ tm).length ≤ 8000000 := by rw [len_app]; omega
  walk_at "go"
  intro H2 R2 M2
  exact hQ _ R2 (M2.sameL s1)
/-- Filters of the names ns in the list at l -/
def FlAt (K : PySem.W.Frag) (H : Hp) (l : Addr) (ns : List Str) : Prop := ∃ as : List Addr, H l = some (.lst (as.map V.ref)) ∧ as.length = ns.length ∧ as.length ≤ 100 ∧ ∀ (k : Nat) (a : Addr), as[k]? = some a → ∃ n, ns[k]? = some n ∧ FilterAt K H a n
theorem FlAt.same {H H' : Hp} {l : Addr} {ns : List Str} (h : FlAt K H l ns) (s : Same H H') : FlAt K H' l ns := by
  obtain ⟨as, h1, h2, h3, h4⟩ := h
  refine ⟨as, s _ _ h1, h2, h3, fun k a ha => ?_⟩
  obtain ⟨n, h5, ⟨dx, h6⟩, h7⟩ := h4 k a ha
  exact ⟨n, h5, ⟨dx, s _ _ h6⟩, h7⟩
def spHandleS (K : PySem.W.Frag) : Sp := fun vs H Q _ => ∃ (m : TM) (ad : YRo → Addr) (a d fl r : Addr) (lv rl clk : Int) (tm st name ln msg : Str) (ns : List Str), vs = [.ref a, .ref r] ∧ YR K m ad H ∧ H a = some (.ins (CS K) d (hdS fl (ad .y) lv tm st)) ∧ FlAt K H fl ns ∧ RecAt K H r name rl ln msg clk ∧ Cap m.texts 7000000 ∧ msg.length ≤ 1000 ∧ tm.length ≤ 100 ∧
  ((lets ns name = true ∧ ∀ H', YR K (m.write st (msg ++ tm)) ad H' → YM K m ad H (m.write st (msg ++ tm)) ad H' → Q (.bl true) H') ∨ (lets ns name = false ∧ Q (.bl false) H))
theorem ok_handleS {f : Addr} (T : Txt P w K mg) (F : Stands K "handle" "Handler.handle" s_Handler_handle [] f) (c_StreamHandler_filtered : Callable P w K mg base 4 (He.ma K (He.ga K "StreamHandler") "filtered") ["self", "record"] [] (spFiltered K))
    (c_StreamHandler_emit : Callable P w K mg base 4 (He.ma K (He.ga K "StreamHandler") "emit") ["self", "record"] [] (spEmit K)) : Callable P w K mg base 5 f ["self", "record"] [] (spHandleS K) := by
  refine F.call0 sc_Handler_handle (fun vs H Q E h => ?_) (fun cdv A outer s H vs Q E hr h => ?_) (fun _ _ _ _ _ _ us hl => match us, hl with | [_, _], _ => rfl)
  · obtain ⟨m, ad, a, d, fl, r, lv, rl, clk, tm, st, name, ln, msg, ns, rfl, _⟩ := h; rfl
  obtain ⟨m, ad, a, d, fl, r, lv, rl, clk, tm, st, name, ln, msg, ns, rfl, R, ha, ⟨as, f1, f2, f3, f4⟩, hR, hc, hm, ht, hQ⟩ := h
  refine ⟨_, (pss_cons (ps_set (i := 2) sc_Handler_handle.nd rfl (by first | exact Or.inl rfl | exact Or.inr rfl) (pe_mt T.c_StreamHandler T.m_StreamHandler_filtered c_StreamHandler_filtered (hr.mono (by first | decide | exact Nat.le_refl _)) (pv 0) (pa_cons (pv 1) pa_nil)))
      (pss_cons (ps_if (pt_cmpR op_isN (pv 2) pe_non (nomark _)) (pss_one (ps_ret pe_bl)) pss_nil)
      (pss_cons (ps_expr (pe_mt T.c_StreamHandler T.m_StreamHandler_emit c_StreamHandler_emit (hr.mono (by first | decide | exact Nat.le_refl _)) (pv 0) (pa_cons (pv 2) pa_nil)))
      (pss_one (ps_ret pe_bl))))), ?_⟩
  walk_at "in"
  have hF : HasF K H a (CS K) d fl (hdS fl (ad .y) lv tm st) as := ⟨ha, T.c_StreamHandler, T.n_StreamHandler_filters, rfl, f1, f3, by show 8 < 100; decide⟩
  have hN := hR.name
  walk_at "go"
  rcases hQ with ⟨e, hQ⟩ | ⟨e, hQ⟩
  · rw [e]
    walk_at "go"
    intro H2 R2 M2
    walk_at "go"
    exact hQ _ R2 M2
  · rw [e]
    walk_at "go"
    exact hQ
/-! ### what a handler of the model does -/
def TM.emitH (m : TM) (h : HM) (name msg : Str) : TM := if h.null = false ∧ lets h.sv name = true then m.write h.st (msg ++ h.tm) else m
section
variable {m : TM} {ad : YRo → Addr} {H : Hp} {h : HM} {j : Nat} {x : Str}
theorem range_get (n k : Nat) (f : Nat → Addr) (a : Addr) (h : ((List.range n).map f)[k]? = some a) : k < n ∧ f k = a := by
  rw [List.getElem?_map] at h
  obtain ⟨i, h1, h2⟩ := Option.map_eq_some_iff.mp h
  obtain ⟨h3, h4⟩ := List.getElem?_eq_some_iff.mp h1
  rw [List.length_range] at h3
  rw [List.getElem_range] at h4
  subst h4
  exact ⟨h3, h2⟩
theorem _root_.RR.Rep.hdFl (R : YR K m ad H) (O : m.Ok) (hj : m.hs[j]? = some h) : FlAt K H (ad (.hdF j)) h.sv := by
  have o := O.hsv h (List.mem_of_getElem? hj)
  refine ⟨(List.range h.sv.length).map fun k => ad (.hf j k), by rw [List.map_map]; exact R.hdF_ hj, by simp, by simp; omega, fun k a e => ?_⟩
  obtain ⟨h1, h2⟩ := range_get _ _ _ _ e
  exact ⟨h.sv[k], List.getElem?_eq_getElem h1, ⟨ad (.hfD j k), by rw [← h2]; exact R.hf_ hj (List.getElem?_eq_getElem h1)⟩, o.2.1 _ (List.getElem_mem h1)⟩
theorem _root_.RR.Rep.lgFl (R : YR K m ad H) (O : m.Ok) (hx : x ∈ m.all) : FlAt K H (ad (.lgF x)) (m.sv x) := by
  refine ⟨(List.range (m.sv x).length).map fun k => ad (.lf x k), by rw [List.map_map]; exact R.lgF_ hx, by simp, by have := O.svl x; simp; omega, fun k a e => ?_⟩
  obtain ⟨h1, h2⟩ := range_get _ _ _ _ e
  exact ⟨(m.sv x)[k], List.getElem?_eq_getElem h1, ⟨ad (.lfD x k), by rw [← h2]; exact R.lf_ hx (List.getElem?_eq_getElem h1)⟩, O.svs x _ (List.getElem_mem h1)⟩
theorem _root_.RR.Rep.lrFl (R : YR K m ad H) : FlAt K H (ad .lrF) [] := ⟨[], R.lrF_, rfl, by decide, fun k a e => by simp at e⟩
/-- a handler of the yard handles a record, whichever of both classes it has -/
theorem _root_.RR.Rep.handle (R : YR K m ad H) (O : m.Ok) (hj : m.hs[j]? = some h) {r : Addr} {name ln msg : Str} {rl clk : Int} (hR : RecAt K H r name rl ln msg clk) (hc : Cap m.texts 7000000) (hm : msg.length ≤ 1000) {Q : Hp → Prop}
    (q : ∀ H', YR K (m.emitH h name msg) ad H' → YM K m ad H (m.emitH h name msg) ad H' → Q H') :
    spHandleS K [.ref (ad (.hd j)), .ref r] H (fun _ H' => Q H') E0 := by
  have o := O.hsv h (List.mem_of_getElem? hj)
  have g := R.hd_ hj
  have e := o.2.2.2.2
  refine ⟨m, ad, ad (.hd j), ad (.hdD j), ad (.hdF j), r, h.lv, rl, clk, h.tm, h.st, name, ln, msg, h.sv, rfl, R, ?_, R.hdFl O hj, hR, hc, hm, o.2.2.1, ?_⟩
  · unfold hdO at g; rw [e, if_neg (fun z => nomatch z)] at g; exact g
  · unfold TM.emitH at q
    cases l : lets h.sv name with
    | true => rw [if_pos ⟨e, l⟩] at q; exact .inl ⟨rfl, q⟩
    | false => rw [if_neg (fun z => by rw [l] at z; exact nomatch z.2)] at q; exact .inr ⟨rfl, q _ R (RR.Mv.refl H)⟩
end
end
end K17

set_option Elab.async false
set_option linter.all false
set_option maxRecDepth 100000
set_option maxHeartbeats 0
namespace K17
open PySem PySem.Spec PyProof.Rows L2 RC
section
variable {P : Program} {w : World} {K : PySem.W.Frag} {mg : Str → Option Value} {base : Heap}
/-! ### loggers -/
def TM.add (m : TM) (x : Str) : TM := if x ∈ m.all then m else { m with names := m.names ++ [x], lev := fun y => if y = x then 0 else m.lev y, prop := fun y => if y = x then true else m.prop y, dis := fun y => if y = x then false else m.dis y, hands := fun y => if y = x then [] else m.hands y, sv := fun y => if y = x then [] else m.sv y }
def TM.putH (m : TM) (x : Str) (j : Nat) : TM := { m with hands := fun y => if y = x then (if j ∈ m.hands x then m.hands x else m.hands x ++ [j]) else m.hands y }
def TM.dropH (m : TM) (x : Str) (j : Nat) : TM := { m with hands := fun y => if y = x then (m.hands x).filter (fun i => !decide (i = j)) else m.hands y }
def TM.setProp (m : TM) (x : Str) (b : Bool) : TM := { m with prop := fun y => if y = x then b else m.prop y }
def adH (ad : YRo → Addr) (x : Str) (p : Addr) : YRo → Addr
  | .lgH y => if y = x then p else ad (.lgH y)
  | r => ad r
def adL (ad : YRo → Addr) (x : Str) (a d l h : Addr) : YRo → Addr
  | .lg y => if y = x then a else ad (.lg y)
  | .lgD y => if y = x then d else ad (.lgD y)
  | .lgF y => if y = x then l else ad (.lgF y)
  | .lgH y => if y = x then h else ad (.lgH y)
  | r => ad r
/-- what a caller knows of the places: the yard and its handlers stay -/
def Fix (ad ad' : YRo → Addr) : Prop := ad' .y = ad .y ∧ ∀ j, ad' (.hd j) = ad (.hd j)
theorem Fix.refl (ad : YRo → Addr) : Fix ad ad := ⟨rfl, fun _ => rfl⟩
theorem Fix.trans {a b c : YRo → Addr} (h : Fix a b) (k : Fix b c) : Fix a c := ⟨k.1.trans h.1, fun j => (k.2 j).trans (h.2 j)⟩
section
variable {m : TM} {ad : YRo → Addr} {H H' : Hp} {x : Str} {j : Nat}
theorem add_old (h : x ∈ m.all) : m.add x = m := if_pos h
theorem add_mem (x : Str) : x ∈ (m.add x).all := by
  unfold TM.add
  split
  · assumption
  · exact List.mem_cons_of_mem _ (List.mem_append_right _ List.mem_cons_self)
theorem add_all {y : Str} (h : y ∈ m.all) : y ∈ (m.add x).all := by
  unfold TM.add
  split
  · exact h
  · rcases List.mem_cons.mp h with rfl | h
    · exact List.mem_cons_self
    · exact List.mem_cons_of_mem _ (List.mem_append_left _ h)
theorem mem_app {n : List Str} {y : Str} (h : y ∈ ("" : Str) :: (n ++ [x])) (hy : y ≠ x) : y ∈ ("" : Str) :: n := by
  rcases List.mem_cons.mp h with rfl | h
  · exact List.mem_cons_self
  · rcases List.mem_append.mp h with h | h
    · exact List.mem_cons_of_mem _ h
    · exact absurd (List.mem_singleton.mp h) hy
theorem app_mem {n : List Str} {y : Str} (h : y ∈ ("" : Str) :: n) : y ∈ ("" : Str) :: (n ++ [x]) := by
  rcases List.mem_cons.mp h with rfl | h
  · exact List.mem_cons_self
  · exact List.mem_cons_of_mem _ (List.mem_append_left _ h)
theorem esM_add (hx : x ∉ m.all) {a d l h : Addr} : esM (m.add x) (adL ad x a d l h) = esM m ad ++ [(x, a)] := by
  unfold TM.add
  rw [if_neg hx]
  unfold esM
  rw [List.map_append]
  congr 1
  · refine List.map_congr_left fun y hy => ?_
    show (y, if y = x then a else ad (.lg y)) = _
    rw [if_neg (fun z => hx (by rw [← z]; exact List.mem_cons_of_mem _ hy))]
  · show [(x, if x = x then a else ad (.lg x))] = _
    rw [if_pos rfl]
/-- a logger is got -/
theorem _root_.RR.Rep.get (R : YR K m ad H) (O : m.Ok) (hx : x = "" ∨ ∃ qs, Nm qs ∧ x = Txt.join "." qs) {Q : VK}
    (q : ∀ (ad' : YRo → Addr) (H' : Hp), YR K (m.add x) ad' H' → YM K m ad H (m.add x) ad' H' → Fix ad ad' → Q (.ref (ad' (.lg x))) H') : spGetLogR K [.ref (ad .y), .str x] H Q E0 := by
  have N := R.known O
  rcases hx with rfl | ⟨qs, hq, hx⟩
  · have e : m.add "" = m := add_old m.mem_root
    rw [e] at q
    exact .inr ⟨ad .y, ad .yD, ad (.lg ""), yFm m ad, rfl, R.y_, rfl, q ad H R (RR.Mv.refl H) (Fix.refl ad)⟩
  refine .inl (N.get (by unfold esM; rw [List.length_map]; exact O.few) hq hx fun H' a es' g' kp N' cs => ?_)
  have hlk : ∀ a, (esM m ad).lookup x = some a → x ∈ m.names ∧ a = ad (.lg x) := fun a h => by
    have h1 := lookup_mem h
    obtain ⟨y, hy, e⟩ := List.mem_map.mp h1
    cases e; exact ⟨hy, rfl⟩
  have hne : x ≠ "" := by rw [hx]; exact hq.ne.1
  rcases cs with ⟨hl, rfl, rfl, sm⟩ | ⟨hl, rfl, ⟨g, rfl, g1, g2, g3, g4, g5, g6, g7, g8⟩, a0⟩
  · obtain ⟨h1, rfl⟩ := hlk a hl
    have e : m.add x = m := add_old (List.mem_cons_of_mem _ h1)
    rw [e] at q
    exact q ad H' (R.same sm) (RR.Mv.same sm) (Fix.refl ad)
  have hx0 : x ∉ m.names := fun z => by
    have := lookup_none hl
    rw [esM_fst] at this
    exact this z
  have hxa : x ∉ m.all := fun z => by
    rcases List.mem_cons.mp z with z | z
    · exact hne z
    · exact hx0 z
  have ea : m.add x = { m with names := m.names ++ [x], lev := fun y => if y = x then 0 else m.lev y, prop := fun y => if y = x then true else m.prop y, dis := fun y => if y = x then false else m.dis y, hands := fun y => if y = x then [] else m.hands y, sv := fun y => if y = x then [] else m.sv y } := if_neg hxa
  have ees := esM_add (m := m) (ad := ad) hxa (a := a) (d := g.d) (l := g.l) (h := g.hl)
  have l0 : adL ad x a g.d g.l g.hl (.lg "") = ad (.lg "") := if_neg (Ne.symm hne)
  have keepR : ∀ r o, Y K m ad r = some o → r ≠ .lm → (∀ y, r ≠ .lg y) → H' (ad r) = some o := fun r o e h1 h2 => by
    refine kp _ _ (fun z => h1 (R.inj _ _ _ _ e rfl z)) (fun z => ?_) (R.at_ _ _ e)
    obtain ⟨e', he', z⟩ := List.mem_map.mp z
    obtain ⟨y, hy, rfl⟩ := List.mem_map.mp he'
    exact h2 y (R.inj _ _ _ _ e (Y_lg (List.mem_cons_of_mem _ hy)) z.symm)
  rw [ea] at q ees
  generalize em : ({ m with names := m.names ++ [x], lev := fun y => if y = x then 0 else m.lev y, prop := fun y => if y = x then true else m.prop y, dis := fun y => if y = x then false else m.dis y, hands := fun y => if y = x then [] else m.hands y, sv := fun y => if y = x then [] else m.sv y } : TM) = m' at q ees
  generalize ed : adL ad x a g.d g.l g.hl = ad' at q ees l0
  have hall : ∀ y, y ∈ m'.all → y ≠ x → y ∈ m.all := fun y h1 h2 => by rw [← em] at h1; exact mem_app h1 h2
  have LGx : LGm m' ad' x = g := by
    rw [← em, ← ed]
    obtain ⟨d, l, hl', lev, pr, di⟩ := g
    show (⟨if x = x then d else _, if x = x then l else _, if x = x then hl' else _, if x = x then 0 else _, if x = x then true else _, if x = x then false else _⟩ : LG) = _
    simp only [if_pos]
    congr 1
    · exact g1.symm
    · exact g2.symm
    · exact g3.symm
  have LGo : ∀ y, y ≠ x → LGm m' ad' y = LGm m ad y := fun y c => by
    rw [← em, ← ed]
    show (⟨if y = x then _ else _, if y = x then _ else _, if y = x then _ else _, if y = x then _ else _, if y = x then _ else _, if y = x then _ else _⟩ : LG) = _
    simp only [if_neg c]
    rfl
  have ax : ad' (.lg x) = a := by rw [← ed]; exact if_pos rfl
  have ao : ∀ y, y ≠ x → ad' (.lg y) = ad (.lg y) := fun y c => by rw [← ed]; exact if_neg c
  have aFx : ad' (.lgF x) = g.l := by rw [← ed]; exact if_pos rfl
  have aFo : ∀ y, y ≠ x → ad' (.lgF y) = ad (.lgF y) := fun y c => by rw [← ed]; exact if_neg c
  have aHx : ad' (.lgH x) = g.hl := by rw [← ed]; exact if_pos rfl
  have aHo : ∀ y, y ≠ x → ad' (.lgH y) = ad (.lgH y) := fun y c => by rw [← ed]; exact if_neg c
  have cls : ∀ r o, Y K m' ad' r = some o → (((∃ o', Y K m ad r = some o') ∧ ad' r = ad r) ∨ ((r = .lg x ∨ r = .lgF x ∨ r = .lgH x) ∧ H (ad' r) = none)) := fun r o e => by
    have lgo : ∀ {y : Str} {u : Option HO}, (if y ∈ m'.all then u else none) = some o → y ∈ m'.all := fun {y u} e => by
      by_cases c : y ∈ m'.all
      · exact c
      · rw [if_neg c] at e; cases e
    cases r with
    | lg y =>
      have hy := lgo e
      by_cases c : y = x
      · rw [c]; exact .inr ⟨.inl rfl, by rw [ax]; exact a0⟩
      · exact .inl ⟨⟨_, Y_lg (hall y hy c)⟩, ao y c⟩
    | lgF y =>
      have hy := lgo e
      by_cases c : y = x
      · rw [c]; exact .inr ⟨.inr (.inl rfl), by rw [aFx]; exact g7⟩
      · exact .inl ⟨⟨_, Y_lgF (hall y hy c)⟩, aFo y c⟩
    | lgH y =>
      have hy := lgo e
      by_cases c : y = x
      · rw [c]; exact .inr ⟨.inr (.inr rfl), by rw [aHx]; exact g5⟩
      · exact .inl ⟨⟨_, Y_lgH (hall y hy c)⟩, aHo y c⟩
    | lf y k =>
      have hy : y ∈ m'.all := lgo e
      have e : (if y ∈ m'.all then (m'.sv y)[k]?.map fun n => .ins (CF K) (ad' (.lfD y k)) [("name", .str n)] else none) = some o := e
      rw [if_pos hy] at e
      obtain ⟨n, hn, _⟩ := Option.map_eq_some_iff.mp e
      rw [← em] at hn
      by_cases c : y = x
      · have hn : (if y = x then ([] : List Str) else m.sv y)[k]? = some n := hn
        rw [if_pos c] at hn; simp at hn
      · have hn : (if y = x then ([] : List Str) else m.sv y)[k]? = some n := hn
        rw [if_neg c] at hn
        refine .inl ⟨⟨.ins (CF K) (ad (.lfD y k)) [("name", .str n)], ?_⟩, by rw [← ed]; rfl⟩
        show (if y ∈ m.all then (m.sv y)[k]?.map _ else none) = _
        rw [if_pos (hall y hy c), hn]; rfl
    | lgD y => cases e
    | _ => exact .inl ⟨⟨_, by rw [← em, ← ed] at e; first | exact e | (show _ = some _; exact rfl)⟩, by rw [← ed]; rfl⟩
  have lgo : ∀ {y : Str} {u : Option HO} {o : HO}, (if y ∈ m'.all then u else none) = some o → y ∈ m'.all ∧ u = some o := fun {y u o} e => by
    by_cases c : y ∈ m'.all
    · rw [if_pos c] at e; exact ⟨c, e⟩
    · rw [if_neg c] at e; cases e
  have keepS : ∀ r o, Y K m' ad' r = some o → Y K m ad r = some o → ad' r = ad r → r ≠ .lm → (∀ y, r ≠ .lg y) → H' (ad' r) = some o := fun r o e e2 c h1 h2 => by
    rw [c]; exact keepR r o e2 h1 h2
  have rep : YR K m' ad' H' := by
    refine ⟨fun r o e => ?_, fun r1 r2 o1 o2 e1 e2 z => ?_⟩
    · cases r with
      | lg y =>
        obtain ⟨hy, e⟩ := lgo e
        rw [← e, ees]
        have hk : (y, ad' (.lg y)) ∈ kn (esM m ad ++ [(x, a)]) (ad (.lg "")) := by
          have := mem_kn ad' hy
          rw [ees, l0] at this; exact this
        have ga := N'.at_ hk
        rw [show ad' .y = ad .y by rw [← ed]; rfl, l0]
        have gg : updG (gOf m ad) a g (ad' (.lg y)) = LGm m' ad' y := by
          by_cases c : y = x
          · rw [c, LGx]; unfold updG; rw [if_pos ax]
          · rw [LGo y c, ao y c]
            unfold updG
            have hm := hall y hy c
            rw [if_neg (fun z => by have := R.at_ _ _ (Y_lg hm); rw [z, a0] at this; cases this)]
            exact gOf_at R hm
        have ga : H' (ad' (.lg y)) = some (.ins (CL K) (updG (gOf m ad) a g (ad' (.lg y))).d (lG (updG (gOf m ad) a g (ad' (.lg y))) (ad .y) (rn y) (parV (esM m ad ++ [(x, a)]) (ad (.lg "")) y))) := ga
        rw [gg] at ga
        exact ga
      | y =>
        rw [← e]
        have ey : yFm m' ad' = yFm m ad := by
          unfold yFm
          rw [l0, ← em, ← ed]; rfl
        show H' (ad' .y) = some (.ins (CY K) (ad' .yD) (yFm m' ad'))
        rw [ey, ← ed]
        exact N'.tr.yd
      | lm =>
        rw [← e]
        show H' (ad' .lm) = some (.dK (lmK (esM m' ad')))
        rw [ees, ← ed]
        exact N'.tr.lmo
      | lgF y =>
        obtain ⟨hy, e'⟩ := lgo e
        by_cases c : y = x
        · rw [← e', c, aFx, ← em]
          show H' g.l = some (.lst ((List.range (if x = x then ([] : List Str) else m.sv x).length).map _))
          rw [if_pos rfl]; exact g6
        · rw [aFo y c]
          refine keepR (.lgF y) o ?_ (fun z => nomatch z) (fun y z => nomatch z)
          rw [Y_lgF (hall y hy c), ← e', ← em, ← ed]
          show some (HO.lst ((List.range (m.sv y).length).map _)) = some (HO.lst ((List.range (if y = x then ([] : List Str) else m.sv y).length).map _))
          rw [if_neg c]; rfl
      | lgH y =>
        obtain ⟨hy, e'⟩ := lgo e
        by_cases c : y = x
        · rw [← e', c, aHx, ← em]
          show H' g.hl = some (.lst ((if x = x then ([] : List Nat) else m.hands x).map _))
          rw [if_pos rfl]; exact g4
        · rw [aHo y c]
          refine keepR (.lgH y) o ?_ (fun z => nomatch z) (fun y z => nomatch z)
          rw [Y_lgH (hall y hy c), ← e', ← em, ← ed]
          show some (HO.lst ((m.hands y).map _)) = some (HO.lst ((if y = x then ([] : List Nat) else m.hands y).map _))
          rw [if_neg c]; rfl
      | lf y k =>
        obtain ⟨hy, e'⟩ := lgo e
        by_cases c : y = x
        · rw [← em] at e'
          have e' : ((if y = x then ([] : List Str) else m.sv y)[k]?.map fun n => HO.ins (CF K) (ad' (.lfD y k)) [("name", .str n)]) = some o := e'
          rw [if_pos c] at e'; simp at e'
        · rw [show ad' (.lf y k) = ad (.lf y k) by rw [← ed]; rfl]
          refine keepR (.lf y k) o ?_ (fun z => nomatch z) (fun y z => nomatch z)
          show (if y ∈ m.all then (m.sv y)[k]?.map _ else none) = _
          rw [if_pos (hall y hy c), ← e', ← em, ← ed]
          show _ = (if y = x then ([] : List Str) else m.sv y)[k]?.map _
          rw [if_neg c]; rfl
      | lgD y => cases e
      | _ =>
        refine keepS _ o e ?_ (by rw [← ed]; rfl) (fun z => nomatch z) (fun y z => nomatch z)
        rw [← em, ← ed] at e
        exact e
    · rcases cls _ _ e1 with ⟨⟨u1, h1⟩, c1⟩ | ⟨k1, n1⟩
      · rcases cls _ _ e2 with ⟨⟨u2, h2⟩, c2⟩ | ⟨k2, n2⟩
        · rw [c1, c2] at z; exact R.inj _ _ _ _ h1 h2 z
        · rw [← z, c1, R.at_ _ _ h1] at n2; cases n2
      · rcases cls _ _ e2 with ⟨⟨u2, h2⟩, c2⟩ | ⟨k2, n2⟩
        · rw [z, c2, R.at_ _ _ h2] at n1; cases n1
        · have hE : ∃ d fs, H' a = some (.ins (CL K) d fs) := by
            have ga := N'.tr.lg (x, a) (List.mem_append_right _ List.mem_cons_self)
            exact ⟨_, _, ga⟩
          obtain ⟨dE, fE, hE⟩ := hE
          have d1 : a ≠ g.l := fun w => by rw [w, g6] at hE; cases hE
          have d2 : a ≠ g.hl := fun w => by rw [w, g4] at hE; cases hE
          rcases k1 with rfl | rfl | rfl <;> rcases k2 with rfl | rfl | rfl
          · rfl
          · rw [ax, aFx] at z; exact absurd z d1
          · rw [ax, aHx] at z; exact absurd z d2
          · rw [ax, aFx] at z; exact absurd z.symm d1
          · rfl
          · rw [aFx, aHx] at z; exact absurd z g8
          · rw [ax, aHx] at z; exact absurd z.symm d2
          · rw [aFx, aHx] at z; exact absurd z.symm g8
          · rfl
  rw [show a = ad' (.lg x) from ax.symm]
  refine q ad' H' rep ⟨fun b o hb e => kp b o ?_ ?_ e, fun r u e => ?_⟩ ⟨by rw [← ed]; rfl, fun j => by rw [← ed]; rfl⟩
  · exact fun z => hb .lm _ rfl z.symm
  · intro z
    obtain ⟨e', he', z⟩ := List.mem_map.mp z
    obtain ⟨y, hy, rfl⟩ := List.mem_map.mp he'
    exact hb (.lg y) _ (Y_lg (List.mem_cons_of_mem _ hy)) z
  · rcases cls r u e with ⟨⟨o', h1⟩, h2⟩ | ⟨_, h2⟩
    · exact .inl ⟨r, o', h1, h2.symm⟩
    · exact .inr h2
theorem ite_some {y : Str} {n : List Str} {u : Option HO} {o : HO} (e : (if y ∈ n then u else none) = some o) : y ∈ n ∧ u = some o := by
  by_cases c : y ∈ n
  · rw [if_pos c] at e; exact ⟨c, e⟩
  · rw [if_neg c] at e; cases e
/-- a logger's handlers' list is another one -/
theorem _root_.RR.Rep.setHands (R : YR K m ad H) (hx : x ∈ m.all) (js : List Nat) : YR K { m with hands := fun y => if y = x then js else m.hands y } ad (upd H (ad (.lgH x)) (.lst (js.map fun j => .ref (ad (.hd j))))) ∧ YM K m ad H { m with hands := fun y => if y = x then js else m.hands y } ad (upd H (ad (.lgH x)) (.lst (js.map fun j => .ref (ad (.hd j))))) := by
  refine RR.Rep.set R (.lgH x) (Y_lgH hx) ?_ fun r hr => ?_
  · rw [Y_lgH (m := { m with hands := fun y => if y = x then js else m.hands y }) hx]
    show some (HO.lst ((if x = x then js else m.hands x).map _)) = _
    rw [if_pos rfl]
  · cases r with
    | lgH y =>
      have c : y ≠ x := fun z => hr (by rw [z])
      show (if y ∈ m.all then some (HO.lst ((if y = x then js else m.hands y).map _)) else none) = (if y ∈ m.all then some (HO.lst ((m.hands y).map _)) else none)
      rw [if_neg c]
    | _ => rfl
theorem _root_.RR.Rep.newHands (R : YR K m ad H) (hx : x ∈ m.all) (js : List Nat) {p : Addr} (hp : H p = none) :
    YR K { m with hands := fun y => if y = x then js else m.hands y } (adH ad x p) (upd (upd H p (.lst (js.map fun j => .ref (ad (.hd j))))) (ad (.lg x)) (.ins (CL K) (ad (.lgD x)) (lG { LGm m ad x with hl := p } (ad .y) (rn x) (parV (esM m ad) (ad (.lg "")) x)))) ∧
    YM K m ad H { m with hands := fun y => if y = x then js else m.hands y } (adH ad x p) (upd (upd H p (.lst (js.map fun j => .ref (ad (.hd j))))) (ad (.lg x)) (.ins (CL K) (ad (.lgD x)) (lG { LGm m ad x with hl := p } (ad .y) (rn x) (parV (esM m ad) (ad (.lg "")) x)))) := by
  refine RR.Rep.newset R hp (.lgH x) (.lg x) (fun z => nomatch z) (Y_lg hx) ?_ ?_ (fun r h1 h2 => ?_) (if_pos rfl) (fun r h1 => ?_)
  · rw [Y_lgH (m := { m with hands := fun y => if y = x then js else m.hands y }) hx]
    show some (HO.lst ((if x = x then js else m.hands x).map _)) = _
    rw [if_pos rfl]; rfl
  · rw [Y_lg (m := { m with hands := fun y => if y = x then js else m.hands y }) hx]
    show some (HO.ins (CL K) (ad (.lgD x)) (lG ⟨ad (.lgD x), ad (.lgF x), if x = x then p else _, m.lev x, m.prop x, m.dis x⟩ _ _ _)) = _
    rw [if_pos rfl]; rfl
  · cases r with
    | lgH y =>
      have c : y ≠ x := fun z => h1 (by rw [z])
      show (if y ∈ m.all then some (HO.lst ((if y = x then js else m.hands y).map _)) else none) = (if y ∈ m.all then some (HO.lst ((m.hands y).map _)) else none)
      rw [if_neg c]; rfl
    | lg y =>
      have c : y ≠ x := fun z => h2 (by rw [z])
      show (if y ∈ m.all then some (HO.ins (CL K) (ad (.lgD y)) (lG ⟨ad (.lgD y), ad (.lgF y), if y = x then p else ad (.lgH y), m.lev y, m.prop y, m.dis y⟩ _ _ _)) else none) = _
      rw [if_neg c]; rfl
    | _ => rfl
  · cases r with
    | lgH y =>
      have c : y ≠ x := fun z => h1 (by rw [z])
      exact if_neg c
    | _ => rfl
theorem _root_.RR.Rep.setProp (R : YR K m ad H) (hx : x ∈ m.all) (b : Bool) : YR K (m.setProp x b) ad (upd H (ad (.lg x)) (.ins (CL K) (ad (.lgD x)) (lG { LGm m ad x with prop := b } (ad .y) (rn x) (parV (esM m ad) (ad (.lg "")) x)))) ∧
    YM K m ad H (m.setProp x b) ad (upd H (ad (.lg x)) (.ins (CL K) (ad (.lgD x)) (lG { LGm m ad x with prop := b } (ad .y) (rn x) (parV (esM m ad) (ad (.lg "")) x)))) := by
  refine RR.Rep.set R (.lg x) (Y_lg hx) ?_ fun r hr => ?_
  · rw [Y_lg (m := m.setProp x b) hx]
    show some (HO.ins (CL K) (ad (.lgD x)) (lG ⟨ad (.lgD x), ad (.lgF x), ad (.lgH x), m.lev x, if x = x then b else _, m.dis x⟩ _ _ _)) = _
    rw [if_pos rfl]; rfl
  · cases r with
    | lg y =>
      have c : y ≠ x := fun z => hr (by rw [z])
      show (if y ∈ m.all then some (HO.ins (CL K) (ad (.lgD y)) (lG ⟨ad (.lgD y), ad (.lgF y), ad (.lgH y), m.lev y, if y = x then b else m.prop y, m.dis y⟩ _ _ _)) else none) = _
      rw [if_neg c]; rfl
    | _ => rfl
end
end
end K17

set_option Elab.async false
set_option linter.all false
set_option maxRecDepth 100000
set_option maxHeartbeats 0

namespace K17
open PySem PySem.Spec PyProof.Rows L2 RC
section
variable {P : Program} {w : World} {K : PySem.W.Frag} {mg : Str → Option Value} {base : Heap}
/-! ### handlers put and taken, what is reached -/
def spAddH (K : PySem.W.Frag) : Sp := fun vs H Q _ => ∃ (m : TM) (ad : YRo → Addr) (x : Str) (j : Nat), vs = [.ref (ad (.lg x)), .ref (ad (.hd j))] ∧ YR K m ad H ∧ m.Ok ∧ x ∈ m.all ∧ j < m.hs.length ∧ ∀ H', YR K (m.putH x j) ad H' → YM K m ad H (m.putH x j) ad H' → Q .non H'
section
variable {m : TM} {ad : YRo → Addr} {H H' : Hp} {x : Str} {i j : Nat}
theorem _root_.RR.Rep.hdI (T : Txt P w K mg) (R : YR K m ad H) (O : m.Ok) (hj : j < m.hs.length) : ∃ C, RA.InsP K H (ad (.hd j)) C ∧ C = CS K := by
  have g := R.hd_ (List.getElem?_eq_getElem hj)
  unfold hdO at g
  rw [(O.hsv _ (List.getElem_mem hj)).2.2.2.2, if_neg (fun z => nomatch z)] at g
  exact ⟨_, ⟨⟨_, _, g⟩, T.p_StreamHandler⟩, rfl⟩
theorem pairC (T : Txt P w K mg) {C D : Addr} (h : C = CS K) (k : D = CS K) : RA.PairC K C D := by
  subst h; subst k
  exact T.sub_StreamHandler_StreamHandler
theorem _root_.RR.Rep.hdInj (R : YR K m ad H) (hi : i < m.hs.length) (hj : j < m.hs.length) : ad (.hd i) = ad (.hd j) ↔ i = j := by
  refine ⟨fun z => ?_, fun z => by rw [z]⟩
  have e : ∀ k, k < m.hs.length → ∃ o, Y K m ad (.hd k) = some o := fun k hk => ⟨_, by show m.hs[k]?.map _ = _; rw [List.getElem?_eq_getElem hk]; rfl⟩
  obtain ⟨o1, e1⟩ := e i hi
  obtain ⟨o2, e2⟩ := e j hj
  have := R.inj _ _ _ _ e1 e2 z
  cases this; rfl
theorem _root_.RR.Rep.hdMem (R : YR K m ad H) {js : List Nat} (hs : ∀ i ∈ js, i < m.hs.length) (hj : j < m.hs.length) : ad (.hd j) ∈ js.map (fun i => ad (.hd i)) ↔ j ∈ js := by
  rw [List.mem_map]
  refine ⟨fun ⟨i, hi, z⟩ => ?_, fun h => ⟨j, h, rfl⟩⟩
  rw [← (R.hdInj (hs i hi) hj).mp z]; exact hi
theorem nodup_bound : ∀ (n : Nat) (l : List Nat), l.Nodup → (∀ i ∈ l, i < n) → l.length ≤ n
  | 0, [], _, _ => Nat.le_refl _
  | 0, i :: l, _, h => absurd (h i List.mem_cons_self) (Nat.not_lt_zero _)
  | n + 1, l, nd, h => by
    have h1 := nodup_bound n (l.erase n) (nd.erase n) (fun i hi => by
      have h2 := (List.Nodup.mem_erase_iff nd).mp hi
      have h3 := h i h2.2
      have h4 := h2.1
      omega)
    by_cases c : n ∈ l
    · rw [List.length_erase_of_mem c] at h1; omega
    · rw [List.erase_of_not_mem c] at h1; omega
theorem TM.Ok.hlen (O : m.Ok) (hx : x ∈ m.all) : (m.hands x).length ≤ 30 := Nat.le_trans (nodup_bound _ _ (O.hl x) (O.hj x hx)) O.nh
theorem putH_old (c : j ∈ m.hands x) : m.putH x j = m := by
  have e : (fun y => if y = x then (if j ∈ m.hands x then m.hands x else m.hands x ++ [j]) else m.hands y) = m.hands := by
    funext y
    by_cases d : y = x
    · rw [if_pos d, if_pos c, d]
    · rw [if_neg d]
  unfold TM.putH
  rw [e]
theorem putH_new (c : j ∉ m.hands x) : m.putH x j = { m with hands := fun y => if y = x then m.hands x ++ [j] else m.hands y } := by
  unfold TM.putH
  rw [if_neg c]
end
theorem ok_addH {f : Addr} (T : Txt P w K mg) (F : Stands K "addHandler" "Logger.addHandler" s_Logger_addHandler [] f) : Callable P w K mg base 1 f ["self", "handler"] [] (spAddH K) := by
  refine F.call0 sc_Logger_addHandler (fun vs H Q E h => ?_) (fun cdv A outer s H vs Q E hr h => ?_) (fun _ _ _ _ _ _ us hl => match us, hl with | [_, _], _ => rfl)
  · obtain ⟨m, ad, x, j, rfl, _⟩ := h; rfl
  obtain ⟨m, ad, x, j, rfl, R, O, hx, hj, hQ⟩ := h
  refine ⟨_, (pss_one (ps_if (pt_cmpR (RA.op_notInP hr.units) (pv 1) (pe_fld (pv 0) rfl) (by rfl)) (pss_one (ps_expr (pe_bm PySem.F.plainAttrs_list PySem.F.slot_list_append PySem.F.type_list_append mt_append (pe_fld (pv 0) rfl) (pa_cons (pv 1) pa_nil)))) pss_nil)), ?_⟩
  walk_at "in"
  have hE := R.lg_ hx
  have hl := R.lgH_ hx
  have em : (m.hands x).map (fun j => V.ref (ad (.hd j))) = ((m.hands x).map fun j => ad (.hd j)).map V.ref := by rw [List.map_map]; rfl
  rw [em] at hl
  obtain ⟨C, hC, kC⟩ := R.hdI T O hj
  walk_at "go"
  refine ⟨SqL.of hl, fun b hb => ?_, _, rfl, ?_⟩
  · obtain ⟨i, hi, rfl⟩ := List.mem_map.mp hb
    obtain ⟨D, hD, kD⟩ := R.hdI T O (O.hj x hx i hi)
    exact ⟨D, hD, pairC T kD kC⟩
  have nl := O.hlen hx
  by_cases c : j ∈ m.hands x
  · refine iteF' (by simpa using (R.hdMem (O.hj x hx) hj).mpr c) ?_
    have q := hQ H
    rw [putH_old c] at q
    exact q R (RR.Mv.refl H)
  · refine iteT' (by simpa using fun z => c ((R.hdMem (O.hj x hx) hj).mp z)) ?_
    obtain ⟨R', M'⟩ := R.setHands hx (m.hands x ++ [j])
    rw [← putH_new c] at R' M'
    have e2 : (m.hands x ++ [j]).map (fun j => V.ref (ad (.hd j))) = ((m.hands x).map fun j => ad (.hd j)).map V.ref ++ [V.ref (ad (.hd j))] := by rw [List.map_append, em]; rfl
    rw [e2] at R' M'
    have ln : (((m.hands x).map fun j => ad (.hd j)).map V.ref).length < sizeLine := by rw [List.length_map, List.length_map, sizeLine_eq]; omega
    have hl2 : H (LGm m ad x).hl = some (.lst (((m.hands x).map fun j => ad (.hd j)).map V.ref)) := hl
    have hQ2 := hQ _ R' M'
    walk_at "go"
    exact hQ2
def spSetProp (K : PySem.W.Frag) : Sp := fun vs H Q _ => ∃ (m : TM) (ad : YRo → Addr) (x : Str) (b : Bool), vs = [.ref (ad (.lg x)), .bl b] ∧ YR K m ad H ∧ x ∈ m.all ∧ ∀ H', YR K (m.setProp x b) ad H' → YM K m ad H (m.setProp x b) ad H' → Q .non H'
theorem ok_setProp {f : Addr} (T : Txt P w K mg) (F : Stands K "setPropagate" "Logger.setPropagate" s_Logger_setPropagate [] f) : Callable P w K mg base 1 f ["self", "flag"] [] (spSetProp K) := by
  refine F.call0 sc_Logger_setPropagate (fun vs H Q E h => ?_) (fun cdv A outer s H vs Q E hr h => ?_) (fun _ _ _ _ _ _ us hl => match us, hl with | [_, _], _ => rfl)
  · obtain ⟨m, ad, x, b, rfl, _⟩ := h; rfl
  obtain ⟨m, ad, x, b, rfl, R, hx, hQ⟩ := h
  refine ⟨_, (pss_one (ps_fld (pv 0) (pv 1) rfl)), ?_⟩
  walk_at "in"
  have hE := R.lg_ hx
  obtain ⟨R', M'⟩ := R.setProp hx b
  have hQ2 := hQ _ R' M'
  walk_at "go"
  exact hQ2
/-! what is reached -/
def TM.has (m : TM) (x : Str) : Bool := decide (x ∈ m.all)
def TM.par (m : TM) (x : Str) : Str := lawPar m.has x
/-- l: the loggers that are reached from x -/
inductive Rch (m : TM) : Str → List Str → Prop where
  | top : Rch m "" [""]
  | stop {x : Str} (h : x ≠ "") (p : m.prop x = false) : Rch m x [x]
  | up {x : Str} {l : List Str} (h : x ≠ "") (p : m.prop x = true) (r : Rch m (m.par x) l) : Rch m x (x :: l)
section
variable {m : TM} {ad : YRo → Addr} {H H' : Hp} {x : Str}
theorem kn_get (ad : YRo → Addr) (hx : x ∈ m.all) (nd : m.names.Nodup) (hn : ("" : Str) ∉ m.names) : (kn (esM m ad) (ad (.lg ""))).lookup x = some (ad (.lg x)) :=
  lookup_nd (e := (x, ad (.lg x))) (mem_kn ad hx) (by
    rw [kn_esM, List.map_map]
    show (m.all.map fun x => x).Nodup
    rw [List.map_id']
    exact List.nodup_cons.mpr ⟨hn, nd⟩)
theorem TM.Ok.nonil (O : m.Ok) : ("" : Str) ∉ m.names := fun z => by
  obtain ⟨qs, h, e⟩ := O.nm _ z
  exact h.ne.1 e.symm
theorem kn_none (ad : YRo → Addr) (hx : x ∉ m.all) : (kn (esM m ad) (ad (.lg ""))).lookup x = none := by
  cases e : (kn (esM m ad) (ad (.lg ""))).lookup x with
  | none => rfl
  | some a =>
    have := lookup_mem e
    rw [kn_esM] at this
    obtain ⟨y, hy, z⟩ := List.mem_map.mp this
    cases z; exact absurd hy hx
theorem has_kn (O : m.Ok) (ad : YRo → Addr) (y : Str) : m.has y = ((kn (esM m ad) (ad (.lg ""))).lookup y).isSome := by
  unfold TM.has
  by_cases c : y ∈ m.all
  · rw [kn_get ad c O.nd O.nonil, decide_eq_true c]; rfl
  · rw [kn_none ad c, decide_eq_false c]; rfl
theorem good_of (O : m.Ok) (hx : x ∈ m.names) : Good x := by
  obtain ⟨qs, h, e⟩ := O.nm _ hx
  rw [e]; exact h.good
theorem par_mem (O : m.Ok) (hx : x ∈ m.names) : m.par x ∈ m.all := by
  have ad : YRo → Addr := fun _ => 0
  have h := lawPar_parA (has_kn O ad) (good_of O hx)
  have := lookup_mem h
  rw [kn_esM] at this
  obtain ⟨y, hy, z⟩ := List.mem_map.mp this
  have e : y = m.par x := congrArg Prod.fst z
  rw [← e]; exact hy
theorem par_ref (O : m.Ok) (hx : x ∈ m.names) (ad : YRo → Addr) : parV (esM m ad) (ad (.lg "")) x = .ref (ad (.lg (m.par x))) := by
  unfold parV
  rw [if_neg (fun z => O.nonil (by rw [← z]; exact hx))]
  have h := lawPar_parA (has_kn O ad) (good_of O hx)
  have e : lawPar m.has x = m.par x := rfl
  rw [e, kn_get ad (par_mem O hx) O.nd O.nonil] at h
  exact (congrArg V.ref (Option.some.inj h)).symm
theorem all_cases (hx : x ∈ m.all) (h : x ≠ "") : x ∈ m.names := by
  rcases List.mem_cons.mp hx with z | z
  · exact absurd z h
  · exact z
theorem Rch.mem (O : m.Ok) {l : List Str} (r : Rch m x l) (hx : x ∈ m.all) : ∀ y ∈ l, y ∈ m.all := by
  induction r with
  | top => intro y hy; cases List.mem_singleton.mp hy; exact m.mem_root
  | stop h p => intro y hy; cases List.mem_singleton.mp hy; exact hx
  | up h p r ih =>
    intro y hy
    rcases List.mem_cons.mp hy with rfl | hy
    · exact hx
    · exact ih (par_mem O (all_cases hx h)) y hy
end
end
end K17

set_option Elab.async false
set_option linter.all false
set_option maxRecDepth 100000
set_option maxHeartbeats 0

namespace K17
open PySem PySem.Spec PyProof.Rows L2 RC
section
variable {P : Program} {w : World} {K : PySem.W.Frag} {mg : Str → Option Value} {base : Heap}
def spReached (K : PySem.W.Frag) : Sp := fun vs H Q _ => ∃ (m : TM) (ad : YRo → Addr) (x : Str) (l : List Str), vs = [.ref (ad (.lg x))] ∧ YR K m ad H ∧ m.Ok ∧ x ∈ m.all ∧ Rch m x l ∧ l.length ≤ 100 ∧ ∀ (H' : Hp) (p : Addr), Same H H' → H p = none → H' p = some (.lst (l.map fun z => .ref (ad (.lg z)))) → Q (.ref p) H'
theorem ok_reached {f : Addr} (T : Txt P w K mg) (F : Stands K "reached" "Logger.reached" s_Logger_reached [] f) : Callable P w K mg base 1 f ["self"] [] (spReached K) := by
  refine F.call0 sc_Logger_reached (fun vs H Q E h => ?_) (fun cdv A outer s H vs Q E hr h => ?_) (fun _ _ _ _ _ _ us hl => match us, hl with | [_], _ => rfl)
  · obtain ⟨m, ad, x, l, rfl, _⟩ := h; rfl
  obtain ⟨m, ad, x, l, rfl, R, O, hx, hC, hl, hQ⟩ := h
  refine ⟨_, (pss_cons (ps_set (i := 1) sc_Logger_reached.nd rfl (by first | exact Or.inl rfl | exact Or.inr rfl) (pe_lst (pa_cons (pv 0) pa_nil)))
      (pss_cons (ps_while PassesOwn.never (PW.pt (pw_and (pt_val (pe_fld (pe_ix ix_list (pv 1) (pe_un un_neg pe_int) (fun _ _ => rfl)) rfl)) (pw_and1 (pt_cmpR op_notN (pe_fld (pe_ix ix_list (pv 1) (pe_un un_neg pe_int) (fun _ _ => rfl)) rfl) pe_non (nomark _))))) (pss_one (ps_expr (pe_bm PySem.F.plainAttrs_list PySem.F.slot_list_append PySem.F.type_list_append mt_append (pv 1) (pa_cons (pe_fld (pe_ix ix_list (pv 1) (pe_un un_neg pe_int) (fun _ _ => rfl)) rfl) pa_nil)))))
      (pss_one (ps_ret (pv 1))))), ?_⟩
  walk_at "in"
  refine ⟨_, rfl, (by show 1 ≤ sizeLine; decide), fun p hp => ?_⟩
  have s1 := same_new hp (.lst [.ref (ad (.lg x))])
  have q1 : upd H p (.lst [.ref (ad (.lg x))]) p = some (.lst [.ref (ad (.lg x))]) := upd_same
  generalize upd H p (.lst [.ref (ad (.lg x))]) = H1 at s1 q1
  refine ⟨fun n σ H' => σ = [some (.ref (ad (.lg x))), some (.ref p)] ∧ Same H H' ∧ ∃ (dn : List Str) (z : Str) (r : List Str), n = r.length ∧ Rch m z r ∧ z ∈ m.all ∧ l = dn ++ r ∧ H' p = some (.lst ((dn ++ [z]).map fun z => V.ref (ad (.lg z)))),
    ⟨_, rfl, s1, [], x, l, rfl, hC, hx, rfl, q1⟩, ?_⟩
  rintro n σ H2 ⟨rfl, s2, dn, z, r, rfl, hX, hz, el, q2⟩
  have e2 : (dn ++ [z]).map (fun z => V.ref (ad (.lg z))) = dn.map (fun z => V.ref (ad (.lg z))) ++ [V.ref (ad (.lg z))] := by rw [List.map_append]; rfl
  rw [e2] at q2
  have R2 := R.same s2
  have hE := R2.lg_ hz
  have hat := atI_last (dn.map (fun z => V.ref (ad (.lg z)))) (V.ref (ad (.lg z)))
  have hlen : dn.length ≤ 100 := by
    have e := congrArg List.length el
    rw [List.length_append] at e
    omega
  cases hX with
  | top =>
    have hE : H2 (ad (.lg "")) = some (.ins (CL K) (ad (.lgD "")) (lG (LGm m ad "") (ad .y) (rn "") .non)) := hE
    have hf : ∀ H', Same H2 H' → Q (.ref p) H' := fun H' s => hQ H' p (s2.trans s) hp (by rw [s _ _ q2, el, ← e2])
    cases hp2 : m.prop "" with
    | true =>
      have hp2 : (LGm m ad "").prop = true := hp2
      walk_at "go"
      exact hf _ (Same.refl _)
    | false =>
      have hp2 : (LGm m ad "").prop = false := hp2
      walk_at "go"
      exact hf _ (Same.refl _)
  | stop h p2 =>
    have hf : Q (.ref p) H2 := hQ H2 p s2 hp (by rw [q2, el, ← e2])
    have hp2 : (LGm m ad z).prop = false := p2
    walk_at "go"
    exact hf
  | up h p2 pp =>
    have hp2 : (LGm m ad z).prop = true := p2
    rw [par_ref O (all_cases hz h) ad] at hE
    walk_at "go"
    refine ⟨_, fun σ' H' z => z, ?_⟩
    have ln : (dn.map (fun z => V.ref (ad (.lg z))) ++ [V.ref (ad (.lg z))]).length < sizeLine := by rw [List.length_append, List.length_map, sizeLine_eq]; simp; omega
    walk_at "go"
    exact ⟨Nat.lt_succ_self _, rfl, fun b o hb => by rw [upd_ne (ne_of_none hb hp)]; exact s2 _ _ hb, dn ++ [z], m.par z, _, rfl, pp, par_mem O (all_cases hz h), by rw [el, List.append_assoc]; rfl, by rw [upd_same, List.map_append, e2]; rfl⟩
end
end K17

set_option Elab.async false
set_option linter.all false
set_option maxRecDepth 100000
set_option maxHeartbeats 0

namespace K17
open PySem PySem.Spec PyProof.Rows L2 RC
section
variable {P : Program} {w : World} {K : PySem.W.Frag} {mg : Str → Option Value} {base : Heap}
/-! ### a record comes to handlers -/
def TM.emitJ (m : TM) (j : Nat) (name : Str) (lv : Int) (msg : Str) : TM := match m.hs[j]? with
  | some h => if h.lv ≤ lv then m.emitH h name msg else m
  | none => m
def TM.emitAll (m : TM) (js : List Nat) (name : Str) (lv : Int) (msg : Str) : TM := js.foldl (fun m j => m.emitJ j name lv msg) m
def TM.call (m : TM) (l : List Str) (name : Str) (lv : Int) (msg : Str) : TM := if l.flatMap m.hands = [] ∧ 30 ≤ lv then m.write "stderr" (msg ++ "\n") else m.emitAll (l.flatMap m.hands) name lv msg
/-- but for the texts nothing is otherwise -/
def TM.Tx (m m' : TM) : Prop := m' = { m with texts := m'.texts }
theorem Tx.refl (m : TM) : m.Tx m := rfl
theorem Tx.trans {a b c : TM} (h : a.Tx b) (k : b.Tx c) : a.Tx c := by
  unfold TM.Tx at *
  rw [k, h]
theorem write_tx (m : TM) (s t : Str) : m.Tx (m.write s t) := rfl
theorem emitH_tx (m : TM) (h : HM) (name msg : Str) : m.Tx (m.emitH h name msg) := by
  unfold TM.emitH
  split
  · exact write_tx _ _ _
  · rfl
theorem emitJ_tx (m : TM) (j : Nat) (name : Str) (lv : Int) (msg : Str) : m.Tx (m.emitJ j name lv msg) := by
  unfold TM.emitJ
  split
  · split
    · exact emitH_tx _ _ _ _
    · rfl
  · rfl
theorem emitAll_tx (name : Str) (lv : Int) (msg : Str) : ∀ (js : List Nat) (m : TM), m.Tx (m.emitAll js name lv msg)
  | [], m => rfl
  | j :: js, m => Tx.trans (emitJ_tx m j name lv msg) (emitAll_tx name lv msg js _)
theorem call_tx (m : TM) (l : List Str) (name : Str) (lv : Int) (msg : Str) : m.Tx (m.call l name lv msg) := by
  unfold TM.call
  split
  · exact write_tx _ _ _
  · exact emitAll_tx _ _ _ _ _
theorem Tx.ok {m m' : TM} (t : m.Tx m') (O : m.Ok) : m'.Ok := by
  rw [t]
  exact ⟨O.nm, O.nd, O.few, O.hj, O.hl, O.nh, O.svl, O.svs, O.hsv⟩
theorem Tx.hs {m m' : TM} (t : m.Tx m') : m'.hs = m.hs := by rw [t]
theorem Tx.hands {m m' : TM} (t : m.Tx m') : m'.hands = m.hands := by rw [t]
theorem emitAll_snoc (m : TM) (js : List Nat) (j : Nat) (name : Str) (lv : Int) (msg : Str) : m.emitAll (js ++ [j]) name lv msg = (m.emitAll js name lv msg).emitJ j name lv msg := by
  unfold TM.emitAll
  rw [List.foldl_append]; rfl
theorem cap_mono {ts : List (Str × Str)} {n k : Nat} (c : Cap ts n) (h : n ≤ k) : Cap ts k := ⟨Nat.le_trans c.1 h, fun e he => Nat.le_trans (c.2 e he) h⟩
theorem emitH_cap {m : TM} {n b : Nat} (c : Cap m.texts n) {h : HM} (ht : h.tm.length ≤ 100) (name : Str) {msg : Str} (hm : msg.length + 100 ≤ b) : Cap (m.emitH h name msg).texts (n + b) := by
  unfold TM.emitH
  split
  · exact write_cap c _ (by rw [len_app]; omega) (by omega)
  · exact cap_mono c (by omega)
theorem emitJ_cap {m : TM} (O : m.Ok) {n b : Nat} (c : Cap m.texts n) (j : Nat) (name : Str) (lv : Int) {msg : Str} (hm : msg.length + 100 ≤ b) : Cap (m.emitJ j name lv msg).texts (n + b) := by
  unfold TM.emitJ
  split
  · rename_i h hj
    split
    · exact emitH_cap c (O.hsv h (List.mem_of_getElem? hj)).2.2.1 name hm
    · exact cap_mono c (by omega)
  · exact cap_mono c (by omega)
theorem emitAll_cap (name : Str) (lv : Int) {msg : Str} {b : Nat} (hm : msg.length + 100 ≤ b) : ∀ (js : List Nat) (m : TM), m.Ok → ∀ n, Cap m.texts n → Cap (m.emitAll js name lv msg).texts (n + js.length * b)
  | [], m, O, n, c => by
    show Cap m.texts _
    exact cap_mono c (by simp)
  | j :: js, m, O, n, c => by
    have h1 := emitAll_cap name lv hm js (m.emitJ j name lv msg) (Tx.ok (emitJ_tx m j name lv msg) O) _ (emitJ_cap O c j name lv hm)
    refine cap_mono h1 ?_
    rw [List.length_cons, Nat.succ_mul]; omega
theorem call_cap {m : TM} (O : m.Ok) {n b : Nat} (c : Cap m.texts n) (l : List Str) (name : Str) (lv : Int) {msg : Str} (hm : msg.length + 100 ≤ b) : Cap (m.call l name lv msg).texts (n + ((l.flatMap m.hands).length + 1) * b) := by
  unfold TM.call
  split
  · refine cap_mono (write_cap (k := b) c _ ?_ (by omega)) ?_
    · rw [len_app]; show msg.length + 1 ≤ b; omega
    · rw [Nat.succ_mul]; omega
  · refine cap_mono (emitAll_cap name lv hm _ m O n c) ?_
    rw [Nat.succ_mul]; omega
theorem spHandleS_mono {vs : List V} {H : Hp} {Q Q' : VK} {E : XK} (h : ∀ v H', Q v H' → Q' v H') (g : spHandleS K vs H Q E) : spHandleS K vs H Q' E := by
  obtain ⟨m, ad, a, d, fl, r, lv, rl, clk, tm, st, name, ln, msg, ns, e, a1, a2, a3, a4, a5, a6, a7, c⟩ := g
  refine ⟨m, ad, a, d, fl, r, lv, rl, clk, tm, st, name, ln, msg, ns, e, a1, a2, a3, a4, a5, a6, a7, ?_⟩
  rcases c with ⟨b, q⟩ | ⟨b, q⟩
  · exact .inl ⟨b, fun H' r y => h _ _ (q H' r y)⟩
  · exact .inr ⟨b, h _ _ q⟩
/-- a record outside of a model -/
structure RecO {R : Type} (K : PySem.W.Frag) (M : R → Option HO) (ad : R → Addr) (H : Hp) (r : Addr) (name : Str) (lv : Int) (ln msg : Str) (clk : Int) : Prop where
  ex : ∃ dx g e, H r = some (.ins (CR K) dx (recF name lv ln msg g clk e)) ∧ H g = some (.tup []) ∧ H e = some (.dK []) ∧ RR.Out M ad r ∧ RR.Out M ad g ∧ RR.Out M ad e
theorem RecO.at_ {R : Type} {M : R → Option HO} {ad : R → Addr} {H : Hp} {r : Addr} {name : Str} {lv : Int} {ln msg : Str} {clk : Int} (h : RecO K M ad H r name lv ln msg clk) : RecAt K H r name lv ln msg clk := by
  obtain ⟨dx, g, e, h1, h2, h3, _⟩ := h.ex
  exact ⟨dx, g, e, h1, h2, h3⟩
theorem RecO.mv {R : Type} {M M' : R → Option HO} {ad ad' : R → Addr} {H H' : Hp} {r : Addr} {name : Str} {lv : Int} {ln msg : Str} {clk : Int} (h : RecO K M ad H r name lv ln msg clk) (v : RR.Mv M ad H M' ad' H') : RecO K M' ad' H' r name lv ln msg clk := by
  obtain ⟨dx, g, e, h1, h2, h3, h4, h5, h6⟩ := h.ex
  exact ⟨dx, g, e, v.keep _ _ h4 h1, v.keep _ _ h5 h2, v.keep _ _ h6 h3, v.out h4 h1, v.out h5 h2, v.out h6 h3⟩
theorem RecO.same {R : Type} {M : R → Option HO} {ad : R → Addr} {H H' : Hp} {r : Addr} {name : Str} {lv : Int} {ln msg : Str} {clk : Int} (h : RecO K M ad H r name lv ln msg clk) (s : Same H H') : RecO K M ad H' r name lv ln msg clk := h.mv (RR.Mv.same s)
def spCallH (K : PySem.W.Frag) : Sp := fun vs H Q _ => ∃ (m : TM) (ad : YRo → Addr) (x : Str) (l : List Str) (r : Addr) (name ln msg : Str) (lv clk : Int) (n : Nat), vs = [.ref (ad (.lg x)), .ref r] ∧ YR K m ad H ∧ m.Ok ∧ x ∈ m.all ∧ Rch m x l ∧ l.length ≤ 100 ∧ RecO K (Y K m ad) ad H r name lv ln msg clk ∧ msg.length ≤ 1000 ∧ Cap m.texts n ∧ n + (l.flatMap m.hands).length * 1100 ≤ 6000000 ∧
  ∀ H', YR K (m.call l name lv msg) ad H' → YM K m ad H (m.call l name lv msg) ad H' → Q .non H'
theorem ok_callH {f : Addr} (T : Txt P w K mg) (F : Stands K "call_handlers" "Logger.call_handlers" s_Logger_call_handlers [] f) (c_Logger_reached : Callable P w K mg base 1 (He.ma K (He.ga K "Logger") "reached") ["self"] [] (spReached K))
    (c_StreamHandler_handle : Callable P w K mg base 5 (He.ma K (He.ga K "StreamHandler") "handle") ["self", "record"] [] (spHandleS K)) : Callable P w K mg base 6 f ["self", "record"] [] (spCallH K) := by
  refine F.call0 sc_Logger_call_handlers (fun vs H Q E h => ?_) (fun cdv A outer s H vs Q E hr h => ?_) (fun _ _ _ _ _ _ us hl => match us, hl with | [_, _], _ => rfl)
  · obtain ⟨m, ad, x, l, r, name, ln, msg, lv, clk, n, rfl, _⟩ := h; rfl
  obtain ⟨m, ad, x, l, r, name, ln, msg, lv, clk, n, rfl, R, O, hx, hC, hl, hR, hm, hc, hn, hQ⟩ := h
  refine ⟨_, (pss_cons (ps_set (i := 2) sc_Logger_call_handlers.nd rfl (by first | exact Or.inl rfl | exact Or.inr rfl) (pe_lst pa_nil))
      (pss_cons (ps_for PassesOwn.never rfl (pi_list (pe_mt0 T.c_Logger T.m_Logger_reached c_Logger_reached (hr.mono (by first | decide | exact Nat.le_refl _)) (pv 0))) (pg_name (i := 3) sc_Logger_call_handlers.nd rfl (by first | exact Or.inl rfl | exact Or.inr rfl)) (pss_one (ps_expr (pe_bm PySem.F.plainAttrs_list PySem.F.slot_list_extend PySem.F.type_list_extend mt_extend (pv 2) (pa_cons (pe_fld (pv 3) rfl) pa_nil)))))
      (pss_cons (ps_for PassesOwn.never rfl (pi_list (pv 2)) (pg_name (i := 4) sc_Logger_call_handlers.nd rfl (by first | exact Or.inl rfl | exact Or.inr rfl)) (pss_one (ps_if (pt_cmpR op_le (pe_fld (pv 4) rfl) (pe_fld (pv 1) rfl) (nomark _)) (pss_one (ps_expr (RA.PE.or (pe_mt T.c_StreamHandler T.m_StreamHandler_handle c_StreamHandler_handle (hr.mono (by first | decide | exact Nat.le_refl _)) (pv 4) (pa_cons (pv 1) pa_nil)) pe_never))) pss_nil)))
      (pss_one (ps_if (PW.pt (pw_and (pt_cmpR (RX.op_eqLL (Nat.lt_of_succ_lt (hu_of hr))) (pv 2) (pe_lst pa_nil) (nomark _)) (pw_and1 (pt_cmpR op_ge (pe_fld (pv 1) rfl) (pe_gi (by rfl) T.g_WARNING) (nomark _))))) (pss_one (ps_expr (pe_mt T.c_StreamHandler T.m_StreamHandler_handle c_StreamHandler_handle (hr.mono (by first | decide | exact Nat.le_refl _)) (pe_fld (pe_fld (pv 0) rfl) rfl) (pa_cons (pv 1) pa_nil)))) pss_nil))))), ?_⟩
  walk_at "in"
  walk_at "go"
  intro p1 f1
  have hE0 := same_new f1 (.lst []) _ _ (R.lg_ hx)
  have R0 := R.same (same_new f1 (.lst []))
  have q0 : upd H p1 (.lst []) p1 = some (.lst []) := upd_same
  walk_at "go"
  intro H1 p2 s1 hp2 q2
  have s01 := (same_new f1 (.lst [])).trans s1
  have p11 := s1 _ _ q0
  walk_at "go"
  have em : ∀ z, (m.hands z).map (fun j => V.ref (ad (.hd j))) = ((m.hands z).map fun j => ad (.hd j)).map V.ref := fun z => by rw [List.map_map]; rfl
  have lall : ∀ k, ((l.take k).flatMap m.hands).length ≤ 3000 := fun k => by
    have a1 : ∀ (u : List Str), (∀ y ∈ u, y ∈ m.all) → (u.flatMap m.hands).length ≤ u.length * 30 := fun u => by
      induction u with
      | nil => intro _; exact Nat.zero_le _
      | cons y u ih =>
        intro hu
        rw [List.flatMap_cons, List.length_append, List.length_cons, Nat.succ_mul]
        have h1 := O.hlen (hu y List.mem_cons_self)
        have h2 := ih fun z hz => hu z (List.mem_cons_of_mem _ hz)
        omega
    have a2 := a1 (l.take k) (fun y hy => hC.mem O hx y (List.mem_of_mem_take hy))
    have a3 : (l.take k).length ≤ 100 := by rw [List.length_take]; omega
    omega
  refine for_it walk_list (fun i σ H' => Same H H' ∧ H' p1 = some (.lst (((l.take i).flatMap m.hands).map fun j => V.ref (ad (.hd j)))) ∧ H' p2 = some (.lst (l.map fun z => V.ref (ad (.lg z)))) ∧ ∃ o3 o4, σ = [some (.ref (ad (.lg x))), some (.ref r), some (.ref p1), o3, o4]) ⟨s01, p11, q2, _, _, rfl⟩ (fun i σ H' _ h => SqL.of h.2.2.1) (fun i v σ H9 H2 hi hP hv => ?_) (fun σ H2 hP => ?_)
  · obtain ⟨rfl, hv⟩ := hv
    obtain ⟨s2, d1, d2, o3, o4, rfl⟩ := hP
    rw [List.getElem?_map] at hv
    obtain ⟨z, hz, rfl⟩ := Option.map_eq_some_iff.mp hv
    have hzm := hC.mem O hx z (List.mem_of_getElem? hz)
    have R2 := R.same s2
    have hE := R2.lg_ hzm
    have hl2 : H2 (LGm m ad z).hl = some (.lst ((m.hands z).map fun j => V.ref (ad (.hd j)))) := R2.lgH_ hzm
    have lz := O.hlen hzm
    have li := lall i
    have ht := List.take_add_one (l := l) (i := i)
    rw [hz] at ht
    have hln : ((((l.take i).flatMap m.hands).map fun j => V.ref (ad (.hd j))).length + ((m.hands z).map fun j => V.ref (ad (.hd j))).length) ≤ sizeLine := by rw [List.length_map, List.length_map, sizeLine_eq]; omega
    walk_at "go"
    refine ⟨?_, ?_, _, _, rfl⟩
    · rw [upd_same, ht, List.flatMap_append, List.map_append]
      show _ = some (HO.lst (_ ++ ([z].flatMap m.hands).map _))
      rw [List.flatMap_cons, List.flatMap_nil, List.append_nil]
    · have n12 : p2 ≠ p1 := (upd_none hp2).1
      rw [upd_ne n12]; exact d2
  · obtain ⟨s2, d1, d2, o3, o4, rfl⟩ := hP
    rw [List.length_map, List.take_length] at d1
    have hz3 := lall l.length
    rw [List.take_length] at hz3
    generalize hjs : l.flatMap m.hands = js at d1 hz3 hn
    have R2 := R.same s2
    have out1 := R.out f1
    have hR2 := hR.same s2
    have jl : ∀ j ∈ js, j < m.hs.length := fun j hj => by
      rw [← hjs] at hj
      obtain ⟨z, hz, hj⟩ := List.mem_flatMap.mp hj
      exact O.hj z (hC.mem O hx z hz) j hj
    walk_at "go"
    refine for_it walk_list (fun i σ H' => YR K (m.emitAll (js.take i) name lv msg) ad H' ∧ YM K m ad H2 (m.emitAll (js.take i) name lv msg) ad H' ∧ ∃ o4, σ = [some (.ref (ad (.lg x))), some (.ref r), some (.ref p1), o3, o4]) ⟨R2, RR.Mv.refl H2, _, rfl⟩ (fun i σ H' _ h => SqL.of (h.2.1.keep _ _ out1 d1)) (fun i v σ H9 H3 hi hP hv => ?_) (fun σ H3 hP => ?_)
    · obtain ⟨rfl, hv⟩ := hv
      obtain ⟨R3, M3, o4, rfl⟩ := hP
      rw [List.getElem?_map] at hv
      obtain ⟨j, hj, rfl⟩ := Option.map_eq_some_iff.mp hv
      have hjm := jl j (List.mem_of_getElem? hj)
      have ht := List.take_add_one (l := js) (i := i)
      rw [hj] at ht
      have hR3 := hR2.mv M3
      have tx := emitAll_tx name lv msg (js.take i) m
      have O3 := Tx.ok tx O
      have hj3 : (m.emitAll (js.take i) name lv msg).hs[j]? = some m.hs[j] := by rw [Tx.hs tx]; exact List.getElem?_eq_getElem hjm
      have hc3 := emitAll_cap name lv (msg := msg) (b := 1100) (by omega) (js.take i) m O n hc
      have hti : (js.take i).length ≤ js.length := by rw [List.length_take]; omega
      have hc4 : Cap (m.emitAll (js.take i) name lv msg).texts 7000000 := cap_mono hc3 (by have := Nat.mul_le_mul_right 1100 hti; omega)
      have es : m.emitAll (js.take (i + 1)) name lv msg = (m.emitAll (js.take i) name lv msg).emitJ j name lv msg := by
        rw [ht]; exact emitAll_snoc _ _ _ _ _ _
      rw [es]
      generalize m.emitAll (js.take i) name lv msg = m3 at R3 M3 hR3 O3 hj3 hc4
      obtain ⟨dx, g, e, hr1, hg, he, _⟩ := hR3.ex
      have g3 := R3.hd_ hj3
      unfold hdO at g3
      have ej : m3.emitJ j name lv msg = if m.hs[j].lv ≤ lv then m3.emitH m.hs[j] name msg else m3 := by unfold TM.emitJ; rw [hj3]
      have step := fun (Q : Hp → Prop) q => R3.handle O3 hj3 hR3.at_ hc4 hm (Q := Q) q
      have hnull := (O.hsv _ (List.getElem_mem hjm)).2.2.2.2
      generalize m.hs[j] = h at g3 step ej hnull
      by_cases z : h.lv ≤ lv
      · rw [if_pos z] at ej
        have zt : decide (h.lv ≤ lv) = true := decide_eq_true z
        have step := step (fun H' => YR K (m3.emitJ j name lv msg) ad H' ∧ YM K m ad H2 (m3.emitJ j name lv msg) ad H') (fun H' R4 M4 => by rw [ej]; exact ⟨R4, M3.trans M4⟩)
        rw [hnull, if_neg (fun z => nomatch z)] at g3
        walk_at "go"
        refine .inl ⟨_, rfl, ad (.hd j), _, _, rfl, g3, rfl, _, rfl, ?_⟩
        dsimp only [tNil]
        show spHandleS K [.ref (ad (.hd j)), .ref r] H3 _ E0
        exact spHandleS_mono (fun _ H' hq => ⟨hq.1, hq.2, _, rfl⟩) step
      · rw [if_neg z] at ej
        have zt : decide (h.lv ≤ lv) = false := decide_eq_false z
        rw [ej]
        rw [hnull, if_neg (fun z => nomatch z)] at g3
        walk_at "go"
        rfl
    · obtain ⟨R3, M3, o4, rfl⟩ := hP
      rw [List.length_map, List.take_length] at R3 M3
      have hR3 := hR2.mv M3
      have p3 := M3.keep _ _ out1 d1
      have e2 : js.map (fun j => V.ref (ad (.hd j))) = (js.map fun j => ad (.hd j)).map V.ref := by rw [List.map_map]; rfl
      rw [e2] at p3
      walk_at "go"
      intro p4 f4
      have p34 := same_new f4 (.lst []) _ _ p3
      refine ⟨p1, p4, js.map fun j => ad (.hd j), [], rfl, rfl, SqL.of p34, SqL.of upd_same, ?_, _, rfl, ?_⟩
      · cases js with
        | nil => exact .inl rfl
        | cons a r => exact .inr (by simp)
      have R4 := R3.same (same_new f4 (.lst []))
      have hR4 := hR3.same (same_new f4 (.lst []))
      have M4 := ((RR.Mv.same s2).trans M3).sameR (same_new f4 (.lst []))
      obtain ⟨dx, g, e, hr1, hg, he, _⟩ := hR4.ex
      have hQ := hQ
      unfold TM.call at hQ
      rw [hjs] at hQ
      by_cases c : js = []
      · subst c
        refine RC.iteT' (decide_eq_true rfl) ?_
        have R4 : YR K m ad (upd H3 p4 (.lst [])) := R4
        have M4 : YM K m ad H m ad (upd H3 p4 (.lst [])) := M4
        by_cases d : 30 ≤ lv
        · have dt : decide ((30 : Int) ≤ lv) = true := decide_eq_true d
          rw [if_pos ⟨rfl, d⟩] at hQ
          have hE := R4.lg_ hx
          have hY := R4.y_
          have hl := R4.lr_
          have hR4 : RecO K (Y K m ad) ad (upd H3 p4 (.lst [])) r name lv ln msg clk := hR4
          have hfl := R4.lrFl
          have hra := hR4.at_
          have hcp : Cap m.texts 7000000 := cap_mono hc (by omega)
          have htm : (("\n" : Str)).length ≤ 100 := by decide
          walk_at "go"
          refine .inl ⟨rfl, fun H' R5 M5 => ?_⟩
          exact hQ _ R5 (M4.trans M5)
        · have dt : decide ((30 : Int) ≤ lv) = false := decide_eq_false d
          rw [if_neg (fun z => d z.2)] at hQ
          have hQ2 := hQ _ R4 M4
          walk_at "go"
          exact hQ2
      · refine RC.iteF' (decide_eq_false fun z => c (List.map_eq_nil_iff.mp z)) ?_
        rw [if_neg (fun z => c z.1)] at hQ
        have hQ2 := hQ _ R4 M4
        walk_at "go"
        exact hQ2
end
end K17

set_option Elab.async false
set_option linter.all false
set_option maxRecDepth 100000
set_option maxHeartbeats 0
namespace K17
open PySem PySem.Spec PyProof.Rows L2 RC
section
variable {P : Program} {w : World} {K : PySem.W.Frag} {mg : Str → Option Value} {base : Heap}
/-! ### isEnabledFor, setLevel -/
def spEnabled (K : PySem.W.Frag) : Sp := fun vs H Q _ => ∃ (a y dy lm rt : Addr) (fs : List (Str × V)) (es : Es) (g : Addr → LG) (n : Nat) (v bar lv : Int), vs = [.ref a, .int lv] ∧ Tree K H y dy lm rt fs es g ∧ RootAt K H y rt g ∧ InT es rt a ∧ EffN es rt g n a v ∧ fs.lookup ("bar_level" : Str) = some (.int bar) ∧
  Q (.bl (!(g a).dis && (decide (bar < lv) && decide (v ≤ lv)))) H
theorem ok_enabled {f : Addr} (T : Txt P w K mg) (F : Stands K "isEnabledFor" "Logger.isEnabledFor" s_Logger_isEnabledFor [] f) (c_Logger_getEffectiveLevel : Callable P w K mg base 1 (He.ma K (He.ga K "Logger") "getEffectiveLevel") ["self"] [] (spEff K)) : Callable P w K mg base 2 f ["self", "level"] [] (spEnabled K) := by
  refine F.call0 sc_Logger_isEnabledFor (fun vs H Q E h => ?_) (fun cdv A outer s H vs Q E hr h => ?_) (fun _ _ _ _ _ _ us hl => match us, hl with | [_, _], _ => rfl)
  · obtain ⟨a, y, dy, lm, rt, fs, es, g, n, v, bar, lv, rfl, _⟩ := h; rfl
  obtain ⟨a, y, dy, lm, rt, fs, es, g, n, v, bar, lv, rfl, TR, R, hT, hE, hb, hQ⟩ := h
  obtain ⟨nm, par, ha⟩ := inT_at TR R hT
  refine ⟨_, (pss_cons (ps_if (PW.pt (pw_or (pt_val (pe_fld (pv 0) rfl)) (pw_or1 (pt_cmpR op_le (pv 1) (pe_fld (pe_fld (pv 0) rfl) rfl) (nomark _))))) (pss_one (ps_ret pe_bl)) pss_nil)
      (pss_one (ps_ret (pe_cmpR op_ge (pv 1) (pe_mt0 T.c_Logger T.m_Logger_getEffectiveLevel c_Logger_getEffectiveLevel (hr.mono (by first | decide | exact Nat.le_refl _)) (pv 0)) (nomark _))))), ?_⟩
  refine ⟨_, rfl, a, _, _, _, _, rfl, ha, T.c_Logger, T.n_Logger_disabled, rfl, _, rfl, ?_⟩
  cases hd : (g a).dis with
  | true =>
    rw [hd] at hQ
    exact iteT' rfl (iteT' rfl hQ)
  | false =>
    rw [hd] at hQ
    refine iteF' rfl ⟨_, rfl, _, rfl, a, _, _, _, _, rfl, ha, T.c_Logger, T.n_Logger_yard, rfl, y, _, dy, fs, _, rfl, TR.yd, T.c_Yard, T.n_Yard_bar_level, hb, _, _, rfl, rfl, _, rfl, ?_⟩
    by_cases c : lv ≤ bar
    · have e : decide (bar < lv) = false := decide_eq_false (by omega)
      rw [e] at hQ
      exact iteT' (decide_eq_true c) hQ
    · have e : decide (bar < lv) = true := decide_eq_true (by omega)
      rw [e] at hQ
      refine iteF' (decide_eq_false c) ⟨_, rfl, _, rfl, a, _, _, rfl, ha, rfl, a, y, dy, lm, rt, fs, es, g, n, v, rfl, TR, R, hT, hE, _, _, rfl, rfl, ?_⟩
      exact hQ
end
end K17

set_option Elab.async false
set_option linter.all false
set_option maxRecDepth 100000
set_option maxHeartbeats 0

namespace K17
open PySem PySem.Spec PyProof.Rows L2 RC
section
variable {P : Program} {w : World} {K : PySem.W.Frag} {mg : Str → Option Value} {base : Heap}
/-! ### loggers at work -/
def TM.handle (m : TM) (x : Str) (l : List Str) (name : Str) (lv : Int) (msg : Str) : TM := if m.dis x = false ∧ lets (m.sv x) name = true then m.call l name lv msg else m
/-- e: the level in force -/
def TM.log (m : TM) (x : Str) (l : List Str) (e lv : Int) (msg : Str) : TM := if m.dis x = false ∧ m.bar < lv ∧ e ≤ lv then m.handle x l (rn x) lv msg else m
theorem handle_tx (m : TM) (x : Str) (l : List Str) (name : Str) (lv : Int) (msg : Str) : m.Tx (m.handle x l name lv msg) := by
  unfold TM.handle
  split
  · exact call_tx _ _ _ _ _
  · rfl
theorem log_tx (m : TM) (x : Str) (l : List Str) (e lv : Int) (msg : Str) : m.Tx (m.log x l e lv msg) := by
  unfold TM.log
  split
  · exact handle_tx _ _ _ _ _ _
  · rfl
theorem handle_cap {m : TM} (O : m.Ok) {n b : Nat} (c : Cap m.texts n) (x : Str) (l : List Str) (name : Str) (lv : Int) {msg : Str} (hm : msg.length + 100 ≤ b) : Cap (m.handle x l name lv msg).texts (n + ((l.flatMap m.hands).length + 1) * b) := by
  unfold TM.handle
  split
  · exact call_cap O c l name lv hm
  · exact cap_mono c (by omega)
theorem log_cap {m : TM} (O : m.Ok) {n b : Nat} (c : Cap m.texts n) (x : Str) (l : List Str) (e lv : Int) {msg : Str} (hm : msg.length + 100 ≤ b) : Cap (m.log x l e lv msg).texts (n + ((l.flatMap m.hands).length + 1) * b) := by
  unfold TM.log
  split
  · exact handle_cap O c x l (rn x) lv hm
  · exact cap_mono c (by omega)
def spLogHandle (K : PySem.W.Frag) : Sp := fun vs H Q _ => ∃ (m : TM) (ad : YRo → Addr) (x : Str) (l : List Str) (r : Addr) (name ln msg : Str) (lv clk : Int) (n : Nat), vs = [.ref (ad (.lg x)), .ref r] ∧ YR K m ad H ∧ m.Ok ∧ x ∈ m.all ∧ Rch m x l ∧ l.length ≤ 100 ∧ RecO K (Y K m ad) ad H r name lv ln msg clk ∧ msg.length ≤ 1000 ∧ Cap m.texts n ∧ n + (l.flatMap m.hands).length * 1100 ≤ 6000000 ∧
  ∀ H', YR K (m.handle x l name lv msg) ad H' → YM K m ad H (m.handle x l name lv msg) ad H' → Q .non H'
theorem ok_logHandle {f : Addr} (T : Txt P w K mg) (F : Stands K "handle" "Logger.handle" s_Logger_handle [] f) (c_Logger_filtered : Callable P w K mg base 4 (He.ma K (He.ga K "Logger") "filtered") ["self", "record"] [] (spFiltered K))
    (c_Logger_call_handlers : Callable P w K mg base 6 (He.ma K (He.ga K "Logger") "call_handlers") ["self", "record"] [] (spCallH K)) : Callable P w K mg base 7 f ["self", "record"] [] (spLogHandle K) := by
  refine F.call0 sc_Logger_handle (fun vs H Q E h => ?_) (fun cdv A outer s H vs Q E hr h => ?_) (fun _ _ _ _ _ _ us hl => match us, hl with | [_, _], _ => rfl)
  · obtain ⟨m, ad, x, l, r, name, ln, msg, lv, clk, n, rfl, _⟩ := h; rfl
  obtain ⟨m, ad, x, l, r, name, ln, msg, lv, clk, n, rfl, R, O, hx, hC, hl, hR, hm, hc, hn, hQ⟩ := h
  refine ⟨_, (pss_cons (ps_set (i := 2) sc_Logger_handle.nd rfl (by first | exact Or.inl rfl | exact Or.inr rfl) (pe_ifExp (pt_val (pe_fld (pv 0) rfl)) pe_non (pe_mt T.c_Logger T.m_Logger_filtered c_Logger_filtered (hr.mono (by first | decide | exact Nat.le_refl _)) (pv 0) (pa_cons (pv 1) pa_nil))))
      (pss_one (ps_if (pt_cmpR op_notN (pv 2) pe_non (nomark _)) (pss_one (ps_expr (pe_mt T.c_Logger T.m_Logger_call_handlers c_Logger_call_handlers (hr.mono (by first | decide | exact Nat.le_refl _)) (pv 0) (pa_cons (pv 2) pa_nil)))) pss_nil))), ?_⟩
  walk_at "in"
  have hE := R.lg_ hx
  unfold TM.handle at hQ
  cases hd : m.dis x with
  | true =>
    have hd2 : (LGm m ad x).dis = true := hd
    rw [hd, if_neg (fun z => nomatch z.1)] at hQ
    have hQ2 := hQ _ R (RR.Mv.refl H)
    walk_at "go"
    exact hQ2
  | false =>
    have hd2 : (LGm m ad x).dis = false := hd
    obtain ⟨as, f1, f2, f3, f4⟩ := R.lgFl O hx
    have hF : HasF K H (ad (.lg x)) (CL K) (ad (.lgD x)) (ad (.lgF x)) (lG (LGm m ad x) (ad .y) (rn x) (parV (esM m ad) (ad (.lg "")) x)) as := ⟨hE, T.c_Logger, T.n_Logger_filters, rfl, f1, f3, by show 8 < 100; decide⟩
    have hN := hR.at_.name
    walk_at "go"
    cases e : lets (m.sv x) name with
    | true =>
      rw [if_pos ⟨hd, e⟩] at hQ
      walk_at "go"
      exact hQ
    | false =>
      rw [if_neg (fun z => by rw [e] at z; exact nomatch z.2)] at hQ
      have hQ2 := hQ _ R (RR.Mv.refl H)
      walk_at "go"
      exact hQ2
def spLog (K : PySem.W.Frag) : Sp := fun vs H Q _ => ∃ (m : TM) (ad : YRo → Addr) (x : Str) (l : List Str) (a : Addr) (e lv : Int) (k n : Nat) (msg : Str), vs = [.ref (ad (.lg x)), .int lv, .str msg, .ref a, .non] ∧ SqT K H a [] ∧ YR K m ad H ∧ m.Ok ∧ x ∈ m.all ∧ Rch m x l ∧ l.length ≤ 100 ∧ EffN (esM m ad) (ad (.lg "")) (gOf m ad) k (ad (.lg x)) e ∧ NmsOk m.nms ∧ lv.natAbs < 2 ^ 63 ∧ msg.length ≤ 1000 ∧ Cap m.texts n ∧ n + (l.flatMap m.hands).length * 1100 ≤ 6000000 ∧
  ∀ H', YR K (m.log x l e lv msg) ad H' → YM K m ad H (m.log x l e lv msg) ad H' → Q .non H'
theorem ok_log {f : Addr} (T : Txt P w K mg) (F : Stands K "log" "Logger.log" s_Logger_log [.ref (He.dflAt ("Logger", some "log") 0 K), .non] f) (c_Logger_isEnabledFor : Callable P w K mg base 2 (He.ma K (He.ga K "Logger") "isEnabledFor") ["self", "level"] [] (spEnabled K))
    (c_Logger_handle : Callable P w K mg base 7 (He.ma K (He.ga K "Logger") "handle") ["self", "record"] [] (spLogHandle K)) (c_Yard_make_record : Callable P w K mg base 4 (He.ma K (He.ga K "Yard") "make_record") ["self", "name", "level", "msg", "args", "extra"] [] (spMakeRecord K)) :
    Callable P w K mg base 8 f ["self", "level", "msg", "args", "extra"] [] (spLog K) ∧ Callable P w K mg base 8 f ["self", "level", "msg", "args", "extra"] [.ref (He.dflAt ("Logger", some "log") 0 K), .non] (spLog K) := by
  have body : ∀ (cdv : Value) (A : Around) (outer : List Env) (s : Shared) (H : Hp) (vs : List V) (Q : VK) (E : XK), Room 7 (A.deeper (envOfC "Logger.log" (defScope s_Logger_log) s.heap.objs.size f cdv)) → spLog K vs H Q E →
      ∃ t, PSs (cxOf CX0 P w K mg base nm_Logger_log "Logger.log" (defScope s_Logger_log) f cdv A outer s H E).nox (defBody s_Logger_log) t ∧ t { nx := fun _ H' => Q .non H', rt := Q } (start nm_Logger_log vs) H := fun cdv A outer s H vs Q E hr h => by
    obtain ⟨m, ad, x, l, a, e, lv, k, n, msg, rfl, hT, R, O, hx, hC, hl, hEf, hz, hlv, hm, hc, hn, hQ⟩ := h
    refine ⟨_, (pss_cons (ps_if (PW.pt (pw_or (pt_not (pt_val (pe_callB call_isi (by rfl) T.b_isinstance (by decide +kernel) (pa_cons (pv 1) (pa_cons (pe_bltn (v := .ty "int") (u := .type "int") (by rfl) T.b_int (by decide +kernel) rfl) pa_nil))))) (pw_or1 (pt_val (pe_callB call_isi (by rfl) T.b_isinstance (by decide +kernel) (pa_cons (pv 1) (pa_cons (pe_bltn (v := .ty "bool") (u := .type "bool") (by rfl) T.b_bool (by decide +kernel) rfl) pa_nil))))))) (pss_one ps_never) pss_nil)
      (pss_one (ps_if (pt_val (pe_mt T.c_Logger T.m_Logger_isEnabledFor c_Logger_isEnabledFor (hr.mono (by first | decide | exact Nat.le_refl _)) (pv 0) (pa_cons (pv 1) pa_nil))) (pss_one (ps_expr (pe_mt T.c_Logger T.m_Logger_handle c_Logger_handle (hr.mono (by first | decide | exact Nat.le_refl _)) (pv 0) (pa_cons (pe_mt T.c_Yard T.m_Yard_make_record c_Yard_make_record (hr.mono (by first | decide | exact Nat.le_refl _)) (pe_fld (pv 0) rfl) (pa_cons (pe_fld (pv 0) rfl) (pa_cons (pv 1) (pa_cons (pv 2) (pa_cons (pv 3) (pa_cons (pv 4) pa_nil)))))) pa_nil)))) pss_nil))), ?_⟩
    walk_at "in"
    have hE := R.lg_ hx
    have hy := R.y_
    have hTr := (R.known O).tr
    have hRt := (R.known O).rt_
    have hIn := (R.known O).inT (mem_kn ad hx)
    walk_at "go"
    have hg : (gOf m ad (ad (.lg x))).dis = m.dis x := by rw [gOf_at R hx]; rfl
    rw [hg]
    unfold TM.log at hQ
    by_cases c : m.dis x = false ∧ m.bar < lv ∧ e ≤ lv
    · rw [if_pos c] at hQ
      refine RC.iteT' (by rw [c.1, decide_eq_true c.2.1, decide_eq_true c.2.2]; rfl) ?_
      have hna := R.na_
      have hnu := R.nu_
      walk_at "go"
      intro H1 r g0 e0 s1 r0 g00 e00 hr1 hg1 he1
      obtain ⟨dx, hr1⟩ := hr1
      have R1 := R.same s1
      have hR : RecO K (Y K m ad) ad H1 r (rn x) lv (lvName m.nms lv) msg m.clk := ⟨dx, g0, e0, hr1, hg1, he1, R.out r0, R.out g00, R.out e00⟩
      have hQ1 : ∀ H', YR K (m.handle x l (rn x) lv msg) ad H' → YM K m ad H1 (m.handle x l (rn x) lv msg) ad H' → Q .non H' := fun H' a b => hQ H' a (b.sameL s1)
      clear hE hy hna hnu R hTr hRt
      walk_at "go"
      exact hQ1
    · rw [if_neg c] at hQ
      refine RC.iteF' ?_ ?_
      · cases h1 : m.dis x with
        | true => rfl
        | false =>
          by_cases h2 : m.bar < lv
          · by_cases h3 : e ≤ lv
            · exact absurd ⟨h1, h2, h3⟩ c
            · rw [decide_eq_false h3, Bool.and_false, Bool.and_false]
          · rw [decide_eq_false h2]; rfl
      have hQ2 := hQ _ R (RR.Mv.refl H)
      walk_at "go"
      exact hQ2
  have len : ∀ vs H Q E, spLog K vs H Q E → vs.length = 5 := fun vs H Q E h => by
    obtain ⟨m, ad, x, l, a, e, lv, k, n, msg, rfl, _⟩ := h; rfl
  exact ⟨F.call sc_Logger_log 5 2 len body (fun z => nomatch z) fun _ => ⟨rfl, fun _ _ _ _ _ _ _ us its hl hi => match us, hl, its, hi with | [_, _, _, _, _], _, [_, _], _ => ⟨_, rfl, rfl⟩⟩,
    F.call sc_Logger_log 3 0 len body (fun z => nomatch z) fun _ => ⟨rfl, fun _ _ _ _ _ _ _ us its hl hi => match us, hl, its, hi with | [_, _, _], _, [_, _], _ => ⟨_, rfl, rfl⟩⟩⟩
def spDebug (K : PySem.W.Frag) : Sp := fun vs H Q _ => ∃ (m : TM) (ad : YRo → Addr) (x : Str) (l : List Str) (e : Int) (k n : Nat) (msg : Str), vs = [.ref (ad (.lg x)), .str msg, .ref (He.dflAt ("Logger", some "debug") 0 K), .non] ∧ YR K m ad H ∧ m.Ok ∧ x ∈ m.all ∧ Rch m x l ∧ l.length ≤ 100 ∧ EffN (esM m ad) (ad (.lg "")) (gOf m ad) k (ad (.lg x)) e ∧ NmsOk m.nms ∧ msg.length ≤ 1000 ∧ Cap m.texts n ∧ n + (l.flatMap m.hands).length * 1100 ≤ 6000000 ∧
  ∀ H', YR K (m.log x l e 10 msg) ad H' → YM K m ad H (m.log x l e 10 msg) ad H' → Q .non H'
def spInfo (K : PySem.W.Frag) : Sp := fun vs H Q _ => ∃ (m : TM) (ad : YRo → Addr) (x : Str) (l : List Str) (e : Int) (k n : Nat) (msg : Str), vs = [.ref (ad (.lg x)), .str msg, .ref (He.dflAt ("Logger", some "info") 0 K), .non] ∧ YR K m ad H ∧ m.Ok ∧ x ∈ m.all ∧ Rch m x l ∧ l.length ≤ 100 ∧ EffN (esM m ad) (ad (.lg "")) (gOf m ad) k (ad (.lg x)) e ∧ NmsOk m.nms ∧ msg.length ≤ 1000 ∧ Cap m.texts n ∧ n + (l.flatMap m.hands).length * 1100 ≤ 6000000 ∧
  ∀ H', YR K (m.log x l e 20 msg) ad H' → YM K m ad H (m.log x l e 20 msg) ad H' → Q .non H'
def spWarning (K : PySem.W.Frag) : Sp := fun vs H Q _ => ∃ (m : TM) (ad : YRo → Addr) (x : Str) (l : List Str) (e : Int) (k n : Nat) (msg : Str), vs = [.ref (ad (.lg x)), .str msg, .ref (He.dflAt ("Logger", some "warning") 0 K), .non] ∧ YR K m ad H ∧ m.Ok ∧ x ∈ m.all ∧ Rch m x l ∧ l.length ≤ 100 ∧ EffN (esM m ad) (ad (.lg "")) (gOf m ad) k (ad (.lg x)) e ∧ NmsOk m.nms ∧ msg.length ≤ 1000 ∧ Cap m.texts n ∧ n + (l.flatMap m.hands).length * 1100 ≤ 6000000 ∧
  ∀ H', YR K (m.log x l e 30 msg) ad H' → YM K m ad H (m.log x l e 30 msg) ad H' → Q .non H'
def spError (K : PySem.W.Frag) : Sp := fun vs H Q _ => ∃ (m : TM) (ad : YRo → Addr) (x : Str) (l : List Str) (e : Int) (k n : Nat) (msg : Str), vs = [.ref (ad (.lg x)), .str msg, .ref (He.dflAt ("Logger", some "error") 0 K), .non] ∧ YR K m ad H ∧ m.Ok ∧ x ∈ m.all ∧ Rch m x l ∧ l.length ≤ 100 ∧ EffN (esM m ad) (ad (.lg "")) (gOf m ad) k (ad (.lg x)) e ∧ NmsOk m.nms ∧ msg.length ≤ 1000 ∧ Cap m.texts n ∧ n + (l.flatMap m.hands).length * 1100 ≤ 6000000 ∧
  ∀ H', YR K (m.log x l e 40 msg) ad H' → YM K m ad H (m.log x l e 40 msg) ad H' → Q .non H'
def spCritical (K : PySem.W.Frag) : Sp := fun vs H Q _ => ∃ (m : TM) (ad : YRo → Addr) (x : Str) (l : List Str) (e : Int) (k n : Nat) (msg : Str), vs = [.ref (ad (.lg x)), .str msg, .ref (He.dflAt ("Logger", some "critical") 0 K), .non] ∧ YR K m ad H ∧ m.Ok ∧ x ∈ m.all ∧ Rch m x l ∧ l.length ≤ 100 ∧ EffN (esM m ad) (ad (.lg "")) (gOf m ad) k (ad (.lg x)) e ∧ NmsOk m.nms ∧ msg.length ≤ 1000 ∧ Cap m.texts n ∧ n + (l.flatMap m.hands).length * 1100 ≤ 6000000 ∧
  ∀ H', YR K (m.log x l e 50 msg) ad H' → YM K m ad H (m.log x l e 50 msg) ad H' → Q .non H'
end
end K17

set_option Elab.async false
set_option linter.all false
set_option maxRecDepth 100000
set_option maxHeartbeats 4000000
/-! A world: a stream of draws and several models apart from one another; what is done at one leaves the others. -/
namespace RS
open PySem PySem.Spec PyProof.Rows L2 RC RR
structure Comp where
  R : Type
  M : R → Option HO
  ad : R → Addr
def cell (p : Addr) (o : HO) : Comp := ⟨Unit, fun _ => some o, fun _ => p⟩
abbrev Comp.rep (c : Comp) (H : Hp) : Prop := Rep c.M c.ad H
abbrev Comp.out (c : Comp) (b : Addr) : Prop := Out c.M c.ad b
abbrev Comp.dj (a b : Comp) : Prop := Dj a.M a.ad b.M b.ad
abbrev CMv (c : Comp) (H : Hp) (c' : Comp) (H' : Hp) : Prop := Mv c.M c.ad H c'.M c'.ad H'
structure Wd (H : Hp) (s l : Addr) (n : Nat) (cs : List Comp) : Prop where
  stm : Stm H s l n
  rep : ∀ c ∈ cs, c.rep H
  pw : cs.Pairwise Comp.dj
  os : ∀ c ∈ cs, c.out s ∧ c.out l
section
variable {H H' : Hp} {s l p b : Addr} {n k : Nat} {cs ds : List Comp} {c c' d e f g : Comp} {o o' : HO}
theorem Wd.same (W : Wd H s l n cs) (e : Same H H') : Wd H' s l n cs := ⟨W.stm.same e, fun c h => (W.rep c h).same e, W.pw, W.os⟩
theorem Wd.old (W : Wd H s l n cs) (e : Old s l H H') (st : Stm H' s l k) : Wd H' s l k cs := ⟨st, fun c h => (W.rep c h).old e (W.os c h).1 (W.os c h).2, W.pw, W.os⟩
theorem Wd.mono (W : Wd H s l n cs) (h : n ≤ k) : Wd H s l k cs := ⟨W.stm.mono h, W.rep, W.pw, W.os⟩
theorem Wd.perm (W : Wd H s l n cs) (h : ds.Perm cs) : Wd H s l n ds :=
  ⟨W.stm, fun c hc => W.rep c (h.mem_iff.mp hc), (h.pairwise_iff (fun {a b} hab => Dj.symm hab)).mpr W.pw, fun c hc => W.os c (h.mem_iff.mp hc)⟩
theorem Wd.hd (W : Wd H s l n (c :: cs)) : c.rep H := W.rep c List.mem_cons_self
theorem Wd.tl (W : Wd H s l n (c :: cs)) : Wd H s l n cs := ⟨W.stm, fun d h => W.rep d (List.mem_cons_of_mem _ h), (List.pairwise_cons.mp W.pw).2, fun d h => W.os d (List.mem_cons_of_mem _ h)⟩
theorem Wd.mv (W : Wd H s l n (c :: cs)) (R : c'.rep H') (m : CMv c H c' H') : Wd H' s l n (c' :: cs) := by
  have hp := List.pairwise_cons.mp W.pw
  have hs := W.os c List.mem_cons_self
  obtain ⟨ne, ns, x, cc, dd, g1, g2, g3⟩ := id W.stm
  refine ⟨Stm.mv W.stm m hs.1 hs.2, fun d hd => ?_, List.pairwise_cons.mpr ⟨fun d hd => ?_, hp.2⟩, fun d hd => ?_⟩
  · rcases List.mem_cons.mp hd with rfl | hd
    · exact R
    · exact m.rep (hp.1 d hd) (W.rep d (List.mem_cons_of_mem _ hd))
  · exact m.dj (hp.1 d hd) (W.rep d (List.mem_cons_of_mem _ hd))
  · rcases List.mem_cons.mp hd with rfl | hd
    · exact ⟨m.out hs.1 g1, m.out hs.2 g2⟩
    · exact W.os d (List.mem_cons_of_mem _ hd)
theorem cell_rep (h : H p = some o) : (cell p o).rep H := ⟨fun _ u e => by cases e; exact h, fun _ _ _ _ _ _ _ => rfl⟩
theorem cell_out (h : b ≠ p) : (cell p o).out b := fun _ _ _ z => h z.symm
theorem Wd.new (W : Wd H s l n cs) (hp : H p = none) : Wd (upd H p o) s l n (cell p o :: cs) := by
  have W' := W.same (same_new hp o)
  obtain ⟨ne, ns, x, cc, dd, g1, g2, g3⟩ := W.stm
  refine ⟨W'.stm, fun d hd => ?_, List.pairwise_cons.mpr ⟨fun d hd => ?_, W'.pw⟩, fun d hd => ?_⟩
  · rcases List.mem_cons.mp hd with rfl | hd
    · exact cell_rep upd_same
    · exact W'.rep d hd
  · intro r u er _ _ _ z
    have z : p = d.ad r := z
    exact (W.rep d hd).out hp r u er z.symm
  · rcases List.mem_cons.mp hd with rfl | hd
    · exact ⟨cell_out (fun z => (by rw [← z, g1] at hp; cases hp)), cell_out (fun z => (by rw [← z, g2] at hp; cases hp))⟩
    · exact W'.os d hd
/-- what was laid since -/
theorem Wd.fresh (W : Wd H s l n cs) (e : Same H H') (hp : H p = none) (h : H' p = some o) : Wd H' s l n (cell p o :: cs) := by
  have W' := W.same e
  obtain ⟨ne, ns, x, cc, dd, g1, g2, g3⟩ := W.stm
  refine ⟨W'.stm, fun d hd => ?_, List.pairwise_cons.mpr ⟨fun d hd => ?_, W'.pw⟩, fun d hd => ?_⟩
  · rcases List.mem_cons.mp hd with rfl | hd
    · exact cell_rep h
    · exact W'.rep d hd
  · intro r u er _ _ _ z
    have z : p = d.ad r := z
    exact (W.rep d hd).out hp r u er z.symm
  · rcases List.mem_cons.mp hd with rfl | hd
    · exact ⟨cell_out (fun z => (by rw [← z, g1] at hp; cases hp)), cell_out (fun z => (by rw [← z, g2] at hp; cases hp))⟩
    · exact W'.os d hd
/-- a model was laid since, at places that were free -/
theorem Wd.add (W : Wd H s l n cs) (e : Same H H') (R : c.rep H') (hf : ∀ r u, c.M r = some u → H (c.ad r) = none) : Wd H' s l n (c :: cs) := by
  have W' := W.same e
  obtain ⟨ne, ns, x, cc, dd, g1, g2, g3⟩ := W.stm
  refine ⟨W'.stm, fun d hd => ?_, List.pairwise_cons.mpr ⟨fun d hd => ?_, W'.pw⟩, fun d hd => ?_⟩
  · rcases List.mem_cons.mp hd with rfl | hd
    · exact R
    · exact W'.rep d hd
  · intro r u er r' u' er' z
    have h := (W.rep d hd).at_ r u er
    rw [← z, hf r' u' er'] at h; cases h
  · rcases List.mem_cons.mp hd with rfl | hd
    · exact ⟨fun r u er z => (by rw [← z, hf r u er] at g1; cases g1), fun r u er z => (by rw [← z, hf r u er] at g2; cases g2)⟩
    · exact W'.os d hd
theorem Wd.c0 (W : Wd H s l n (cell p o :: cs)) : H p = some o := W.hd.at_ () o rfl
theorem cell_mv : CMv (cell p o) H (cell p o') (upd H p o') := ⟨fun b u hb e => (upd_ne (show b ≠ p from fun z => hb () o rfl z.symm)).trans e, fun _ _ _ => .inl ⟨(), _, rfl, rfl⟩⟩
theorem Wd.set (W : Wd H s l n (cell p o :: cs)) : Wd (upd H p o') s l n (cell p o' :: cs) := W.mv (cell_rep upd_same) cell_mv
theorem Wd.up1 (W : Wd H s l n (c :: d :: cs)) : Wd H s l n (d :: c :: cs) := W.perm (.swap _ _ _)
theorem Wd.up2 (W : Wd H s l n (c :: d :: e :: cs)) : Wd H s l n (e :: c :: d :: cs) := W.perm ((List.Perm.swap _ _ _).trans (.cons _ (.swap _ _ _)))
theorem Wd.dn2 (W : Wd H s l n (e :: c :: d :: cs)) : Wd H s l n (c :: d :: e :: cs) := W.perm (((List.Perm.swap _ _ _).trans (.cons _ (.swap _ _ _))).symm)
theorem Wd.up3 (W : Wd H s l n (c :: d :: e :: f :: cs)) : Wd H s l n (f :: c :: d :: e :: cs) := W.perm ((List.Perm.swap _ _ _).trans (.cons _ ((List.Perm.swap _ _ _).trans (.cons _ (.swap _ _ _)))))
theorem Wd.dn3 (W : Wd H s l n (f :: c :: d :: e :: cs)) : Wd H s l n (c :: d :: e :: f :: cs) := W.perm (((List.Perm.swap _ _ _).trans (.cons _ ((List.Perm.swap _ _ _).trans (.cons _ (.swap _ _ _))))).symm)
theorem Wd.up4 (W : Wd H s l n (c :: d :: e :: f :: g :: cs)) : Wd H s l n (g :: c :: d :: e :: f :: cs) := W.perm ((List.Perm.swap _ _ _).trans (.cons _ ((List.Perm.swap _ _ _).trans (.cons _ ((List.Perm.swap _ _ _).trans (.cons _ (.swap _ _ _)))))))
theorem Wd.dn4 (W : Wd H s l n (g :: c :: d :: e :: f :: cs)) : Wd H s l n (c :: d :: e :: f :: g :: cs) := W.perm (((List.Perm.swap _ _ _).trans (.cons _ ((List.Perm.swap _ _ _).trans (.cons _ ((List.Perm.swap _ _ _).trans (.cons _ (.swap _ _ _))))))).symm)
theorem Wd.sw1 (W : Wd H s l n (c :: d :: e :: cs)) : Wd H s l n (c :: e :: d :: cs) := W.perm (.cons _ (.swap _ _ _))
theorem Wd.dj (W : Wd H s l n (c :: d :: cs)) : c.dj d := (List.pairwise_cons.mp W.pw).1 d List.mem_cons_self
theorem Wd.stmNe (W : Wd H s l n (cell p o :: cs)) : p ≠ s ∧ p ≠ l := ⟨fun z => (W.os _ List.mem_cons_self).1 () o rfl z, fun z => (W.os _ List.mem_cons_self).2 () o rfl z⟩
/-- a place outside of a model -/
theorem rep_out {R : Type} {M : R → Option HO} {ad : R → Addr} (h : Rep M ad H) (ho : Out M ad b) : Rep M ad (upd H b o) := ⟨fun r u e => by rw [upd_ne (ho r u e)]; exact h.at_ r u e, h.inj⟩
end
theorem mv_put {R S : Type} {M : R → Option HO} {M' : S → Option HO} {ad : R → Addr} {ad' : S → Addr} {H H' : Hp} {p : Addr} {o : HO} (a : Mv M ad H M' ad' H') (hp : H p = none) : Mv M ad H M' ad' (upd H' p o) :=
  ⟨fun b u hb e => by rw [upd_ne (ne_of_none e hp)]; exact a.keep b u hb e, a.img⟩
/-- a model becomes another one: what is new lies at places that were free -/
theorem rep_extS {R S : Type} {M : R → Option HO} {M' : S → Option HO} {ad : R → Addr} {ad' : S → Addr} {H H' : Hp} (φ : S → R) (φi : ∀ r r', φ r = φ r' → r = r') (N : List S) (h : Rep M ad H) (at' : ∀ r o, M' r = some o → H' (ad' r) = some o)
    (cls : ∀ r o, M' r = some o → ((∃ o', M (φ r) = some o') ∧ ad' r = ad (φ r)) ∨ (r ∈ N ∧ H (ad' r) = none)) (nj : ∀ r ∈ N, ∀ r' ∈ N, ad' r = ad' r' → r = r') (keep : ∀ b o, Out M ad b → H b = some o → H' b = some o) : Rep M' ad' H' ∧ Mv M ad H M' ad' H' := by
  refine ⟨⟨at', fun r r' o o' e e' z => ?_⟩, keep, fun r u e => ?_⟩
  · rcases cls r o e with ⟨⟨u, g⟩, a⟩ | ⟨n, a⟩
    · rcases cls r' o' e' with ⟨⟨u', g'⟩, a'⟩ | ⟨n', a'⟩
      · rw [a, a'] at z; exact φi _ _ (h.inj _ _ _ _ g g' z)
      · rw [← z, a, h.at_ _ _ g] at a'; cases a'
    · rcases cls r' o' e' with ⟨⟨u', g'⟩, a'⟩ | ⟨n', a'⟩
      · rw [z, a', h.at_ _ _ g'] at a; cases a
      · exact nj r n r' n' z
  · rcases cls r u e with ⟨⟨u', g⟩, a⟩ | ⟨n, a⟩
    · exact .inl ⟨φ r, u', g, a.symm⟩
    · exact .inr a
theorem rep_ext {R : Type} {M M' : R → Option HO} {ad ad' : R → Addr} {H H' : Hp} (N : List R) (h : Rep M ad H) (at' : ∀ r o, M' r = some o → H' (ad' r) = some o)
    (cls : ∀ r o, M' r = some o → ((∃ o', M r = some o') ∧ ad' r = ad r) ∨ (r ∈ N ∧ H (ad' r) = none)) (nj : ∀ r ∈ N, ∀ r' ∈ N, ad' r = ad' r' → r = r') (keep : ∀ b o, Out M ad b → H b = some o → H' b = some o) : Rep M' ad' H' ∧ Mv M ad H M' ad' H' :=
  rep_extS id (fun _ _ z => z) N h at' cls nj keep
/-- two models as one -/
def Comp.sum (c d : Comp) : Comp := ⟨Sum c.R d.R, Sum.elim c.M d.M, Sum.elim c.ad d.ad⟩
theorem rep_sum {c d : Comp} {H : Hp} (hc : c.rep H) (hd : d.rep H) (dj : c.dj d) : (c.sum d).rep H := by
  refine ⟨fun r o e => ?_, fun r r' o o' e e' z => ?_⟩
  · cases r with
    | inl r => exact hc.at_ r o e
    | inr r => exact hd.at_ r o e
  · cases r with
    | inl r =>
      cases r' with
      | inl r' => exact congrArg Sum.inl (hc.inj _ _ _ _ e e' z)
      | inr r' => exact absurd z (dj r' o' e' r o e)
    | inr r =>
      cases r' with
      | inl r' => exact absurd z.symm (dj r o e r' o' e')
      | inr r' => exact congrArg Sum.inr (hd.inj _ _ _ _ e e' z)
theorem sum_out {c d : Comp} {b : Addr} (h : c.out b) (k : d.out b) : (c.sum d).out b := fun r u e => by
  cases r with
  | inl r => exact h r u e
  | inr r => exact k r u e
theorem Wd.join {H : Hp} {s l : Addr} {n : Nat} {c d : Comp} {cs : List Comp} (W : Wd H s l n (c :: d :: cs)) : Wd H s l n (c.sum d :: cs) := by
  have h1 := List.pairwise_cons.mp W.pw
  have h2 := List.pairwise_cons.mp h1.2
  refine ⟨W.stm, fun e he => ?_, List.pairwise_cons.mpr ⟨fun e he => ?_, h2.2⟩, fun e he => ?_⟩
  · rcases List.mem_cons.mp he with rfl | he
    · exact rep_sum W.hd W.tl.hd W.dj
    · exact W.rep e (List.mem_cons_of_mem _ (List.mem_cons_of_mem _ he))
  · intro r u er
    exact sum_out (h1.1 e (List.mem_cons_of_mem _ he) r u er) (h2.1 e he r u er)
  · rcases List.mem_cons.mp he with rfl | he
    · have a := W.os c List.mem_cons_self
      have b := W.os d (List.mem_cons_of_mem _ List.mem_cons_self)
      exact ⟨sum_out a.1 b.1, sum_out a.2 b.2⟩
    · exact W.os e (List.mem_cons_of_mem _ (List.mem_cons_of_mem _ he))
/-- a model out of a list of what lies where -/
theorem rep_list {R : Type} {M : R → Option HO} {ad : R → Addr} {H0 H : Hp} (L : List (R × Addr × HO)) (hM : ∀ r o, M r = some o → (r, ad r, o) ∈ L) (nd : (L.map (·.2.1)).Nodup) (hh : ∀ x ∈ L, H0 x.2.1 = none ∧ H x.2.1 = some x.2.2) :
    Rep M ad H ∧ ∀ r u, M r = some u → H0 (ad r) = none := by
  refine ⟨⟨fun r o e => (hh _ (hM r o e)).2, fun r r' o o' e e' z => ?_⟩, fun r u e => (hh _ (hM r u e)).1⟩
  obtain ⟨i, hi⟩ := List.getElem?_of_mem (hM r o e)
  obtain ⟨j, hj⟩ := List.getElem?_of_mem (hM r' o' e')
  have n1 : (L.map (·.2.1))[i]? = some (ad r) := by rw [List.getElem?_map, hi]; rfl
  have n2 : (L.map (·.2.1))[j]? = some (ad r) := by rw [List.getElem?_map, hj, z]; rfl
  have l := (List.getElem?_eq_some_iff.mp n1).1
  have ij := (List.getElem?_inj l nd).mp (n1.trans n2.symm)
  rw [ij, hj] at hi
  exact (congrArg Prod.fst (Option.some.inj hi)).symm
end RS

set_option Elab.async false
set_option linter.all false
set_option maxRecDepth 100000
set_option maxHeartbeats 0
namespace K17
open PySem PySem.Spec PyProof.Rows L2 RC
section
variable {P : Program} {w : World} {K : PySem.W.Frag} {mg : Str → Option Value} {base : Heap}
/-! ### the law's own of a yard, by places -/
/-- what the law keeps of a handler: its stream, level, filters' names, end -/
def lawH (h : HM) : Str × Int × List Str × Str := if h.null = true then ("none", 1000000000, [], "") else (h.st, h.lv, h.sv, h.tm)
inductive LRo where
  | m | lv | pr | of | hd | sv | h | tx
  | hl (x : Str) | sl (x : Str) | ht (j : Nat) | hs (j : Nat)
abbrev mOf (bd : LRo → Addr) : MAd := ⟨bd .m, bd .lv, bd .pr, bd .of, bd .hd, bd .sv⟩
def kvL (l : List Str) (f : Str → V) : List (Key × V) := l.map fun x => ((Sum.inr x : Key), f x)
abbrev kvA (m : TM) (f : Str → V) : List (Key × V) := kvL m.all f
def htO (bd : LRo → Addr) (j : Nat) (h : HM) : HO := .tup [.str (lawH h).1, .int (lawH h).2.1, .ref (bd (.hs j)), .str (lawH h).2.2.2]
def LM (m : TM) (bd : LRo → Addr) : LRo → Option HO
  | .m => some (.dK (mdK (mOf bd) (.int m.bar) (bd .h) (bd .tx)))
  | .lv => some (.dK (kvA m fun x => .int (m.lev x)))
  | .pr => some (.dK (kvA m fun x => .bl (m.prop x)))
  | .of => some (.dK (kvA m fun x => .bl (m.dis x)))
  | .hd => some (.dK (kvA m fun x => .ref (bd (.hl x))))
  | .sv => some (.dK (kvA m fun x => .ref (bd (.sl x))))
  | .h => some (.lst ((List.range m.hs.length).map fun j => .ref (bd (.ht j))))
  | .tx => some (.dK (strK m.texts))
  | .hl x => if x ∈ m.all then some (.lst ((m.hands x).map fun j => .int (j : Nat))) else none
  | .sl x => if x ∈ m.all then some (.lst ((m.sv x).map V.str)) else none
  | .ht j => m.hs[j]?.map (htO bd j)
  | .hs j => m.hs[j]?.map fun h => .lst ((lawH h).2.2.1.map V.str)
abbrev LR (m : TM) (bd : LRo → Addr) (H : Hp) : Prop := RR.Rep (LM m bd) bd H
abbrev LV (m : TM) (bd : LRo → Addr) (H : Hp) (m' : TM) (bd' : LRo → Addr) (H' : Hp) : Prop := RR.Mv (LM m bd) bd H (LM m' bd') bd' H'
section
variable {m m' : TM} {bd bd' : LRo → Addr} {H H' : Hp} {x : Str} {j k : Nat} {f g : Str → V} {v : V}
theorem LM_hl (hx : x ∈ m.all) : LM m bd (.hl x) = some (.lst ((m.hands x).map fun j => .int (j : Nat))) := if_pos hx
theorem LM_sl (hx : x ∈ m.all) : LM m bd (.sl x) = some (.lst ((m.sv x).map V.str)) := if_pos hx
theorem lr_m (R : LR m bd H) : H (bd .m) = some (.dK (mdK (mOf bd) (.int m.bar) (bd .h) (bd .tx))) := R.at_ .m _ rfl
theorem lr_lv (R : LR m bd H) : H (bd .lv) = some (.dK (kvA m fun x => .int (m.lev x))) := R.at_ .lv _ rfl
theorem lr_pr (R : LR m bd H) : H (bd .pr) = some (.dK (kvA m fun x => .bl (m.prop x))) := R.at_ .pr _ rfl
theorem lr_of (R : LR m bd H) : H (bd .of) = some (.dK (kvA m fun x => .bl (m.dis x))) := R.at_ .of _ rfl
theorem lr_hd (R : LR m bd H) : H (bd .hd) = some (.dK (kvA m fun x => .ref (bd (.hl x)))) := R.at_ .hd _ rfl
theorem lr_sv (R : LR m bd H) : H (bd .sv) = some (.dK (kvA m fun x => .ref (bd (.sl x)))) := R.at_ .sv _ rfl
theorem lr_h (R : LR m bd H) : H (bd .h) = some (.lst ((List.range m.hs.length).map fun j => .ref (bd (.ht j)))) := R.at_ .h _ rfl
theorem lr_tx (R : LR m bd H) : H (bd .tx) = some (.dK (strK m.texts)) := R.at_ .tx _ rfl
theorem lr_hl (R : LR m bd H) (hx : x ∈ m.all) : H (bd (.hl x)) = some (.lst ((m.hands x).map fun j => .int (j : Nat))) := R.at_ (.hl x) _ (LM_hl hx)
theorem lr_sl (R : LR m bd H) (hx : x ∈ m.all) : H (bd (.sl x)) = some (.lst ((m.sv x).map V.str)) := R.at_ (.sl x) _ (LM_sl hx)
theorem lr_ht (R : LR m bd H) {h : HM} (hj : m.hs[j]? = some h) : H (bd (.ht j)) = some (htO bd j h) := R.at_ (.ht j) _ (by show m.hs[j]?.map _ = _; rw [hj]; rfl)
theorem lr_hs (R : LR m bd H) {h : HM} (hj : m.hs[j]? = some h) : H (bd (.hs j)) = some (.lst ((lawH h).2.2.1.map V.str)) := R.at_ (.hs j) _ (by show m.hs[j]?.map _ = _; rw [hj]; rfl)
theorem valV_kvL : ∀ l : List Str, valV (kvL l f) (Sum.inr x) = if x ∈ l then some (f x) else none
  | [] => rfl
  | y :: l => by
    by_cases c : y = x
    · subst c
      rw [if_pos List.mem_cons_self]
      exact valV_pos (p := ((Sum.inr y : Key), f y)) (r := kvL l f) rfl
    · have h1 : valV (kvL (y :: l) f) (Sum.inr x) = valV (kvL l f) (Sum.inr x) := by
        show valV (((Sum.inr y : Key), f y) :: kvL l f) (Sum.inr x) = _
        unfold valV
        rw [List.find?_cons, show decide ((Sum.inr y : Key) = Sum.inr x) = false from decide_eq_false fun z => c (Sum.inr.inj z)]
      rw [h1, valV_kvL l]
      by_cases d : x ∈ l
      · rw [if_pos d, if_pos (List.mem_cons_of_mem _ d)]
      · rw [if_neg d, if_neg]
        intro z
        rcases List.mem_cons.mp z with z | z
        · exact c z.symm
        · exact d z
theorem valV_kvA (hx : x ∈ m.all) : valV (kvA m f) (Sum.inr x) = some (f x) := (valV_kvL _).trans (if_pos hx)
theorem valV_kvN (hx : x ∉ m.all) : valV (kvA m f) (Sum.inr x) = none := (valV_kvL _).trans (if_neg hx)
theorem hasK_kvA : hasK (kvA m f) = m.has := by
  funext y
  unfold hasK TM.has
  by_cases c : y ∈ m.all
  · rw [valV_kvA c, decide_eq_true c]; rfl
  · rw [valV_kvN c, decide_eq_false c]; rfl
theorem any_kvL (l : List Str) : (kvL l f).any (fun p => decide (p.1 = (Sum.inr x : Key))) = decide (x ∈ l) := by
  unfold kvL
  rw [List.any_map, Bool.eq_iff_iff, List.any_eq_true, decide_eq_true_eq]
  refine ⟨fun ⟨y, hy, e⟩ => ?_, fun h => ⟨x, h, decide_eq_true rfl⟩⟩
  have e := of_decide_eq_true e
  rw [← Sum.inr.inj e]; exact hy
theorem putK_kvA (hx : x ∈ m.all) : putK (kvA m f) (Sum.inr x) v = kvA m (fun y => if y = x then v else f y) := by
  unfold putK
  rw [any_kvL, decide_eq_true hx, if_pos rfl]
  show List.map _ (List.map _ _) = _
  rw [List.map_map]
  refine List.map_congr_left fun y _ => ?_
  show (if (Sum.inr y : Key) = Sum.inr x then _ else _) = _
  by_cases c : y = x
  · rw [if_pos (congrArg Sum.inr c)]; show _ = ((Sum.inr y : Key), if y = x then v else f y); rw [if_pos c]
  · rw [if_neg (fun z => c (Sum.inr.inj z))]; show _ = ((Sum.inr y : Key), if y = x then v else f y); rw [if_neg c]
theorem putK_kvN (hx : x ∉ m.all) : putK (kvA m f) (Sum.inr x) v = kvL (m.all ++ [x]) (fun y => if y = x then v else f y) := by
  unfold putK
  rw [any_kvL, decide_eq_false hx, if_neg (fun z => nomatch z)]
  show List.map _ _ ++ _ = List.map _ _
  rw [List.map_append]
  congr 1
  · refine List.map_congr_left fun y hy => ?_
    show _ = ((Sum.inr y : Key), if y = x then v else f y)
    rw [if_neg (fun z => hx (by rw [← z]; exact hy))]
  · show _ = [((Sum.inr x : Key), if x = x then v else f x)]
    rw [if_pos rfl]
theorem kv_ite {α : Type} (f : α → V) (y x : Str) (a b : α) : ((Sum.inr y : Key), if y = x then f a else f b) = (Sum.inr y, f (if y = x then a else b)) := by split <;> rfl
theorem kvA_len : (kvA m f).length = m.names.length + 1 := by show (List.map _ _).length = _; rw [List.length_map]; rfl
theorem kvA_congr (h : ∀ y ∈ m.all, f y = g y) : kvA m f = kvA m g := List.map_congr_left fun y hy => by rw [h y hy]
theorem add_new (h : x ∉ m.all) : m.add x = { m with names := m.names ++ [x], lev := fun y => if y = x then 0 else m.lev y, prop := fun y => if y = x then true else m.prop y, dis := fun y => if y = x then false else m.dis y, hands := fun y => if y = x then [] else m.hands y, sv := fun y => if y = x then [] else m.sv y } := if_neg h
/-- what is changed of the law's things, at one name -/
def bdX (bd : LRo → Addr) (x : Str) (h s : Addr) : LRo → Addr
  | .hl y => if y = x then h else bd (.hl y)
  | .sl y => if y = x then s else bd (.sl y)
  | r => bd r
/-- what stays where it is -/
structure FixL (bd bd' : LRo → Addr) : Prop where
  m : bd' .m = bd .m
  ht : ∀ j, bd' (.ht j) = bd (.ht j)
theorem FixL.refl (bd : LRo → Addr) : FixL bd bd := ⟨rfl, fun _ => rfl⟩
theorem FixL.trans {a b c : LRo → Addr} (h : FixL a b) (k : FixL b c) : FixL a c := ⟨k.m.trans h.m, fun j => (k.ht j).trans (h.ht j)⟩
theorem lr_nd (R : LR m bd H) : (mOf bd).all.Nodup := by
  have e : (mOf bd).all = [LRo.m, .lv, .pr, .of, .hd, .sv].map bd := rfl
  rw [e]
  refine (List.nodup_iff_pairwise_ne.mpr ?_)
  rw [List.pairwise_map]
  have q : ∀ r ∈ ([.m, .lv, .pr, .of, .hd, .sv] : List LRo), ∃ o, LM m bd r = some o := fun r hr => by
    simp only [List.mem_cons, List.not_mem_nil, or_false] at hr
    rcases hr with rfl | rfl | rfl | rfl | rfl | rfl <;> exact ⟨_, rfl⟩
  have nd : ([.m, .lv, .pr, .of, .hd, .sv] : List LRo).Pairwise (· ≠ ·) := by simp
  refine List.Pairwise.imp_of_mem (fun {a b} ha hb hab z => ?_) nd
  obtain ⟨o, e1⟩ := q a ha
  obtain ⟨o', e2⟩ := q b hb
  exact hab (R.inj _ _ _ _ e1 e2 z)
theorem spMade_mono {vs : List V} {H : Hp} {Q Q' : VK} {E : XK} (h : ∀ v H', Q v H' → Q' v H') (g : spMade vs H Q E) : spMade vs H Q' E := by
  obtain ⟨A, bar, hh, t, lv, pr, of_, hd, sv, x, e, S, c⟩ := g
  refine ⟨A, bar, hh, t, lv, pr, of_, hd, sv, x, e, S, ?_⟩
  rcases c with ⟨u, hu, q⟩ | ⟨hu, q⟩
  · exact .inl ⟨u, hu, h _ _ q⟩
  · exact .inr ⟨hu, fun H' b4 b5 a1 a2 a3 a4 a5 a6 a7 a8 a9 a10 a11 a12 => h _ _ (q H' b4 b5 a1 a2 a3 a4 a5 a6 a7 a8 a9 a10 a11 a12)⟩
/-- a logger of the law's own -/
theorem lr_made (R : LR m bd H) (hn : m.names.length ≤ 100) {x : Str} {Q : VK} (q : ∀ (bd' : LRo → Addr) (H' : Hp), LR (m.add x) bd' H' → LV m bd H (m.add x) bd' H' → FixL bd bd' → Q .non H') : spMade [.ref (bd .m), .str x] H Q E0 := by
  have l1 : ∀ f, (kvA m f).length ≤ 1000 := fun f => by rw [kvA_len]; omega
  refine ⟨mOf bd, _, _, _, _, _, _, _, _, x, rfl, ⟨lr_m R, lr_lv R, lr_pr R, lr_of R, lr_hd R, lr_sv R, lr_nd R, l1 _, l1 _, l1 _, l1 _, l1 _⟩, ?_⟩
  by_cases hx : x ∈ m.all
  · refine .inl ⟨_, valV_kvA hx, ?_⟩
    have e : m.add x = m := add_old hx
    rw [e] at q
    exact q bd H R (RR.Mv.refl H) (FixL.refl bd)
  refine .inr ⟨valV_kvN hx, fun H' b4 b5 kp f4 f5 n45 h4 h5 hm hlv hpr hof hhd hsv => ?_⟩
  rw [putK_kvN hx] at hlv hpr hof hhd hsv
  rw [add_new hx] at q
  have hall : ∀ {y}, y ∈ m.all ++ [x] → y ≠ x → y ∈ m.all := fun h1 h2 => by
    rcases List.mem_append.mp h1 with h1 | h1
    · exact h1
    · exact absurd (List.mem_singleton.mp h1) h2
  have hin : ∀ {y}, y ∈ m.all → y ≠ x := fun h1 z => hx (by rw [← z]; exact h1)
  have kr : ∀ r o, r ≠ .lv → r ≠ .pr → r ≠ .of → r ≠ .hd → r ≠ .sv → LM m bd r = some o → H' (bd r) = some o := fun r o n1 n2 n3 n4 n5 e => by
    refine kp _ _ (fun z => ?_) (R.at_ _ _ e)
    have z : bd r ∈ ([bd .lv, bd .pr, bd .of, bd .hd, bd .sv] : List Addr) := z
    simp only [List.mem_cons, List.not_mem_nil, or_false] at z
    rcases z with z | z | z | z | z
    · exact n1 (R.inj _ _ _ _ e rfl z)
    · exact n2 (R.inj _ _ _ _ e rfl z)
    · exact n3 (R.inj _ _ _ _ e rfl z)
    · exact n4 (R.inj _ _ _ _ e rfl z)
    · exact n5 (R.inj _ _ _ _ e rfl z)
  have main := RS.rep_ext (M' := LM { m with names := m.names ++ [x], lev := fun y => if y = x then 0 else m.lev y, prop := fun y => if y = x then true else m.prop y, dis := fun y => if y = x then false else m.dis y, hands := fun y => if y = x then [] else m.hands y, sv := fun y => if y = x then [] else m.sv y } (bdX bd x b4 b5)) (ad' := bdX bd x b4 b5) (H' := H') [.hl x, .sl x] R (fun r o e => ?_) (fun r o e => ?_) (fun r hr r' hr' z => ?_) (fun b o hb e => ?_)
  · exact q _ H' main.1 main.2 ⟨rfl, fun _ => rfl⟩
  · cases r with
    | m => cases e; exact hm
    | lv => cases e; refine hlv.trans (congrArg (fun z => some (HO.dK z)) ?_); exact List.map_congr_left fun y _ => kv_ite V.int y x _ _
    | pr => cases e; refine hpr.trans (congrArg (fun z => some (HO.dK z)) ?_); exact List.map_congr_left fun y _ => kv_ite V.bl y x _ _
    | of => cases e; refine hof.trans (congrArg (fun z => some (HO.dK z)) ?_); exact List.map_congr_left fun y _ => kv_ite V.bl y x _ _
    | hd => cases e; refine hhd.trans (congrArg (fun z => some (HO.dK z)) ?_); exact List.map_congr_left fun y _ => kv_ite V.ref y x _ _
    | sv => cases e; refine hsv.trans (congrArg (fun z => some (HO.dK z)) ?_); exact List.map_congr_left fun y _ => kv_ite V.ref y x _ _
    | h => exact kr .h o (fun z => nomatch z) (fun z => nomatch z) (fun z => nomatch z) (fun z => nomatch z) (fun z => nomatch z) e
    | tx => exact kr .tx o (fun z => nomatch z) (fun z => nomatch z) (fun z => nomatch z) (fun z => nomatch z) (fun z => nomatch z) e
    | ht j => exact kr (.ht j) o (fun z => nomatch z) (fun z => nomatch z) (fun z => nomatch z) (fun z => nomatch z) (fun z => nomatch z) e
    | hs j => exact kr (.hs j) o (fun z => nomatch z) (fun z => nomatch z) (fun z => nomatch z) (fun z => nomatch z) (fun z => nomatch z) e
    | hl y =>
      obtain ⟨hy, e⟩ := ite_some (n := m.all ++ [x]) e
      cases e
      by_cases c : y = x
      · subst c
        show H' (if y = y then b4 else _) = some (.lst ((if y = y then [] else _ : List Nat).map _))
        rw [if_pos rfl, if_pos rfl]; exact h4
      · show H' (if y = x then b4 else _) = some (.lst ((if y = x then [] else _ : List Nat).map _))
        rw [if_neg c, if_neg c]
        exact kr (.hl y) _ (fun z => nomatch z) (fun z => nomatch z) (fun z => nomatch z) (fun z => nomatch z) (fun z => nomatch z) (LM_hl (hall hy c))
    | sl y =>
      obtain ⟨hy, e⟩ := ite_some (n := m.all ++ [x]) e
      cases e
      by_cases c : y = x
      · subst c
        show H' (if y = y then b5 else _) = some (.lst ((if y = y then [] else _ : List Str).map _))
        rw [if_pos rfl, if_pos rfl]; exact h5
      · show H' (if y = x then b5 else _) = some (.lst ((if y = x then [] else _ : List Str).map _))
        rw [if_neg c, if_neg c]
        exact kr (.sl y) _ (fun z => nomatch z) (fun z => nomatch z) (fun z => nomatch z) (fun z => nomatch z) (fun z => nomatch z) (LM_sl (hall hy c))
  · cases r with
    | hl y =>
      obtain ⟨hy, _⟩ := ite_some (n := m.all ++ [x]) e
      by_cases c : y = x
      · subst c; exact .inr ⟨List.mem_cons_self, by show H (if y = y then b4 else _) = none; rw [if_pos rfl]; exact f4⟩
      · exact .inl ⟨⟨_, LM_hl (hall hy c)⟩, if_neg c⟩
    | sl y =>
      obtain ⟨hy, _⟩ := ite_some (n := m.all ++ [x]) e
      by_cases c : y = x
      · subst c; exact .inr ⟨List.mem_cons_of_mem _ List.mem_cons_self, by show H (if y = y then b5 else _) = none; rw [if_pos rfl]; exact f5⟩
      · exact .inl ⟨⟨_, LM_sl (hall hy c)⟩, if_neg c⟩
    | ht j => exact .inl ⟨by
        obtain ⟨u, hu, _⟩ := Option.map_eq_some_iff.mp (show m.hs[j]?.map _ = some o from e)
        exact ⟨_, by show m.hs[j]?.map _ = _; rw [hu]; rfl⟩, rfl⟩
    | hs j => exact .inl ⟨⟨o, e⟩, rfl⟩
    | m => exact .inl ⟨⟨_, rfl⟩, rfl⟩
    | lv => exact .inl ⟨⟨_, rfl⟩, rfl⟩
    | pr => exact .inl ⟨⟨_, rfl⟩, rfl⟩
    | of => exact .inl ⟨⟨_, rfl⟩, rfl⟩
    | hd => exact .inl ⟨⟨_, rfl⟩, rfl⟩
    | sv => exact .inl ⟨⟨_, rfl⟩, rfl⟩
    | h => exact .inl ⟨⟨_, rfl⟩, rfl⟩
    | tx => exact .inl ⟨⟨_, rfl⟩, rfl⟩
  · have a1 : bdX bd x b4 b5 (.hl x) = b4 := if_pos rfl
    have a2 : bdX bd x b4 b5 (.sl x) = b5 := if_pos rfl
    simp only [List.mem_cons, List.not_mem_nil, or_false] at hr hr'
    rcases hr with rfl | rfl <;> rcases hr' with rfl | rfl
    · rfl
    · rw [a1, a2] at z; exact absurd z n45
    · rw [a1, a2] at z; exact absurd z.symm n45
    · rfl
  · refine kp b o (fun z => ?_) e
    have z : b ∈ ([bd .lv, bd .pr, bd .of, bd .hd, bd .sv] : List Addr) := z
    simp only [List.mem_cons, List.not_mem_nil, or_false] at z
    rcases z with z | z | z | z | z
    · exact hb .lv _ rfl z.symm
    · exact hb .pr _ rfl z.symm
    · exact hb .of _ rfl z.symm
    · exact hb .hd _ rfl z.symm
    · exact hb .sv _ rfl z.symm
/-! what is changed -/
theorem lr_write (R : LR m bd H) (s t : Str) : LR (m.write s t) bd (upd H (bd .tx) (.dK (strK (putS m.texts s (txt m.texts s ++ t))))) ∧ LV m bd H (m.write s t) bd (upd H (bd .tx) (.dK (strK (putS m.texts s (txt m.texts s ++ t))))) :=
  RR.Rep.set R .tx rfl rfl fun r hr => by cases r <;> first | rfl | exact absurd rfl hr
theorem lr_setHands (R : LR m bd H) (hx : x ∈ m.all) (js : List Nat) : LR { m with hands := fun y => if y = x then js else m.hands y } bd (upd H (bd (.hl x)) (.lst (js.map fun j => .int (j : Nat)))) ∧ LV m bd H { m with hands := fun y => if y = x then js else m.hands y } bd (upd H (bd (.hl x)) (.lst (js.map fun j => .int (j : Nat)))) := by
  refine RR.Rep.set R (.hl x) (LM_hl hx) ?_ fun r hr => ?_
  · rw [LM_hl (m := { m with hands := fun y => if y = x then js else m.hands y }) hx]
    show some (HO.lst ((if x = x then js else m.hands x).map _)) = _
    rw [if_pos rfl]
  · cases r with
    | hl y =>
      have c : y ≠ x := fun z => hr (by rw [z])
      show (if y ∈ m.all then some (HO.lst ((if y = x then js else m.hands y).map _)) else none) = (if y ∈ m.all then some (HO.lst ((m.hands y).map _)) else none)
      rw [if_neg c]
    | _ => rfl
def bdH (bd : LRo → Addr) (x : Str) (p : Addr) : LRo → Addr
  | .hl y => if y = x then p else bd (.hl y)
  | r => bd r
theorem lr_newHands (R : LR m bd H) (hx : x ∈ m.all) (js : List Nat) {p : Addr} (hp : H p = none) :
    LR { m with hands := fun y => if y = x then js else m.hands y } (bdH bd x p) (upd (upd H p (.lst (js.map fun j => .int (j : Nat)))) (bd .hd) (.dK (putK (kvA m fun x => .ref (bd (.hl x))) (Sum.inr x) (.ref p)))) ∧
    LV m bd H { m with hands := fun y => if y = x then js else m.hands y } (bdH bd x p) (upd (upd H p (.lst (js.map fun j => .int (j : Nat)))) (bd .hd) (.dK (putK (kvA m fun x => .ref (bd (.hl x))) (Sum.inr x) (.ref p)))) := by
  refine RR.Rep.newset R hp (.hl x) .hd (fun z => nomatch z) rfl ?_ ?_ (fun r h1 h2 => ?_) (if_pos rfl) (fun r h1 => ?_)
  · rw [LM_hl (m := { m with hands := fun y => if y = x then js else m.hands y }) hx]
    show some (HO.lst ((if x = x then js else m.hands x).map _)) = _
    rw [if_pos rfl]
  · rw [putK_kvA hx]
    show some (HO.dK (List.map _ _)) = some (HO.dK (List.map _ _))
    congr 2
    exact List.map_congr_left fun y _ => (kv_ite V.ref y x _ _).symm
  · cases r with
    | hl y =>
      have c : y ≠ x := fun z => h1 (by rw [z])
      show (if y ∈ m.all then some (HO.lst ((if y = x then js else m.hands y).map _)) else none) = (if y ∈ m.all then some (HO.lst ((m.hands y).map _)) else none)
      rw [if_neg c]
    | hd => exact absurd rfl h2
    | _ => rfl
  · cases r with
    | hl y =>
      have c : y ≠ x := fun z => h1 (by rw [z])
      exact if_neg c
    | _ => rfl
theorem lr_setProp (R : LR m bd H) (hx : x ∈ m.all) (b : Bool) : LR (m.setProp x b) bd (upd H (bd .pr) (.dK (putK (kvA m fun x => .bl (m.prop x)) (Sum.inr x) (.bl b)))) ∧ LV m bd H (m.setProp x b) bd (upd H (bd .pr) (.dK (putK (kvA m fun x => .bl (m.prop x)) (Sum.inr x) (.bl b)))) := by
  refine RR.Rep.set R .pr rfl ?_ fun r hr => ?_
  · rw [putK_kvA hx]
    show some (HO.dK (List.map _ _)) = some (HO.dK (List.map _ _))
    congr 2
    exact List.map_congr_left fun y _ => (kv_ite V.bl y x _ _).symm
  · cases r <;> first | rfl | exact absurd rfl hr
theorem lr_setLev (R : LR m bd H) (hx : x ∈ m.all) (b : Int) : LR { m with lev := fun y => if y = x then b else m.lev y } bd (upd H (bd .lv) (.dK (putK (kvA m fun x => .int (m.lev x)) (Sum.inr x) (.int b)))) ∧ LV m bd H { m with lev := fun y => if y = x then b else m.lev y } bd (upd H (bd .lv) (.dK (putK (kvA m fun x => .int (m.lev x)) (Sum.inr x) (.int b)))) := by
  refine RR.Rep.set R .lv rfl ?_ fun r hr => ?_
  · rw [putK_kvA hx]
    show some (HO.dK (List.map _ _)) = some (HO.dK (List.map _ _))
    congr 2
    exact List.map_congr_left fun y _ => (kv_ite V.int y x _ _).symm
  · cases r <;> first | rfl | exact absurd rfl hr
theorem lr_setDis (R : LR m bd H) (hx : x ∈ m.all) (b : Bool) : LR { m with dis := fun y => if y = x then b else m.dis y } bd (upd H (bd .of) (.dK (putK (kvA m fun x => .bl (m.dis x)) (Sum.inr x) (.bl b)))) ∧ LV m bd H { m with dis := fun y => if y = x then b else m.dis y } bd (upd H (bd .of) (.dK (putK (kvA m fun x => .bl (m.dis x)) (Sum.inr x) (.bl b)))) := by
  refine RR.Rep.set R .of rfl ?_ fun r hr => ?_
  · rw [putK_kvA hx]
    show some (HO.dK (List.map _ _)) = some (HO.dK (List.map _ _))
    congr 2
    exact List.map_congr_left fun y _ => (kv_ite V.bl y x _ _).symm
  · cases r <;> first | rfl | exact absurd rfl hr
theorem lr_setBar (R : LR m bd H) (b : Int) : LR { m with bar := b } bd (upd H (bd .m) (.dK (mdK (mOf bd) (.int b) (bd .h) (bd .tx)))) ∧ LV m bd H { m with bar := b } bd (upd H (bd .m) (.dK (mdK (mOf bd) (.int b) (bd .h) (bd .tx)))) :=
  RR.Rep.set R .m rfl rfl fun r hr => by cases r <;> first | rfl | exact absurd rfl hr
/-- one more handler: its list of names at p, its tuple at q -/
def bdN (bd : LRo → Addr) (n : Nat) (p q : Addr) : LRo → Addr
  | .hs j => if j = n then p else bd (.hs j)
  | .ht j => if j = n then q else bd (.ht j)
  | r => bd r
end
end
end K17

set_option Elab.async false
set_option linter.all false
set_option maxRecDepth 100000
set_option maxHeartbeats 0
namespace K17
open PySem PySem.Spec PyProof.Rows L2 RC
section
variable {P : Program} {w : World} {K : PySem.W.Frag} {mg : Str → Option Value} {base : Heap}
/-! ### the plain law -/
theorem list_due (R N : List Nat) (c : Nat) : (R ++ [c]).take (min (N.length + 1) (R.length + 1)) = N ++ [c] ↔ R = N ∨ (N.length + 1 ≤ R.length ∧ R.take (N.length + 1) = N ++ [c]) := by
  by_cases h : N.length + 1 ≤ R.length
  · have e : min (N.length + 1) (R.length + 1) = N.length + 1 := by omega
    rw [e, List.take_append_of_le_length h]
    constructor
    · intro h2; exact .inr ⟨h, h2⟩
    · rintro (rfl | ⟨_, h2⟩)
      · exact absurd h (by omega)
      · exact h2
  · have e : min (N.length + 1) (R.length + 1) = R.length + 1 := by omega
    have e2 : (R ++ [c]).take (R.length + 1) = R ++ [c] := List.take_of_length_le (by simp)
    rw [e, e2]
    constructor
    · intro h2; exact .inl (List.append_cancel_right h2)
    · rintro (rfl | ⟨h2, _⟩)
      · rfl
      · exact absurd h2 h
theorem tl_dot (x : Str) : TL.tl (x ++ ("." : Str)) = TL.tl x ++ [46] := TL.tl_append x "."
theorem due_eq (rn nm : Str) : (decide (nm = "") || decide (cutS (rn ++ ".") none (some ((nm.length : Int) + 1)) = nm ++ ".")) = passB rn nm := by
  unfold passB belowB
  congr 1
  have e1 : (cutS (rn ++ ".") none (some ((nm.length : Int) + 1)) = nm ++ ".") ↔ (TL.tl rn = TL.tl nm ∨ ((TL.tl nm).length + 1 ≤ (TL.tl rn).length ∧ (TL.tl rn).take ((TL.tl nm).length + 1) = TL.tl nm ++ [46])) := by
    rw [← list_due]
    have z : ∀ a b : Str, a = b ↔ TL.tl a = TL.tl b := fun a b => ⟨fun h => by rw [h], TL.ext_tl⟩
    rw [z, tl_dot]
    have c : TL.tl (cutS (rn ++ ".") none (some ((nm.length : Int) + 1))) = (TL.tl rn ++ [46]).take (min ((TL.tl nm).length + 1) ((TL.tl rn).length + 1)) := by
      unfold cutS
      rw [HT.sIx_none, show ((nm.length : Int) + 1) = ((nm.length + 1 : Nat) : Int) from rfl, HT.sIx_nat, len_dot, Nat.sub_zero]
      show (((rn ++ ".").cps.toList.drop 0).take _) = _
      rw [List.drop_zero, show (rn ++ ".").cps.toList = TL.tl (rn ++ ".") from rfl, tl_dot, TL.len_tl nm, TL.len_tl rn]
    rw [c]
  have e2 : Txt.startswith rn (nm ++ ".") = decide ((TL.tl nm).length + 1 ≤ (TL.tl rn).length ∧ (TL.tl rn).take ((TL.tl nm).length + 1) = TL.tl nm ++ [46]) := by
    unfold Txt.startswith
    rw [PySem.StrLaws.subAt_eq, len_dot, Nat.zero_add, List.drop_zero, ← TL.len_tl, ← TL.len_tl, show (nm ++ ".").cps.toList = TL.tl (nm ++ ".") from rfl, tl_dot, Bool.decide_and]
    congr 1
    rw [Bool.eq_iff_iff]; simp
  rw [e2, Bool.eq_iff_iff]
  simp only [decide_eq_true_eq, Bool.or_eq_true]
  rw [e1]
  constructor
  · rintro (h | h)
    · exact .inl (TL.ext_tl h)
    · exact .inr h
  · rintro (h | h)
    · exact .inl (by rw [h])
    · exact .inr h
end
end K17

set_option Elab.async false
set_option linter.all false
set_option maxRecDepth 100000
set_option maxHeartbeats 0
namespace K17
open PySem PySem.Spec PyProof.Rows L2 RC
section
variable {P : Program} {w : World} {K : PySem.W.Frag} {mg : Str → Option Value} {base : Heap}
/-! ### what the model tells, by names -/
theorem Chain.uniq {has : Str → Bool} {x : Str} {l l' : List Str} (h : Chain has x l) : Chain has x l' → l = l' := by
  intro k
  induction h generalizing l' with
  | top =>
    cases k with
    | top => rfl
    | up h _ => exact absurd rfl h
  | up h p ih =>
    cases k with
    | top => exact absurd rfl h
    | up _ p' => rw [ih p']
def reachL (pf : Str → Bool) : List Str → List Str
  | [] => []
  | x :: r => if pf x = true then x :: reachL pf r else [x]
open Classical in
noncomputable def chnOf (has : Str → Bool) (x : Str) : List Str := if h : ∃ l, Chain has x l then h.choose else []
theorem chnOf_eq {has : Str → Bool} {x : Str} {l : List Str} (h : Chain has x l) : chnOf has x = l := by
  unfold chnOf
  rw [dif_pos ⟨l, h⟩]
  exact Chain.uniq (Exists.choose_spec (p := fun l => Chain has x l) ⟨l, h⟩) h
noncomputable abbrev TM.chn (m : TM) (x : Str) : List Str := chnOf m.has x
noncomputable def TM.rch (m : TM) (x : Str) : List Str := reachL m.prop (m.chn x)
noncomputable def TM.eff (m : TM) (x : Str) : Int := effL m.lev (m.chn x)
noncomputable def TM.lg (m : TM) (x : Str) (lv : Int) (msg : Str) : TM := m.log x (m.rch x) (m.eff x) lv msg
noncomputable def TM.hl (m : TM) (x name : Str) (lv : Int) (msg : Str) : TM := m.handle x (m.rch x) name lv msg
theorem reach_sub (pf : Str → Bool) : ∀ l : List Str, (reachL pf l).length ≤ l.length ∧ ∀ y ∈ reachL pf l, y ∈ l
  | [] => ⟨Nat.le_refl _, fun _ h => h⟩
  | x :: r => by
    have ih := reach_sub pf r
    unfold reachL
    split
    · refine ⟨Nat.succ_le_succ ih.1, fun y hy => ?_⟩
      rcases List.mem_cons.mp hy with rfl | hy
      · exact List.mem_cons_self
      · exact List.mem_cons_of_mem _ (ih.2 y hy)
    · exact ⟨by simp, fun y hy => by rw [List.mem_singleton.mp hy]; exact List.mem_cons_self⟩
theorem effL_congr {f g : Str → Int} : ∀ l : List Str, (∀ y ∈ l, f y = g y) → effL f l = effL g l
  | [], _ => rfl
  | x :: r, h => by
    unfold effL
    rw [h x List.mem_cons_self, effL_congr r fun y hy => h y (List.mem_cons_of_mem _ hy)]
/-- the names above are few and known -/
structure TM.Chs (m : TM) : Prop where
  ch : ∀ x ∈ m.all, Chain m.has x (m.chn x) ∧ (m.chn x).length ≤ 6 ∧ ∀ y ∈ m.chn x, y ∈ m.all ∧ Sized y
section
variable {m : TM} {ad : YRo → Addr} {H : Hp} {x : Str}
theorem _root_.RR.Rep.chs (R : YR K m ad H) (O : m.Ok) : m.Chs := ⟨fun x hx => by
  have N := R.known O
  obtain ⟨l, n, ch, cl, cm, _⟩ := N.chain (has_kn O ad) 5 _ (mem_kn ad hx) (N.dpt5 (mem_kn ad hx))
  rw [show m.chn x = l from chnOf_eq ch]
  refine ⟨ch, cl, fun y hy => ?_⟩
  obtain ⟨e', h1, rfl⟩ := cm y hy
  refine ⟨?_, N.sized h1⟩
  rw [kn_esM] at h1
  obtain ⟨z, hz, e⟩ := List.mem_map.mp h1
  rw [← e]; exact hz⟩
theorem _root_.RR.Rep.effN (R : YR K m ad H) (O : m.Ok) (hx : x ∈ m.all) : ∃ k, EffN (esM m ad) (ad (.lg "")) (gOf m ad) k (ad (.lg x)) (m.eff x) := by
  have N := R.known O
  obtain ⟨l, n, ch, cl, cm, he⟩ := N.chain (has_kn O ad) 5 _ (mem_kn ad hx) (N.dpt5 (mem_kn ad hx))
  refine ⟨n, ?_⟩
  unfold TM.eff
  rw [show m.chn x = l from chnOf_eq ch]
  rw [effL_congr (f := m.lev) (g := levOf (esM m ad) (ad (.lg "")) (gOf m ad)) l fun y hy => ?_]
  · exact he
  · obtain ⟨e', h1, rfl⟩ := cm y hy
    rw [N.levOf h1]
    rw [kn_esM] at h1
    obtain ⟨z, hz, e⟩ := List.mem_map.mp h1
    subst e
    show m.lev z = (gOf m ad (ad (.lg z))).lev
    rw [gOf_at R hz]; rfl
theorem TM.Chs.rch (C : m.Chs) (hx : x ∈ m.all) : Rch m x (m.rch x) ∧ (m.rch x).length ≤ 6 ∧ ∀ y ∈ m.rch x, y ∈ m.all := by
  obtain ⟨ch, cl, cm⟩ := C.ch x hx
  have s := reach_sub m.prop (m.chn x)
  refine ⟨?_, Nat.le_trans s.1 cl, fun y hy => (cm y (s.2 y hy)).1⟩
  unfold TM.rch
  generalize m.chn x = l at ch
  clear s cl cm hx C
  generalize hh : m.has = has at ch
  induction ch with
  | top =>
    show Rch m "" (if m.prop "" = true then ["" ] else [""])
    split <;> exact .top
  | @up t l h p ih =>
    unfold reachL
    cases e : m.prop t with
    | true =>
      rw [if_pos rfl]
      refine .up h e ?_
      unfold TM.par
      rw [hh]; exact ih
    | false => exact .stop h e
theorem TM.Ok.few6 (O : m.Ok) (C : m.Chs) (hx : x ∈ m.all) : ((m.rch x).flatMap m.hands).length ≤ 180 := by
  have r := C.rch hx
  have a1 : ∀ (u : List Str), (∀ y ∈ u, y ∈ m.all) → (u.flatMap m.hands).length ≤ u.length * 30 := fun u => by
    induction u with
    | nil => intro _; exact Nat.zero_le _
    | cons y u ih =>
      intro hu
      rw [List.flatMap_cons, List.length_append, List.length_cons, Nat.succ_mul]
      have h1 := O.hlen (hu y List.mem_cons_self)
      have h2 := ih fun z hz => hu z (List.mem_cons_of_mem _ hz)
      omega
  have := a1 _ r.2.2
  have := r.2.1
  omega
/-! it stays in order -/
theorem TM.Ok.add (O : m.Ok) (hx : x = "" ∨ ∃ qs, Nm qs ∧ x = Txt.join "." qs) (hf : m.names.length < 40) : (m.add x).Ok := by
  by_cases c : x ∈ m.all
  · rw [add_old c]; exact O
  have hq : ∃ qs, Nm qs ∧ x = Txt.join "." qs := by
    rcases hx with rfl | h
    · exact absurd m.mem_root c
    · exact h
  have hall : ∀ {y}, y ∈ m.all ++ [x] → y ≠ x → y ∈ m.all := fun h1 h2 => by
    rcases List.mem_append.mp h1 with h1 | h1
    · exact h1
    · exact absurd (List.mem_singleton.mp h1) h2
  rw [add_new c]
  refine ⟨fun y hy => ?_, ?_, ?_, fun y hy j hj => ?_, fun y => ?_, O.nh, fun y => ?_, fun y n hn => ?_, O.hsv⟩
  · rcases List.mem_append.mp hy with h | h
    · exact O.nm y h
    · rw [List.mem_singleton.mp h]; exact hq
  · refine List.nodup_append.mpr ⟨O.nd, by simp, fun a ha b hb z => ?_⟩
    rw [List.mem_singleton.mp hb] at z
    exact c (List.mem_cons_of_mem _ (by rw [← z]; exact ha))
  · show (m.names ++ [x]).length ≤ 40
    rw [List.length_append, List.length_singleton]; omega
  · have hj : j ∈ (if y = x then [] else m.hands y : List Nat) := hj
    by_cases d : y = x
    · rw [if_pos d] at hj; cases hj
    · rw [if_neg d] at hj; exact O.hj y (hall hy d) j hj
  · show (if y = x then [] else m.hands y : List Nat).Nodup
    split
    · exact List.nodup_nil
    · exact O.hl y
  · show (if y = x then [] else m.sv y : List Str).length ≤ 20
    split
    · exact Nat.zero_le _
    · exact O.svl y
  · have hn : n ∈ (if y = x then [] else m.sv y : List Str) := hn
    by_cases d : y = x
    · rw [if_pos d] at hn; cases hn
    · rw [if_neg d] at hn; exact O.svs y n hn
theorem TM.Ok.hands (O : m.Ok) {js : List Nat} (nd : js.Nodup) (hj : ∀ j ∈ js, j < m.hs.length) : ({ m with hands := fun y => if y = x then js else m.hands y } : TM).Ok := by
  refine ⟨O.nm, O.nd, O.few, fun y hy j h => ?_, fun y => ?_, O.nh, O.svl, O.svs, O.hsv⟩
  · have h : j ∈ (if y = x then js else m.hands y) := h
    by_cases c : y = x
    · rw [if_pos c] at h; exact hj j h
    · rw [if_neg c] at h; exact O.hj y hy j h
  · show (if y = x then js else m.hands y).Nodup
    split
    · exact nd
    · exact O.hl y
theorem TM.Ok.putH (O : m.Ok) (hx : x ∈ m.all) {j : Nat} (hj : j < m.hs.length) : (m.putH x j).Ok := by
  by_cases c : j ∈ m.hands x
  · rw [putH_old c]; exact O
  · rw [putH_new c]
    refine O.hands (List.nodup_append.mpr ⟨O.hl x, by simp, fun a ha b hb z => ?_⟩) fun i hi => ?_
    · rw [List.mem_singleton.mp hb] at z; exact c (by rw [← z]; exact ha)
    · rcases List.mem_append.mp hi with h | h
      · exact O.hj x hx i h
      · rw [List.mem_singleton.mp h]; exact hj
theorem TM.Ok.dropH (O : m.Ok) (hx : x ∈ m.all) (j : Nat) : (m.dropH x j).Ok :=
  O.hands ((O.hl x).filter _) fun i hi => O.hj x hx i ((List.mem_filter.mp hi).1)
theorem TM.Ok.setProp (O : m.Ok) (b : Bool) : (m.setProp x b).Ok := ⟨O.nm, O.nd, O.few, O.hj, O.hl, O.nh, O.svl, O.svs, O.hsv⟩
theorem TM.Ok.setLev (O : m.Ok) (f : Str → Int) : ({ m with lev := f } : TM).Ok := ⟨O.nm, O.nd, O.few, O.hj, O.hl, O.nh, O.svl, O.svs, O.hsv⟩
theorem TM.Ok.setDis (O : m.Ok) (f : Str → Bool) : ({ m with dis := f } : TM).Ok := ⟨O.nm, O.nd, O.few, O.hj, O.hl, O.nh, O.svl, O.svs, O.hsv⟩
theorem TM.Ok.setBar (O : m.Ok) (b : Int) : ({ m with bar := b } : TM).Ok := ⟨O.nm, O.nd, O.few, O.hj, O.hl, O.nh, O.svl, O.svs, O.hsv⟩
theorem TM.Ok.setSv (O : m.Ok) {ns : List Str} (h1 : ns.length ≤ 20) (h2 : ∀ n ∈ ns, n.length ≤ 2000) : ({ m with sv := fun y => if y = x then ns else m.sv y } : TM).Ok := by
  refine ⟨O.nm, O.nd, O.few, O.hj, O.hl, O.nh, fun y => ?_, fun y n hn => ?_, O.hsv⟩
  · show (if y = x then ns else m.sv y : List Str).length ≤ 20
    split
    · exact h1
    · exact O.svl y
  · have hn : n ∈ (if y = x then ns else m.sv y : List Str) := hn
    by_cases d : y = x
    · rw [if_pos d] at hn; exact h2 n hn
    · rw [if_neg d] at hn; exact O.svs y n hn
def HM.Ok (h : HM) : Prop := h.sv.length ≤ 20 ∧ (∀ n ∈ h.sv, n.length ≤ 2000) ∧ h.tm.length ≤ 100 ∧ h.st.length ≤ 100 ∧ h.null = false
def TM.addHd (m : TM) (h : HM) : TM := { m with hs := m.hs ++ [h] }
theorem TM.Ok.addHd (O : m.Ok) {h : HM} (hh : h.Ok) (hn : m.hs.length < 30) : (m.addHd h).Ok := by
  refine ⟨O.nm, O.nd, O.few, fun y hy j hj => ?_, O.hl, ?_, O.svl, O.svs, fun h' hh' => ?_⟩
  · show j < (m.hs ++ [h]).length
    have := O.hj y hy j hj
    rw [List.length_append]; omega
  · show (m.hs ++ [h]).length ≤ 30
    rw [List.length_append, List.length_singleton]; omega
  · rcases List.mem_append.mp hh' with c | c
    · exact O.hsv h' c
    · rw [List.mem_singleton.mp c]; exact hh
def TM.setH (m : TM) (j : Nat) (h : HM) : TM := { m with hs := m.hs.set j h }
theorem TM.Ok.setH (O : m.Ok) {h : HM} {j : Nat} (hh : h.Ok) : (m.setH j h).Ok := by
  refine ⟨O.nm, O.nd, O.few, fun y hy i hi => ?_, O.hl, ?_, O.svl, O.svs, fun h' hh' => ?_⟩
  · show i < (m.hs.set j h).length
    rw [List.length_set]; exact O.hj y hy i hi
  · show (m.hs.set j h).length ≤ 30
    rw [List.length_set]; exact O.nh
  · rcases List.mem_or_eq_of_mem_set hh' with c | c
    · exact O.hsv h' c
    · rw [c]; exact hh
end
/-! which streams there are -/
structure TM.St (m : TM) (C : List Str) : Prop where
  nd : (m.texts.map (·.1)).Nodup
  sub : ∀ e ∈ m.texts, e.1 ∈ C
  er : ("stderr" : Str) ∈ C
  hs : ∀ h ∈ m.hs, h.null = false → h.st ∈ C
section
variable {m : TM} {C : List Str}
theorem nodup_len {l C : List Str} (nd : l.Nodup) (h : ∀ x ∈ l, x ∈ C) : l.length ≤ C.length := by
  induction l generalizing C with
  | nil => exact Nat.zero_le _
  | cons a r ih =>
    have h1 := List.nodup_cons.mp nd
    have ha := h a List.mem_cons_self
    have h2 := ih (C := C.erase a) h1.2 fun x hx => (List.mem_erase_of_ne (fun z => h1.1 (by rw [← z]; exact hx))).mpr (h x (List.mem_cons_of_mem _ hx))
    rw [List.length_erase_of_mem ha] at h2
    have : 0 < C.length := List.length_pos_of_mem ha
    rw [List.length_cons]; omega
theorem TM.St.len (S : m.St C) : m.texts.length ≤ C.length := by
  have := nodup_len S.nd (C := C) fun x hx => by obtain ⟨e, he, rfl⟩ := List.mem_map.mp hx; exact S.sub e he
  rw [List.length_map] at this; exact this
theorem putS_keys (ts : List (Str × Str)) (s t : Str) : (putS ts s t).map (·.1) = if s ∈ ts.map (·.1) then ts.map (·.1) else ts.map (·.1) ++ [s] := by
  unfold putS
  have e : ts.any (fun e => decide (e.1 = s)) = decide (s ∈ ts.map (·.1)) := by
    rw [Bool.eq_iff_iff, List.any_eq_true, decide_eq_true_eq, List.mem_map]
    exact ⟨fun ⟨e, h, z⟩ => ⟨e, h, of_decide_eq_true z⟩, fun ⟨e, h, z⟩ => ⟨e, h, decide_eq_true z⟩⟩
  rw [e]
  by_cases c : s ∈ ts.map (·.1)
  · rw [decide_eq_true c, if_pos rfl, if_pos c, List.map_map]
    refine List.map_congr_left fun e _ => ?_
    show (if e.1 = s then (e.1, t) else e).1 = e.1
    split <;> rfl
  · rw [decide_eq_false c, if_neg (fun z => nomatch z), if_neg c, List.map_append]; rfl
theorem TM.St.write (S : m.St C) {s : Str} (hs : s ∈ C) (t : Str) : (m.write s t).St C := by
  have k := putS_keys m.texts s (txt m.texts s ++ t)
  refine ⟨?_, fun e he => ?_, S.er, S.hs⟩
  · show ((putS m.texts s (txt m.texts s ++ t)).map (·.1)).Nodup
    rw [k]
    split
    · exact S.nd
    · rename_i h
      refine List.nodup_append.mpr ⟨S.nd, by simp, fun a ha b hb z => h ?_⟩
      rw [List.mem_singleton.mp hb] at z; rw [← z]; exact ha
  · have h1 : e.1 ∈ (putS m.texts s (txt m.texts s ++ t)).map (·.1) := List.mem_map_of_mem (f := (·.1)) he
    rw [k] at h1
    have h2 : ∀ z ∈ m.texts.map (·.1), z ∈ C := fun z hz => by obtain ⟨e, he, rfl⟩ := List.mem_map.mp hz; exact S.sub e he
    split at h1
    · exact h2 _ h1
    · rcases List.mem_append.mp h1 with h1 | h1
      · exact h2 _ h1
      · rw [List.mem_singleton.mp h1]; exact hs
theorem TM.St.emitJ (S : m.St C) (j : Nat) (name : Str) (lv : Int) (msg : Str) : (m.emitJ j name lv msg).St C := by
  unfold TM.emitJ
  split
  · rename_i h hj
    split
    · unfold TM.emitH
      split
      · rename_i c
        exact S.write (S.hs h (List.mem_of_getElem? hj) c.1) _
      · exact S
    · exact S
  · exact S
theorem TM.St.emitAll (name : Str) (lv : Int) (msg : Str) : ∀ (js : List Nat) {m : TM}, m.St C → (m.emitAll js name lv msg).St C
  | [], _, S => S
  | j :: js, _, S => TM.St.emitAll name lv msg js (S.emitJ j name lv msg)
theorem TM.St.handle (S : m.St C) (x : Str) (l : List Str) (name : Str) (lv : Int) (msg : Str) : (m.handle x l name lv msg).St C := by
  unfold TM.handle
  split
  · unfold TM.call
    split
    · exact S.write S.er _
    · exact TM.St.emitAll name lv msg _ S
  · exact S
theorem TM.St.log (S : m.St C) (x : Str) (l : List Str) (e lv : Int) (msg : Str) : (m.log x l e lv msg).St C := by
  unfold TM.log
  split
  · exact S.handle x l (rn x) lv msg
  · exact S
theorem TM.St.of {m' : TM} (S : m.St C) (h : m'.texts = m.texts) (k : m'.hs = m.hs) : m'.St C := ⟨by rw [h]; exact S.nd, by rw [h]; exact S.sub, S.er, by rw [k]; exact S.hs⟩
end
end
end K17

set_option Elab.async false
set_option linter.all false
set_option maxRecDepth 100000
set_option maxHeartbeats 0
namespace K17
open PySem PySem.Spec PyProof.Rows L2 RC
section
variable {P : Program} {w : World} {K : PySem.W.Frag} {mg : Str → Option Value} {base : Heap}
/-! ### handlers are made, and changed -/
/-- the yard and the first n handlers stay where they are -/
def FixN (n : Nat) (ad ad' : YRo → Addr) : Prop := ad' .y = ad .y ∧ ∀ j, j < n → ad' (.hd j) = ad (.hd j)
theorem FixN.refl (n : Nat) (ad : YRo → Addr) : FixN n ad ad := ⟨rfl, fun _ _ => rfl⟩
theorem FixN.trans {n k : Nat} {a b c : YRo → Addr} (h : FixN n a b) (g : FixN k b c) (hn : n ≤ k) : FixN n a c := ⟨g.1.trans h.1, fun j hj => (g.2 j (Nat.lt_of_lt_of_le hj hn)).trans (h.2 j hj)⟩
theorem Fix.n {ad ad' : YRo → Addr} (h : Fix ad ad') (n : Nat) : FixN n ad ad' := ⟨h.1, fun j _ => h.2 j⟩
def adN (ad : YRo → Addr) (n : Nat) (p d l : Addr) : YRo → Addr
  | .hd j => if j = n then p else ad (.hd j)
  | .hdD j => if j = n then d else ad (.hdD j)
  | .hdF j => if j = n then l else ad (.hdF j)
  | r => ad r
section
variable {m : TM} {ad : YRo → Addr} {H H' : Hp} {x : Str} {i j : Nat}
theorem hs_get (h : HM) (j : Nat) : (m.hs ++ [h])[j]? = if j = m.hs.length then some h else m.hs[j]? := by
  by_cases c : j = m.hs.length
  · rw [if_pos c, c, List.getElem?_append_right (Nat.le_refl _), Nat.sub_self]; rfl
  · rw [if_neg c]
    by_cases d : j < m.hs.length
    · rw [List.getElem?_append_left d]
    · rw [List.getElem?_eq_none (by rw [List.length_append, List.length_singleton]; omega), List.getElem?_eq_none (by omega)]
theorem _root_.RR.Rep.newHd (R : YR K m ad H) (O : m.Ok) {h : HM} (hsv : h.sv = []) {p d l : Addr} (hp : H p = none) (hl : H l = none) (npl : p ≠ l) (kp : ∀ b o, b ≠ ad .md → H b = some o → H' b = some o)
    (e1 : H' p = some (hdO K (adN ad m.hs.length p d l) m.hs.length h)) (e2 : H' l = some (.lst [])) (e3 : H' (ad .md) = some (.lst (((List.range m.hs.length).map fun j => V.ref (ad (.hd j))) ++ [.ref p]))) :
    YR K (m.addHd h) (adN ad m.hs.length p d l) H' ∧ YM K m ad H (m.addHd h) (adN ad m.hs.length p d l) H' := by
  have a1 : adN ad m.hs.length p d l (.hd m.hs.length) = p := if_pos rfl
  have a3 : adN ad m.hs.length p d l (.hdF m.hs.length) = l := if_pos rfl
  have kr : ∀ r o, r ≠ .md → Y K m ad r = some o → H' (ad r) = some o := fun r o h e => kp _ _ (fun z => h (R.inj _ _ _ _ e rfl z)) (R.at_ _ _ e)
  refine RS.rep_ext [.hd m.hs.length, .hdF m.hs.length] R (fun r o e => ?_) (fun r o e => ?_) (fun r hr r' hr' z => ?_) (fun b o hb e => kp b o (fun z => hb .md _ rfl z.symm) e)
  · cases r with
    | md =>
      cases e
      refine e3.trans (congrArg (fun z => some (HO.lst z)) ?_)
      show _ = (List.range (m.hs ++ [h]).length).map _
      rw [List.length_append, List.length_singleton, List.range_succ, List.map_append]
      congr 1
      · refine List.map_congr_left fun j hj => ?_
        have : j ≠ m.hs.length := Nat.ne_of_lt (List.mem_range.mp hj)
        show V.ref _ = V.ref (if j = m.hs.length then p else ad (.hd j))
        rw [if_neg this]
      · show _ = [V.ref (if m.hs.length = m.hs.length then p else _)]
        rw [if_pos rfl]
    | hd j =>
      have e : (m.hs ++ [h])[j]?.map (hdO K (adN ad m.hs.length p d l) j) = some o := e
      rw [hs_get] at e
      by_cases c : j = m.hs.length
      · rw [if_pos c] at e; cases e; rw [c, a1]; exact e1
      · rw [if_neg c] at e
        have ea : hdO K (adN ad m.hs.length p d l) j = hdO K ad j := by
          funext g
          show (if g.null = true then HO.ins (CN K) (if j = m.hs.length then d else ad (.hdD j)) (hdF (if j = m.hs.length then l else ad (.hdF j)) _ _ _) else HO.ins (CS K) (if j = m.hs.length then d else ad (.hdD j)) (hdS (if j = m.hs.length then l else ad (.hdF j)) _ _ _ _)) = _
          rw [if_neg c, if_neg c]; rfl
        rw [ea] at e
        have := kr (.hd j) o (fun z => nomatch z) e
        show H' (if j = m.hs.length then p else ad (.hd j)) = some o
        rw [if_neg c]; exact this
    | hdF j =>
      have e : (m.hs ++ [h])[j]?.map (fun h => HO.lst ((List.range h.sv.length).map fun k => .ref (ad (.hf j k)))) = some o := e
      rw [hs_get] at e
      by_cases c : j = m.hs.length
      · rw [if_pos c] at e; cases e
        rw [c, a3, e2]
        show _ = some (HO.lst ((List.range h.sv.length).map _))
        rw [hsv]; rfl
      · rw [if_neg c] at e
        have := kr (.hdF j) o (fun z => nomatch z) e
        show H' (if j = m.hs.length then l else ad (.hdF j)) = some o
        rw [if_neg c]; exact this
    | hf j k =>
      have e : ((m.hs ++ [h])[j]?.bind fun h => h.sv[k]?).map (fun n => HO.ins (CF K) (ad (.hfD j k)) [("name", .str n)]) = some o := e
      rw [hs_get] at e
      by_cases c : j = m.hs.length
      · rw [if_pos c] at e
        have e : (h.sv[k]?).map _ = some o := e
        rw [hsv] at e; cases e
      · rw [if_neg c] at e
        exact kr (.hf j k) o (fun z => nomatch z) e
    | y => exact kr .y o (fun z => nomatch z) e
    | st => exact kr .st o (fun z => nomatch z) e
    | fi => exact kr .fi o (fun z => nomatch z) e
    | na => exact kr .na o (fun z => nomatch z) e
    | nu => exact kr .nu o (fun z => nomatch z) e
    | lm => exact kr .lm o (fun z => nomatch z) e
    | hn => exact kr .hn o (fun z => nomatch z) e
    | fr => exact kr .fr o (fun z => nomatch z) e
    | lr => exact kr .lr o (fun z => nomatch z) e
    | lrF => exact kr .lrF o (fun z => nomatch z) e
    | lg x => exact kr (.lg x) o (fun z => nomatch z) e
    | lgF x => exact kr (.lgF x) o (fun z => nomatch z) e
    | lgH x =>
      obtain ⟨hx, e⟩ := ite_some (n := m.all) e
      refine kr (.lgH x) o (fun z => nomatch z) ((Y_lgH hx).trans ?_)
      rw [← e]
      congr 2
      refine List.map_congr_left fun j hj => ?_
      show V.ref _ = V.ref (if j = m.hs.length then p else ad (.hd j))
      rw [if_neg (Nat.ne_of_lt (O.hj x hx j hj))]
    | lf x k => exact kr (.lf x k) o (fun z => nomatch z) e
    | ft k => exact kr (.ft k) o (fun z => nomatch z) e
    | yD => cases e
    | lrD => cases e
    | lgD x => cases e
    | lfD x k => cases e
    | hdD j => cases e
    | hfD j k => cases e
  · cases r with
    | hd j =>
      have e : (m.hs ++ [h])[j]?.map _ = some o := e
      rw [hs_get] at e
      by_cases c : j = m.hs.length
      · exact .inr ⟨by rw [c]; exact List.mem_cons_self, by rw [c, a1]; exact hp⟩
      · rw [if_neg c] at e
        obtain ⟨g, hg, _⟩ := Option.map_eq_some_iff.mp e
        exact .inl ⟨⟨_, by show m.hs[j]?.map _ = _; rw [hg]; rfl⟩, if_neg c⟩
    | hdF j =>
      have e : (m.hs ++ [h])[j]?.map _ = some o := e
      rw [hs_get] at e
      by_cases c : j = m.hs.length
      · exact .inr ⟨by rw [c]; exact List.mem_cons_of_mem _ List.mem_cons_self, by rw [c, a3]; exact hl⟩
      · rw [if_neg c] at e
        obtain ⟨g, hg, _⟩ := Option.map_eq_some_iff.mp e
        exact .inl ⟨⟨_, by show m.hs[j]?.map _ = _; rw [hg]; rfl⟩, if_neg c⟩
    | hf j k =>
      have e : ((m.hs ++ [h])[j]?.bind fun h => h.sv[k]?).map (fun n => HO.ins (CF K) (ad (.hfD j k)) [("name", .str n)]) = some o := e
      rw [hs_get] at e
      by_cases c : j = m.hs.length
      · rw [if_pos c] at e
        have e : (h.sv[k]?).map _ = some o := e
        rw [hsv] at e; cases e
      · rw [if_neg c] at e
        exact .inl ⟨⟨o, e⟩, rfl⟩
    | md => exact .inl ⟨⟨_, rfl⟩, rfl⟩
    | y => exact .inl ⟨⟨_, rfl⟩, rfl⟩
    | st => exact .inl ⟨⟨_, rfl⟩, rfl⟩
    | fi => exact .inl ⟨⟨_, rfl⟩, rfl⟩
    | na => exact .inl ⟨⟨_, rfl⟩, rfl⟩
    | nu => exact .inl ⟨⟨_, rfl⟩, rfl⟩
    | lm => exact .inl ⟨⟨_, rfl⟩, rfl⟩
    | hn => exact .inl ⟨⟨_, rfl⟩, rfl⟩
    | fr => exact .inl ⟨⟨_, rfl⟩, rfl⟩
    | lr => exact .inl ⟨⟨_, rfl⟩, rfl⟩
    | lrF => exact .inl ⟨⟨_, rfl⟩, rfl⟩
    | lg x => exact .inl ⟨⟨o, e⟩, rfl⟩
    | lgF x => exact .inl ⟨⟨o, e⟩, rfl⟩
    | lgH x => exact .inl ⟨⟨_, Y_lgH (ite_some (n := m.all) e).1⟩, rfl⟩
    | lf x k => exact .inl ⟨⟨o, e⟩, rfl⟩
    | ft k => exact .inl ⟨⟨o, e⟩, rfl⟩
    | yD => cases e
    | lrD => cases e
    | lgD x => cases e
    | lfD x k => cases e
    | hdD j => cases e
    | hfD j k => cases e
  · simp only [List.mem_cons, List.not_mem_nil, or_false] at hr hr'
    rcases hr with rfl | rfl <;> rcases hr' with rfl | rfl
    · rfl
    · rw [a1, a3] at z; exact absurd z npl
    · rw [a1, a3] at z; exact absurd z.symm npl
    · rfl
theorem adN_fix (ad : YRo → Addr) (n : Nat) (p d l : Addr) : FixN n ad (adN ad n p d l) := ⟨rfl, fun j hj => if_neg (Nat.ne_of_lt hj)⟩
theorem adN_at (ad : YRo → Addr) (n : Nat) (p d l : Addr) : adN ad n p d l (.hd n) = p := if_pos rfl
theorem md_ne (R : YR K m ad H) {p : Addr} (hp : H p = none) : p ≠ ad .md := fun z => by have := R.md_; rw [← z, hp] at this; cases this
/-- a StreamHandler is made -/
theorem _root_.RR.Rep.mkS (R : YR K m ad H) (O : m.Ok) {p d : Addr} {st : Str} (hp : H p = none) (hd : H d = none) (npd : p ≠ d) {Q : VK}
    (q : ∀ ad' H', YR K (m.addHd ⟨false, st, 0, [], "\n"⟩) ad' H' → YM K m ad H (m.addHd ⟨false, st, 0, [], "\n"⟩) ad' H' → FixN m.hs.length ad ad' → ad' (.hd m.hs.length) = p → Q .non H') : spStreamInit K [.ref p, .ref (ad .y), .str st] (upd (upd H d (.own p)) p (.ins (CS K) d [])) Q E0 := by
  have s1 : Same H (upd (upd H d (.own p)) p (.ins (CS K) d [])) := fun b o e => by rw [upd_ne (ne_of_none e hp), upd_ne (ne_of_none e hd)]; exact e
  refine ⟨p, d, ad .y, ad .yD, ad .md, st, yFm m ad, _, rfl, upd_same, RW.ne_new' hp R.y_, s1 _ _ R.y_, rfl, rfl, s1 _ _ R.md_, by rw [List.length_map, List.length_range]; have := O.nh; omega, fun H' l kp hl e1 e2 e3 => ?_⟩
  have hl0 : H l = none := s1.free hl
  have npl : p ≠ l := fun z => by rw [← z, upd_same] at hl; cases hl
  obtain ⟨R', M'⟩ := R.newHd (K := K) O (h := ⟨false, st, 0, [], "\n"⟩) (p := p) (d := d) (l := l) rfl hp hl0 npl (fun b o hb e => kp b o (ne_of_none e hp) hb (s1 _ _ e)) (by
    rw [e1]
    show _ = some (HO.ins (CS K) (if m.hs.length = m.hs.length then d else _) (hdS (if m.hs.length = m.hs.length then l else _) _ _ _ _))
    rw [if_pos rfl, if_pos rfl]; rfl) e2 e3
  exact q _ H' R' M' (adN_fix _ _ _ _ _) (adN_at _ _ _ _ _)
theorem set_get {hs : List HM} {h h' : HM} (hj : hs[j]? = some h) (i : Nat) : (hs.set j h')[i]? = if i = j then some h' else hs[i]? := by
  have hl := (List.getElem?_eq_some_iff.mp hj).1
  by_cases c : i = j
  · rw [if_pos c, c, List.getElem?_set_self hl]
  · rw [if_neg c, List.getElem?_set_ne (Ne.symm c)]
/-- a handler's own fields are set -/
theorem _root_.RR.Rep.setHd (R : YR K m ad H) {h h' : HM} (hj : m.hs[j]? = some h) (hsv : h'.sv = h.sv) : YR K (m.setH j h') ad (upd H (ad (.hd j)) (hdO K ad j h')) ∧ YM K m ad H (m.setH j h') ad (upd H (ad (.hd j)) (hdO K ad j h')) := by
  have em : Y K m ad (.hd j) = some (hdO K ad j h) := by show m.hs[j]?.map _ = _; rw [hj]; rfl
  have ln : (m.hs.set j h').length = m.hs.length := List.length_set
  refine RR.Rep.set R (.hd j) em ?_ fun r hr => ?_
  · show (m.hs.set j h')[j]?.map _ = _
    rw [set_get hj, if_pos rfl]; rfl
  · cases r with
    | hd i =>
      have c : i ≠ j := fun z => hr (by rw [z])
      show (m.hs.set j h')[i]?.map _ = m.hs[i]?.map _
      rw [set_get hj, if_neg c]
    | hdF i =>
      show (m.hs.set j h')[i]?.map _ = m.hs[i]?.map _
      rw [set_get hj]
      by_cases c : i = j
      · subst c; rw [if_pos rfl, hj]
        show some (HO.lst ((List.range h'.sv.length).map _)) = some (HO.lst ((List.range h.sv.length).map _))
        rw [hsv]
      · rw [if_neg c]
    | hf i k =>
      show ((m.hs.set j h')[i]?.bind _).map _ = (m.hs[i]?.bind _).map _
      rw [set_get hj]
      by_cases c : i = j
      · subst c; rw [if_pos rfl, hj]
        show (h'.sv[k]?).map _ = (h.sv[k]?).map _
        rw [hsv]
      · rw [if_neg c]
    | md =>
      show some (HO.lst ((List.range (m.hs.set j h').length).map _)) = some (HO.lst ((List.range m.hs.length).map _))
      rw [ln]
    | _ => rfl
def adF (ad : YRo → Addr) (j k : Nat) (q dq : Addr) : YRo → Addr
  | .hf i n => if i = j ∧ n = k then q else ad (.hf i n)
  | .hfD i n => if i = j ∧ n = k then dq else ad (.hfD i n)
  | r => ad r
theorem sv_get (sv : List Str) (n : Str) (k : Nat) : (sv ++ [n])[k]? = if k = sv.length then some n else sv[k]? := by
  by_cases c : k = sv.length
  · rw [if_pos c, c, List.getElem?_append_right (Nat.le_refl _), Nat.sub_self]; rfl
  · rw [if_neg c]
    by_cases d : k < sv.length
    · rw [List.getElem?_append_left d]
    · rw [List.getElem?_eq_none (by rw [List.length_append, List.length_singleton]; omega), List.getElem?_eq_none (by omega)]
/-- a Filter is put on a handler -/
theorem _root_.RR.Rep.addFl (R : YR K m ad H) {h : HM} (hj : m.hs[j]? = some h) {q dq : Addr} {n : Str} (hq : H q = none) (hdq : H dq = none) (nqd : q ≠ dq) :
    YR K (m.setH j { h with sv := h.sv ++ [n] }) (adF ad j h.sv.length q dq) (upd (upd (upd H dq (.own q)) q (.ins (CF K) dq [("name", .str n)])) (ad (.hdF j)) (.lst (((List.range h.sv.length).map fun k => .ref (ad (.hf j k))) ++ [.ref q]))) ∧
    YM K m ad H (m.setH j { h with sv := h.sv ++ [n] }) (adF ad j h.sv.length q dq) (upd (upd (upd H dq (.own q)) q (.ins (CF K) dq [("name", .str n)])) (ad (.hdF j)) (.lst (((List.range h.sv.length).map fun k => .ref (ad (.hf j k))) ++ [.ref q]))) := by
  have ln : (m.hs.set j { h with sv := h.sv ++ [n] }).length = m.hs.length := List.length_set
  have ef : Y K m ad (.hdF j) = some (.lst ((List.range h.sv.length).map fun k => .ref (ad (.hf j k)))) := by show m.hs[j]?.map _ = _; rw [hj]; rfl
  have gf := R.at_ _ _ ef
  have nq : q ≠ ad (.hdF j) := fun z => by rw [← z, hq] at gf; cases gf
  have ndq : dq ≠ ad (.hdF j) := fun z => by rw [← z, hdq] at gf; cases gf
  have kp : ∀ b o, b ≠ ad (.hdF j) → H b = some o → (upd (upd (upd H dq (.own q)) q (.ins (CF K) dq [("name", .str n)])) (ad (.hdF j)) (.lst (((List.range h.sv.length).map fun k => .ref (ad (.hf j k))) ++ [.ref q]))) b = some o := fun b o hb e => by
    rw [upd_ne hb, upd_ne (ne_of_none e hq), upd_ne (ne_of_none e hdq)]; exact e
  have kr : ∀ r o, r ≠ .hdF j → Y K m ad r = some o → _ := fun r o h e => kp (ad r) o (fun z => h (R.inj _ _ _ _ e ef z)) (R.at_ _ _ e)
  have g1 : (upd (upd (upd H dq (.own q)) q (.ins (CF K) dq [("name", .str n)])) (ad (.hdF j)) (.lst (((List.range h.sv.length).map fun k => .ref (ad (.hf j k))) ++ [.ref q]))) (ad (.hdF j)) = _ := upd_same
  have g2 : (upd (upd (upd H dq (.own q)) q (.ins (CF K) dq [("name", .str n)])) (ad (.hdF j)) (.lst (((List.range h.sv.length).map fun k => .ref (ad (.hf j k))) ++ [.ref q]))) q = some (.ins (CF K) dq [("name", .str n)]) := by rw [upd_ne nq, upd_same]
  generalize (upd (upd (upd H dq (.own q)) q (.ins (CF K) dq [("name", .str n)])) (ad (.hdF j)) (.lst (((List.range h.sv.length).map fun k => .ref (ad (.hf j k))) ++ [.ref q]))) = H2 at kp kr g1 g2
  refine RS.rep_ext [.hf j h.sv.length] R (fun r o e => ?_) (fun r o e => ?_) (fun r hr r' hr' z => ?_) (fun b o hb e => kp b o (fun z => hb _ _ ef z.symm) e)
  · cases r with
    | md =>
      have e : some (HO.lst ((List.range (m.hs.set j { h with sv := h.sv ++ [n] }).length).map fun j => .ref (ad (.hd j)))) = some o := e
      rw [ln] at e
      exact kr .md o (fun z => nomatch z) e
    | hd i =>
      have e : (m.hs.set j { h with sv := h.sv ++ [n] })[i]?.map (hdO K ad i) = some o := e
      rw [set_get hj] at e
      by_cases c : i = j
      · subst c
        rw [if_pos rfl] at e
        exact kr (.hd i) o (fun z => nomatch z) (by show m.hs[i]?.map _ = _; rw [hj]; exact e)
      · rw [if_neg c] at e
        exact kr (.hd i) o (fun z => nomatch z) e
    | hdF i =>
      have e : (m.hs.set j { h with sv := h.sv ++ [n] })[i]?.map (fun h' => HO.lst ((List.range h'.sv.length).map fun k => .ref (adF ad j h.sv.length q dq (.hf i k)))) = some o := e
      rw [set_get hj] at e
      by_cases c : i = j
      · subst c
        rw [if_pos rfl] at e
        cases e
        refine g1.trans (congrArg (fun z => some (HO.lst z)) ?_)
        show _ = (List.range (h.sv ++ [n]).length).map _
        rw [List.length_append, List.length_singleton, List.range_succ, List.map_append]
        congr 1
        · refine List.map_congr_left fun k hk => ?_
          have : k ≠ h.sv.length := Nat.ne_of_lt (List.mem_range.mp hk)
          show V.ref _ = V.ref (if i = i ∧ k = h.sv.length then q else ad (.hf i k))
          rw [if_neg (fun z => this z.2)]
        · show _ = [V.ref (if i = i ∧ h.sv.length = h.sv.length then q else _)]
          rw [if_pos ⟨rfl, rfl⟩]
      · rw [if_neg c] at e
        refine kr (.hdF i) o (fun z => c (YRo.hdF.inj z)) ?_
        show m.hs[i]?.map _ = some o
        obtain ⟨g, hg, rfl⟩ := Option.map_eq_some_iff.mp e
        rw [hg]
        show some (HO.lst _) = some (HO.lst _)
        congr 2
        refine List.map_congr_left fun k _ => ?_
        show V.ref _ = V.ref (if i = j ∧ k = h.sv.length then q else ad (.hf i k))
        rw [if_neg (fun z => c z.1)]
    | hf i k =>
      have e : ((m.hs.set j { h with sv := h.sv ++ [n] })[i]?.bind fun h' => h'.sv[k]?).map (fun n' => HO.ins (CF K) (if i = j ∧ k = h.sv.length then dq else ad (.hfD i k)) [("name", .str n')]) = some o := e
      rw [set_get hj] at e
      show H2 (if i = j ∧ k = h.sv.length then q else ad (.hf i k)) = some o
      by_cases c : i = j
      · subst c
        rw [if_pos rfl] at e
        have e : ((h.sv ++ [n])[k]?).map (fun n' => HO.ins (CF K) (if i = i ∧ k = h.sv.length then dq else ad (.hfD i k)) [("name", .str n')]) = some o := e
        rw [sv_get] at e
        by_cases d : k = h.sv.length
        · rw [if_pos d, if_pos ⟨rfl, d⟩] at e
          rw [if_pos ⟨rfl, d⟩, g2]; exact e
        · rw [if_neg d, if_neg (fun z => d z.2)] at e
          rw [if_neg (fun z => d z.2)]
          exact kr (.hf i k) o (fun z => nomatch z) (by show (m.hs[i]?.bind _).map _ = _; rw [hj]; exact e)
      · rw [if_neg c, if_neg (fun z => c z.1)] at e
        rw [if_neg (fun z => c z.1)]
        exact kr (.hf i k) o (fun z => nomatch z) e
    | y => exact kr .y o (fun z => nomatch z) e
    | st => exact kr .st o (fun z => nomatch z) e
    | fi => exact kr .fi o (fun z => nomatch z) e
    | na => exact kr .na o (fun z => nomatch z) e
    | nu => exact kr .nu o (fun z => nomatch z) e
    | lm => exact kr .lm o (fun z => nomatch z) e
    | hn => exact kr .hn o (fun z => nomatch z) e
    | fr => exact kr .fr o (fun z => nomatch z) e
    | lr => exact kr .lr o (fun z => nomatch z) e
    | lrF => exact kr .lrF o (fun z => nomatch z) e
    | lg x => exact kr (.lg x) o (fun z => nomatch z) e
    | lgF x => exact kr (.lgF x) o (fun z => nomatch z) e
    | lgH x => exact kr (.lgH x) o (fun z => nomatch z) e
    | lf x k => exact kr (.lf x k) o (fun z => nomatch z) e
    | ft k => exact kr (.ft k) o (fun z => nomatch z) e
    | yD => cases e
    | lrD => cases e
    | lgD x => cases e
    | lfD x k => cases e
    | hdD j => cases e
    | hfD j k => cases e
  · cases r with
    | hd i =>
      have e : (m.hs.set j { h with sv := h.sv ++ [n] })[i]?.map _ = some o := e
      rw [set_get hj] at e
      by_cases c : i = j
      · exact .inl ⟨⟨_, by show m.hs[i]?.map _ = _; rw [c, hj]; rfl⟩, rfl⟩
      · rw [if_neg c] at e
        exact .inl ⟨⟨o, e⟩, rfl⟩
    | hdF i =>
      have e : (m.hs.set j { h with sv := h.sv ++ [n] })[i]?.map _ = some o := e
      rw [set_get hj] at e
      by_cases c : i = j
      · exact .inl ⟨⟨_, by rw [c]; exact ef⟩, rfl⟩
      · rw [if_neg c] at e
        obtain ⟨g, hg, _⟩ := Option.map_eq_some_iff.mp e
        exact .inl ⟨⟨_, by show m.hs[i]?.map _ = _; rw [hg]; rfl⟩, rfl⟩
    | hf i k =>
      have e : ((m.hs.set j { h with sv := h.sv ++ [n] })[i]?.bind fun h' => h'.sv[k]?).map (fun n' => HO.ins (CF K) (if i = j ∧ k = h.sv.length then dq else ad (.hfD i k)) [("name", .str n')]) = some o := e
      rw [set_get hj] at e
      by_cases c : i = j ∧ k = h.sv.length
      · exact .inr ⟨by rw [c.1, c.2]; exact List.mem_cons_self, by show H (if i = j ∧ k = h.sv.length then q else _) = none; rw [if_pos c]; exact hq⟩
      · refine .inl ⟨?_, if_neg c⟩
        rw [if_neg c] at e
        by_cases d : i = j
        · subst d
          rw [if_pos rfl] at e
          have e : ((h.sv ++ [n])[k]?).map (fun n' => HO.ins (CF K) (ad (.hfD i k)) [("name", .str n')]) = some o := e
          rw [sv_get, if_neg (fun z => c ⟨rfl, z⟩)] at e
          exact ⟨o, by show (m.hs[i]?.bind _).map _ = _; rw [hj]; exact e⟩
        · rw [if_neg d] at e
          exact ⟨o, e⟩
    | md => exact .inl ⟨⟨_, rfl⟩, rfl⟩
    | y => exact .inl ⟨⟨_, rfl⟩, rfl⟩
    | st => exact .inl ⟨⟨_, rfl⟩, rfl⟩
    | fi => exact .inl ⟨⟨_, rfl⟩, rfl⟩
    | na => exact .inl ⟨⟨_, rfl⟩, rfl⟩
    | nu => exact .inl ⟨⟨_, rfl⟩, rfl⟩
    | lm => exact .inl ⟨⟨_, rfl⟩, rfl⟩
    | hn => exact .inl ⟨⟨_, rfl⟩, rfl⟩
    | fr => exact .inl ⟨⟨_, rfl⟩, rfl⟩
    | lr => exact .inl ⟨⟨_, rfl⟩, rfl⟩
    | lrF => exact .inl ⟨⟨_, rfl⟩, rfl⟩
    | lg x => exact .inl ⟨⟨o, e⟩, rfl⟩
    | lgF x => exact .inl ⟨⟨o, e⟩, rfl⟩
    | lgH x => exact .inl ⟨⟨o, e⟩, rfl⟩
    | lf x k => exact .inl ⟨⟨o, e⟩, rfl⟩
    | ft k => exact .inl ⟨⟨o, e⟩, rfl⟩
    | yD => cases e
    | lrD => cases e
    | lgD x => cases e
    | lfD x k => cases e
    | hdD j => cases e
    | hfD j k => cases e
  · rw [List.mem_singleton.mp hr, List.mem_singleton.mp hr']
end
end
end K17

set_option Elab.async false
set_option linter.all false
set_option maxRecDepth 100000
set_option maxHeartbeats 0

namespace K17
open PySem PySem.Spec PyProof.Rows L2 RC
section
variable {P : Program} {w : World} {K : PySem.W.Frag} {mg : Str → Option Value} {base : Heap}
/-! ### the fields of handlers, Filters put on them -/
def spHSetLevel (K : PySem.W.Frag) : Sp := fun vs H Q _ => ∃ (a d fl y dy nu : Addr) (lv r : Int) (tm st : Str) (fs : List (Str × V)) (nums : List (Key × V)) (v : LvIn), vs = [.ref a, v.v] ∧ H a = some (.ins (CS K) d (hdS fl y lv tm st)) ∧ H y = some (.ins (CY K) dy fs) ∧ fs.lookup ("level_of" : Str) = none ∧ fs.lookup ("numbers_of" : Str) = some (.ref nu) ∧ H nu = some (.dK nums) ∧ lvNum nums v = some (.int r) ∧
  Q .non (upd H a (.ins (CS K) d (hdS fl y r tm st)))
theorem ok_hset_level {f : Addr} (T : Txt P w K mg) (F : Stands K "setLevel" "Handler.setLevel" s_Handler_setLevel [] f) (c_Yard_level_of : Callable P w K mg base 2 (He.ma K (He.ga K "Yard") "level_of") ["self", "level"] [] (spLevelOf K)) : Callable P w K mg base 3 f ["self", "level"] [] (spHSetLevel K) := by
  refine F.call0 sc_Handler_setLevel (fun vs H Q E h => ?_) (fun cdv A outer s H vs Q E hr h => ?_) (fun _ _ _ _ _ _ us hl => match us, hl with | [_, _], _ => rfl)
  · obtain ⟨a, d, fl, y, dy, nu, lv, r, tm, st, fs, nums, v, rfl, _⟩ := h; rfl
  obtain ⟨a, d, fl, y, dy, nu, lv, r, tm, st, fs, nums, v, rfl, ha, hy, hlo, hnu, hnums, hv, hQ⟩ := h
  refine ⟨_, (pss_one (ps_fld (pv 0) (pe_mt T.c_Yard T.m_Yard_level_of c_Yard_level_of (hr.mono (by first | decide | exact Nat.le_refl _)) (pe_fld (pv 0) rfl) (pa_cons (pv 1) pa_nil)) rfl)), ?_⟩
  walk_at "in"
  walk_at "go"
  exact hQ
def spSetTerm (K : PySem.W.Frag) : Sp := fun vs H Q _ => ∃ (a d fl y : Addr) (lv : Int) (tm tm' st : Str), vs = [.ref a, .str tm'] ∧ H a = some (.ins (CS K) d (hdS fl y lv tm st)) ∧ Q .non (upd H a (.ins (CS K) d (hdS fl y lv tm' st)))
theorem ok_set_term {f : Addr} (T : Txt P w K mg) (F : Stands K "setTerminator" "Handler.setTerminator" s_Handler_setTerminator [] f) : Callable P w K mg base 1 f ["self", "text"] [] (spSetTerm K) := by
  refine F.call0 sc_Handler_setTerminator (fun vs H Q E h => ?_) (fun cdv A outer s H vs Q E hr h => ?_) (fun _ _ _ _ _ _ us hl => match us, hl with | [_, _], _ => rfl)
  · obtain ⟨a, d, fl, y, lv, tm, tm', st, rfl, _⟩ := h; rfl
  obtain ⟨a, d, fl, y, lv, tm, tm', st, rfl, ha, hQ⟩ := h
  refine ⟨_, (pss_one (ps_fld (pv 0) (pv 1) rfl)), ?_⟩
  walk_at "in"
  walk_at "go"
  exact hQ
section
variable {m : TM} {ad : YRo → Addr} {H H' : Hp} {x : Str} {i j : Nat}
theorem hdO_s {h : HM} (hn : h.null = false) : hdO K ad j h = .ins (CS K) (ad (.hdD j)) (hdS (ad (.hdF j)) (ad .y) h.lv h.tm h.st) := by unfold hdO; rw [hn, if_neg (fun z => nomatch z)]
/-- a Filter comes to a StreamHandler -/
theorem _root_.RR.Rep.putFl (T : Txt P w K mg) (R : YR K m ad H) (O : m.Ok) {h : HM} (hj : m.hs[j]? = some h) (hn : h.null = false) {q dq : Addr} {n : Str} (hq : H q = none) (hdq : H dq = none) (nqd : q ≠ dq) {Q : VK}
    (k : ∀ H', YR K (m.setH j { h with sv := h.sv ++ [n] }) (adF ad j h.sv.length q dq) H' → YM K m ad H (m.setH j { h with sv := h.sv ++ [n] }) (adF ad j h.sv.length q dq) H' → Q .non H') :
    spAddFilter K [.ref (ad (.hd j)), .ref q] (upd (upd H dq (.own q)) q (.ins (CF K) dq [("name", .str n)])) Q E0 := by
  have g := R.hd_ hj
  rw [hdO_s hn] at g
  have gF := R.hdF_ hj
  have o := O.hsv h (List.mem_of_getElem? hj)
  have s1 : Same H (upd (upd H dq (.own q)) q (.ins (CF K) dq [("name", .str n)])) := fun b o e => by rw [upd_ne (ne_of_none e hq), upd_ne (ne_of_none e hdq)]; exact e
  have em : (List.range h.sv.length).map (fun k => V.ref (ad (.hf j k))) = ((List.range h.sv.length).map fun k => ad (.hf j k)).map V.ref := by rw [List.map_map]; rfl
  rw [em] at gF
  have hF : HasF K (upd (upd H dq (.own q)) q (.ins (CF K) dq [("name", .str n)])) (ad (.hd j)) (CS K) (ad (.hdD j)) (ad (.hdF j)) (hdS (ad (.hdF j)) (ad .y) h.lv h.tm h.st) ((List.range h.sv.length).map fun k => ad (.hf j k)) :=
    ⟨s1 _ _ g, T.c_StreamHandler, T.n_StreamHandler_filters, rfl, s1 _ _ gF, by rw [List.length_map, List.length_range]; omega, by show 8 < 100; decide⟩
  have hnin : q ∉ (List.range h.sv.length).map fun k => ad (.hf j k) := fun z => by
    obtain ⟨k, hk, e⟩ := List.mem_map.mp z
    have hk := List.mem_range.mp hk
    have := R.hf_ hj (List.getElem?_eq_getElem hk)
    rw [e, hq] at this; cases this
  refine ⟨ad (.hd j), CS K, ad (.hdD j), ad (.hdF j), q, _, _, rfl, hF, fun b hb => ?_, ?_⟩
  · rcases List.mem_cons.mp hb with rfl | hb
    · exact ⟨_, _, upd_same⟩
    · obtain ⟨k, hk, rfl⟩ := List.mem_map.mp hb
      have hk := List.mem_range.mp hk
      exact ⟨_, _, s1 _ _ (R.hf_ hj (List.getElem?_eq_getElem hk))⟩
  · rw [if_neg hnin]
    obtain ⟨R', M'⟩ := R.addFl hj (n := n) hq hdq nqd
    rw [List.map_append, ← em]
    exact k _ R' M'
end
/-! ### the law's own keeps a handler -/
abbrev cY (K : PySem.W.Frag) (m : TM) (ad : YRo → Addr) : RS.Comp := ⟨YRo, Y K m ad, ad⟩
abbrev cL (m : TM) (bd : LRo → Addr) : RS.Comp := ⟨LRo, LM m bd, bd⟩
def phi (n : Nat) : LRo → Sum LRo Unit
  | .hs j => if j = n then .inr () else .inl (.hs j)
  | r => .inl r
def psi (n : Nat) : Sum LRo Unit → LRo
  | .inl r => r
  | .inr _ => .hs n
theorem psi_phi (n : Nat) (r : LRo) : psi n (phi n r) = r := by
  cases r with
  | hs j =>
    show psi n (if j = n then Sum.inr () else Sum.inl (.hs j)) = _
    by_cases c : j = n
    · rw [if_pos c, c]; rfl
    · rw [if_neg c]; rfl
  | _ => rfl
theorem lr_addHd {H : Hp} {s l p q : Addr} {n : Nat} {m : TM} {bd : LRo → Addr} {cs : List RS.Comp} {h : HM} (O : m.Ok) (W : RS.Wd H s l n (cL m bd :: RS.cell p (.lst ((lawH h).2.2.1.map V.str)) :: cs)) (hq : H q = none) :
    RS.Wd (upd (upd H q (.tup [.str (lawH h).1, .int (lawH h).2.1, .ref p, .str (lawH h).2.2.2])) (bd .h) (.lst (((List.range m.hs.length).map fun j => V.ref (bd (.ht j))) ++ [.ref q]))) s l n (cL (m.addHd h) (bdN bd m.hs.length p q) :: cs) := by
  have L : LR m bd H := W.hd
  have hp := W.tl.c0
  have dj := W.dj
  have npr : ∀ r o, LM m bd r = some o → bd r ≠ p := fun r o e z => dj () _ rfl r o e z
  have nq : q ≠ bd .h := fun z => by have := lr_h L; rw [← z, hq] at this; cases this
  have nqp : q ≠ p := fun z => by rw [z, hp] at hq; cases hq
  have J := W.join
  have a1 : bdN bd m.hs.length p q (.hs m.hs.length) = p := if_pos rfl
  have a2 : bdN bd m.hs.length p q (.ht m.hs.length) = q := if_pos rfl
  have kp : ∀ b o, b ≠ bd .h → H b = some o → upd (upd H q (.tup [.str (lawH h).1, .int (lawH h).2.1, .ref p, .str (lawH h).2.2.2])) (bd .h) (.lst (((List.range m.hs.length).map fun j => V.ref (bd (.ht j))) ++ [.ref q])) b = some o := fun b o hb e => by
    rw [upd_ne hb, upd_ne (ne_of_none e hq)]; exact e
  have g1 : upd (upd H q (.tup [.str (lawH h).1, .int (lawH h).2.1, .ref p, .str (lawH h).2.2.2])) (bd .h) (.lst (((List.range m.hs.length).map fun j => V.ref (bd (.ht j))) ++ [.ref q])) (bd .h) = _ := upd_same
  have g2 : upd (upd H q (.tup [.str (lawH h).1, .int (lawH h).2.1, .ref p, .str (lawH h).2.2.2])) (bd .h) (.lst (((List.range m.hs.length).map fun j => V.ref (bd (.ht j))) ++ [.ref q])) q = some (.tup [.str (lawH h).1, .int (lawH h).2.1, .ref p, .str (lawH h).2.2.2]) := by rw [upd_ne nq, upd_same]
  have kr : ∀ r o, r ≠ .h → LM m bd r = some o → _ := fun r o hr e => kp (bd r) o (fun z => hr (L.inj _ _ _ _ e rfl z)) (L.at_ _ _ e)
  have gp := kp p _ (fun z => npr .h _ rfl z.symm) hp
  generalize upd (upd H q (.tup [.str (lawH h).1, .int (lawH h).2.1, .ref p, .str (lawH h).2.2.2])) (bd .h) (.lst (((List.range m.hs.length).map fun j => V.ref (bd (.ht j))) ++ [.ref q])) = H2 at kp g1 g2 kr gp
  have main := RS.rep_extS (M' := LM (m.addHd h) (bdN bd m.hs.length p q)) (ad' := bdN bd m.hs.length p q) (H' := H2) (phi m.hs.length) (fun r r' z => by rw [← psi_phi m.hs.length r, z, psi_phi]) [.ht m.hs.length] J.hd (fun r o e => ?_) (fun r o e => ?_) (fun r hr r' hr' z => ?_) (fun b o hb e => ?_)
  · exact J.mv (c' := cL (m.addHd h) (bdN bd m.hs.length p q)) main.1 main.2
  · cases r with
    | m => exact kr .m o (fun z => nomatch z) e
    | lv => exact kr .lv o (fun z => nomatch z) e
    | pr => exact kr .pr o (fun z => nomatch z) e
    | of => exact kr .of o (fun z => nomatch z) e
    | hd => exact kr .hd o (fun z => nomatch z) e
    | sv => exact kr .sv o (fun z => nomatch z) e
    | tx => exact kr .tx o (fun z => nomatch z) e
    | hl x => exact kr (.hl x) o (fun z => nomatch z) e
    | sl x => exact kr (.sl x) o (fun z => nomatch z) e
    | h =>
      cases e
      refine g1.trans (congrArg (fun z => some (HO.lst z)) ?_)
      show _ = (List.range (m.hs ++ [h]).length).map _
      rw [List.length_append, List.length_singleton, List.range_succ, List.map_append]
      congr 1
      · refine List.map_congr_left fun j hj => ?_
        have : j ≠ m.hs.length := Nat.ne_of_lt (List.mem_range.mp hj)
        show V.ref _ = V.ref (if j = m.hs.length then q else bd (.ht j))
        rw [if_neg this]
      · show _ = [V.ref (if m.hs.length = m.hs.length then q else _)]
        rw [if_pos rfl]
    | ht j =>
      have e : (m.hs ++ [h])[j]?.map (htO (bdN bd m.hs.length p q) j) = some o := e
      rw [hs_get] at e
      by_cases c : j = m.hs.length
      · rw [if_pos c] at e; cases e
        rw [c, a2, g2]
        show _ = some (HO.tup [_, _, .ref (if m.hs.length = m.hs.length then p else _), _])
        rw [if_pos rfl]
      · rw [if_neg c] at e
        have ea : htO (bdN bd m.hs.length p q) j = htO bd j := by
          funext g
          show HO.tup [_, _, .ref (if j = m.hs.length then p else bd (.hs j)), _] = _
          rw [if_neg c]; rfl
        rw [ea] at e
        have := kr (.ht j) o (fun z => nomatch z) e
        show H2 (if j = m.hs.length then q else bd (.ht j)) = some o
        rw [if_neg c]; exact this
    | hs j =>
      have e : (m.hs ++ [h])[j]?.map (fun h => HO.lst ((lawH h).2.2.1.map V.str)) = some o := e
      rw [hs_get] at e
      by_cases c : j = m.hs.length
      · rw [if_pos c] at e; cases e
        rw [c, a1]; exact gp
      · rw [if_neg c] at e
        have := kr (.hs j) o (fun z => nomatch z) e
        show H2 (if j = m.hs.length then p else bd (.hs j)) = some o
        rw [if_neg c]; exact this
  · cases r with
    | ht j =>
      have e : (m.hs ++ [h])[j]?.map _ = some o := e
      rw [hs_get] at e
      by_cases c : j = m.hs.length
      · exact .inr ⟨by rw [c]; exact List.mem_cons_self, by rw [c, a2]; exact hq⟩
      · rw [if_neg c] at e
        obtain ⟨g, hg, _⟩ := Option.map_eq_some_iff.mp e
        exact .inl ⟨⟨_, by show m.hs[j]?.map _ = _; rw [hg]; rfl⟩, if_neg c⟩
    | hs j =>
      have e : (m.hs ++ [h])[j]?.map _ = some o := e
      rw [hs_get] at e
      by_cases c : j = m.hs.length
      · have ef : phi m.hs.length (.hs j) = .inr () := if_pos c
        refine .inl ⟨⟨_, by rw [ef]; rfl⟩, ?_⟩
        rw [ef, c]; exact a1
      · rw [if_neg c] at e
        have ef : phi m.hs.length (.hs j) = .inl (.hs j) := if_neg c
        exact .inl ⟨⟨o, by rw [ef]; exact e⟩, by rw [ef]; exact if_neg c⟩
    | m => exact .inl ⟨⟨_, rfl⟩, rfl⟩
    | lv => exact .inl ⟨⟨_, rfl⟩, rfl⟩
    | pr => exact .inl ⟨⟨_, rfl⟩, rfl⟩
    | of => exact .inl ⟨⟨_, rfl⟩, rfl⟩
    | hd => exact .inl ⟨⟨_, rfl⟩, rfl⟩
    | sv => exact .inl ⟨⟨_, rfl⟩, rfl⟩
    | h => exact .inl ⟨⟨_, rfl⟩, rfl⟩
    | tx => exact .inl ⟨⟨_, rfl⟩, rfl⟩
    | hl x => exact .inl ⟨⟨o, e⟩, rfl⟩
    | sl x => exact .inl ⟨⟨o, e⟩, rfl⟩
  · rw [List.mem_singleton.mp hr, List.mem_singleton.mp hr']
  · exact kp b o (fun z => hb (.inl .h) _ rfl z.symm) e
end
end K17

set_option Elab.async false
set_option linter.all false
set_option maxRecDepth 100000
set_option maxHeartbeats 0

namespace K17
open PySem PySem.Spec PyProof.Rows L2 RC
section
variable {P : Program} {w : World} {K : PySem.W.Frag} {mg : Str → Option Value} {base : Heap}
/-! ### the law's handlers -/
theorem set_addHd (m : TM) (h h' : HM) (n : Nat) (e : n = m.hs.length) : (m.addHd h).setH n h' = m.addHd h' := by
  subst e
  unfold TM.addHd TM.setH
  show ({ m with hs := (m.hs ++ [h]).set m.hs.length h' } : TM) = _
  rw [List.set_append_right _ _ (Nat.le_refl _), Nat.sub_self]; rfl
theorem at_addHd (m : TM) (h : HM) (n : Nat) (e : n = m.hs.length) : (m.addHd h).hs[n]? = some h := by
  show (m.hs ++ [h])[n]? = _
  rw [hs_get, if_pos e]
def strs3 : List Str := ["one", "two", "stderr"]
/-- n handlers, each at one of the streams -/
structure HsP (m m' : TM) (n : Nat) : Prop where
  eq : m' = { m with hs := m'.hs }
  ln : m'.hs.length = n
  al : ∀ h ∈ m'.hs, h.null = false ∧ h.st ∈ strs3
def LawHs (K : PySem.W.Frag) (s l : Addr) (m : TM) (ad : YRo → Addr) (bd : LRo → Addr) (n : Nat) (D : Addr) (i : Nat) (H' : Hp) : Prop := ∃ (m' : TM) (ad' : YRo → Addr) (bd' : LRo → Addr) (n' : Nat), RS.Wd H' s l n' [cY K m' ad', cL m' bd', RS.cell D (.lst ((List.range i).map fun j => .ref (ad' (.hd j))))] ∧ m'.Ok ∧ HsP m m' i ∧ ad' .y = ad .y ∧ bd' .m = bd .m ∧ n' ≤ n + 10 * i
def spLawHs (K : PySem.W.Frag) : Sp := fun vs H Q _ => ∃ (s l : Addr) (n k : Nat) (m : TM) (ad : YRo → Addr) (bd : LRo → Addr), vs = [.ref s, .ref (ad .y), .ref (bd .m), .int (k : Nat)] ∧ RS.Wd H s l n [cY K m ad, cL m bd] ∧ m.Ok ∧ m.hs = [] ∧ k ≤ 9 ∧ n ≤ 100000 ∧ ∀ H' D, LawHs K s l m ad bd n D k H' → Q (.ref D) H'
theorem ok_law_hs {f : Addr} (T : Txt P w K mg) (F : Stands K "_law_handlers" "_law_handlers" s__law_handlers [] f)
    (c__law_draw : Callable P w K mg base 1 (He.ga K "_law_draw") ["_law_s", "_law_many"] [] spDraw)
    (c__law_pick : Callable P w K mg base 2 (He.ga K "_law_pick") ["_law_s", "_law_some"] [] (spPick K))
    (c_StreamHandler_init : Callable P w K mg base 3 (He.ma K (He.ga K "StreamHandler") "__init__") ["self", "yard", "stream"] [] (spStreamInit K))
    (c_StreamHandler_setLevel : Callable P w K mg base 3 (He.ma K (He.ga K "StreamHandler") "setLevel") ["self", "level"] [] (spHSetLevel K))
    (c_StreamHandler_setTerminator : Callable P w K mg base 1 (He.ma K (He.ga K "StreamHandler") "setTerminator") ["self", "text"] [] (spSetTerm K))
    (c_StreamHandler_addFilter : Callable P w K mg base 1 (He.ma K (He.ga K "StreamHandler") "addFilter") ["self", "one"] [] (spAddFilter K))
    (c_Filter_init : Callable P w K mg base 1 (He.ma K (He.ga K "Filter") "__init__") ["self", "name"] [] (spFilterInit (K := K))) :
    Callable P w K mg base 5 f ["_law_s", "_law_yard", "_law_m", "_law_many"] [] (spLawHs K) := by
  refine F.call0 sc__law_handlers (fun vs H Q E h => ?_) (fun cdv A outer s H vs Q E hr h => ?_) (fun _ _ _ _ _ _ us hl => match us, hl with | [_, _, _, _], _ => rfl)
  · obtain ⟨s, l, n, k, m, ad, bd, rfl, _⟩ := h; rfl
  obtain ⟨s, l, n, k, m, ad, bd, rfl, W, O, h0, hk, hn, hQ⟩ := h
  refine ⟨_, (pss_cons (ps_set (i := 4) sc__law_handlers.nd rfl (by first | exact Or.inl rfl | exact Or.inr rfl) (pe_lst pa_nil))
      (pss_cons (ps_for PassesOwn.never rfl (pi_range1 (by rfl) T.b_range (pa_cons (pv 3) pa_nil)) (pg_name (i := 5) sc__law_handlers.nd rfl (by first | exact Or.inl rfl | exact Or.inr rfl)) (pss_cons (ps_par (by rfl) sc__law_handlers.nd (i := 6) (j := 7) rfl rfl (by decide) rfl rfl (pa_cons (pe_fn T.g__law_pick c__law_pick (hr.mono (by first | decide | exact Nat.le_refl _)) (by rfl) (pa_cons (pv 0) (pa_cons (pe_lst (pa_cons pe_str (pa_cons pe_str (pa_cons pe_str (pa_cons pe_str pa_nil))))) pa_nil))) (pa_cons (pe_fn T.g__law_pick c__law_pick (hr.mono (by first | decide | exact Nat.le_refl _)) (by rfl) (pa_cons (pv 0) (pa_cons (pe_lst (pa_cons pe_int (pa_cons pe_int (pa_cons pe_int (pa_cons pe_int (pa_cons pe_int (pa_cons pe_int pa_nil))))))) pa_nil))) pa_nil)) (by rfl))
      (pss_cons (ps_set (i := 8) sc__law_handlers.nd rfl (by first | exact Or.inl rfl | exact Or.inr rfl) (pe_op op_rep (pe_lst (pa_cons (pe_fn T.g__law_pick c__law_pick (hr.mono (by first | decide | exact Nat.le_refl _)) (by rfl) (pa_cons (pv 0) (pa_cons (pe_lst (pa_cons pe_str (pa_cons pe_str (pa_cons pe_str (pa_cons pe_str (pa_cons pe_str pa_nil)))))) pa_nil))) pa_nil)) (pe_callTy call_int1 (by rfl) T.b_int (by decide +kernel) (pa_cons (pe_cmpR op_eq (pe_fn T.g__law_draw c__law_draw (hr.mono (by first | decide | exact Nat.le_refl _)) (by rfl) (pa_cons (pv 0) (pa_cons pe_int pa_nil))) pe_int (nomark _)) pa_nil))))
      (pss_cons (ps_set (i := 9) sc__law_handlers.nd rfl (by first | exact Or.inl rfl | exact Or.inr rfl) (pe_mk T.k_StreamHandler T.g_StreamHandler c_StreamHandler_init (hr.mono (by first | decide | exact Nat.le_refl _)) (by rfl) (pa_cons (pv 1) (pa_cons (pv 6) pa_nil))))
      (pss_cons (ps_expr (pe_mt T.c_StreamHandler T.m_StreamHandler_setLevel c_StreamHandler_setLevel (hr.mono (by first | decide | exact Nat.le_refl _)) (pv 9) (pa_cons (pv 7) pa_nil)))
      (pss_cons (ps_expr (pe_mt T.c_StreamHandler T.m_StreamHandler_setTerminator c_StreamHandler_setTerminator (hr.mono (by first | decide | exact Nat.le_refl _)) (pv 9) (pa_cons (pe_op op_add_str (pe_op op_add_str pe_str (pe_callTy call_str_int (by rfl) T.b_str (by decide +kernel) (pa_cons (pv 5) pa_nil))) pe_str) pa_nil)))
      (pss_cons (ps_for PassesOwn.never rfl (pi_list (pv 8)) (pg_name (i := 10) sc__law_handlers.nd rfl (by first | exact Or.inl rfl | exact Or.inr rfl)) (pss_one (ps_expr (pe_mt T.c_StreamHandler T.m_StreamHandler_addFilter c_StreamHandler_addFilter (hr.mono (by first | decide | exact Nat.le_refl _)) (pv 9) (pa_cons (pe_mk T.k_Filter T.g_Filter c_Filter_init (hr.mono (by first | decide | exact Nat.le_refl _)) (by rfl) (pa_cons (pv 10) pa_nil)) pa_nil)))))
      (pss_cons (ps_expr (pe_bm PySem.F.plainAttrs_list PySem.F.slot_list_append PySem.F.type_list_append mt_append (pe_dget (hu_of hr) (pv 2) pe_str (fun _ _ => rfl)) (pa_cons (pe_tup (pa_cons (pv 6) (pa_cons (pv 7) (pa_cons (pv 8) (pa_cons (pe_op op_add_str (pe_op op_add_str pe_str (pe_callTy call_str_int (by rfl) T.b_str (by decide +kernel) (pa_cons (pv 5) pa_nil))) pe_str) pa_nil))))) pa_nil)))
      (pss_one (ps_expr (pe_bm PySem.F.plainAttrs_list PySem.F.slot_list_append PySem.F.type_list_append mt_append (pv 4) (pa_cons (pv 9) pa_nil))))))))))))
      (pss_one (ps_ret (pv 4))))), ?_⟩
  walk_at "in"
  walk_at "gi"
  rename_i D fD
  have W0 := W.new (o := .lst []) fD
  have W1 : RS.Wd (upd H D (.lst [])) s l n [cY K m ad, cL m bd, RS.cell D (.lst [])] := W0.dn2
  generalize upd H D (.lst []) = H1 at W1
  clear W0 fD
  have I0 : LawHs K s l m ad bd n D 0 H1 := ⟨m, ad, bd, n, W1, O, ⟨rfl, by rw [h0]; rfl, by rw [h0]; intro h z; cases z⟩, rfl, rfl, by omega⟩
  clear W1 W
  refine for_it walk_range (fun i σ H' => LawHs K s l m ad bd n D i H' ∧ ∃ o5 o6 o7 o8 o9 o10, σ = [some (.ref s), some (.ref (ad .y)), some (.ref (bd .m)), some (.int (k : Nat)), some (.ref D), o5, o6, o7, o8, o9, o10]) ⟨I0, _, _, _, _, _, _, rfl⟩ (fun _ _ _ _ _ => trivial) (fun i x σ H9 H2 hi hP hx => ?_) (fun σ H2 hP => ?_)
  · obtain ⟨rfl, rfl⟩ := hx
    obtain ⟨⟨m2, ad2, bd2, n2, W2, O2, P2, y2, b2, l2⟩, o5, o6, o7, o8, o9, o10, rfl⟩ := hP
    rw [← y2, ← b2]
    have st2 := W2.stm
    obtain ⟨⟨os, hs2⟩, ⟨ol, hl2⟩, _⟩ := RW.stm_at st2
    walk_at "gi"
    rename_i pA fA
    intro H3 x q3 st3 hx
    have W3 := (W2.same (same_new fA _)).old q3 st3
    have hst : ∃ st, x = .str st ∧ st ∈ strs3 := by
      simp only [List.mem_cons, List.not_mem_nil, or_false] at hx
      rcases hx with rfl | rfl | rfl | rfl
      · exact ⟨_, rfl, by decide⟩
      · exact ⟨_, rfl, by decide⟩
      · exact ⟨_, rfl, by decide⟩
      · exact ⟨_, rfl, by decide⟩
    obtain ⟨st, rfl, hst⟩ := hst
    clear hx q3 fA hs2 hl2 W2
    obtain ⟨⟨os, hs3⟩, ⟨ol, hl3⟩, _⟩ := RW.stm_at st3
    walk_at "gi"
    rename_i pB fB
    intro H4 x q4 st4 hx
    have W4 := (W3.same (same_new fB _)).old q4 st4
    have hlv : ∃ lv : Int, x = .int lv ∧ lv < 1000 := by
      simp only [List.mem_cons, List.not_mem_nil, or_false] at hx
      rcases hx with rfl | rfl | rfl | rfl | rfl | rfl
      · exact ⟨_, rfl, by decide⟩
      · exact ⟨_, rfl, by decide⟩
      · exact ⟨_, rfl, by decide⟩
      · exact ⟨_, rfl, by decide⟩
      · exact ⟨_, rfl, by decide⟩
      · exact ⟨_, rfl, by decide⟩
    obtain ⟨lv, rfl, hlv⟩ := hlv
    clear hx q4 fB hs3 hl3 W3 st3 st2
    obtain ⟨⟨os, hs4⟩, ⟨ol, hl4⟩, _⟩ := RW.stm_at st4
    walk_at "gi"
    rename_i pC fC
    intro H5 x q5 st5 hx
    have W5 := (W4.same (same_new fC _)).old q5 st5
    have hsv : ∃ sv : Str, x = .str sv ∧ sv.length ≤ 10 := by
      simp only [List.mem_cons, List.not_mem_nil, or_false] at hx
      rcases hx with rfl | rfl | rfl | rfl | rfl
      · exact ⟨_, rfl, by decide⟩
      · exact ⟨_, rfl, by decide⟩
      · exact ⟨_, rfl, by decide⟩
      · exact ⟨_, rfl, by decide⟩
      · exact ⟨_, rfl, by decide⟩
    obtain ⟨sv, rfl, hsv⟩ := hsv
    clear hx q5 fC hs4 hl4 W4 st4
    obtain ⟨⟨os, hs5⟩, ⟨ol, hl5⟩, _⟩ := RW.stm_at st5
    walk_at "gi"
    rename_i pD fD
    intro H6 d q6 st6 d1 d2
    have W6 := (W5.new fD).old q6 st6
    have hD6 := W6.c0
    clear q6 fD hs5 hl5 W5 st5
    walk_at "gi"
    refine .inr ⟨decide (V.int d = V.int 0), rfl, ?_⟩
    generalize decide (V.int d = V.int 0) = b
    refine ⟨pD, _, _, rfl, rfl, hD6, (by cases b <;> decide), (by cases b <;> decide), (by rw [sizeLine_eq]; cases b <;> exact Nat.le_of_ble_eq_true rfl), fun pE fE => ?_⟩
    have esv : (List.replicate (if b = true then (1 : Int) else 0).toNat [V.str sv]).flatten = ((if b = true then [sv] else []) : List Str).map V.str := by cases b <;> rfl
    rw [esv]
    obtain ⟨svs, es, sv1, sv2⟩ : ∃ svs : List Str, svs = (if b = true then [sv] else []) ∧ svs.length ≤ 1 ∧ ∀ z ∈ svs, z.length ≤ 10 := ⟨_, rfl, by cases b <;> exact Nat.le_of_ble_eq_true rfl, fun z hz => by cases b with | true => (rw [List.mem_singleton.mp hz]; exact hsv) | false => cases hz⟩
    rw [← es]
    have W7 := W6.tl.new (o := .lst (svs.map V.str)) fE
    clear W6 hD6 fE esv es d1 d2 st6
    generalize upd H6 pE (.lst (svs.map V.str)) = H7 at W7
    walk_at "gi"
    intro p dx hp hdx hne
    show spStreamInit K [.ref p, .ref (ad2 .y), .str st] (upd (upd H7 dx (.own p)) p (.ins (CS K) dx [])) _ E0
    refine RR.Rep.mkS (m := m2) (ad := ad2) W7.up1.hd O2 hp hdx (Ne.symm hne) fun ad3 H8 R8 M8 F8 e8 => ⟨rfl, ?_⟩
    have W8 := W7.up1.mv (c' := cY K (m2.addHd ⟨false, st, 0, [], "\n"⟩) ad3) R8 M8
    rw [P2.ln] at e8 F8
    clear hp hdx hne W7 M8
    subst e8
    have hj8 := at_addHd m2 ⟨false, st, 0, [], "\n"⟩ i P2.ln.symm
    have g8 := R8.hd_ hj8
    rw [hdO_s rfl] at g8
    have y8 := R8.y_
    have nu8 := R8.nu_
    have hi9 : i < 9 := by have : i < k := hi; omega
    have en : (0 + (i : Int)).natAbs = i := by omega
    have hlen := RN.len_toString (0 + (i : Int))
    have lg0 : i.log2 ≤ i := Nat.log2_le_self i
    rw [en] at hlen
    have lg : (0 + (i : Int)).natAbs.log2 < 1920 := by rw [en]; omega
    generalize hT : Str.ofString (toString (0 + (i : Int))) = tk at hlen
    have z1 : (("/" : Str)).length + tk.length ≤ sizeLine := by rw [sizeLine_eq]; show 1 + tk.length ≤ _; omega
    have z2 : (("/" : Str) ++ tk).length + (("\n" : Str)).length ≤ sizeLine := by rw [len_app, sizeLine_eq]; show 1 + tk.length + 1 ≤ _; omega
    have z3 : (("/" : Str) ++ tk ++ ("\n" : Str)).length ≤ 100 := by rw [len_app, len_app]; show 1 + tk.length + 1 ≤ _; omega
    obtain ⟨R9, M9⟩ := R8.setHd hj8 (h' := ⟨false, st, lv, [], "\n"⟩) rfl
    rw [set_addHd m2 _ _ i P2.ln.symm, hdO_s rfl] at R9 M9
    have hj9 := at_addHd m2 ⟨false, st, lv, [], "\n"⟩ i P2.ln.symm
    obtain ⟨R10, M10⟩ := R9.setHd hj9 (h' := ⟨false, st, lv, [], ("/" : Str) ++ tk ++ ("\n" : Str)⟩) rfl
    rw [set_addHd m2 _ _ i P2.ln.symm, hdO_s rfl] at R10 M10
    dsimp only at R9 M9 R10 M10 g8
    have W10 := (W8.mv (c' := cY K _ ad3) R9 M9).mv (c' := cY K _ ad3) R10 M10
    walk_at "gi"
    refine ⟨(rfl : _ = [V.ref (ad3 (.hd i)), (LvIn.int lv).v]), ?_⟩
    walk_at "go"
    rw [hT]
    walk_at "go"
    clear g8 y8 nu8 hj8 hj9 R8 R9 M9 R10 M10 lg0 hlen en W8
    generalize htm : (("/" : Str) ++ tk ++ ("\n" : Str)) = tm at W10 z3 ⊢
    generalize upd (upd H8 (ad3 (.hd i)) (.ins (CS K) (ad3 (.hdD i)) (hdS (ad3 (.hdF i)) (ad3 .y) lv "\n" st))) (ad3 (.hd i)) (.ins (CS K) (ad3 (.hdD i)) (hdS (ad3 (.hdF i)) (ad3 .y) lv tm st)) = H10 at W10 ⊢
    have hpE := W10.tl.c0
    walk_at "go"
    refine for_it walk_list (fun j σ H' => (∃ ad4 : YRo → Addr, RS.Wd H' s l (n2 + 4) [cY K (m2.addHd ⟨false, st, lv, svs.take j, tm⟩) ad4, RS.cell pE (.lst (svs.map V.str)), cL m2 bd2, RS.cell D (.lst ((List.range i).map fun j => .ref (ad2 (.hd j))))] ∧ FixN (i + 1) ad3 ad4) ∧ ∃ oA, σ = [some (.ref s), some (.ref (ad2 .y)), some (.ref (bd2 .m)), some (.int (k : Nat)), some (.ref D), some (.int (0 + (i : Nat))), some (.str st), some (.int lv), some (.ref pE), some (.ref (ad3 (.hd i))), oA])
      ⟨⟨ad3, W10, FixN.refl _ _⟩, _, rfl⟩ (fun j σ H' _ h => by obtain ⟨⟨ad4, W, _⟩, _⟩ := h; exact SqL.of W.tl.c0) (fun j v σ H9 H11 hj hP hv => ?_) (fun σ H11 hP => ?_)
    · obtain ⟨rfl, hv⟩ := hv
      obtain ⟨⟨ad4, W11, F4⟩, oA, rfl⟩ := hP
      rw [List.getElem?_map] at hv
      obtain ⟨z, hz, rfl⟩ := Option.map_eq_some_iff.mp hv
      have hzl := sv2 z (List.mem_of_getElem? hz)
      have etk := List.take_add_one (l := svs) (i := j)
      rw [hz] at etk
      have ea : ad4 (.hd i) = ad3 (.hd i) := F4.2 i (Nat.lt_succ_self i)
      rw [← ea]
      have R11 : YR K _ ad4 H11 := W11.hd
      have hj11 := at_addHd m2 ⟨false, st, lv, svs.take j, tm⟩ i P2.ln.symm
      have O11 : (m2.addHd ⟨false, st, lv, svs.take j, tm⟩).Ok := O2.addHd ⟨by show (svs.take j).length ≤ 20; rw [List.length_take]; omega, fun y hy => Nat.le_trans (sv2 y (List.mem_of_mem_take hy)) (by decide), z3, (by show st.length ≤ 100; revert hst; intro hst; simp only [strs3, List.mem_cons, List.not_mem_nil, or_false] at hst; rcases hst with rfl | rfl | rfl <;> decide), rfl⟩ (by have := P2.ln; omega)
      have g11 := R11.hd_ hj11
      rw [hdO_s rfl] at g11
      have e2 : svs.take (j + 1) = svs.take j ++ [z] := etk
      walk_at "go"
      intro q dq hq hdq nqd
      refine ⟨CF K, q, dq, .str z, rfl, upd_same, T.c_Filter, T.n_Filter_name, rfl, ?_⟩
      dsimp only [tNil]
      rw [upd_upd]
      show spAddFilter K [.ref (ad4 (.hd i)), .ref q] (upd (upd H11 dq (.own q)) q (.ins (CF K) dq [("name", .str z)])) _ E0
      refine RR.Rep.putFl T R11 O11 hj11 rfl hq hdq (Ne.symm nqd) fun H12 R12 M12 => ?_
      have W12 := W11.mv (c' := cY K _ (adF ad4 i (svs.take j).length q dq)) R12 M12
      rw [set_addHd m2 _ _ i P2.ln.symm] at W12
      exact ⟨⟨adF ad4 i (svs.take j).length q dq, (by rw [e2]; exact W12), F4.trans (FixN.trans ⟨rfl, fun _ _ => rfl⟩ (FixN.refl (i + 1) _) (Nat.le_refl _)) (Nat.le_refl _)⟩, _, (by rw [ea]; rfl)⟩
    · obtain ⟨⟨ad4, W11, F4⟩, oA, rfl⟩ := hP
      rw [List.length_map, List.take_length] at W11
      have L11 : LR m2 bd2 H11 := W11.tl.tl.hd
      have hm11 := lr_m L11
      have hh11 := lr_h L11
      have lnh : ((List.range m2.hs.length).map fun j => V.ref (bd2 (.ht j))).length < sizeLine := by rw [List.length_map, List.length_range, P2.ln, sizeLine_eq]; omega
      walk_at "go"
      rw [hT]
      walk_at "go"
      intro qt fqt
      rw [htm]
      have hh12 := same_new fqt (.tup [.str st, .int lv, .ref pE, .str tm]) _ _ hh11
      have W12 : RS.Wd (upd (upd H11 qt (.tup [.str st, .int lv, .ref pE, .str tm])) (bd2 .h) (.lst (((List.range m2.hs.length).map fun j => V.ref (bd2 (.ht j))) ++ [.ref qt]))) s l (n2 + 4) [cL (m2.addHd ⟨false, st, lv, svs, tm⟩) (bdN bd2 m2.hs.length pE qt), cY K (m2.addHd ⟨false, st, lv, svs, tm⟩) ad4, RS.cell D (.lst ((List.range i).map fun j => .ref (ad2 (.hd j))))] := lr_addHd (h := ⟨false, st, lv, svs, tm⟩) O2 W11.up2.sw1 fqt
      walk_at "go"
      generalize upd (upd H11 qt (.tup [.str st, .int lv, .ref pE, .str tm])) (bd2 .h) (.lst (((List.range m2.hs.length).map fun j => V.ref (bd2 (.ht j))) ++ [.ref qt])) = H12 at W12 ⊢
      have W13 := W12.up2
      have hD13 := W13.c0
      have lnD : ((List.range i).map fun j => V.ref (ad2 (.hd j))).length < sizeLine := by rw [List.length_map, List.length_range, sizeLine_eq]; omega
      clear hm11 hh11 hh12 W11 L11 W12
      walk_at "go"
      have W14 := (W13.set (o' := .lst (((List.range i).map fun j => V.ref (ad2 (.hd j))) ++ [.ref (ad3 (.hd i))]))).dn2.up1
      have el : ((List.range i).map fun j => V.ref (ad2 (.hd j))) ++ [V.ref (ad3 (.hd i))] = (List.range (i + 1)).map fun j => V.ref (ad4 (.hd j)) := by
        rw [List.range_succ, List.map_append]
        congr 1
        · refine List.map_congr_left fun j hj => ?_
          have hj := List.mem_range.mp hj
          rw [F4.2 j (by omega), F8.2 j hj]
        · show _ = [V.ref (ad4 (.hd i))]
          rw [F4.2 i (Nat.lt_succ_self i)]
      rw [el] at W14 ⊢
      refine ⟨⟨m2.addHd ⟨false, st, lv, svs, tm⟩, ad4, bdN bd2 m2.hs.length pE qt, n2 + 4, W14, ?_, ⟨?_, ?_, ?_⟩, ?_, ?_, by omega⟩, _, _, _, _, _, _, rfl⟩
      · refine O2.addHd ⟨by show svs.length ≤ 20; omega, fun y hy => Nat.le_trans (sv2 y hy) (by decide), z3, ?_, rfl⟩ (by have := P2.ln; omega)
        show st.length ≤ 100
        simp only [strs3, List.mem_cons, List.not_mem_nil, or_false] at hst
        rcases hst with rfl | rfl | rfl <;> decide
      · have e := P2.eq
        show ({ m2 with hs := m2.hs ++ [_] } : TM) = { m with hs := m2.hs ++ [_] }
        rw [e]
      · show (m2.hs ++ [_]).length = _
        rw [List.length_append, List.length_singleton, P2.ln]
      · intro h hh
        rcases List.mem_append.mp hh with hh | hh
        · exact P2.al h hh
        · rw [List.mem_singleton.mp hh]; exact ⟨rfl, hst⟩
      · rw [F4.1, F8.1, y2]
      · exact b2
  · obtain ⟨I, o5, o6, o7, o8, o9, o10, rfl⟩ := hP
    walk_at "go"
    exact hQ _ _ I
end
end K17

set_option Elab.async false
set_option linter.all false
set_option maxRecDepth 100000
set_option maxHeartbeats 0
namespace K17
open PySem PySem.Spec PyProof.Rows L2 RC
section
variable {P : Program} {w : World} {K : PySem.W.Frag} {mg : Str → Option Value} {base : Heap}
/-! ### what a draw tells, as a function of the stream -/
structure DS where
  ns : List Int
  x : Int
  c : Int
  d : Int
def DS.sk : List Int → Int → List Int × Int × Int
  | [], d => ([], 0, d)
  | v :: r, d => if v < 10 ^ 18 then DS.sk r ((d * 31 + v + 7) % 2147483647) else (r, v, d)
def DS.nm (S : DS) : DS := if S.x = 0 then ⟨(DS.sk S.ns S.d).1, (DS.sk S.ns S.d).2.1, S.c, (DS.sk S.ns S.d).2.2⟩ else S
/-- the draw of a stream that is set right -/
def DS.go (S : DS) (m : Int) : Int × DS :=
  if 0 < S.x then (S.x % m, ⟨S.ns, S.x / m, S.c, S.d⟩)
  else ((((S.d + 104729 * (S.c + 1) + 17) ^ (5 : Int).toNat % 2147483629 * 48271 + 40503 * (S.c + 1) * (S.c + 1) + 13) ^ (3 : Int).toNat) % 1000000007 % m, ⟨S.ns, 0, S.c + 1, S.d⟩)
def DS.dr (S : DS) (m : Int) : Int × DS := S.nm.go m
theorem DS.nm_pos {ns : List Int} {x c d : Int} (h : x ≠ 0) : DS.nm ⟨ns, x, c, d⟩ = ⟨ns, x, c, d⟩ := if_neg h
theorem DS.nm_nil {c d : Int} : DS.nm ⟨[], 0, c, d⟩ = ⟨[], 0, c, d⟩ := if_pos rfl
theorem DS.nm_lt {v c d : Int} {r : List Int} (h : v < 10 ^ 18) : DS.nm ⟨v :: r, 0, c, d⟩ = DS.nm ⟨r, 0, c, (d * 31 + v + 7) % 2147483647⟩ := by
  unfold DS.nm
  rw [if_pos rfl, if_pos rfl]
  show DS.mk (DS.sk (v :: r) d).1 (DS.sk (v :: r) d).2.1 c (DS.sk (v :: r) d).2.2 = _
  unfold DS.sk
  rw [if_pos h]
  cases r <;> rfl
theorem DS.nm_ge {v c d : Int} {r : List Int} (h : ¬ v < 10 ^ 18) (h0 : v ≠ 0) : DS.nm ⟨v :: r, 0, c, d⟩ = DS.nm ⟨r, v, c, d⟩ := by
  rw [DS.nm_pos h0]
  unfold DS.nm
  rw [if_pos rfl]
  show DS.mk (DS.sk (v :: r) d).1 (DS.sk (v :: r) d).2.1 c (DS.sk (v :: r) d).2.2 = _
  unfold DS.sk
  rw [if_neg h]
structure StX (H : Hp) (s l : Addr) (S : DS) (n : Nat) : Prop where
  ne : s ≠ l
  hs : H s = some (.lst [.ref l, .int S.x, .int S.c, .int S.d])
  hl : H l = some (.lst (S.ns.map V.int))
  ln : S.ns.length ≤ 63
  x0 : 0 ≤ S.x
  c0 : 0 ≤ S.c
  c1 : S.c ≤ n
  d0 : 0 ≤ S.d
  d1 : S.d < 2147483647
def spDrawX : Sp := fun vs H Q _ => ∃ (s l : Addr) (n : Nat) (S : DS) (many : Int), vs = [.ref s, .int many] ∧ StX H s l S n ∧ n ≤ 1000000 ∧ 1 ≤ many ∧ many < 1073741824 ∧
  ∀ (H' : Hp), Old s l H H' → StX H' s l (S.dr many).2 (n + 1) → 0 ≤ (S.dr many).1 → (S.dr many).1 < many → Q (.int (S.dr many).1) H'
theorem ok_drawX {f : Addr} (T : Txt P w K mg) (F : Stands K "_law_draw" "_law_draw" s__law_draw [] f) : Callable P w K mg base 1 f ["_law_s", "_law_many"] [] spDrawX := by
  refine F.call0 sc__law_draw (fun vs H Q E h => ?_) (fun cdv A outer s H vs Q E hr h => ?_) (fun _ _ _ _ _ _ us hl => match us, hl with | [_, _], _ => rfl)
  · obtain ⟨s, l, n, S, m, rfl, _⟩ := h
    rfl
  obtain ⟨p, l, n, S, many, rfl, hS, hn, hm1, hm2, hQ⟩ := h
  refine ⟨_, (pss_cons (ps_while PassesOwn.never (PW.pt (pw_and (pt_cmpR op_eq (pe_ix ix_list (pv 0) pe_int (fun _ _ => rfl)) pe_int (nomark _)) (pw_and1 (pt_cmpR (op_neD hr.units) (pe_ix ix_list (pv 0) pe_int (fun _ _ => rfl)) (pe_lst pa_nil) (nomark _))))) (pss_cons (ps_asg (pe_bm PySem.F.plainAttrs_list PySem.F.slot_list_pop PySem.F.type_list_pop mt_popAt (pe_ix ix_list (pv 0) pe_int (fun _ _ => rfl)) (pa_cons pe_int pa_nil)) (pg_sub (pv 0) pe_int set_list))
      (pss_one (ps_if (pt_cmpR op_lt (pe_ix ix_list (pv 0) pe_int (fun _ _ => rfl)) (pe_op op_pow pe_int pe_int) (nomark _)) (pss_cons (ps_asg (pe_op op_mod (pe_callTy call_int1 (by rfl) T.b_int (by decide +kernel) (pa_cons (pe_op op_add (pe_op op_add (pe_op op_mul (pe_ix ix_list (pv 0) pe_int (fun _ _ => rfl)) pe_int) (pe_ix ix_list (pv 0) pe_int (fun _ _ => rfl))) pe_int) pa_nil)) pe_int) (pg_sub (pv 0) pe_int set_list))
      (pss_one (ps_asg pe_int (pg_sub (pv 0) pe_int set_list)))) pss_nil))))
      (pss_cons (ps_if (pt_cmpR op_gt (pe_ix ix_list (pv 0) pe_int (fun _ _ => rfl)) pe_int (nomark _)) (pss_cons (ps_set (i := 2) sc__law_draw.nd rfl (by first | exact Or.inl rfl | exact Or.inr rfl) (pe_op op_mod (pe_callTy call_int1 (by rfl) T.b_int (by decide +kernel) (pa_cons (pe_ix ix_list (pv 0) pe_int (fun _ _ => rfl)) pa_nil)) (pv 1)))
      (pss_cons (ps_asg (pe_op op_fdiv (pe_ix ix_list (pv 0) pe_int (fun _ _ => rfl)) (pv 1)) (pg_sub (pv 0) pe_int set_list))
      (pss_one (ps_ret (pv 2))))) pss_nil)
      (pss_cons (ps_asg (pe_op op_add (pe_ix ix_list (pv 0) pe_int (fun _ _ => rfl)) pe_int) (pg_sub (pv 0) pe_int set_list))
      (pss_cons (ps_set (i := 3) sc__law_draw.nd rfl (by first | exact Or.inl rfl | exact Or.inr rfl) (pe_op op_mod (pe_callTy call_int1 (by rfl) T.b_int (by decide +kernel) (pa_cons (pe_op op_pow (pe_op op_add (pe_op op_add (pe_ix ix_list (pv 0) pe_int (fun _ _ => rfl)) (pe_op op_mul pe_int (pe_ix ix_list (pv 0) pe_int (fun _ _ => rfl)))) pe_int) pe_int) pa_nil)) pe_int))
      (pss_cons (ps_set (i := 4) sc__law_draw.nd rfl (by first | exact Or.inl rfl | exact Or.inr rfl) (pe_op op_mod (pe_callTy call_int1 (by rfl) T.b_int (by decide +kernel) (pa_cons (pe_op op_pow (pe_op op_add (pe_op op_add (pe_op op_mul (pv 3) pe_int) (pe_op op_mul (pe_op op_mul pe_int (pe_ix ix_list (pv 0) pe_int (fun _ _ => rfl))) (pe_ix ix_list (pv 0) pe_int (fun _ _ => rfl)))) pe_int) pe_int) pa_nil)) pe_int))
      (pss_one (ps_ret (pe_op op_mod (pe_callTy call_int1 (by rfl) T.b_int (by decide +kernel) (pa_cons (pv 4) pa_nil)) (pv 1))))))))), ?_⟩
  obtain ⟨hne, h1, h2, h3, h4, h5, h6, h7, h8⟩ := hS
  refine ⟨fun m σ H' => σ = [some (.ref p), some (.int many), none, none, none] ∧ Old p l H H' ∧ ∃ (ns : List Int) (x c d : Int), m = ns.length ∧ H' p = some (.lst [.ref l, .int x, .int c, .int d]) ∧ H' l = some (.lst (ns.map V.int)) ∧ ns.length ≤ 63 ∧ 0 ≤ x ∧ 0 ≤ c ∧ c ≤ n ∧ 0 ≤ d ∧ d < 2147483647 ∧ DS.nm ⟨ns, x, c, d⟩ = DS.nm S,
    ⟨_, rfl, Old.refl _, S.ns, S.x, S.c, S.d, rfl, h1, h2, h3, h4, h5, h6, h7, h8, rfl⟩, ?_⟩
  clear h1 h2 h3 h4 h5 h6 h7 h8
  rintro m σ H1 ⟨rfl, hO, ns, x, c, d, rfl, h1, h2, h3, h4, h5, h6, h7, h8, hN⟩
  have hD : S.dr many = DS.go (DS.nm ⟨ns, x, c, d⟩) many := by rw [hN]; rfl
  refine ⟨_, rfl, p, _, _, _, rfl, rfl, SqL.of h1, rfl, rfl, _, rfl, ?_⟩
  by_cases hx : x = 0
  · subst hx
    refine iteT' (decide_eq_true rfl) ?_
    refine ⟨_, rfl, p, _, _, _, rfl, rfl, SqL.of h1, rfl, (by show 0 ≤ sizeLine; decide), fun q hq => ?_⟩
    have g1 : upd H1 q (.lst []) p = some (.lst [.ref l, .int 0, .int c, .int d]) := by rw [upd_ne (ne_of_none h1 hq)]; exact h1
    have g2 : upd H1 q (.lst []) l = some (.lst (ns.map V.int)) := by rw [upd_ne (ne_of_none h2 hq)]; exact h2
    have gO : Old p l H (upd H1 q (.lst [])) := old_upd hO (.inr (.inr hq))
    refine ⟨_, _, Dp.lst (SqL.of g2) (dp_ints ns), Dp.lst (SqL.of upd_same) .nil, sh_ints ns, by decide +kernel, _, rfl, ?_⟩
    generalize upd H1 q (.lst []) = H2 at g1 g2 gO
    cases ns with
    | cons v r =>
      refine iteT' (by rfl) ?_
      refine ⟨fun σ' H' => ∃ m', m' < (v :: r).length ∧ (σ' = [some (.ref p), some (.int many), none, none, none] ∧ Old p l H H' ∧ ∃ (ns : List Int) (x c d : Int), m' = ns.length ∧ H' p = some (.lst [.ref l, .int x, .int c, .int d]) ∧ H' l = some (.lst (ns.map V.int)) ∧ ns.length ≤ 63 ∧ 0 ≤ x ∧ 0 ≤ c ∧ c ≤ n ∧ 0 ≤ d ∧ d < 2147483647 ∧ DS.nm ⟨ns, x, c, d⟩ = DS.nm S), fun σ' H' z => z, ?_⟩
      -- s[1] = s[0].pop(0)
      refine ⟨_, rfl, p, _, _, _, rfl, rfl, SqL.of g1, rfl, .inl ⟨rfl, _, SqL.of g2⟩, l, (v :: r).map V.int, 0, 0, .int v, rfl, rfl, g2, by decide, by decide, seq0 _ _, rfl, ?_⟩
      generalize e3 : upd H2 l _ = H3
      have k1 : H3 p = some (.lst [.ref l, .int 0, .int c, .int d]) := by rw [← e3, upd_ne hne]; exact g1
      have kO : Old p l H H3 := by rw [← e3]; exact old_upd gO (.inr (.inl rfl))
      have k2 : H3 l = some (.lst (r.map V.int)) := by rw [← e3]; exact upd_same
      clear e3
      refine ⟨_, rfl, p, _, 1, 1, rfl, rfl, k1, rfl, ?_⟩
      generalize e4 : upd H3 p _ = H4
      have j1 : H4 p = some (.lst [.ref l, .int v, .int c, .int d]) := by rw [← e4]; exact upd_same
      have j2 : H4 l = some (.lst (r.map V.int)) := by rw [← e4, upd_ne (Ne.symm hne)]; exact k2
      have jO : Old p l H H4 := by rw [← e4]; exact old_upd kO (.inl rfl)
      clear e4
      have hl : r.length ≤ 63 := Nat.le_of_succ_le h3
      refine ⟨_, rfl, p, _, _, _, rfl, rfl, SqL.of j1, rfl, _, _, rfl, rfl, ⟨by decide, by decide, by decide⟩, _, _, rfl, rfl, _, rfl, ?_⟩
      refine ite2 (fun hv => ?_) (fun hv => ?_)
      · -- s[3] = int(..) % 2147483647
        refine ⟨_, rfl, p, _, _, _, rfl, rfl, SqL.of j1, rfl, _, _, rfl, rfl, .inr ⟨by decide, by decide⟩, _, rfl, p, _, _, _, rfl, rfl, SqL.of j1, rfl, _, _, rfl, rfl, _, _, rfl, rfl, .inl ⟨_, rfl, _, _, rfl, rfl, (by show (0 : Int) < 2147483647; decide), _, rfl, p, _, 3, 3, rfl, rfl, j1, rfl, ?_⟩⟩
        have m1 := Int.emod_nonneg (d * 31 + v + 7) (show (2147483647 : Int) ≠ 0 by decide)
        have m2 := Int.emod_lt_of_pos (d * 31 + v + 7) (show (0 : Int) < 2147483647 by decide)
        refine ⟨_, rfl, p, _, 1, 1, rfl, rfl, upd_same, rfl, r.length, Nat.lt_succ_self _, rfl, old_upd (old_upd jO (.inl rfl)) (.inl rfl), r, 0, c, (d * 31 + v + 7) % 2147483647, rfl, upd_same, ?_, hl, Int.le_refl 0, h5, h6, m1, m2, by rw [← DS.nm_lt (of_decide_eq_true hv)]; exact hN⟩
        rw [upd_ne (Ne.symm hne), upd_ne (Ne.symm hne)]; exact j2
      · have hv : 10 ^ 18 ≤ v := by
          have z : ¬ v < 10 ^ (18 : Int).toNat := fun z => hv (decide_eq_true z)
          have e : (18 : Int).toNat = 18 := rfl
          rw [e] at z; omega
        exact ⟨r.length, Nat.lt_succ_self _, rfl, jO, r, v, c, d, rfl, j1, j2, hl, by omega, h5, h6, h7, h8, by rw [← DS.nm_ge (by omega) (by omega)]; exact hN⟩
    | nil =>
      refine iteF' (by rfl) ?_
      refine ⟨_, rfl, p, _, _, _, rfl, rfl, SqL.of g1, rfl, _, _, rfl, rfl, _, rfl, ?_⟩
      refine iteF' (by rfl) ?_
      -- s[2] = s[2] + 1
      refine ⟨_, rfl, p, _, _, _, rfl, rfl, SqL.of g1, rfl, _, _, rfl, rfl, _, rfl, p, _, 2, 2, rfl, rfl, g1, rfl, ?_⟩
      generalize e3 : upd H2 p _ = H3
      have a1 : H3 p = some (.lst [.ref l, .int 0, .int (c + 1), .int d]) := by rw [← e3]; exact upd_same
      have a2 : H3 l = some (.lst (([] : List Int).map V.int)) := by rw [← e3, upd_ne (Ne.symm hne)]; exact g2
      have aO : Old p l H H3 := by rw [← e3]; exact old_upd gO (.inl rfl)
      have hc : c + 1 ≤ 1000001 := by omega
      clear e3
      refine ⟨_, rfl, p, _, _, _, rfl, rfl, SqL.of a1, rfl, _, rfl, p, _, _, _, rfl, rfl, SqL.of a1, rfl, _, _, rfl, rfl, .inl ⟨by decide, by decide⟩, _, _, rfl, rfl, _, _, rfl, rfl, _, _, rfl, rfl, ⟨by decide, by decide, stm_small h7 h8 (by omega) hc⟩, .inl ⟨_, rfl, _, _, rfl, rfl, (by show (0 : Int) < 2147483629; decide), ?_⟩⟩
      have m1 := Int.emod_nonneg ((d + 104729 * (c + 1) + 17) ^ (5 : Int).toNat) (show (2147483629 : Int) ≠ 0 by decide)
      have m2 := Int.emod_lt_of_pos ((d + 104729 * (c + 1) + 17) ^ (5 : Int).toNat) (show (0 : Int) < 2147483629 by decide)
      refine ⟨_, rfl, _, _, rfl, rfl, .inr ⟨by decide, by decide⟩, _, rfl, p, _, _, _, rfl, rfl, SqL.of a1, rfl, _, _, rfl, rfl, .inl ⟨by decide, by decide⟩, _, rfl, p, _, _, _, rfl, rfl, SqL.of a1, rfl, _, _, rfl, rfl, .inr ⟨by omega, by omega⟩, _, _, rfl, rfl, _, _, rfl, rfl, _, _, rfl, rfl, ⟨by decide, by decide, stm_small2 m1 m2 (by omega) hc⟩, .inl ⟨_, rfl, _, _, rfl, rfl, (by show (0 : Int) < 1000000007; decide), ?_⟩⟩
      refine ⟨_, rfl, .inl ⟨_, rfl, _, rfl, _, _, rfl, rfl, (by show (0 : Int) < many; omega), ?_⟩⟩
      rw [DS.nm_nil] at hD
      have hQ2 := hQ H3 aO
      rw [hD] at hQ2
      exact hQ2 ⟨hne, a1, a2, Nat.zero_le _, Int.le_refl 0, (by show 0 ≤ c + 1; omega), (by show c + 1 ≤ _; omega), h7, h8⟩ (Int.emod_nonneg _ (by omega)) (Int.emod_lt_of_pos _ (by omega))
  · refine iteF' (decide_eq_false fun z => hx (V.int.inj z)) ?_
    have hx1 : 0 < x := by omega
    refine ⟨_, rfl, p, _, _, _, rfl, rfl, SqL.of h1, rfl, _, _, rfl, rfl, _, rfl, ?_⟩
    refine iteT' (decide_eq_true hx1) ?_
    refine ⟨_, rfl, p, _, _, _, rfl, rfl, SqL.of h1, rfl, .inl ⟨_, rfl, _, rfl, _, _, rfl, rfl, (by show (0 : Int) < many; omega), ?_⟩⟩
    refine ⟨_, rfl, p, _, _, _, rfl, rfl, SqL.of h1, rfl, _, rfl, _, _, rfl, rfl, ⟨by omega, by omega⟩, _, rfl, p, _, 1, 1, rfl, rfl, h1, rfl, _, rfl, ?_⟩
    rw [DS.nm_pos hx] at hD
    have hD2 : S.dr many = (x % many, ⟨ns, x / many, c, d⟩) := by rw [hD]; exact if_pos hx1
    have hQ2 := fun H' => hQ H'
    rw [hD2] at hQ2
    exact hQ2 _ (old_upd hO (.inl rfl)) ⟨hne, upd_same, by rw [upd_ne (Ne.symm hne)]; exact h2, h3, Int.ediv_nonneg h4 (by omega), h5, (by show c ≤ _; omega), h7, h8⟩ (Int.emod_nonneg _ (by omega)) (Int.emod_lt_of_pos _ (by omega))
end
end K17

set_option Elab.async false
set_option linter.all false
set_option maxRecDepth 100000
set_option maxHeartbeats 0
namespace K17
open PySem PySem.Spec PyProof.Rows L2 RC
section
variable {P : Program} {w : World} {K : PySem.W.Frag} {mg : Str → Option Value} {base : Heap}
/-! ### picks as functions of the stream -/
section
variable {H H' : Hp} {s l : Addr} {S : DS} {n k : Nat} {xs : List V}
theorem StX.stm (h : StX H s l S n) : Stm H s l n := ⟨h.ne, S.ns, S.x, S.c, S.d, h.hs, h.hl, h.ln, h.x0, h.c0, h.c1, h.d0, h.d1⟩
theorem StX.of (h : Stm H s l n) : ∃ S, StX H s l S n := by
  obtain ⟨ne, ns, x, c, d, h1, h2, h3, h4, h5, h6, h7, h8⟩ := h
  exact ⟨⟨ns, x, c, d⟩, ne, h1, h2, h3, h4, h5, h6, h7, h8⟩
theorem StX.same (h : StX H s l S n) (e : Same H H') : StX H' s l S n := ⟨h.ne, e _ _ h.hs, e _ _ h.hl, h.ln, h.x0, h.c0, h.c1, h.d0, h.d1⟩
theorem StX.mono (h : StX H s l S n) (e : n ≤ k) : StX H s l S k := ⟨h.ne, h.hs, h.hl, h.ln, h.x0, h.c0, Int.le_trans h.c1 (by omega), h.d0, h.d1⟩
theorem StX.put (h : StX H s l S n) {p : Addr} {o : HO} (h1 : p ≠ s) (h2 : p ≠ l) : StX (upd H p o) s l S n := ⟨h.ne, by rw [upd_ne (Ne.symm h1)]; exact h.hs, by rw [upd_ne (Ne.symm h2)]; exact h.hl, h.ln, h.x0, h.c0, h.c1, h.d0, h.d1⟩
def spPickX (K : PySem.W.Frag) : Sp := fun vs H Q _ => ∃ (s l p : Addr) (n : Nat) (S : DS) (xs : List V), vs = [.ref s, .ref p] ∧ StX H s l S n ∧ n ≤ 1000000 ∧ p ≠ s ∧ p ≠ l ∧ H p = some (.lst xs) ∧ 1 ≤ xs.length ∧ xs.length ≤ 1000 ∧ ∀ (H' : Hp) (j : Nat) (x : V), Old s l H H' → StX H' s l (S.dr (xs.length : Nat)).2 (n + 1) → (S.dr (xs.length : Nat)).1 = (j : Nat) → xs[j]? = some x → Q x H'
end
theorem ok_pickX {f : Addr} (T : Txt P w K mg) (F : Stands K "_law_pick" "_law_pick" s__law_pick [] f) (c__law_draw : Callable P w K mg base 1 (He.ga K "_law_draw") ["_law_s", "_law_many"] [] spDrawX) : Callable P w K mg base 2 f ["_law_s", "_law_some"] [] (spPickX K) := by
  refine F.call0 sc__law_pick (fun vs H Q E h => ?_) (fun cdv A outer s H vs Q E hr h => ?_) (fun _ _ _ _ _ _ us hl => match us, hl with | [_, _], _ => rfl)
  · obtain ⟨s, l, p, n, S, xs, rfl, _⟩ := h; rfl
  obtain ⟨s, l, p, n, S, xs, rfl, hs, hn, nps, npl, hp, hx1, hx2, hQ⟩ := h
  refine ⟨_, (pss_one (ps_ret (pe_ix ix_list (pv 1) (pe_fn T.g__law_draw c__law_draw (hr.mono (by first | decide | exact Nat.le_refl _)) (by rfl) (pa_cons (pv 0) (pa_cons (pe_callB call_len (by rfl) T.b_len (by decide +kernel) (pa_cons (pv 1) pa_nil)) pa_nil))) (fun _ _ => rfl)))), ?_⟩
  refine ⟨_, rfl, _, rfl, _, rfl, _, xs.length, rfl, .inl ⟨xs, SqL.of hp, rfl⟩, s, l, n, S, xs.length, rfl, hs, hn, by omega, by omega, fun H' h1 h2 h3 h4 => ?_⟩
  obtain ⟨j, ej⟩ := Int.eq_ofNat_of_zero_le h3
  have hj : j < xs.length := by omega
  rw [ej]
  refine ⟨p, xs, j, xs[j], rfl, rfl, SqL.of (h1 _ _ nps npl hp), atI_nat (by simp [hj]), ?_⟩
  exact hQ H' j _ h1 h2 ej (by simp [hj])
end
end K17

set_option Elab.async false
set_option linter.all false
set_option maxRecDepth 100000
set_option maxHeartbeats 4000000
/-! What never changes, as one component of a world. -/
namespace RS
open PySem PySem.Spec PyProof.Rows L2 RC RR
def cG (G : Hp) : Comp := ⟨Addr, G, id⟩
section
variable {G H H' : Hp} {s l p : Addr} {n k : Nat} {cs ds : List Comp} {c d : Comp} {o u : HO}
theorem Wd.st (W : Wd H s l n cs) (m : cG G ∈ cs) : Same G H := fun b u e => (W.rep _ m).at_ b u e
theorem Wd.g0 (W : Wd H s l n (cG G :: cs)) : Same G H := W.st List.mem_cons_self
theorem Wd.g1 (W : Wd H s l n (c :: cG G :: cs)) : Same G H := W.st (by simp)
theorem Wd.g2 (W : Wd H s l n (c :: d :: cG G :: cs)) : Same G H := W.st (by simp)
/-- a cell that will not change any more -/
theorem Wd.take (W : Wd H s l n (cG G :: cell p o :: cs)) : Wd H s l n (cG (upd G p o) :: cs) ∧ G p = none := by
  have h1 := List.pairwise_cons.mp W.pw
  have h2 := List.pairwise_cons.mp h1.2
  have key : ∀ (r : Addr) (u : HO), upd G p o r = some u → (r = p ∧ u = o) ∨ (r ≠ p ∧ G r = some u) := fun r u e => by
    by_cases z : r = p
    · subst z; rw [upd_same] at e; exact .inl ⟨rfl, (Option.some.inj e).symm⟩
    · rw [upd_ne z] at e; exact .inr ⟨z, e⟩
  refine ⟨⟨W.stm, fun e he => ?_, List.pairwise_cons.mpr ⟨fun e he => ?_, h2.2⟩, fun e he => ?_⟩, ?_⟩
  · rcases List.mem_cons.mp he with he | he
    · rw [he]
      refine ⟨fun r u e => ?_, fun _ _ _ _ _ _ z => z⟩
      rcases key r u e with ⟨e1, e2⟩ | ⟨_, e⟩
      · rw [e2]
        show H r = _
        rw [e1]; exact W.tl.c0
      · exact W.g0 r u e
    · exact W.rep e (List.mem_cons_of_mem _ (List.mem_cons_of_mem _ he))
  · intro r u er r' u' er' z
    rcases key r' u' er' with ⟨e1, e2⟩ | ⟨_, e'⟩
    · exact h2.1 e he r u er () _ rfl (e1.symm.trans z)
    · exact h1.1 e (List.mem_cons_of_mem _ he) r u er r' u' e' z
  · rcases List.mem_cons.mp he with he | he
    · rw [he]
      have a := W.os _ List.mem_cons_self
      have b := W.os _ (List.mem_cons_of_mem _ List.mem_cons_self)
      refine ⟨fun r u e z => ?_, fun r u e z => ?_⟩
      · rcases key r u e with ⟨e1, e2⟩ | ⟨_, e⟩
        · exact b.1 () _ rfl (e1.symm.trans z)
        · exact a.1 r u e z
      · rcases key r u e with ⟨e1, e2⟩ | ⟨_, e⟩
        · exact b.2 () _ rfl (e1.symm.trans z)
        · exact a.2 r u e z
    · exact W.os e (List.mem_cons_of_mem _ (List.mem_cons_of_mem _ he))
  · cases e : G p with
    | none => rfl
    | some u => exact absurd rfl (h1.1 (cell p o) List.mem_cons_self () o rfl p u e)
/-- a new thing that will not change -/
theorem Wd.lay (W : Wd H s l n (cG G :: cs)) (hp : H p = none) : Wd (upd H p o) s l n (cG (upd G p o) :: cs) ∧ Same G (upd G p o) := by
  have h := (Wd.up1 (W.new (o := o) hp)).take
  exact ⟨h.1, RC.same_new h.2 o⟩
/-- .. what was laid since -/
theorem Wd.layS (W : Wd H s l n (cG G :: cs)) (e : Same H H') (hp : H p = none) (h : H' p = some o) : Wd H' s l n (cG (upd G p o) :: cs) ∧ Same G (upd G p o) := by
  have h := (Wd.up1 (W.fresh e hp h)).take
  exact ⟨h.1, RC.same_new h.2 o⟩
theorem Wd.g0' (W : Wd H s l n cs) : Wd H s l n (cG (fun _ => none) :: cs) :=
  ⟨W.stm, fun e he => by
    rcases List.mem_cons.mp he with rfl | he
    · exact ⟨fun r u e => (nomatch e), fun _ _ _ _ e => (nomatch e)⟩
    · exact W.rep e he, List.pairwise_cons.mpr ⟨fun e he r u er r' u' er' => (nomatch er'), W.pw⟩, fun e he => by
    rcases List.mem_cons.mp he with rfl | he
    · exact ⟨fun r u e => (nomatch e), fun r u e => (nomatch e)⟩
    · exact W.os e he⟩
end
end RS

set_option Elab.async false
set_option linter.all false
set_option maxRecDepth 100000
set_option maxHeartbeats 0

namespace K17
open PySem PySem.Spec PyProof.Rows L2 RC
section
variable {P : Program} {w : World} {K : PySem.W.Frag} {mg : Str → Option Value} {base : Heap}
/-! ### the law's handlers, as a function of the stream -/
theorem StX.mv {H H' : Hp} {s l : Addr} {S : DS} {n : Nat} {R R' : Type} {M : R → Option HO} {ad : R → Addr} {M' : R' → Option HO} {ad' : R' → Addr} (h : StX H s l S n) (a : RR.Mv M ad H M' ad' H') (hs : RR.Out M ad s) (hl : RR.Out M ad l) : StX H' s l S n := ⟨h.ne, a.keep _ _ hs h.hs, a.keep _ _ hl h.hl, h.ln, h.x0, h.c0, h.c1, h.d0, h.d1⟩
def hdX (S : DS) (i : Nat) : HM × DS :=
  (⟨false, ((["one", "one", "two", "stderr"] : List Str)[(S.dr 4).1.toNat]?).getD "", (([0, 0, 10, 25, 30, 40] : List Int)[((S.dr 4).2.dr 6).1.toNat]?).getD 0,
    if (((((S.dr 4).2.dr 6).2).dr 5).2.dr 4).1 = 0 then [((["", "a", "a.b", "b", "root"] : List Str)[((((S.dr 4).2.dr 6).2).dr 5).1.toNat]?).getD ""] else [], ("/" : Str) ++ Str.ofString (toString (0 + (i : Int))) ++ ("\n" : Str)⟩, (((((S.dr 4).2.dr 6).2).dr 5).2.dr 4).2)
def hsX (S : DS) : Nat → List HM × DS
  | 0 => ([], S)
  | i + 1 => ((hsX S i).1 ++ [(hdX (hsX S i).2 i).1], (hdX (hsX S i).2 i).2)
def LawHsX (K : PySem.W.Frag) (s l hl : Addr) (S : DS) (m : TM) (ad : YRo → Addr) (G : Hp) (cs : List RS.Comp) (n x0 : Nat) (D : Addr) (i : Nat) (H' : Hp) : Prop := ∃ (m' : TM) (ad' : YRo → Addr) (xs : List V) (n' : Nat), RS.Wd H' s l n' (cY K m' ad' :: RS.cell hl (.lst xs) :: RS.cell D (.lst ((List.range i).map fun j => .ref (ad' (.hd j)))) :: RS.cG G :: cs) ∧ m'.Ok ∧ HsP m m' i ∧ ad' .y = ad .y ∧ xs.length = x0 + i ∧ n' ≤ n + 10 * i ∧ m'.hs = (hsX S i).1 ∧ StX H' s l (hsX S i).2 n'
def spLawHsX (K : PySem.W.Frag) : Sp := fun vs H Q _ => ∃ (s l M hl : Addr) (n k : Nat) (S : DS) (m : TM) (ad : YRo → Addr) (G : Hp) (kvs : List (Key × V)) (xs : List V) (cs : List RS.Comp), vs = [.ref s, .ref (ad .y), .ref M, .int (k : Nat)] ∧ RS.Wd H s l n (cY K m ad :: RS.cell hl (.lst xs) :: RS.cG G :: cs) ∧ G M = some (.dK kvs) ∧ valV kvs (Sum.inr "handlers") = some (.ref hl) ∧ xs.length ≤ 20 ∧ StX H s l S n ∧ m.Ok ∧ m.hs = [] ∧ k ≤ 9 ∧ n ≤ 100000 ∧ ∀ H' D, LawHsX K s l hl S m ad G cs n xs.length D k H' → Q (.ref D) H'
theorem pk4 {α : Type} {f : α → V} {a b c d x0 : α} {j : Nat} {x : V} (h : [f a, f b, f c, f d][j]? = some x) : x = f ((([a, b, c, d] : List α)[j]?).getD x0) ∧ (([a, b, c, d] : List α)[j]?).getD x0 ∈ [a, b, c, d] := by
  match j, h with
  | 0, h => cases h; exact ⟨rfl, by simp⟩
  | 1, h => cases h; exact ⟨rfl, by simp⟩
  | 2, h => cases h; exact ⟨rfl, by simp⟩
  | 3, h => cases h; exact ⟨rfl, by simp⟩
theorem pk5 {α : Type} {f : α → V} {a b c d e x0 : α} {j : Nat} {x : V} (h : [f a, f b, f c, f d, f e][j]? = some x) : x = f ((([a, b, c, d, e] : List α)[j]?).getD x0) ∧ (([a, b, c, d, e] : List α)[j]?).getD x0 ∈ [a, b, c, d, e] := by
  match j, h with
  | 0, h => cases h; exact ⟨rfl, by simp⟩
  | 1, h => cases h; exact ⟨rfl, by simp⟩
  | 2, h => cases h; exact ⟨rfl, by simp⟩
  | 3, h => cases h; exact ⟨rfl, by simp⟩
  | 4, h => cases h; exact ⟨rfl, by simp⟩
theorem pk6 {α : Type} {f : α → V} {a b c d e g x0 : α} {j : Nat} {x : V} (h : [f a, f b, f c, f d, f e, f g][j]? = some x) : x = f ((([a, b, c, d, e, g] : List α)[j]?).getD x0) ∧ (([a, b, c, d, e, g] : List α)[j]?).getD x0 ∈ [a, b, c, d, e, g] := by
  match j, h with
  | 0, h => cases h; exact ⟨rfl, by simp⟩
  | 1, h => cases h; exact ⟨rfl, by simp⟩
  | 2, h => cases h; exact ⟨rfl, by simp⟩
  | 3, h => cases h; exact ⟨rfl, by simp⟩
  | 4, h => cases h; exact ⟨rfl, by simp⟩
  | 5, h => cases h; exact ⟨rfl, by simp⟩
theorem ok_law_hsX {f : Addr} (T : Txt P w K mg) (F : Stands K "_law_handlers" "_law_handlers" s__law_handlers [] f)
    (c__law_draw : Callable P w K mg base 1 (He.ga K "_law_draw") ["_law_s", "_law_many"] [] spDrawX)
    (c__law_pick : Callable P w K mg base 2 (He.ga K "_law_pick") ["_law_s", "_law_some"] [] (spPickX K))
    (c_StreamHandler_init : Callable P w K mg base 3 (He.ma K (He.ga K "StreamHandler") "__init__") ["self", "yard", "stream"] [] (spStreamInit K))
    (c_StreamHandler_setLevel : Callable P w K mg base 3 (He.ma K (He.ga K "StreamHandler") "setLevel") ["self", "level"] [] (spHSetLevel K))
    (c_StreamHandler_setTerminator : Callable P w K mg base 1 (He.ma K (He.ga K "StreamHandler") "setTerminator") ["self", "text"] [] (spSetTerm K))
    (c_StreamHandler_addFilter : Callable P w K mg base 1 (He.ma K (He.ga K "StreamHandler") "addFilter") ["self", "one"] [] (spAddFilter K))
    (c_Filter_init : Callable P w K mg base 1 (He.ma K (He.ga K "Filter") "__init__") ["self", "name"] [] (spFilterInit (K := K))) :
    Callable P w K mg base 5 f ["_law_s", "_law_yard", "_law_m", "_law_many"] [] (spLawHsX K) := by
  refine F.call0 sc__law_handlers (fun vs H Q E h => ?_) (fun cdv A outer s H vs Q E hr h => ?_) (fun _ _ _ _ _ _ us hl => match us, hl with | [_, _, _, _], _ => rfl)
  · obtain ⟨s, l, M, hl, n, k, S, m, ad, G, kvs, xs, cs, rfl, _⟩ := h; rfl
  obtain ⟨s, l, M, hl, n, k, S, m, ad, G, kvs, xs, cs, rfl, W, hGM, hkv, hxl, X0, O, h0, hk, hn, hQ⟩ := h
  refine ⟨_, (pss_cons (ps_set (i := 4) sc__law_handlers.nd rfl (by first | exact Or.inl rfl | exact Or.inr rfl) (pe_lst pa_nil))
      (pss_cons (ps_for PassesOwn.never rfl (pi_range1 (by rfl) T.b_range (pa_cons (pv 3) pa_nil)) (pg_name (i := 5) sc__law_handlers.nd rfl (by first | exact Or.inl rfl | exact Or.inr rfl)) (pss_cons (ps_par (by rfl) sc__law_handlers.nd (i := 6) (j := 7) rfl rfl (by decide) rfl rfl (pa_cons (pe_fn T.g__law_pick c__law_pick (hr.mono (by first | decide | exact Nat.le_refl _)) (by rfl) (pa_cons (pv 0) (pa_cons (pe_lst (pa_cons pe_str (pa_cons pe_str (pa_cons pe_str (pa_cons pe_str pa_nil))))) pa_nil))) (pa_cons (pe_fn T.g__law_pick c__law_pick (hr.mono (by first | decide | exact Nat.le_refl _)) (by rfl) (pa_cons (pv 0) (pa_cons (pe_lst (pa_cons pe_int (pa_cons pe_int (pa_cons pe_int (pa_cons pe_int (pa_cons pe_int (pa_cons pe_int pa_nil))))))) pa_nil))) pa_nil)) (by rfl))
      (pss_cons (ps_set (i := 8) sc__law_handlers.nd rfl (by first | exact Or.inl rfl | exact Or.inr rfl) (pe_op op_rep (pe_lst (pa_cons (pe_fn T.g__law_pick c__law_pick (hr.mono (by first | decide | exact Nat.le_refl _)) (by rfl) (pa_cons (pv 0) (pa_cons (pe_lst (pa_cons pe_str (pa_cons pe_str (pa_cons pe_str (pa_cons pe_str (pa_cons pe_str pa_nil)))))) pa_nil))) pa_nil)) (pe_callTy call_int1 (by rfl) T.b_int (by decide +kernel) (pa_cons (pe_cmpR op_eq (pe_fn T.g__law_draw c__law_draw (hr.mono (by first | decide | exact Nat.le_refl _)) (by rfl) (pa_cons (pv 0) (pa_cons pe_int pa_nil))) pe_int (nomark _)) pa_nil))))
      (pss_cons (ps_set (i := 9) sc__law_handlers.nd rfl (by first | exact Or.inl rfl | exact Or.inr rfl) (pe_mk T.k_StreamHandler T.g_StreamHandler c_StreamHandler_init (hr.mono (by first | decide | exact Nat.le_refl _)) (by rfl) (pa_cons (pv 1) (pa_cons (pv 6) pa_nil))))
      (pss_cons (ps_expr (pe_mt T.c_StreamHandler T.m_StreamHandler_setLevel c_StreamHandler_setLevel (hr.mono (by first | decide | exact Nat.le_refl _)) (pv 9) (pa_cons (pv 7) pa_nil)))
      (pss_cons (ps_expr (pe_mt T.c_StreamHandler T.m_StreamHandler_setTerminator c_StreamHandler_setTerminator (hr.mono (by first | decide | exact Nat.le_refl _)) (pv 9) (pa_cons (pe_op op_add_str (pe_op op_add_str pe_str (pe_callTy call_str_int (by rfl) T.b_str (by decide +kernel) (pa_cons (pv 5) pa_nil))) pe_str) pa_nil)))
      (pss_cons (ps_for PassesOwn.never rfl (pi_list (pv 8)) (pg_name (i := 10) sc__law_handlers.nd rfl (by first | exact Or.inl rfl | exact Or.inr rfl)) (pss_one (ps_expr (pe_mt T.c_StreamHandler T.m_StreamHandler_addFilter c_StreamHandler_addFilter (hr.mono (by first | decide | exact Nat.le_refl _)) (pv 9) (pa_cons (pe_mk T.k_Filter T.g_Filter c_Filter_init (hr.mono (by first | decide | exact Nat.le_refl _)) (by rfl) (pa_cons (pv 10) pa_nil)) pa_nil)))))
      (pss_cons (ps_expr (pe_bm PySem.F.plainAttrs_list PySem.F.slot_list_append PySem.F.type_list_append mt_append (pe_dget (hu_of hr) (pv 2) pe_str (fun _ _ => rfl)) (pa_cons (pe_tup (pa_cons (pv 6) (pa_cons (pv 7) (pa_cons (pv 8) (pa_cons (pe_op op_add_str (pe_op op_add_str pe_str (pe_callTy call_str_int (by rfl) T.b_str (by decide +kernel) (pa_cons (pv 5) pa_nil))) pe_str) pa_nil))))) pa_nil)))
      (pss_one (ps_expr (pe_bm PySem.F.plainAttrs_list PySem.F.slot_list_append PySem.F.type_list_append mt_append (pv 4) (pa_cons (pv 9) pa_nil))))))))))))
      (pss_one (ps_ret (pv 4))))), ?_⟩
  walk_at "in"
  walk_at "gi"
  rename_i D fD
  have W0 := W.new (o := .lst []) fD
  have X1 := X0.same (same_new fD (.lst []))
  have W1 : RS.Wd (upd H D (.lst [])) s l n (cY K m ad :: RS.cell hl (.lst xs) :: RS.cell D (.lst []) :: RS.cG G :: cs) := W0.dn2
  generalize upd H D (.lst []) = H1 at W1 X1
  clear W0 fD
  have I0 : LawHsX K s l hl S m ad G cs n xs.length D 0 H1 := ⟨m, ad, xs, n, W1, O, ⟨rfl, by rw [h0]; rfl, by rw [h0]; intro h z; cases z⟩, rfl, rfl, by omega, h0, X1⟩
  clear W1 W
  refine for_it walk_range (fun i σ H' => LawHsX K s l hl S m ad G cs n xs.length D i H' ∧ ∃ o5 o6 o7 o8 o9 o10, σ = [some (.ref s), some (.ref (ad .y)), some (.ref M), some (.int (k : Nat)), some (.ref D), o5, o6, o7, o8, o9, o10]) ⟨I0, _, _, _, _, _, _, rfl⟩ (fun _ _ _ _ _ => trivial) (fun i x σ H9 H2 hi hP hx => ?_) (fun σ H2 hP => ?_)
  · obtain ⟨rfl, rfl⟩ := hx
    obtain ⟨⟨m2, ad2, xs2, n2, W2, O2, P2, y2, b2, l2, eH, X2⟩, o5, o6, o7, o8, o9, o10, rfl⟩ := hP
    rw [← y2]
    have st2 := W2.stm
    obtain ⟨⟨os, hs2⟩, ⟨ol, hl2⟩, _⟩ := RW.stm_at st2
    walk_at "go"
    intro pA fA
    have XA := X2.put (o := .lst [.str "one", .str "one", .str "two", .str "stderr"]) (RW.ne_new' fA hs2) (RW.ne_new' fA hl2)
    walk_at "go"
    intro H3 j3 x q3 X3 ej hx
    have X3 : StX H3 s l ((hsX S i).2.dr 4).2 (n2 + 1) := X3
    have st3 := X3.stm
    have W3 := (W2.same (same_new fA _)).old q3 st3
    obtain ⟨hxe, hxm⟩ := pk4 (f := V.str) (x0 := "") hx
    have hj : j3 = ((hsX S i).2.dr 4).1.toNat := by have := congrArg Int.toNat ej; exact this.symm
    rw [hj] at hxe hxm
    generalize hstE : ((["one", "one", "two", "stderr"] : List Str)[((hsX S i).2.dr 4).1.toNat]?).getD "" = st at hxe hxm
    subst hxe
    have hst : st ∈ strs3 := by
      simp only [List.mem_cons, List.not_mem_nil, or_false] at hxm
      rcases hxm with rfl | rfl | rfl | rfl <;> decide
    clear XA hxm hj ej X2
    clear hx q3 fA hs2 hl2 W2
    obtain ⟨⟨os, hs3⟩, ⟨ol, hl3⟩, _⟩ := RW.stm_at st3
    walk_at "go"
    intro pB fB
    have XB := X3.put (o := .lst [.int 0, .int 0, .int 10, .int 25, .int 30, .int 40]) (RW.ne_new' fB hs3) (RW.ne_new' fB hl3)
    walk_at "go"
    intro H4 j4 x q4 X4 ej hx
    have X4 : StX H4 s l (((hsX S i).2.dr 4).2.dr 6).2 (n2 + 1 + 1) := X4
    have st4 := X4.stm
    have W4 := (W3.same (same_new fB _)).old q4 st4
    obtain ⟨hxe, hxm⟩ := pk6 (f := V.int) (x0 := 0) hx
    have hj : j4 = (((hsX S i).2.dr 4).2.dr 6).1.toNat := by have := congrArg Int.toNat ej; exact this.symm
    rw [hj] at hxe hxm
    generalize hlvE : (([0, 0, 10, 25, 30, 40] : List Int)[(((hsX S i).2.dr 4).2.dr 6).1.toNat]?).getD 0 = lv at hxe hxm
    subst hxe
    have hlv : lv < 1000 := by
      simp only [List.mem_cons, List.not_mem_nil, or_false] at hxm
      rcases hxm with rfl | rfl | rfl | rfl | rfl | rfl <;> decide
    clear XB hxm hj ej X3
    clear hx q4 fB hs3 hl3 W3 st3 st2
    obtain ⟨⟨os, hs4⟩, ⟨ol, hl4⟩, _⟩ := RW.stm_at st4
    walk_at "go"
    intro pC fC
    have XC := X4.put (o := .lst [.str "", .str "a", .str "a.b", .str "b", .str "root"]) (RW.ne_new' fC hs4) (RW.ne_new' fC hl4)
    walk_at "go"
    intro H5 j5 x q5 X5 ej hx
    have X5 : StX H5 s l ((((hsX S i).2.dr 4).2.dr 6).2.dr 5).2 (n2 + 1 + 1 + 1) := X5
    have st5 := X5.stm
    have W5 := (W4.same (same_new fC _)).old q5 st5
    obtain ⟨hxe, hxm⟩ := pk5 (f := V.str) (x0 := "") hx
    have hj : j5 = ((((hsX S i).2.dr 4).2.dr 6).2.dr 5).1.toNat := by have := congrArg Int.toNat ej; exact this.symm
    rw [hj] at hxe hxm
    generalize hsvE : ((["", "a", "a.b", "b", "root"] : List Str)[((((hsX S i).2.dr 4).2.dr 6).2.dr 5).1.toNat]?).getD "" = sv at hxe hxm
    subst hxe
    have hsv : sv.length ≤ 10 := by
      simp only [List.mem_cons, List.not_mem_nil, or_false] at hxm
      rcases hxm with rfl | rfl | rfl | rfl | rfl <;> decide
    clear XC hxm hj ej X4
    clear hx q5 fC hs4 hl4 W4 st4
    obtain ⟨⟨os, hs5⟩, ⟨ol, hl5⟩, _⟩ := RW.stm_at st5
    walk_at "go"
    intro pD fD
    have XD := X5.put (o := .lst [.str sv]) (RW.ne_new' fD hs5) (RW.ne_new' fD hl5)
    walk_at "go"
    intro H6 q6 X6 d1 d2
    have X6 : StX H6 s l (((((hsX S i).2.dr 4).2.dr 6).2.dr 5).2.dr 4).2 (n2 + 4) := X6
    generalize hSx : (((((hsX S i).2.dr 4).2.dr 6).2.dr 5).2.dr 4).2 = Sx at X6
    generalize hdE : (((((hsX S i).2.dr 4).2.dr 6).2.dr 5).2.dr 4).1 = d at d1 d2 ⊢
    have st6 := X6.stm
    have W6 := (W5.new fD).old q6 st6
    have hD6 := W6.c0
    clear q6 fD hs5 hl5 W5 st5
    walk_at "gi"
    refine .inr ⟨decide (V.int d = V.int 0), rfl, ?_⟩
    generalize hb : decide (V.int d = V.int 0) = b
    refine ⟨pD, _, _, rfl, rfl, hD6, (by cases b <;> decide), (by cases b <;> decide), (by rw [sizeLine_eq]; cases b <;> exact Nat.le_of_ble_eq_true rfl), fun pE fE => ?_⟩
    have esv : (List.replicate (if b = true then (1 : Int) else 0).toNat [V.str sv]).flatten = ((if b = true then [sv] else []) : List Str).map V.str := by cases b <;> rfl
    rw [esv]
    obtain ⟨svs, es, sv1, sv2⟩ : ∃ svs : List Str, svs = (if b = true then [sv] else []) ∧ svs.length ≤ 1 ∧ ∀ z ∈ svs, z.length ≤ 10 := ⟨_, rfl, by cases b <;> exact Nat.le_of_ble_eq_true rfl, fun z hz => by cases b with | true => (rw [List.mem_singleton.mp hz]; exact hsv) | false => cases hz⟩
    rw [← es]
    have W7 := W6.tl.new (o := .lst (svs.map V.str)) fE
    have X7 := X6.same (same_new fE (.lst (svs.map V.str)))
    clear W6 hD6 fE esv d1 d2 st6 X6
    generalize upd H6 pE (.lst (svs.map V.str)) = H7 at W7 X7
    walk_at "gi"
    intro p dx hp hdx hne
    show spStreamInit K [.ref p, .ref (ad2 .y), .str st] (upd (upd H7 dx (.own p)) p (.ins (CS K) dx [])) _ E0
    refine RR.Rep.mkS (m := m2) (ad := ad2) W7.up1.hd O2 hp hdx (Ne.symm hne) fun ad3 H8 R8 M8 F8 e8 => ⟨rfl, ?_⟩
    have W8 := W7.up1.mv (c' := cY K (m2.addHd ⟨false, st, 0, [], "\n"⟩) ad3) R8 M8
    rw [P2.ln] at e8 F8
    have X8 := X7.mv M8 (W7.up1.os _ List.mem_cons_self).1 (W7.up1.os _ List.mem_cons_self).2
    clear hp hdx hne W7 M8 X7
    subst e8
    have hj8 := at_addHd m2 ⟨false, st, 0, [], "\n"⟩ i P2.ln.symm
    have g8 := R8.hd_ hj8
    rw [hdO_s rfl] at g8
    have y8 := R8.y_
    have nu8 := R8.nu_
    have hi9 : i < 9 := by have : i < k := hi; omega
    have en : (0 + (i : Int)).natAbs = i := by omega
    have hlen := RN.len_toString (0 + (i : Int))
    have lg0 : i.log2 ≤ i := Nat.log2_le_self i
    rw [en] at hlen
    have lg : (0 + (i : Int)).natAbs.log2 < 1920 := by rw [en]; omega
    generalize hT : Str.ofString (toString (0 + (i : Int))) = tk at hlen
    have z1 : (("/" : Str)).length + tk.length ≤ sizeLine := by rw [sizeLine_eq]; show 1 + tk.length ≤ _; omega
    have z2 : (("/" : Str) ++ tk).length + (("\n" : Str)).length ≤ sizeLine := by rw [len_app, sizeLine_eq]; show 1 + tk.length + 1 ≤ _; omega
    have z3 : (("/" : Str) ++ tk ++ ("\n" : Str)).length ≤ 100 := by rw [len_app, len_app]; show 1 + tk.length + 1 ≤ _; omega
    obtain ⟨R9, M9⟩ := R8.setHd hj8 (h' := ⟨false, st, lv, [], "\n"⟩) rfl
    rw [set_addHd m2 _ _ i P2.ln.symm, hdO_s rfl] at R9 M9
    have hj9 := at_addHd m2 ⟨false, st, lv, [], "\n"⟩ i P2.ln.symm
    obtain ⟨R10, M10⟩ := R9.setHd hj9 (h' := ⟨false, st, lv, [], ("/" : Str) ++ tk ++ ("\n" : Str)⟩) rfl
    rw [set_addHd m2 _ _ i P2.ln.symm, hdO_s rfl] at R10 M10
    dsimp only at R9 M9 R10 M10 g8
    have W10 := (W8.mv (c' := cY K _ ad3) R9 M9).mv (c' := cY K _ ad3) R10 M10
    have X10 := (X8.mv (M' := Y K _ ad3) M9 (W8.os _ List.mem_cons_self).1 (W8.os _ List.mem_cons_self).2).mv (M' := Y K _ ad3) M10 ((W8.mv (c' := cY K _ ad3) R9 M9).os _ List.mem_cons_self).1 ((W8.mv (c' := cY K _ ad3) R9 M9).os _ List.mem_cons_self).2
    walk_at "gi"
    refine ⟨(rfl : _ = [V.ref (ad3 (.hd i)), (LvIn.int lv).v]), ?_⟩
    walk_at "go"
    rw [hT]
    walk_at "go"
    clear g8 y8 nu8 hj8 hj9 R8 R9 M9 R10 M10 lg0 hlen en W8
    generalize htm : (("/" : Str) ++ tk ++ ("\n" : Str)) = tm at W10 X10 z3 ⊢
    generalize upd (upd H8 (ad3 (.hd i)) (.ins (CS K) (ad3 (.hdD i)) (hdS (ad3 (.hdF i)) (ad3 .y) lv "\n" st))) (ad3 (.hd i)) (.ins (CS K) (ad3 (.hdD i)) (hdS (ad3 (.hdF i)) (ad3 .y) lv tm st)) = H10 at W10 X10 ⊢
    have hpE := W10.tl.c0
    walk_at "go"
    refine for_it walk_list (fun j σ H' => (∃ ad4 : YRo → Addr, RS.Wd H' s l (n2 + 4) (cY K (m2.addHd ⟨false, st, lv, svs.take j, tm⟩) ad4 :: RS.cell pE (.lst (svs.map V.str)) :: RS.cell hl (.lst xs2) :: RS.cell D (.lst ((List.range i).map fun j => .ref (ad2 (.hd j)))) :: RS.cG G :: cs) ∧ FixN (i + 1) ad3 ad4 ∧ StX H' s l Sx (n2 + 4)) ∧ ∃ oA, σ = [some (.ref s), some (.ref (ad2 .y)), some (.ref M), some (.int (k : Nat)), some (.ref D), some (.int (0 + (i : Nat))), some (.str st), some (.int lv), some (.ref pE), some (.ref (ad3 (.hd i))), oA])
      ⟨⟨ad3, W10, FixN.refl _ _, X10⟩, _, rfl⟩ (fun j σ H' _ h => by obtain ⟨⟨ad4, W, _, _⟩, _⟩ := h; exact SqL.of W.tl.c0) (fun j v σ H9 H11 hj hP hv => ?_) (fun σ H11 hP => ?_)
    · obtain ⟨rfl, hv⟩ := hv
      obtain ⟨⟨ad4, W11, F4, X11⟩, oA, rfl⟩ := hP
      rw [List.getElem?_map] at hv
      obtain ⟨z, hz, rfl⟩ := Option.map_eq_some_iff.mp hv
      have hzl := sv2 z (List.mem_of_getElem? hz)
      have etk := List.take_add_one (l := svs) (i := j)
      rw [hz] at etk
      have ea : ad4 (.hd i) = ad3 (.hd i) := F4.2 i (Nat.lt_succ_self i)
      rw [← ea]
      have R11 : YR K _ ad4 H11 := W11.hd
      have hj11 := at_addHd m2 ⟨false, st, lv, svs.take j, tm⟩ i P2.ln.symm
      have O11 : (m2.addHd ⟨false, st, lv, svs.take j, tm⟩).Ok := O2.addHd ⟨by show (svs.take j).length ≤ 20; rw [List.length_take]; omega, fun y hy => Nat.le_trans (sv2 y (List.mem_of_mem_take hy)) (by decide), z3, (by show st.length ≤ 100; revert hst; intro hst; simp only [strs3, List.mem_cons, List.not_mem_nil, or_false] at hst; rcases hst with rfl | rfl | rfl <;> decide), rfl⟩ (by have := P2.ln; omega)
      have g11 := R11.hd_ hj11
      rw [hdO_s rfl] at g11
      have e2 : svs.take (j + 1) = svs.take j ++ [z] := etk
      walk_at "go"
      intro q dq hq hdq nqd
      refine ⟨CF K, q, dq, .str z, rfl, upd_same, T.c_Filter, T.n_Filter_name, rfl, ?_⟩
      dsimp only [tNil]
      rw [upd_upd]
      show spAddFilter K [.ref (ad4 (.hd i)), .ref q] (upd (upd H11 dq (.own q)) q (.ins (CF K) dq [("name", .str z)])) _ E0
      refine RR.Rep.putFl T R11 O11 hj11 rfl hq hdq (Ne.symm nqd) fun H12 R12 M12 => ?_
      have W12 := W11.mv (c' := cY K _ (adF ad4 i (svs.take j).length q dq)) R12 M12
      rw [set_addHd m2 _ _ i P2.ln.symm] at W12
      exact ⟨⟨adF ad4 i (svs.take j).length q dq, (by rw [e2]; exact W12), F4.trans (FixN.trans ⟨rfl, fun _ _ => rfl⟩ (FixN.refl (i + 1) _) (Nat.le_refl _)) (Nat.le_refl _), X11.mv M12 (W11.os _ List.mem_cons_self).1 (W11.os _ List.mem_cons_self).2⟩, _, (by rw [ea]; rfl)⟩
    · obtain ⟨⟨ad4, W11, F4, X11⟩, oA, rfl⟩ := hP
      rw [List.length_map, List.take_length] at W11
      have ob1 : hl ≠ s := fun z => (W11.os (RS.cell hl (.lst xs2)) (by simp)).1 () _ rfl z
      have ob2 : hl ≠ l := fun z => (W11.os (RS.cell hl (.lst xs2)) (by simp)).2 () _ rfl z
      have hm11 : H11 M = some (.dK kvs) := W11.st (G := G) (by simp) _ _ hGM
      have hh11 : H11 hl = some (.lst xs2) := W11.up2.c0
      have lnh : xs2.length < sizeLine := by rw [b2, sizeLine_eq]; have : i < k := hi; omega
      walk_at "go"
      rw [hT]
      walk_at "go"
      intro qt fqt
      rw [htm]
      have hh12 := same_new fqt (.tup [.str st, .int lv, .ref pE, .str tm]) _ _ hh11
      have W12 := ((W11.up1.tl.same (same_new fqt (.tup [.str st, .int lv, .ref pE, .str tm]))).up1.set (o' := .lst (xs2 ++ [.ref qt]))).up1
      have X12 := (X11.same (same_new fqt (.tup [.str st, .int lv, .ref pE, .str tm]))).put (o := .lst (xs2 ++ [.ref qt])) ob1 ob2
      walk_at "go"
      generalize upd (upd H11 qt (.tup [.str st, .int lv, .ref pE, .str tm])) hl (.lst (xs2 ++ [.ref qt])) = H12 at W12 X12 ⊢
      have W13 := W12.up2
      have hD13 := W13.c0
      have lnD : ((List.range i).map fun j => V.ref (ad2 (.hd j))).length < sizeLine := by rw [List.length_map, List.length_range, sizeLine_eq]; omega
      clear hm11 hh11 hh12 W11 W12
      walk_at "go"
      have X14 := X12.put (o := .lst (((List.range i).map fun j => V.ref (ad2 (.hd j))) ++ [.ref (ad3 (.hd i))])) (fun z => (W13.os _ List.mem_cons_self).1 () _ rfl z) (fun z => (W13.os _ List.mem_cons_self).2 () _ rfl z)
      have W14 := (W13.set (o' := .lst (((List.range i).map fun j => V.ref (ad2 (.hd j))) ++ [.ref (ad3 (.hd i))]))).dn2
      have el : ((List.range i).map fun j => V.ref (ad2 (.hd j))) ++ [V.ref (ad3 (.hd i))] = (List.range (i + 1)).map fun j => V.ref (ad4 (.hd j)) := by
        rw [List.range_succ, List.map_append]
        congr 1
        · refine List.map_congr_left fun j hj => ?_
          have hj := List.mem_range.mp hj
          rw [F4.2 j (by omega), F8.2 j hj]
        · show _ = [V.ref (ad4 (.hd i))]
          rw [F4.2 i (Nat.lt_succ_self i)]
      rw [el] at W14 X14 ⊢
      refine ⟨⟨m2.addHd ⟨false, st, lv, svs, tm⟩, ad4, xs2 ++ [.ref qt], n2 + 4, W14, ?_, ⟨?_, ?_, ?_⟩, ?_, ?_, by omega, ?_, ?_⟩, _, _, _, _, _, _, rfl⟩
      · refine O2.addHd ⟨by show svs.length ≤ 20; omega, fun y hy => Nat.le_trans (sv2 y hy) (by decide), z3, ?_, rfl⟩ (by have := P2.ln; omega)
        show st.length ≤ 100
        simp only [strs3, List.mem_cons, List.not_mem_nil, or_false] at hst
        rcases hst with rfl | rfl | rfl <;> decide
      · have e := P2.eq
        show ({ m2 with hs := m2.hs ++ [_] } : TM) = { m with hs := m2.hs ++ [_] }
        rw [e]
      · show (m2.hs ++ [_]).length = _
        rw [List.length_append, List.length_singleton, P2.ln]
      · intro h hh
        rcases List.mem_append.mp hh with hh | hh
        · exact P2.al h hh
        · rw [List.mem_singleton.mp hh]; exact ⟨rfl, hst⟩
      · rw [F4.1, F8.1, y2]
      · rw [List.length_append, List.length_singleton, b2]; omega
      · show m2.hs ++ [_] = (hsX S i).1 ++ [(hdX (hsX S i).2 i).1]
        rw [eH]
        congr 2
        unfold hdX
        dsimp only
        rw [hstE, hlvE, hsvE, hdE, es, ← htm, ← hT]
        congr 1
        by_cases c : d = 0
        · rw [if_pos c, ← hb, if_pos (decide_eq_true (congrArg V.int c))]
        · rw [if_neg c, ← hb, if_neg (by rw [decide_eq_false fun z => c (V.int.inj z)]; exact fun z => nomatch z)]
      · show StX _ s l (hdX (hsX S i).2 i).2 _
        unfold hdX
        dsimp only
        rw [hSx]; exact X14
  · obtain ⟨I, o5, o6, o7, o8, o9, o10, rfl⟩ := hP
    walk_at "go"
    exact hQ _ _ I
end
end K17

set_option Elab.async false
set_option linter.all false
set_option maxRecDepth 100000
set_option maxHeartbeats 0
namespace K17
open PySem PySem.Spec PyProof.Rows L2 RC
section
variable {P : Program} {w : World} {K : PySem.W.Frag} {mg : Str → Option Value} {base : Heap}
/-! ### a yard is made -/
/-- H came from H0; ns: what is still being changed; L: what was laid since -/
structure Fr (H0 : Hp) (p : Addr) (ns : List Addr) (L : List (Addr × HO)) (H : Hp) : Prop where
  kp : ∀ b o, b ≠ p → H0 b = some o → H b = some o
  has : ∀ x ∈ L, x.1 ∉ ns ∧ H0 x.1 = none ∧ H x.1 = some x.2
  live : ∀ n ∈ ns, ∃ o, H n = some o
  old : ∀ n ∈ ns, n = p ∨ H0 n = none
  mem : p ∈ ns
  nd : (L.map (·.1)).Nodup
section
variable {H0 H H2 : Hp} {p : Addr} {ns : List Addr} {L : List (Addr × HO)}
theorem Fr.none (F : Fr H0 p ns L H) {q : Addr} (h : H q = none) : H0 q = none := by
  cases e : H0 q with
  | none => rfl
  | some o =>
    by_cases c : q = p
    · subst c; obtain ⟨o', e'⟩ := F.live _ F.mem; rw [e'] at h; cases h
    · rw [F.kp q o c e] at h; cases h
theorem Fr.notin (F : Fr H0 p ns L H) {q : Addr} (h : H q = Option.none) : q ∉ ns := fun z => by obtain ⟨o, e⟩ := F.live q z; rw [e] at h; cases h
theorem Fr.to (F : Fr H0 p ns L H) (k : ∀ b o, b ∉ ns → H b = some o → H2 b = some o) (l : ∀ n ∈ ns, ∃ o, H2 n = some o) : Fr H0 p ns L H2 where
  kp := fun b o hb e => k b o (fun z => by rcases F.old b z with c | c; exact hb c; rw [c] at e; cases e) (F.kp b o hb e)
  has := fun x hx => ⟨(F.has x hx).1, (F.has x hx).2.1, k _ _ (F.has x hx).1 (F.has x hx).2.2⟩
  live := l
  old := F.old
  mem := F.mem
  nd := F.nd
theorem Fr.nin (F : Fr H0 p ns L H) {q : Addr} (h : H q = Option.none) : q ∉ L.map (·.1) := fun z => by
  obtain ⟨x, hx, e⟩ := List.mem_map.mp z
  have := (F.has x hx).2.2
  rw [e, h] at this; cases this
theorem nin_cons {a b : Addr} {o : HO} {L : List (Addr × HO)} (h : a ≠ b) (k : a ∉ L.map (·.1)) : a ∉ ((b, o) :: L).map (·.1) := fun z => by
  rcases List.mem_cons.mp z with z | z
  · exact h z
  · exact k z
theorem Fr.cons (F : Fr H0 p ns L H) {q : Addr} {o : HO} (h1 : q ∉ ns) (h2 : H0 q = Option.none) (h3 : H q = some o) (h4 : q ∉ L.map (·.1)) : Fr H0 p ns ((q, o) :: L) H where
  kp := F.kp
  has := fun x hx => by
    rcases List.mem_cons.mp hx with c | c
    · subst c; exact ⟨h1, h2, h3⟩
    · exact F.has x c
  live := F.live
  old := F.old
  mem := F.mem
  nd := List.nodup_cons.mpr ⟨h4, F.nd⟩
theorem Fr.set (F : Fr H0 p ns L H) {o : HO} {q : Addr} (hq : q ∈ ns) (e : upd H q o = H2) : Fr H0 p ns L H2 := by
  subst e
  refine F.to (fun b u h1 h2 => ?_) (fun n hn => ?_)
  · rw [upd_ne (fun z => h1 (by rw [z]; exact hq))]; exact h2
  · by_cases c : n = q
    · subst c; exact ⟨_, upd_same⟩
    · rw [upd_ne c]; exact F.live n hn
theorem Fr.new (F : Fr H0 p ns L H) {o : HO} {q : Addr} (hq : H q = Option.none) (e : upd H q o = H2) : Fr H0 p ns ((q, o) :: L) H2 := by
  subst e
  refine (F.to (H2 := upd H q o) (fun b u h1 h2 => same_new hq _ _ _ h2) (fun n hn => ?_)).cons (F.notin hq) (F.none hq) upd_same (F.nin hq)
  obtain ⟨u, hu⟩ := F.live n hn
  exact ⟨u, same_new hq _ _ _ hu⟩
/-- one more is being changed -/
theorem Fr.own (F : Fr H0 p ns L H) {o : HO} {q : Addr} (hq : H q = Option.none) (e : upd H q o = H2) : Fr H0 p (q :: ns) L H2 := by
  have G := F.new hq e
  subst e
  refine ⟨G.kp, fun x hx => ?_, fun n hn => ?_, fun n hn => ?_, List.mem_cons_of_mem _ F.mem, F.nd⟩
  · have g := F.has x hx
    refine ⟨fun z => ?_, g.2.1, (G.has x (List.mem_cons_of_mem _ hx)).2.2⟩
    rcases List.mem_cons.mp z with c | c
    · rw [c, hq] at g; cases g.2.2
    · exact g.1 c
  · rcases List.mem_cons.mp hn with c | c
    · subst c; exact ⟨_, upd_same⟩
    · exact G.live n c
  · rcases List.mem_cons.mp hn with c | c
    · subst c; exact .inr (F.none hq)
    · exact F.old n c
theorem Fr.get (F : Fr H0 p ns L H) {x : Addr × HO} (h : x ∈ L) : H x.1 = some x.2 := (F.has x h).2.2
theorem Fr.putf (F : Fr H0 p ns L H) {o o' : HO} {q : Addr} (hq : H q = Option.none) (e : upd (upd H q o) p o' = H2) : Fr H0 p ns ((q, o) :: L) H2 := (F.new hq rfl).set F.mem e
theorem Fr.ownf (F : Fr H0 p ns L H) {o o' : HO} {q : Addr} (hq : H q = Option.none) (e : upd (upd H q o) p o' = H2) : Fr H0 p (q :: ns) L H2 ∧ H2 q = some o := by
  have G := F.own hq (o := o) rfl
  refine ⟨G.set (List.mem_cons_of_mem _ F.mem) e, ?_⟩
  have n : q ≠ p := fun z => F.notin hq (by rw [z]; exact F.mem)
  rw [← e, upd_ne n]; exact upd_same
theorem Fr.same (F : Fr H0 p ns L H) (s : Same H H2) : Fr H0 p ns L H2 := F.to (fun b o _ e => s b o e) (fun n hn => let ⟨o, e⟩ := F.live n hn; ⟨o, s _ _ e⟩)
theorem Fr.start {o : HO} (h : H0 p = some o) : Fr H0 p [p] [] H0 where
  kp := fun _ _ _ e => e
  has := fun _ h => nomatch h
  live := fun n hn => by cases List.mem_singleton.mp hn; exact ⟨o, h⟩
  old := fun n hn => .inl (List.mem_singleton.mp hn)
  mem := List.mem_singleton.mpr rfl
  nd := List.nodup_nil
end
def yF (clk : Int) (st fi na nu lm md hn fr rt lr : Addr) : List (Str × V) := [("clock", .int clk), ("stream_texts", .ref st), ("file_rows", .ref fi), ("names_of", .ref na), ("numbers_of", .ref nu), ("bar_level", .int 0), ("logger_map", .ref lm), ("made", .ref md), ("handler_names", .ref hn), ("failure_rows", .ref fr), ("root", .ref rt), ("last_resort", .ref lr)]
/-- where the parts of a yard lie -/
structure YParts where
  (st fi na nu lm md hn fr rt lr rl rh ll : Addr)
def YParts.L (K : PySem.W.Frag) (y : Addr) (q : YParts) (rd ld : Addr) : List (Addr × HO) := [(q.ll, .lst []), (q.lr, .ins (He.ga K "StreamHandler") ld (hF q.ll y ++ ([("stream", .str "stderr")] : List (Str × V)))), (q.rh, .lst []), (q.rl, .lst []), (q.rt, .ins (CL K) rd (lF q.rl y "root" 30 q.rh .non)), (q.fr, .lst []), (q.hn, .dK []), (q.lm, .dK []), (q.nu, .dK (kv_FIRST_NUMBERS.map fun q => (q.1, q.2.v K))), (q.na, .dK (kv_FIRST_NAMES.map fun q => (q.1, q.2.v K))), (q.fi, .dK []), (q.st, .dK [])]
structure YNew (K : PySem.W.Frag) (H0 H : Hp) (y dy : Addr) (clk : Int) (q : YParts) : Prop where
  fr : ∃ rd ld, Fr H0 y [q.md, y] (q.L K y rd ld) H
  y : H y = some (.ins (CY K) dy (yF clk q.st q.fi q.na q.nu q.lm q.md q.hn q.fr q.rt q.lr))
  md : H q.md = some (.lst [])
def spYardInit (K : PySem.W.Frag) : Sp := fun vs H Q _ => ∃ (p dx : Addr) (clk : Int), vs = [.ref p, .int clk] ∧ H p = some (.ins (CY K) dx []) ∧ ∀ (H' : Hp) (q : YParts), YNew K H H' p dx clk q → Q .non H'
theorem ok_yard_init {f : Addr} (T : Txt P w K mg) (F : Stands K "__init__" "Yard.__init__" s_Yard_init [.int 0] f)
    (c_Logger_init : Callable P w K mg base 2 (He.ma K (He.ga K "Logger") "__init__") ["self", "yard", "name", "level"] [] (spLoggerInit K))
    (c_StreamHandler_init_d1 : Callable P w K mg base 3 (He.ma K (He.ga K "StreamHandler") "__init__") ["self", "yard", "stream"] [.str "stderr"] (spStreamInit K)) :
    Callable P w K mg base 5 f ["self", "now"] [.int 0] (spYardInit K) := by
  refine F.call sc_Yard_init 1 0 (fun vs H Q E h => ?_) (fun cdv A outer s H vs Q E hr h => ?_) (fun z => nomatch z) fun _ => ⟨rfl, fun _ _ _ _ _ _ _ us its hl hi => match us, hl, its, hi with | [_], _, [_], _ => ⟨_, rfl, rfl⟩⟩
  · obtain ⟨p, dx, clk, rfl, _⟩ := h; rfl
  obtain ⟨p, dx, clk, rfl, hp, hQ⟩ := h
  refine ⟨_, (pss_cons (ps_fld (pv 0) (pv 1) rfl)
      (pss_cons (ps_fld (pv 0) pe_dnewK rfl)
      (pss_cons (ps_fld (pv 0) pe_dnewK rfl)
      (pss_cons (ps_fld (pv 0) (pe_callTy (RB.call_dictK T.t_FIRST_NAMES) (by rfl) T.b_dict (by decide +kernel) (pa_cons (pe_glob (v := .ref _) (by rfl) T.g_FIRST_NAMES rfl) pa_nil)) rfl)
      (pss_cons (ps_fld (pv 0) (pe_callTy (RB.call_dictK T.t_FIRST_NUMBERS) (by rfl) T.b_dict (by decide +kernel) (pa_cons (pe_glob (v := .ref _) (by rfl) T.g_FIRST_NUMBERS rfl) pa_nil)) rfl)
      (pss_cons (ps_fld (pv 0) pe_int rfl)
      (pss_cons (ps_fld (pv 0) pe_dnewK rfl)
      (pss_cons (ps_fld (pv 0) (pe_lst pa_nil) rfl)
      (pss_cons (ps_fld (pv 0) pe_dnewK rfl)
      (pss_cons (ps_fld (pv 0) (pe_lst pa_nil) rfl)
      (pss_cons (ps_fld (pv 0) (pe_mk T.k_Logger T.g_Logger c_Logger_init (hr.mono (by first | decide | exact Nat.le_refl _)) (by rfl) (pa_cons (pv 0) (pa_cons pe_str (pa_cons (pe_gi (by rfl) T.g_WARNING) pa_nil)))) rfl)
      (pss_cons (ps_fld (pv 0) (pe_mk T.k_StreamHandler T.g_StreamHandler c_StreamHandler_init_d1 (hr.mono (by first | decide | exact Nat.le_refl _)) (by rfl) (pa_cons (pv 0) pa_nil)) rfl)
      (pss_one (ps_expr (pe_bm0 PySem.F.plainAttrs_list PySem.F.slot_list_pop PySem.F.type_list_pop mt_pop (pe_fld (pv 0) rfl)))))))))))))))), ?_⟩
  have F0 := Fr.start hp
  refine ⟨_, rfl, _, rfl, p, _, dx, _, rfl, hp, T.c_Yard, T.n_Yard_clock, (by show 0 < 1000; decide), ?_⟩
  generalize e1 : upd H p _ = H1
  have F1 := F0.set List.mem_cons_self e1
  have p1 := congrFun e1.symm p; rw [upd_same] at p1
  clear e1
  intro st h_st
  refine ⟨_, rfl, p, _, dx, _, rfl, same_new h_st _ _ _ p1, T.c_Yard, T.n_Yard_stream_texts, (by show 1 < 1000; decide), ?_⟩
  generalize e : upd (upd H1 st _) p _ = H2
  have F2 := F1.putf h_st e
  have p2 := congrFun e.symm p; rw [upd_same] at p2
  clear e
  intro fi h_fi
  refine ⟨_, rfl, p, _, dx, _, rfl, same_new h_fi _ _ _ p2, T.c_Yard, T.n_Yard_file_rows, (by show 2 < 1000; decide), ?_⟩
  generalize e : upd (upd H2 fi _) p _ = H3
  have F3 := F2.putf h_fi e
  have p3 := congrFun e.symm p; rw [upd_same] at p3
  clear e
  refine ⟨rfl, fun na h_na => ?_⟩
  refine ⟨_, rfl, p, _, dx, _, rfl, same_new h_na _ _ _ p3, T.c_Yard, T.n_Yard_names_of, (by show 3 < 1000; decide), ?_⟩
  generalize e : upd (upd H3 na _) p _ = H4
  have F4 := F3.putf h_na e
  have p4 := congrFun e.symm p; rw [upd_same] at p4
  clear e
  refine ⟨rfl, fun nu h_nu => ?_⟩
  refine ⟨_, rfl, p, _, dx, _, rfl, same_new h_nu _ _ _ p4, T.c_Yard, T.n_Yard_numbers_of, (by show 4 < 1000; decide), ?_⟩
  generalize e : upd (upd H4 nu _) p _ = H5
  have F5 := F4.putf h_nu e
  have p5 := congrFun e.symm p; rw [upd_same] at p5
  clear e
  refine ⟨_, rfl, p, _, dx, _, rfl, p5, T.c_Yard, T.n_Yard_bar_level, (by show 5 < 1000; decide), ?_⟩
  generalize e : upd H5 p _ = H6
  have F6 := F5.set F5.mem e
  have p6 := congrFun e.symm p; rw [upd_same] at p6
  clear e
  intro lm h_lm
  refine ⟨_, rfl, p, _, dx, _, rfl, same_new h_lm _ _ _ p6, T.c_Yard, T.n_Yard_logger_map, (by show 6 < 1000; decide), ?_⟩
  generalize e : upd (upd H6 lm _) p _ = H7
  have F7 := F6.putf h_lm e
  have p7 := congrFun e.symm p; rw [upd_same] at p7
  clear e
  refine ⟨(by show 0 ≤ sizeLine; decide), fun md h_md => ?_⟩
  refine ⟨_, rfl, p, _, dx, _, rfl, same_new h_md _ _ _ p7, T.c_Yard, T.n_Yard_made, (by show 7 < 1000; decide), ?_⟩
  generalize e : upd (upd H7 md _) p _ = H8
  obtain ⟨F8, m8⟩ := F7.ownf h_md e
  have p8 := congrFun e.symm p; rw [upd_same] at p8
  have nmp : md ≠ p := fun z => F7.notin h_md (by rw [z]; exact F7.mem)
  clear e
  intro hn h_hn
  refine ⟨_, rfl, p, _, dx, _, rfl, same_new h_hn _ _ _ p8, T.c_Yard, T.n_Yard_handler_names, (by show 8 < 1000; decide), ?_⟩
  generalize e : upd (upd H8 hn _) p _ = H9
  have F9 := F8.putf h_hn e
  have p9 := congrFun e.symm p; rw [upd_same] at p9
  have m9 : H9 md = some (.lst []) := by rw [← e, upd_ne nmp]; exact same_new h_hn _ _ _ m8
  clear e
  refine ⟨(by show 0 ≤ sizeLine; decide), fun fr h_fr => ?_⟩
  refine ⟨_, rfl, p, _, dx, _, rfl, same_new h_fr _ _ _ p9, T.c_Yard, T.n_Yard_failure_rows, (by show 9 < 1000; decide), ?_⟩
  generalize e : upd (upd H9 fr _) p _ = H10
  have F10 := F9.putf h_fr e
  have p10 := congrFun e.symm p; rw [upd_same] at p10
  have m10 : H10 md = some (.lst []) := by rw [← e, upd_ne nmp]; exact same_new h_fr _ _ _ m9
  clear e
  -- root
  refine ⟨_, rfl, fun rt rd h_rt h_rd hne => ?_⟩
  refine ⟨rt, rd, p, "root", 30, rfl, upd_same, fun Hr rl rh k1 k2 k3 k4 k5 k6 k7 => ⟨rfl, ?_⟩⟩
  have sr : Same H10 Hr := made_same h_rt h_rd k1
  obtain ⟨k2a, k2⟩ := upd_none k2
  obtain ⟨k3a, k3⟩ := upd_none k3
  have k2 := (upd_none k2).2
  have k3 := (upd_none k3).2
  have j1 : rl ≠ rt := fun z => by rw [z, k5] at k6; cases k6
  have j2 : rh ≠ rt := fun z => by rw [z, k5] at k7; cases k7
  have Fr1 := (((F10.same sr).cons (F10.notin h_rt) (F10.none h_rt) k5 (F10.nin h_rt)).cons (F10.notin k2) (F10.none k2) k6 (nin_cons j1 (F10.nin k2))).cons (F10.notin k3) (F10.none k3) k7 (nin_cons (Ne.symm k4) (nin_cons j2 (F10.nin k3)))
  have pr := sr _ _ p10
  have mr := sr _ _ m10
  refine ⟨_, rfl, p, _, dx, _, rfl, pr, T.c_Yard, T.n_Yard_root, (by show 10 < 1000; decide), ?_⟩
  generalize e : upd Hr p _ = H11
  have F11 := Fr1.set Fr1.mem e
  have p11 := congrFun e.symm p; rw [upd_same] at p11
  have m11 : H11 md = some (.lst []) := by rw [← e, upd_ne nmp]; exact mr
  clear e
  -- last_resort
  refine ⟨_, rfl, fun lr ld h_lr h_ld hne2 => ?_⟩
  have npl : lr ≠ p := fun z => by rw [z, p11] at h_lr; cases h_lr
  have nml : lr ≠ md := fun z => by rw [z, m11] at h_lr; cases h_lr
  have t1 : ∀ C fs, Same H11 (upd (upd H11 ld (.own lr)) lr (.ins C ld fs)) := fun C fs => made_same h_lr h_ld (fun _ _ _ e => e)
  refine ⟨lr, ld, p, dx, md, "stderr", _, [], rfl, upd_same, npl, t1 _ _ _ _ p11, rfl, rfl, t1 _ _ _ _ m11, (by decide), fun Hl ll l1 l2 l3 l4 l5 => ⟨rfl, ?_⟩⟩
  have l2b : H11 ll = none := (upd_none (upd_none l2).2).2
  have f12 : ∀ b o, b ∉ [md, p] → H11 b = some o → Hl b = some o := fun b o hb e => l1 b o (ne_of_none e h_lr) (fun z => hb (by rw [z]; exact List.mem_cons_self)) (t1 _ _ _ _ e)
  have p12 := l1 p _ (Ne.symm npl) (Ne.symm nmp) (t1 _ _ _ _ p11)
  have F12 := ((F11.to f12 (fun n hn => by
    rcases List.mem_cons.mp hn with c | c
    · subst c; exact ⟨_, l5⟩
    · cases List.mem_singleton.mp c; exact ⟨_, p12⟩)).cons (F11.notin h_lr) (F11.none h_lr) l3 (F11.nin h_lr)).cons (F11.notin l2b) (F11.none l2b) l4 (nin_cons (fun z => (by rw [z, l3] at l4; cases l4)) (F11.nin l2b))
  refine ⟨_, rfl, p, _, dx, _, rfl, p12, T.c_Yard, T.n_Yard_last_resort, (by show 11 < 1000; decide), ?_⟩
  generalize e : upd Hl p _ = H13
  have F13 := F12.set F12.mem e
  have p13 := congrFun e.symm p; rw [upd_same] at p13
  have m13 : H13 md = some (.lst [.ref lr]) := by rw [← e, upd_ne nmp]; exact l5
  clear e
  refine ⟨_, rfl, p, _, dx, _, _, rfl, p13, T.c_Yard, T.n_Yard_made, rfl, .inl ⟨rfl, _, SqL.of m13⟩, md, _, _, rfl, rfl, m13, rfl, ?_⟩
  have F14 := F13.set (o := .lst []) List.mem_cons_self rfl
  refine hQ _ ⟨st, fi, na, nu, lm, md, hn, fr, rt, lr, rl, rh, ll⟩ ⟨⟨rd, ld, F14⟩, ?_, upd_same⟩
  rw [upd_ne (Ne.symm nmp)]; exact p13
end
end K17

set_option Elab.async false
set_option linter.all false
set_option maxRecDepth 100000
set_option maxHeartbeats 0
namespace K17
open PySem PySem.Spec PyProof.Rows L2 RC
section
variable {P : Program} {w : World} {K : PySem.W.Frag} {mg : Str → Option Value} {base : Heap}
/-! ### at first -/
def nms0 (K : PySem.W.Frag) : List (Key × V) := kv_FIRST_NAMES.map fun q => (q.1, q.2.v K)
def nums0 (K : PySem.W.Frag) : List (Key × V) := kv_FIRST_NUMBERS.map fun q => (q.1, q.2.v K)
def TM.m0 (K : PySem.W.Frag) : TM := ⟨[], fun _ => 30, fun _ => true, fun _ => false, fun _ => [], fun _ => [], [], [], [], 0, 0, nms0 K, nums0 K⟩
def ad0 (y dy rd ld : Addr) (q : YParts) : YRo → Addr
  | .y => y | .yD => dy | .st => q.st | .fi => q.fi | .na => q.na | .nu => q.nu | .lm => q.lm | .md => q.md | .hn => q.hn | .fr => q.fr
  | .lr => q.lr | .lrD => ld | .lrF => q.ll | .lg _ => q.rt | .lgD _ => rd | .lgF _ => q.rl | .lgH _ => q.rh | _ => 0
theorem m0_ok (K : PySem.W.Frag) : (TM.m0 K).Ok := ⟨fun _ h => (by cases h), List.nodup_nil, by show 0 ≤ 40; decide, fun _ _ _ h => (by cases h), fun _ => List.nodup_nil, by show 0 ≤ 30; decide, fun _ => by show 0 ≤ 20; decide, fun _ _ h => (by cases h), fun _ h => (by cases h)⟩
theorem valV_mem {kvs : List (Key × V)} {k : Key} {v : V} (h : valV kvs k = some v) : ∃ e ∈ kvs, e.2 = v := by
  unfold valV at h
  obtain ⟨e, he, z⟩ := Option.map_eq_some_iff.mp h
  exact ⟨e, List.mem_of_find?_eq_some he, z⟩
theorem nms0_ok (K : PySem.W.Frag) : NmsOk (nms0 K) := fun k v h => by
  obtain ⟨e, he, rfl⟩ := valV_mem h
  obtain ⟨q, hq, rfl⟩ := List.mem_map.mp he
  simp only [kv_FIRST_NAMES, List.mem_cons, List.not_mem_nil, or_false] at hq
  rcases hq with rfl | rfl | rfl | rfl | rfl | rfl <;> exact ⟨_, rfl⟩
theorem mem_root0 {K : PySem.W.Frag} {x : Str} (h : x ∈ (TM.m0 K).all) : x = "" := List.mem_singleton.mp h
/-- a new yard -/
theorem YNew.rep {H H2 : Hp} {y dy : Addr} {q : YParts} (hy : H y = none) (hd : H dy = none) (hne : dy ≠ y) (N : YNew K (upd (upd H dy (.own y)) y (.ins (CY K) dy [])) H2 y dy 0 q) : ∃ ad : YRo → Addr, ad .y = y ∧ YR K (TM.m0 K) ad H2 ∧ (∀ r u, Y K (TM.m0 K) ad r = some u → H (ad r) = none) ∧ Same H H2 := by
  obtain ⟨rd, ld, F⟩ := N.fr
  have S : Same H H2 := made_same hy hd F.kp
  have gy := N.y
  have gm := N.md
  have hm0 : H q.md = none := by
    rcases F.old q.md List.mem_cons_self with c | c
    · rw [c, gy] at gm; cases gm
    · exact (upd_none (upd_none c).2).2
  have nym : y ≠ q.md := fun z => by rw [← z, gy] at gm; cases gm
  have k0 : ∀ e ∈ q.L K y rd ld, H e.1 = none ∧ H2 e.1 = some e.2 := fun e he => ⟨(upd_none (upd_none (F.has e he).2.1).2).2, (F.has e he).2.2⟩
  have nL : ∀ e ∈ q.L K y rd ld, e.1 ≠ y ∧ e.1 ≠ q.md := fun e he => by
    have := (F.has e he).1
    simp only [List.mem_cons, List.not_mem_nil, or_false, not_or] at this
    exact ⟨this.2, this.1⟩
  have main := RS.rep_list (M := Y K (TM.m0 K) (ad0 y dy rd ld q)) (ad := ad0 y dy rd ld q) (H0 := H) (H := H2) [(.y, y, .ins (CY K) dy (yF 0 q.st q.fi q.na q.nu q.lm q.md q.hn q.fr q.rt q.lr)), (.md, q.md, .lst []),
    (.lrF, q.ll, .lst []), (.lr, q.lr, .ins (He.ga K "StreamHandler") ld (hF q.ll y ++ ([("stream", .str "stderr")] : List (Str × V)))), (.lgH "", q.rh, .lst []), (.lgF "", q.rl, .lst []), (.lg "", q.rt, .ins (CL K) rd (lF q.rl y "root" 30 q.rh .non)), (.fr, q.fr, .lst []), (.hn, q.hn, .dK []), (.lm, q.lm, .dK []), (.nu, q.nu, .dK (kv_FIRST_NUMBERS.map fun q => (q.1, q.2.v K))), (.na, q.na, .dK (kv_FIRST_NAMES.map fun q => (q.1, q.2.v K))), (.fi, q.fi, .dK []), (.st, q.st, .dK [])]
    (fun r o e => ?_) ?_ (fun x hx => ?_)
  · exact ⟨_, rfl, main.1, main.2, S⟩
  · cases r with
    | y => cases e; simp [ad0]; rfl
    | st => cases e; simp [ad0]; rfl
    | fi => cases e; simp [ad0]
    | na => cases e; simp [ad0]; rfl
    | nu => cases e; simp [ad0]; rfl
    | lm => cases e; simp [ad0]; rfl
    | md => cases e; simp [ad0]; rfl
    | hn => cases e; simp [ad0]
    | fr => cases e; simp [ad0]; rfl
    | lr => cases e; simp [ad0]; rfl
    | lrF => cases e; simp [ad0]
    | lg x =>
      obtain ⟨hx, e⟩ := ite_some (n := (TM.m0 K).all) e
      cases mem_root0 hx
      cases e; simp [ad0]; rfl
    | lgF x =>
      obtain ⟨hx, e⟩ := ite_some (n := (TM.m0 K).all) e
      cases mem_root0 hx
      cases e; simp [ad0]; rfl
    | lgH x =>
      obtain ⟨hx, e⟩ := ite_some (n := (TM.m0 K).all) e
      cases mem_root0 hx
      cases e; simp [ad0]; rfl
    | lf x k =>
      obtain ⟨hx, e⟩ := ite_some (n := (TM.m0 K).all) e
      cases e
    | hd j => cases e
    | hdF j => cases e
    | hf j k => cases e
    | ft k => cases e
    | yD => cases e
    | lrD => cases e
    | lgD x => cases e
    | lfD x k => cases e
    | hdD j => cases e
    | hfD j k => cases e
  · show (y :: q.md :: (q.L K y rd ld).map (·.1)).Nodup
    refine List.nodup_cons.mpr ⟨fun z => ?_, List.nodup_cons.mpr ⟨fun z => ?_, F.nd⟩⟩
    · rcases List.mem_cons.mp z with z | z
      · exact nym z
      · obtain ⟨e, he, z⟩ := List.mem_map.mp z
        exact (nL e he).1 z
    · obtain ⟨e, he, z⟩ := List.mem_map.mp z
      exact (nL e he).2 z
  · rcases List.mem_cons.mp hx with rfl | hx
    · exact ⟨hy, gy⟩
    rcases List.mem_cons.mp hx with rfl | hx
    · exact ⟨hm0, gm⟩
    simp only [List.mem_cons, List.not_mem_nil, or_false] at hx
    rcases hx with rfl | rfl | rfl | rfl | rfl | rfl | rfl | rfl | rfl | rfl | rfl | rfl <;> exact k0 _ (by simp [YParts.L])
def bd0 (A : MAd) (h t b4 b5 : Addr) : LRo → Addr
  | .m => A.m | .lv => A.lv | .pr => A.pr | .of => A.of | .hd => A.hd | .sv => A.sv | .h => h | .tx => t | .hl _ => b4 | .sl _ => b5 | _ => 0
/-- the law's own, new -/
theorem tree_rep {H H' : Hp} {A : MAd} {h t u b4 b5 : Addr} {ou : HO} (G : Gr H H' [(t, .dK []), (h, .lst []), (u, ou), (A.sv, .dK [(Sum.inr "", .ref b5)]), (b5, .lst []), (A.hd, .dK [(Sum.inr "", .ref b4)]), (b4, .lst []), (A.of, .dK [(Sum.inr "", .bl false)]), (A.pr, .dK [(Sum.inr "", .bl true)]), (A.lv, .dK [(Sum.inr "", .int 30)]), (A.m, .dK (mdK A (.int 0) h t))]) :
    ∃ bd : LRo → Addr, bd .m = A.m ∧ LR (TM.m0 K) bd H' ∧ ∀ r o, LM (TM.m0 K) bd r = some o → H (bd r) = none := by
  have main := RS.rep_list (M := LM (TM.m0 K) (bd0 A h t b4 b5)) (ad := bd0 A h t b4 b5) (H0 := H) (H := H') [(.tx, t, .dK []), (.h, h, .lst []), (.sv, A.sv, .dK [(Sum.inr "", .ref b5)]), (.sl "", b5, .lst []), (.hd, A.hd, .dK [(Sum.inr "", .ref b4)]), (.hl "", b4, .lst []), (.of, A.of, .dK [(Sum.inr "", .bl false)]), (.pr, A.pr, .dK [(Sum.inr "", .bl true)]), (.lv, A.lv, .dK [(Sum.inr "", .int 30)]), (.m, A.m, .dK (mdK A (.int 0) h t))]
    (fun r o e => ?_) ?_ (fun x hx => ?_)
  · exact ⟨_, rfl, main.1, main.2⟩
  · cases r with
    | m => cases e; simp [bd0]; rfl
    | lv => cases e; simp [bd0]; rfl
    | pr => cases e; simp [bd0]; rfl
    | of => cases e; simp [bd0]; rfl
    | hd => cases e; simp [bd0]; rfl
    | sv => cases e; simp [bd0]; rfl
    | h => cases e; simp [bd0]; rfl
    | tx => cases e; simp [bd0]; rfl
    | hl x =>
      obtain ⟨hx, e⟩ := ite_some (n := (TM.m0 K).all) e
      cases mem_root0 hx
      cases e; simp [bd0]; rfl
    | sl x =>
      obtain ⟨hx, e⟩ := ite_some (n := (TM.m0 K).all) e
      cases mem_root0 hx
      cases e; simp [bd0]; rfl
    | ht j => cases e
    | hs j => cases e
  · have e : ([t, h, u, A.sv, b5, A.hd, b4, A.of, A.pr, A.lv, A.m] : List Addr).Nodup := G.nd
    refine List.Sublist.nodup ?_ e
    exact .cons₂ _ (.cons₂ _ (.cons _ (.cons₂ _ (.cons₂ _ (.cons₂ _ (.cons₂ _ (.cons₂ _ (.cons₂ _ (.cons₂ _ (.cons₂ _ .slnil))))))))))
  · have k0 := G.has
    simp only [List.mem_cons, List.not_mem_nil, or_false] at hx
    rcases hx with rfl | rfl | rfl | rfl | rfl | rfl | rfl | rfl | rfl | rfl
    · exact k0 (t, _) (by simp)
    · exact k0 (h, _) (by simp)
    · exact k0 (A.sv, _) (by simp)
    · exact k0 (b5, _) (by simp)
    · exact k0 (A.hd, _) (by simp)
    · exact k0 (b4, _) (by simp)
    · exact k0 (A.of, _) (by simp)
    · exact k0 (A.pr, _) (by simp)
    · exact k0 (A.lv, _) (by simp)
    · exact k0 (A.m, _) (by simp)
end
end K17

set_option Elab.async false
set_option linter.all false
set_option maxRecDepth 100000
set_option maxHeartbeats 0
namespace K17
open PySem PySem.Spec PyProof.Rows L2 RC
section
variable {P : Program} {w : World} {K : PySem.W.Frag} {mg : Str → Option Value} {base : Heap}
/-! ### one value, whichever way it came -/
theorem st_cont {te : TE} {g : TG} {rest : TS} {D : Ends} {σ : L2.St} {H : Hp} (R : V → Hp → Prop) (h : ∀ Q' : VK, (∀ v H', R v H' → Q' v H') → te σ H Q') (k : ∀ v H', R v H' → g v σ H' (rest D)) : tSeq (tAsg te g) rest D σ H := h _ k
theorem ne_self {K : PySem.W.Frag} {v : V} {H : Hp} {R : VK} (h : v = .non ∨ ∃ a C, v = .ref a ∧ RA.InsP K H a C) (q : R (.bl false) H) : rNe v v H R ∨ RA.rNeP K v v H R := by
  rcases h with rfl | ⟨a, C, rfl, i⟩
  · exact .inl ⟨rfl, q⟩
  · exact .inr ⟨a, C, a, C, rfl, i, rfl, i, .inl rfl, by rw [decide_eq_true rfl]; exact q⟩
theorem _root_.RC.Stm.ins {H : Hp} {s l : Addr} {n : Nat} (h : Stm H s l n) {a C d : Addr} {fs : List (Str × V)} (e : H a = some (.ins C d fs)) : a ≠ s ∧ a ≠ l := by
  obtain ⟨_, _, _, _, _, g1, g2, _⟩ := h
  exact ⟨fun z => (by rw [z, g1] at e; cases e), fun z => (by rw [z, g2] at e; cases e)⟩
theorem _root_.RC.Stm.dk {H : Hp} {s l : Addr} {n : Nat} (h : Stm H s l n) {a : Addr} {kvs : List (Key × V)} (e : H a = some (.dK kvs)) : a ≠ s ∧ a ≠ l := by
  obtain ⟨_, _, _, _, _, g1, g2, _⟩ := h
  exact ⟨fun z => (by rw [z, g1] at e; cases e), fun z => (by rw [z, g2] at e; cases e)⟩
theorem st_if {tt : TT} {A B : TS} {rest : TS} {D : Ends} {σ : L2.St} {H : Hp} (R : L2.St → Hp → Prop) (h : ∀ D' : Ends, (∀ σ H', R σ H' → D'.nx σ H') → tIfS tt A B D' σ H) (k : ∀ σ H', R σ H' → rest D σ H') : tSeq (tIfS tt A B) rest D σ H := h _ k
end
end K17

set_option Elab.async false
set_option linter.all false
set_option maxRecDepth 100000
set_option maxHeartbeats 0
namespace K17
open PySem PySem.Spec PyProof.Rows L2 RC
section
variable {P : Program} {w : World} {K : PySem.W.Frag} {mg : Str → Option Value} {base : Heap}
/-! ### pools, turns -/
def poolL (m : TM) (ad : YRo → Addr) : List V := (List.range m.hs.length).map fun j => .ref (ad (.hd j))
theorem pool_congr {m m' : TM} {ad ad' : YRo → Addr} (h : m'.hs.length = m.hs.length) (k : ∀ j, ad' (.hd j) = ad (.hd j)) : poolL m ad = poolL m' ad' := by
  unfold poolL
  rw [h]
  exact List.map_congr_left fun j _ => by rw [k]
theorem inV_ints (j : Nat) (js : List Nat) : L2.inV (.int (j : Nat)) (js.map fun i => V.int (i : Nat)) = decide (j ∈ js) := by
  unfold L2.inV
  rw [List.any_map, Bool.eq_iff_iff, List.any_eq_true, decide_eq_true_eq]
  refine ⟨fun ⟨i, hi, z⟩ => ?_, fun h => ⟨j, h, ?_⟩⟩
  · have z : L2.eqV (.int (i : Nat)) (.int (j : Nat)) = true := z
    simp [L2.eqV] at z
    have e : i = j := by omega
    rw [← e]; exact hi
  · show L2.eqV (.int (j : Nat)) (.int (j : Nat)) = true
    simp [L2.eqV]
theorem flat_ints (js : List Nat) : (js.map fun i => V.int (i : Nat)).all L2.flatV = true := by rw [List.all_map]; exact List.all_eq_true.mpr fun _ _ => rfl
theorem add_hs (m : TM) (x : Str) : (m.add x).hs = m.hs := by
  by_cases c : x ∈ m.all
  · rw [add_old c]
  · rw [add_new c]
theorem add_nms (m : TM) (x : Str) : (m.add x).nms = m.nms := by
  by_cases c : x ∈ m.all
  · rw [add_old c]
  · rw [add_new c]
theorem add_len (m : TM) (x : Str) : (m.add x).names.length ≤ m.names.length + 1 := by
  by_cases c : x ∈ m.all
  · rw [add_old c]; omega
  · rw [add_new c]; show (m.names ++ [x]).length ≤ _; rw [List.length_append]; exact Nat.le_refl _
def bodyFor : Stmt → List Stmt
  | .For _ _ b _ _ => b
  | _ => []
theorem gen_nx {t : TS} {N B C : L2.St → Hp → Prop} {R : VK} {σ : L2.St} {H : Hp} (h : ∀ D' : Ends, (∀ σ H, N σ H → D'.nx σ H) → t D' σ H) : t ⟨N, R, B, C⟩ σ H := h _ fun _ _ q => q
end
end K17

set_option Elab.async false
set_option linter.all false
set_option maxRecDepth 100000
set_option maxHeartbeats 0
namespace K17
open PySem PySem.Spec PyProof.Rows L2 RC
section
variable {P : Program} {w : World} {K : PySem.W.Frag} {mg : Str → Option Value} {base : Heap}
/-! ### settings of loggers -/
def TM.setLev (m : TM) (x : Str) (b : Int) : TM := { m with lev := fun y => if y = x then b else m.lev y }
def TM.setDis (m : TM) (x : Str) (b : Bool) : TM := { m with dis := fun y => if y = x then b else m.dis y }
def TM.putF (m : TM) (x : Str) (n : Str) : TM := { m with sv := fun y => if y = x then m.sv x ++ [n] else m.sv y }
def TM.setBar (m : TM) (b : Int) : TM := { m with bar := b }
section
variable {m : TM} {ad : YRo → Addr} {bd : LRo → Addr} {H H' : Hp} {x : Str} {i j : Nat}
theorem _root_.RR.Rep.setLev (R : YR K m ad H) (hx : x ∈ m.all) (b : Int) : YR K (m.setLev x b) ad (upd H (ad (.lg x)) (.ins (CL K) (ad (.lgD x)) (lG { LGm m ad x with lev := b } (ad .y) (rn x) (parV (esM m ad) (ad (.lg "")) x)))) ∧
    YM K m ad H (m.setLev x b) ad (upd H (ad (.lg x)) (.ins (CL K) (ad (.lgD x)) (lG { LGm m ad x with lev := b } (ad .y) (rn x) (parV (esM m ad) (ad (.lg "")) x)))) := by
  refine RR.Rep.set R (.lg x) (Y_lg hx) ?_ fun r hr => ?_
  · rw [Y_lg (m := m.setLev x b) hx]
    show some (HO.ins (CL K) (ad (.lgD x)) (lG ⟨ad (.lgD x), ad (.lgF x), ad (.lgH x), if x = x then b else _, m.prop x, m.dis x⟩ _ _ _)) = _
    rw [if_pos rfl]; rfl
  · cases r with
    | lg y =>
      have c : y ≠ x := fun z => hr (by rw [z])
      show (if y ∈ m.all then some (HO.ins (CL K) (ad (.lgD y)) (lG ⟨ad (.lgD y), ad (.lgF y), ad (.lgH y), if y = x then b else m.lev y, m.prop y, m.dis y⟩ _ _ _)) else none) = _
      rw [if_neg c]; rfl
    | _ => rfl
theorem _root_.RR.Rep.setDis (R : YR K m ad H) (hx : x ∈ m.all) (b : Bool) : YR K (m.setDis x b) ad (upd H (ad (.lg x)) (.ins (CL K) (ad (.lgD x)) (lG { LGm m ad x with dis := b } (ad .y) (rn x) (parV (esM m ad) (ad (.lg "")) x)))) ∧
    YM K m ad H (m.setDis x b) ad (upd H (ad (.lg x)) (.ins (CL K) (ad (.lgD x)) (lG { LGm m ad x with dis := b } (ad .y) (rn x) (parV (esM m ad) (ad (.lg "")) x)))) := by
  refine RR.Rep.set R (.lg x) (Y_lg hx) ?_ fun r hr => ?_
  · rw [Y_lg (m := m.setDis x b) hx]
    show some (HO.ins (CL K) (ad (.lgD x)) (lG ⟨ad (.lgD x), ad (.lgF x), ad (.lgH x), m.lev x, m.prop x, if x = x then b else _⟩ _ _ _)) = _
    rw [if_pos rfl]; rfl
  · cases r with
    | lg y =>
      have c : y ≠ x := fun z => hr (by rw [z])
      show (if y ∈ m.all then some (HO.ins (CL K) (ad (.lgD y)) (lG ⟨ad (.lgD y), ad (.lgF y), ad (.lgH y), m.lev y, m.prop y, if y = x then b else m.dis y⟩ _ _ _)) else none) = _
      rw [if_neg c]; rfl
    | _ => rfl
theorem _root_.RR.Rep.setBar (R : YR K m ad H) (b : Int) : YR K (m.setBar b) ad (upd H (ad .y) (.ins (CY K) (ad .yD) (L2.putF "bar_level" (.int b) (yFm m ad)))) ∧ YM K m ad H (m.setBar b) ad (upd H (ad .y) (.ins (CY K) (ad .yD) (L2.putF "bar_level" (.int b) (yFm m ad)))) :=
  RR.Rep.set R .y rfl rfl fun r hr => by cases r <;> first | rfl | exact absurd rfl hr
def adFL (ad : YRo → Addr) (x : Str) (k : Nat) (q dq : Addr) : YRo → Addr
  | .lf y n => if y = x ∧ n = k then q else ad (.lf y n)
  | .lfD y n => if y = x ∧ n = k then dq else ad (.lfD y n)
  | r => ad r
/-- a Filter is put on a logger -/
theorem _root_.RR.Rep.addFlL (R : YR K m ad H) (hx : x ∈ m.all) {q dq : Addr} {n : Str} (hq : H q = none) (hdq : H dq = none) (nqd : q ≠ dq) :
    YR K (m.putF x n) (adFL ad x (m.sv x).length q dq) (upd (upd (upd H dq (.own q)) q (.ins (CF K) dq [("name", .str n)])) (ad (.lgF x)) (.lst (((List.range (m.sv x).length).map fun k => .ref (ad (.lf x k))) ++ [.ref q]))) ∧
    YM K m ad H (m.putF x n) (adFL ad x (m.sv x).length q dq) (upd (upd (upd H dq (.own q)) q (.ins (CF K) dq [("name", .str n)])) (ad (.lgF x)) (.lst (((List.range (m.sv x).length).map fun k => .ref (ad (.lf x k))) ++ [.ref q]))) := by
  have ef : Y K m ad (.lgF x) = some (.lst ((List.range (m.sv x).length).map fun k => .ref (ad (.lf x k)))) := Y_lgF hx
  have gf := R.at_ _ _ ef
  have nq : q ≠ ad (.lgF x) := fun z => by rw [← z, hq] at gf; cases gf
  have kp : ∀ b o, b ≠ ad (.lgF x) → H b = some o → (upd (upd (upd H dq (.own q)) q (.ins (CF K) dq [("name", .str n)])) (ad (.lgF x)) (.lst (((List.range (m.sv x).length).map fun k => .ref (ad (.lf x k))) ++ [.ref q]))) b = some o := fun b o hb e => by
    rw [upd_ne hb, upd_ne (ne_of_none e hq), upd_ne (ne_of_none e hdq)]; exact e
  have kr : ∀ r o, r ≠ .lgF x → Y K m ad r = some o → _ := fun r o h e => kp (ad r) o (fun z => h (R.inj _ _ _ _ e ef z)) (R.at_ _ _ e)
  have g1 : (upd (upd (upd H dq (.own q)) q (.ins (CF K) dq [("name", .str n)])) (ad (.lgF x)) (.lst (((List.range (m.sv x).length).map fun k => .ref (ad (.lf x k))) ++ [.ref q]))) (ad (.lgF x)) = _ := upd_same
  have g2 : (upd (upd (upd H dq (.own q)) q (.ins (CF K) dq [("name", .str n)])) (ad (.lgF x)) (.lst (((List.range (m.sv x).length).map fun k => .ref (ad (.lf x k))) ++ [.ref q]))) q = some (.ins (CF K) dq [("name", .str n)]) := by rw [upd_ne nq, upd_same]
  generalize (upd (upd (upd H dq (.own q)) q (.ins (CF K) dq [("name", .str n)])) (ad (.lgF x)) (.lst (((List.range (m.sv x).length).map fun k => .ref (ad (.lf x k))) ++ [.ref q]))) = H2 at kp kr g1 g2
  have lfe : ∀ {y : Str} {k : Nat} {o : HO}, Y K (m.putF x n) (adFL ad x (m.sv x).length q dq) (.lf y k) = some o → y ∈ m.all ∧ (if y = x then m.sv x ++ [n] else m.sv y)[k]?.map (fun n' => HO.ins (CF K) (if y = x ∧ k = (m.sv x).length then dq else ad (.lfD y k)) [("name", .str n')]) = some o := fun e => ite_some (n := m.all) e
  refine RS.rep_ext [.lf x (m.sv x).length] R (fun r o e => ?_) (fun r o e => ?_) (fun r hr r' hr' z => ?_) (fun b o hb e => kp b o (fun z => hb _ _ ef z.symm) e)
  · cases r with
    | lgF y =>
      obtain ⟨hy, e⟩ := ite_some (n := m.all) e
      have e : some (HO.lst ((List.range (if y = x then m.sv x ++ [n] else m.sv y).length).map fun k => .ref (adFL ad x (m.sv x).length q dq (.lf y k)))) = some o := e
      by_cases c : y = x
      · subst c
        rw [if_pos rfl] at e
        cases e
        refine g1.trans (congrArg (fun z => some (HO.lst z)) ?_)
        rw [List.length_append, List.length_singleton, List.range_succ, List.map_append]
        congr 1
        · refine List.map_congr_left fun k hk => ?_
          have : k ≠ (m.sv y).length := Nat.ne_of_lt (List.mem_range.mp hk)
          show V.ref _ = V.ref (if y = y ∧ k = (m.sv y).length then q else ad (.lf y k))
          rw [if_neg (fun z => this z.2)]
        · show _ = [V.ref (if y = y ∧ (m.sv y).length = (m.sv y).length then q else _)]
          rw [if_pos ⟨rfl, rfl⟩]
      · rw [if_neg c] at e
        refine kr (.lgF y) o (fun z => c (YRo.lgF.inj z)) ((Y_lgF hy).trans ?_)
        rw [← e]
        congr 2
        refine List.map_congr_left fun k _ => ?_
        show V.ref _ = V.ref (if y = x ∧ k = (m.sv x).length then q else ad (.lf y k))
        rw [if_neg (fun z => c z.1)]
    | lf y k =>
      obtain ⟨hy, e⟩ := lfe e
      show H2 (if y = x ∧ k = (m.sv x).length then q else ad (.lf y k)) = some o
      by_cases c : y = x
      · subst c
        rw [if_pos rfl, sv_get] at e
        by_cases d : k = (m.sv y).length
        · rw [if_pos d, if_pos ⟨rfl, d⟩] at e
          rw [if_pos ⟨rfl, d⟩, g2]; exact e
        · rw [if_neg d, if_neg (fun z => d z.2)] at e
          rw [if_neg (fun z => d z.2)]
          exact kr (.lf y k) o (fun z => nomatch z) ((if_pos hy).trans e)
      · rw [if_neg c, if_neg (fun z => c z.1)] at e
        rw [if_neg (fun z => c z.1)]
        exact kr (.lf y k) o (fun z => nomatch z) ((if_pos hy).trans e)
    | y => exact kr .y o (fun z => nomatch z) e
    | st => exact kr .st o (fun z => nomatch z) e
    | fi => exact kr .fi o (fun z => nomatch z) e
    | na => exact kr .na o (fun z => nomatch z) e
    | nu => exact kr .nu o (fun z => nomatch z) e
    | lm => exact kr .lm o (fun z => nomatch z) e
    | md => exact kr .md o (fun z => nomatch z) e
    | hn => exact kr .hn o (fun z => nomatch z) e
    | fr => exact kr .fr o (fun z => nomatch z) e
    | lr => exact kr .lr o (fun z => nomatch z) e
    | lrF => exact kr .lrF o (fun z => nomatch z) e
    | lg x => exact kr (.lg x) o (fun z => nomatch z) e
    | lgH x => exact kr (.lgH x) o (fun z => nomatch z) e
    | hd j => exact kr (.hd j) o (fun z => nomatch z) e
    | hdF j => exact kr (.hdF j) o (fun z => nomatch z) e
    | hf j k => exact kr (.hf j k) o (fun z => nomatch z) e
    | ft k => exact kr (.ft k) o (fun z => nomatch z) e
    | yD => cases e
    | lrD => cases e
    | lgD x => cases e
    | lfD x k => cases e
    | hdD j => cases e
    | hfD j k => cases e
  · cases r with
    | lgF y => exact .inl ⟨⟨_, Y_lgF (ite_some (n := m.all) e).1⟩, rfl⟩
    | lf y k =>
      obtain ⟨hy, e⟩ := lfe e
      by_cases c : y = x ∧ k = (m.sv x).length
      · exact .inr ⟨by rw [c.1, c.2]; exact List.mem_cons_self, by show H (if y = x ∧ k = (m.sv x).length then q else _) = none; rw [if_pos c]; exact hq⟩
      · refine .inl ⟨?_, if_neg c⟩
        rw [if_neg c] at e
        by_cases d : y = x
        · subst d
          rw [if_pos rfl, sv_get, if_neg (fun z => c ⟨rfl, z⟩)] at e
          exact ⟨o, (if_pos hy).trans e⟩
        · rw [if_neg d] at e
          exact ⟨o, (if_pos hy).trans e⟩
    | y => exact .inl ⟨⟨_, rfl⟩, rfl⟩
    | st => exact .inl ⟨⟨_, rfl⟩, rfl⟩
    | fi => exact .inl ⟨⟨_, rfl⟩, rfl⟩
    | na => exact .inl ⟨⟨_, rfl⟩, rfl⟩
    | nu => exact .inl ⟨⟨_, rfl⟩, rfl⟩
    | lm => exact .inl ⟨⟨_, rfl⟩, rfl⟩
    | md => exact .inl ⟨⟨_, rfl⟩, rfl⟩
    | hn => exact .inl ⟨⟨_, rfl⟩, rfl⟩
    | fr => exact .inl ⟨⟨_, rfl⟩, rfl⟩
    | lr => exact .inl ⟨⟨_, rfl⟩, rfl⟩
    | lrF => exact .inl ⟨⟨_, rfl⟩, rfl⟩
    | lg x => exact .inl ⟨⟨o, e⟩, rfl⟩
    | lgH x => exact .inl ⟨⟨o, e⟩, rfl⟩
    | hd j => exact .inl ⟨⟨o, e⟩, rfl⟩
    | hdF j => exact .inl ⟨⟨o, e⟩, rfl⟩
    | hf j k => exact .inl ⟨⟨o, e⟩, rfl⟩
    | ft k => exact .inl ⟨⟨o, e⟩, rfl⟩
    | yD => cases e
    | lrD => cases e
    | lgD x => cases e
    | lfD x k => cases e
    | hdD j => cases e
    | hfD j k => cases e
  · rw [List.mem_singleton.mp hr, List.mem_singleton.mp hr']
theorem _root_.RR.Rep.putFlL (T : Txt P w K mg) (R : YR K m ad H) (O : m.Ok) (hx : x ∈ m.all) {q dq : Addr} {n : Str} (hq : H q = none) (hdq : H dq = none) (nqd : q ≠ dq) {Q : VK}
    (k : ∀ H', YR K (m.putF x n) (adFL ad x (m.sv x).length q dq) H' → YM K m ad H (m.putF x n) (adFL ad x (m.sv x).length q dq) H' → Q .non H') :
    spAddFilter K [.ref (ad (.lg x)), .ref q] (upd (upd H dq (.own q)) q (.ins (CF K) dq [("name", .str n)])) Q E0 := by
  have g := R.lg_ hx
  have gF := R.lgF_ hx
  have o := O.svl x
  have s1 : Same H (upd (upd H dq (.own q)) q (.ins (CF K) dq [("name", .str n)])) := fun b o e => by rw [upd_ne (ne_of_none e hq), upd_ne (ne_of_none e hdq)]; exact e
  have em : (List.range (m.sv x).length).map (fun k => V.ref (ad (.lf x k))) = ((List.range (m.sv x).length).map fun k => ad (.lf x k)).map V.ref := by rw [List.map_map]; rfl
  rw [em] at gF
  have hF : HasF K (upd (upd H dq (.own q)) q (.ins (CF K) dq [("name", .str n)])) (ad (.lg x)) (CL K) (ad (.lgD x)) (ad (.lgF x)) (lG (LGm m ad x) (ad .y) (rn x) (parV (esM m ad) (ad (.lg "")) x)) ((List.range (m.sv x).length).map fun k => ad (.lf x k)) :=
    ⟨s1 _ _ g, T.c_Logger, T.n_Logger_filters, rfl, s1 _ _ gF, by rw [List.length_map, List.length_range]; omega, by show 8 < 100; decide⟩
  have hnin : q ∉ (List.range (m.sv x).length).map fun k => ad (.lf x k) := fun z => by
    obtain ⟨k, hk, e⟩ := List.mem_map.mp z
    have hk := List.mem_range.mp hk
    have := R.lf_ hx (List.getElem?_eq_getElem hk)
    rw [e, hq] at this; cases this
  refine ⟨ad (.lg x), CL K, ad (.lgD x), ad (.lgF x), q, _, _, rfl, hF, fun b hb => ?_, ?_⟩
  · rcases List.mem_cons.mp hb with rfl | hb
    · exact ⟨_, _, upd_same⟩
    · obtain ⟨k, hk, rfl⟩ := List.mem_map.mp hb
      have hk := List.mem_range.mp hk
      exact ⟨_, _, s1 _ _ (R.lf_ hx (List.getElem?_eq_getElem hk))⟩
  · rw [if_neg hnin]
    obtain ⟨R', M'⟩ := R.addFlL hx (n := n) hq hdq nqd
    rw [List.map_append, ← em]
    exact k _ R' M'
/-- the law's own names of Filters at a logger -/
theorem lr_setSv (R : LR m bd H) (hx : x ∈ m.all) (ns : List Str) : LR { m with sv := fun y => if y = x then ns else m.sv y } bd (upd H (bd (.sl x)) (.lst (ns.map V.str))) ∧ LV m bd H { m with sv := fun y => if y = x then ns else m.sv y } bd (upd H (bd (.sl x)) (.lst (ns.map V.str))) := by
  refine RR.Rep.set R (.sl x) (LM_sl hx) ?_ fun r hr => ?_
  · rw [LM_sl (m := { m with sv := fun y => if y = x then ns else m.sv y }) hx]
    show some (HO.lst ((if x = x then ns else m.sv x).map _)) = _
    rw [if_pos rfl]
  · cases r with
    | sl y =>
      have c : y ≠ x := fun z => hr (by rw [z])
      show (if y ∈ m.all then some (HO.lst ((if y = x then ns else m.sv y).map _)) else none) = (if y ∈ m.all then some (HO.lst ((m.sv y).map _)) else none)
      rw [if_neg c]
    | _ => rfl
theorem TM.Ok.setLevX (O : m.Ok) (x : Str) (b : Int) : (m.setLev x b).Ok := O.setLev _
theorem TM.Ok.setDisX (O : m.Ok) (x : Str) (b : Bool) : (m.setDis x b).Ok := O.setDis _
theorem TM.Ok.setBarX (O : m.Ok) (b : Int) : (m.setBar b).Ok := O.setBar _
theorem TM.Ok.putFX (O : m.Ok) {n : Str} (h1 : (m.sv x).length < 20) (hx : n.length ≤ 2000) : (m.putF x n).Ok := by
  refine O.setSv (by rw [List.length_append, List.length_singleton]; omega) fun k hk => ?_
  rcases List.mem_append.mp hk with h | h
  · exact O.svs x k h
  · rw [List.mem_singleton.mp h]; exact hx
end
end
end K17

set_option Elab.async false
set_option linter.all false
set_option maxRecDepth 100000
set_option maxHeartbeats 0
namespace K17
open PySem PySem.Spec PyProof.Rows L2 RC
section
variable {P : Program} {w : World} {K : PySem.W.Frag} {mg : Str → Option Value} {base : Heap}
def spSetLevel (K : PySem.W.Frag) : Sp := fun vs H Q _ => ∃ (a y dy nu : Addr) (fs : List (Str × V)) (q : LG) (nm : Str) (par : V) (nums : List (Key × V)) (v : LvIn) (r : Int), vs = [.ref a, v.v] ∧ H a = some (.ins (CL K) q.d (lG q y nm par)) ∧ H y = some (.ins (CY K) dy fs) ∧ fs.lookup ("level_of" : Str) = none ∧
  fs.lookup ("numbers_of" : Str) = some (.ref nu) ∧ H nu = some (.dK nums) ∧ lvNum nums v = some (.int r) ∧ Q .non (upd H a (.ins (CL K) q.d (lG { q with lev := r } y nm par)))
theorem ok_setLevel {f : Addr} (T : Txt P w K mg) (F : Stands K "setLevel" "Logger.setLevel" s_Logger_setLevel [] f) (c_Yard_level_of : Callable P w K mg base 2 (He.ma K (He.ga K "Yard") "level_of") ["self", "level"] [] (spLevelOf K)) : Callable P w K mg base 3 f ["self", "level"] [] (spSetLevel K) := by
  refine F.call0 sc_Logger_setLevel (fun vs H Q E h => ?_) (fun cdv A outer s H vs Q E hr h => ?_) (fun _ _ _ _ _ _ us hl => match us, hl with | [_, _], _ => rfl)
  · obtain ⟨a, y, dy, nu, fs, q, nm, par, nums, v, r, rfl, _⟩ := h; rfl
  obtain ⟨a, y, dy, nu, fs, q, nm, par, nums, v, r, rfl, ha, hy, hlo, hnu, hnums, hv, hQ⟩ := h
  refine ⟨_, (pss_one (ps_fld (pv 0) (pe_mt T.c_Yard T.m_Yard_level_of c_Yard_level_of (hr.mono (by first | decide | exact Nat.le_refl _)) (pe_fld (pv 0) rfl) (pa_cons (pv 1) pa_nil)) rfl)), ?_⟩
  exact ⟨_, rfl, a, _, _, _, _, rfl, ha, T.c_Logger, T.n_Logger_yard, rfl, y, dy, fs, rfl, hy, hlo, _, rfl, y, dy, nu, fs, nums, v, _, rfl, hy, hnu, hnums, hv, _, rfl, a, _, _, _, rfl, ha, T.c_Logger, T.n_Logger_level, (by show 8 < 1000; decide), hQ⟩
end
end K17

set_option Elab.async false
set_option linter.all false
set_option maxRecDepth 100000
set_option maxHeartbeats 0

namespace K17
open PySem PySem.Spec PyProof.Rows L2 RC
section
variable {P : Program} {w : World} {K : PySem.W.Frag} {mg : Str → Option Value} {base : Heap}
/-! ### rows of the law, and a logger set by one -/
structure Row where
  (x : Str) (lv : Int) (on off : Bool) (js : List Nat)
structure Row.Ok (r : Row) : Prop where
  nm : ∃ qs, Nm qs ∧ r.x = Txt.join "." qs
  nd : r.js.Nodup
  lt : ∀ j ∈ r.js, j < 3
def RowAt (G : Hp) (a : Addr) (r : Row) : Prop := ∃ q, G a = some (.tup [.str r.x, .int r.lv, .bl r.on, .bl r.off, .ref q]) ∧ G q = some (.lst (r.js.map fun j => .int (j : Nat)))
theorem RowAt.same {G G' : Hp} {a : Addr} {r : Row} (s : Same G G') (h : RowAt G a r) : RowAt G' a r := let ⟨q, h1, h2⟩ := h; ⟨q, s _ _ h1, s _ _ h2⟩
def spSetDis (K : PySem.W.Frag) : Sp := fun vs H Q _ => ∃ (a y : Addr) (q : LG) (nm : Str) (par : V) (b : Bool), vs = [.ref a, .bl b] ∧ H a = some (.ins (CL K) q.d (lG q y nm par)) ∧ Q .non (upd H a (.ins (CL K) q.d (lG { q with dis := b } y nm par)))
theorem ok_setDis {f : Addr} (T : Txt P w K mg) (F : Stands K "setDisabled" "Logger.setDisabled" s_Logger_setDisabled [] f) : Callable P w K mg base 1 f ["self", "flag"] [] (spSetDis K) := by
  refine F.call0 sc_Logger_setDisabled (fun vs H Q E h => ?_) (fun cdv A outer s H vs Q E hr h => ?_) (fun _ _ _ _ _ _ us hl => match us, hl with | [_, _], _ => rfl)
  · obtain ⟨a, y, q, nm, par, b, rfl, _⟩ := h; rfl
  obtain ⟨a, y, q, nm, par, b, rfl, ha, hQ⟩ := h
  refine ⟨_, (pss_one (ps_fld (pv 0) (pv 1) rfl)), ?_⟩
  walk_at "in"
  walk_at "go"
  exact hQ
def TM.puts (m : TM) (x : Str) (js : List Nat) : TM := js.foldl (fun m j => m.putH x j) m
def TM.row (m : TM) (r : Row) : TM := ((((m.add r.x).setLev r.x r.lv).setProp r.x r.on).setDis r.x r.off).puts r.x r.js
section
variable {m : TM} {ad : YRo → Addr} {H : Hp} {x : Str}
theorem _root_.RR.Rep.callLev (R : YR K m ad H) (hx : x ∈ m.all) {lv : Int} {Q : VK} (k : ∀ H', YR K (m.setLev x lv) ad H' → YM K m ad H (m.setLev x lv) ad H' → Q .non H') : spSetLevel K [.ref (ad (.lg x)), .int lv] H Q E0 :=
  ⟨ad (.lg x), ad .y, ad .yD, ad .nu, yFm m ad, LGm m ad x, rn x, _, m.nums, .int lv, lv, rfl, R.lg_ hx, R.y_, rfl, rfl, R.nu_, rfl, k _ (R.setLev hx lv).1 (R.setLev hx lv).2⟩
theorem _root_.RR.Rep.callDis (R : YR K m ad H) (hx : x ∈ m.all) {b : Bool} {Q : VK} (k : ∀ H', YR K (m.setDis x b) ad H' → YM K m ad H (m.setDis x b) ad H' → Q .non H') : spSetDis K [.ref (ad (.lg x)), .bl b] H Q E0 :=
  ⟨ad (.lg x), ad .y, LGm m ad x, rn x, _, b, rfl, R.lg_ hx, k _ (R.setDis hx b).1 (R.setDis hx b).2⟩
theorem puts_snoc (m : TM) (x : Str) (js : List Nat) (j : Nat) : m.puts x (js ++ [j]) = (m.puts x js).putH x j := by unfold TM.puts; rw [List.foldl_append]; rfl
theorem putH_hs (m : TM) (x : Str) (j : Nat) : (m.putH x j).hs = m.hs ∧ (m.putH x j).names = m.names := ⟨rfl, rfl⟩
theorem puts_hs (x : Str) : ∀ (js : List Nat) (m : TM), (m.puts x js).hs = m.hs ∧ (m.puts x js).names = m.names
  | [], _ => ⟨rfl, rfl⟩
  | j :: js, m => puts_hs x js (m.putH x j)
theorem puts_all (m : TM) (x : Str) (js : List Nat) : (m.puts x js).all = m.all := by unfold TM.all; rw [(puts_hs x js m).2]
theorem puts_ok {x : Str} : ∀ (js : List Nat) {m : TM}, m.Ok → x ∈ m.all → (∀ j ∈ js, j < m.hs.length) → (m.puts x js).Ok
  | [], _, O, _, _ => O
  | j :: js, m, O, hx, h => puts_ok js (m := m.putH x j) (O.putH hx (h j List.mem_cons_self)) hx (fun i hi => h i (List.mem_cons_of_mem _ hi))
end
def spSetR (K : PySem.W.Frag) : Sp := fun vs H Q _ => ∃ (s l P a : Addr) (n : Nat) (m : TM) (ad : YRo → Addr) (G : Hp) (r : Row) (cs : List RS.Comp), vs = [.ref (ad .y), .ref P, .ref a] ∧ RS.Wd H s l n (cY K m ad :: RS.cG G :: cs) ∧ m.Ok ∧ G P = some (.lst (poolL m ad)) ∧ RowAt G a r ∧ r.Ok ∧ m.hs.length = 3 ∧ m.names.length < 40 ∧
  ∀ H' ad', RS.Wd H' s l n (cY K (m.row r) ad' :: RS.cG G :: cs) → (m.row r).Ok → ad' .y = ad .y → (∀ j, ad' (.hd j) = ad (.hd j)) → Q .non H'
theorem ok_setR {f : Addr} (T : Txt P w K mg) (F : Stands K "_law_set" "_law_set" s__law_set [] f)
    (c_Yard_getLogger : Callable P w K mg base 4 (He.ma K (He.ga K "Yard") "getLogger") ["self", "name"] [] (spGetLogR K))
    (c_Logger_setLevel : Callable P w K mg base 3 (He.ma K (He.ga K "Logger") "setLevel") ["self", "level"] [] (spSetLevel K))
    (c_Logger_setPropagate : Callable P w K mg base 1 (He.ma K (He.ga K "Logger") "setPropagate") ["self", "flag"] [] (spSetProp K))
    (c_Logger_setDisabled : Callable P w K mg base 1 (He.ma K (He.ga K "Logger") "setDisabled") ["self", "flag"] [] (spSetDis K))
    (c_Logger_addHandler : Callable P w K mg base 1 (He.ma K (He.ga K "Logger") "addHandler") ["self", "handler"] [] (spAddH K)) :
    Callable P w K mg base 5 f ["_law_yard", "_law_pool", "_law_row"] [] (spSetR K) := by
  refine F.call0 sc__law_set (fun vs H Q E h => ?_) (fun cdv A outer s0 H vs Q E hr h => ?_) (fun _ _ _ _ _ _ us hl => match us, hl with | [_, _, _], _ => rfl)
  · obtain ⟨s, l, P, a, n, m, ad, G, r, cs, rfl, _⟩ := h; rfl
  obtain ⟨s, l, P, a, n, m, ad, G, r, cs, rfl, W, O, hP, ⟨q, ha, hq⟩, hr0, h3, hn, hQ⟩ := h
  refine ⟨_, (pss_cons (ps_asg (pv 2) (RG.pg_tupK (K := K) (n := 5) (by rfl) (pgs_cons (pg_name (i := 3) sc__law_set.nd rfl (by first | exact Or.inl rfl | exact Or.inr rfl)) (pgs_cons (pg_name (i := 4) sc__law_set.nd rfl (by first | exact Or.inl rfl | exact Or.inr rfl)) (pgs_cons (pg_name (i := 5) sc__law_set.nd rfl (by first | exact Or.inl rfl | exact Or.inr rfl)) (pgs_cons (pg_name (i := 6) sc__law_set.nd rfl (by first | exact Or.inl rfl | exact Or.inr rfl)) (pgs_cons (pg_name (i := 7) sc__law_set.nd rfl (by first | exact Or.inl rfl | exact Or.inr rfl)) pgs_nil)))))))
      (pss_cons (ps_set (i := 8) sc__law_set.nd rfl (by first | exact Or.inl rfl | exact Or.inr rfl) (pe_mt T.c_Yard T.m_Yard_getLogger c_Yard_getLogger (hr.mono (by first | decide | exact Nat.le_refl _)) (pv 0) (pa_cons (pv 3) pa_nil)))
      (pss_cons (ps_expr (pe_mt T.c_Logger T.m_Logger_setLevel c_Logger_setLevel (hr.mono (by first | decide | exact Nat.le_refl _)) (pv 8) (pa_cons (pv 4) pa_nil)))
      (pss_cons (ps_expr (pe_mt T.c_Logger T.m_Logger_setPropagate c_Logger_setPropagate (hr.mono (by first | decide | exact Nat.le_refl _)) (pv 8) (pa_cons (pv 5) pa_nil)))
      (pss_cons (ps_expr (pe_mt T.c_Logger T.m_Logger_setDisabled c_Logger_setDisabled (hr.mono (by first | decide | exact Nat.le_refl _)) (pv 8) (pa_cons (pv 6) pa_nil)))
      (pss_one (ps_for PassesOwn.never rfl (pi_list (pv 7)) (pg_name (i := 9) sc__law_set.nd rfl (by first | exact Or.inl rfl | exact Or.inr rfl)) (pss_one (ps_expr (pe_mt T.c_Logger T.m_Logger_addHandler c_Logger_addHandler (hr.mono (by first | decide | exact Nat.le_refl _)) (pv 8) (pa_cons (pe_ix ix_list (pv 1) (pv 9) (fun _ _ => rfl)) pa_nil))))))))))), ?_⟩
  walk_at "in"
  have haH := W.g1 _ _ ha
  have R0 : YR K m ad H := W.hd
  have hy0 := R0.y_
  refine ⟨_, rfl, a, _, rfl, SqT.of haH, rfl, ?_⟩
  walk_at "go"
  dsimp only [tNil]
  show spGetLogR K [.ref (ad .y), .str r.x] H _ E0
  refine R0.get O (.inr hr0.nm) fun ad2 H2 R2 M2 F2 => ?_
  have W2 := W.mv (c' := cY K (m.add r.x) ad2) R2 M2
  have O2 := O.add (.inr hr0.nm) hn
  have hx2 : r.x ∈ (m.add r.x).all := add_mem r.x
  have g2 := R2.lg_ hx2
  clear W R0 hy0 haH M2
  refine ⟨_, rfl, ad2 (.lg r.x), _, _, rfl, g2, rfl, _, rfl, ?_⟩
  dsimp only [tNil]
  show spSetLevel K [.ref (ad2 (.lg r.x)), .int r.lv] H2 _ E0
  refine R2.callLev hx2 fun H3 R3 M3 => ?_
  have W3 := W2.mv (c' := cY K ((m.add r.x).setLev r.x r.lv) ad2) R3 M3
  have g3 := RR.Rep.lg_ (m := (m.add r.x).setLev r.x r.lv) R3 hx2
  clear W2 R2 M3 g2
  refine ⟨_, rfl, ad2 (.lg r.x), _, _, rfl, g3, rfl, _, rfl, ?_⟩
  dsimp only [tNil]
  show spSetProp K [.ref (ad2 (.lg r.x)), .bl r.on] H3 _ E0
  refine ⟨_, ad2, r.x, r.on, rfl, R3, hx2, fun H4 R4 M4 => ?_⟩
  have W4 := W3.mv (c' := cY K (((m.add r.x).setLev r.x r.lv).setProp r.x r.on) ad2) R4 M4
  have g4 := RR.Rep.lg_ (m := ((m.add r.x).setLev r.x r.lv).setProp r.x r.on) R4 hx2
  clear W3 R3 M4 g3
  refine ⟨_, rfl, ad2 (.lg r.x), _, _, rfl, g4, rfl, _, rfl, ?_⟩
  dsimp only [tNil]
  show spSetDis K [.ref (ad2 (.lg r.x)), .bl r.off] H4 _ E0
  refine R4.callDis hx2 fun H5 R5 M5 => ?_
  have W5 := W4.mv (c' := cY K ((((m.add r.x).setLev r.x r.lv).setProp r.x r.on).setDis r.x r.off) ad2) R5 M5
  have O5 : ((((m.add r.x).setLev r.x r.lv).setProp r.x r.on).setDis r.x r.off).Ok := TM.Ok.setDisX ((O2.setLevX r.x r.lv).setProp r.on) r.x r.off
  have hx5 : r.x ∈ ((((m.add r.x).setLev r.x r.lv).setProp r.x r.on).setDis r.x r.off).all := hx2
  have h5 : ((((m.add r.x).setLev r.x r.lv).setProp r.x r.on).setDis r.x r.off).hs.length = 3 := by
    show (m.add r.x).hs.length = 3
    rw [add_hs]; exact h3
  clear W4 R4 M5 g4
  have hrow : m.row r = ((((m.add r.x).setLev r.x r.lv).setProp r.x r.on).setDis r.x r.off).puts r.x r.js := rfl
  rw [hrow] at hQ
  generalize (((m.add r.x).setLev r.x r.lv).setProp r.x r.on).setDis r.x r.off = m5 at W5 O5 hx5 h5 R5 hQ
  have hqH := W5.g1 _ _ hq
  have hj0 : ∀ (k j : Nat), r.js[k]? = some j → j < 3 := fun k j h => hr0.lt j (List.mem_of_getElem? h)
  refine ⟨_, rfl, q, rfl, ⟨_, SqL.of hqH⟩, ?_⟩
  refine for_it walk_list (fun i σ H' => RS.Wd H' s l n (cY K (m5.puts r.x (r.js.take i)) ad2 :: RS.cG G :: cs) ∧ ∃ o, σ = [some (.ref (ad .y)), some (.ref P), some (.ref a), some (.str r.x), some (.int r.lv), some (.bl r.on), some (.bl r.off), some (.ref q), some (.ref (ad2 (.lg r.x))), o]) ⟨W5, _, rfl⟩ (fun i σ H' _ h => SqL.of (h.1.g1 _ _ hq)) (fun i v σ H9 H10 hi hP' hv => ?_) (fun σ H10 hP' => ?_)
  · obtain ⟨rfl, hv⟩ := hv
    obtain ⟨W6, o, rfl⟩ := hP'
    rw [List.getElem?_map] at hv
    obtain ⟨j, hj, rfl⟩ := Option.map_eq_some_iff.mp hv
    have hj3 := hj0 i j hj
    have R6 : YR K (m5.puts r.x (r.js.take i)) ad2 H10 := W6.hd
    have hx6 : r.x ∈ (m5.puts r.x (r.js.take i)).all := by rw [puts_all]; exact hx5
    have hs6 := (puts_hs r.x (r.js.take i) m5).1
    have g6 := R6.lg_ hx6
    have O6 : (m5.puts r.x (r.js.take i)).Ok := puts_ok _ O5 hx5 fun k hk => by rw [h5]; exact hr0.lt k (List.mem_of_mem_take hk)
    have hP6 := W6.g1 _ _ hP
    have hat : atI (poolL m ad) (j : Int) = some (.ref (ad2 (.hd j))) := by
      rw [F2.2 j]
      exact atI_nat (by unfold poolL; simp [h3, hj3])
    refine ⟨_, rfl, ad2 (.lg r.x), _, _, rfl, g6, rfl, _, rfl, _, rfl, P, _, _, _, rfl, rfl, SqL.of hP6, hat, ?_⟩
    dsimp only [tNil]
    show spAddH K [.ref (ad2 (.lg r.x)), .ref (ad2 (.hd j))] H10 _ E0
    refine ⟨_, ad2, r.x, j, rfl, R6, O6, hx6, by rw [hs6, h5]; exact hj3, fun H11 R11 M11 => ?_⟩
    have W11 := W6.mv (c' := cY K ((m5.puts r.x (r.js.take i)).putH r.x j) ad2) R11 M11
    have et := List.take_add_one (l := r.js) (i := i)
    rw [hj] at et
    refine ⟨?_, _, rfl⟩
    rw [show r.js.take (i + 1) = r.js.take i ++ [j] from et, puts_snoc]
    exact W11
  · obtain ⟨W6, o, rfl⟩ := hP'
    rw [List.length_map, List.take_length] at W6
    exact hQ H10 ad2 W6 (puts_ok _ O5 hx5 fun k hk => by rw [h5]; exact hr0.lt k hk) F2.1 F2.2
end
end K17

set_option Elab.async false
set_option linter.all false
set_option maxRecDepth 100000
set_option maxHeartbeats 0
namespace K17
open PySem PySem.Spec PyProof.Rows L2 RC
section
variable {P : Program} {w : World} {K : PySem.W.Frag} {mg : Str → Option Value} {base : Heap}
def cnt (x : Str) : Int := Txt.count x "."
def kidB (a rt : Addr) (nm n : Str) (p : Addr) : Bool := decide (cnt n = if a = rt then 0 else cnt nm + 1) && decide (p = a)
def spIsParent (K : PySem.W.Frag) : Sp := fun vs H Q _ => ∃ (a b y dy rt p d' : Addr) (fs fs' : List (Str × V)) (g : Addr → LG) (nm n : Str) (par : V), vs = [.ref a, .ref b] ∧ H y = some (.ins (CY K) dy fs) ∧ fs.lookup ("root" : Str) = some (.ref rt) ∧ RootAt K H y rt g ∧
  H a = some (.ins (CL K) (g a).d (lG (g a) y nm par)) ∧ H b = some (.ins (CL K) (g b).d (lG (g b) y n (.ref p))) ∧ H p = some (.ins (CL K) d' fs') ∧ Q (.bl (kidB a rt nm n p)) H
theorem ok_is_parent {f : Addr} (T : Txt P w K mg) (F : Stands K "is_parent_of" "Logger.is_parent_of" s_Logger_is_parent_of [] f) : Callable P w K mg base 1 f ["self", "other"] [] (spIsParent K) := by
  refine F.call0 sc_Logger_is_parent_of (fun vs H Q E h => ?_) (fun cdv A outer s H vs Q E hr h => ?_) (fun _ _ _ _ _ _ us hl => match us, hl with | [_, _], _ => rfl)
  · obtain ⟨a, b, y, dy, rt, p, d', fs, fs', g, nm, n, par, rfl, _⟩ := h; rfl
  obtain ⟨a, b, y, dy, rt, p, d', fs, fs', g, nm, n, par, rfl, hy, hroot, hR, ha, hb, hp, hQ⟩ := h
  refine ⟨_, (pss_cons (ps_set (i := 2) sc_Logger_is_parent_of.nd rfl (by first | exact Or.inl rfl | exact Or.inr rfl) (pe_ifExp (pt_cmpR (RA.op_eqP (Nat.lt_of_succ_lt (hu_of hr))) (pv 0) (pe_fld (pe_fld (pv 0) rfl) rfl) (nomark _)) pe_int (pe_op op_add (pe_m1 PySem.F.slot_str_count PySem.F.type_str_count mt_count (pe_fld (pv 0) rfl) pe_str) pe_int)))
      (pss_one (ps_ret (pe_and (pe_cmpR op_eq (pe_m1 PySem.F.slot_str_count PySem.F.type_str_count mt_count (pe_fld (pv 1) rfl) pe_str) (pv 2) (nomark _)) (pe_one (pe_cmpR (RA.op_eqP (Nat.lt_of_succ_lt (hu_of hr))) (pe_fld (pv 1) rfl) (pv 0) (nomark _))))))), ?_⟩
  have ia : RA.InsP K H a (CL K) := ⟨⟨_, _, ha⟩, T.p_Logger⟩
  have ir : RA.InsP K H rt (CL K) := ⟨⟨_, _, hR⟩, T.p_Logger⟩
  have ip : RA.InsP K H p (CL K) := ⟨⟨_, _, hp⟩, T.p_Logger⟩
  have tail : ∀ m : Int, (m = if a = rt then 0 else cnt nm + 1) → (if decide (V.int (cnt n) = V.int m) = true then Q (.bl (decide (p = a))) H else Q (.bl false) H) := fun m hm => by
    unfold kidB at hQ
    rw [← hm] at hQ
    by_cases c : cnt n = m
    · rw [decide_eq_true c, Bool.true_and] at hQ
      exact iteT' (decide_eq_true (congrArg V.int c)) hQ
    · rw [decide_eq_false c, Bool.false_and] at hQ
      exact iteF' (decide_eq_false fun z => c (V.int.inj z)) hQ
  refine ⟨_, rfl, _, rfl, a, _, _, _, _, rfl, ha, T.c_Logger, T.n_Logger_yard, rfl, y, _, dy, fs, _, rfl, hy, T.c_Yard, T.n_Yard_root, hroot, a, _, rfl, ia, .inr ⟨rt, _, rfl, ir, T.sub_Logger_Logger, _, rfl, ?_⟩⟩
  by_cases c : a = rt
  · refine iteT' (decide_eq_true c) ?_
    refine ⟨_, rfl, b, _, _, _, _, rfl, hb, T.c_Logger, T.n_Logger_name, rfl, ⟨_, rfl⟩, _, _, rfl, rfl, _, rfl, rfl, _, rfl, ?_⟩
    have t := tail 0 (by rw [if_pos c])
    by_cases cc : decide (V.int (cnt n) = V.int 0) = true
    · rw [if_pos cc] at t
      refine iteT' cc ?_
      exact ⟨_, rfl, b, _, _, _, _, rfl, hb, T.c_Logger, T.n_Logger_parent, rfl, _, rfl, p, _, rfl, ip, .inr ⟨a, _, rfl, ia, T.sub_Logger_Logger, t⟩⟩
    · rw [if_neg cc] at t
      exact iteF' (eq_false_of_ne_true cc) t
  · refine iteF' (decide_eq_false c) ?_
    refine ⟨_, rfl, a, _, _, _, _, rfl, ha, T.c_Logger, T.n_Logger_name, rfl, ⟨_, rfl⟩, _, _, rfl, rfl, _, 1, rfl, rfl, ?_⟩
    refine ⟨_, rfl, b, _, _, _, _, rfl, hb, T.c_Logger, T.n_Logger_name, rfl, ⟨_, rfl⟩, _, _, rfl, rfl, _, rfl, rfl, _, rfl, ?_⟩
    have t := tail (cnt nm + 1) (by rw [if_neg c])
    by_cases cc : decide (V.int (cnt n) = V.int (cnt nm + 1)) = true
    · rw [if_pos cc] at t
      refine iteT' cc ?_
      exact ⟨_, rfl, b, _, _, _, _, rfl, hb, T.c_Logger, T.n_Logger_parent, rfl, _, rfl, p, _, rfl, ip, .inr ⟨a, _, rfl, ia, T.sub_Logger_Logger, t⟩⟩
    · rw [if_neg cc] at t
      exact iteF' (eq_false_of_ne_true cc) t
end
end K17

set_option Elab.async false
set_option linter.all false
set_option maxRecDepth 100000
set_option maxHeartbeats 0
namespace K17
open PySem PySem.Spec PyProof.Rows L2 RC
section
variable {P : Program} {w : World} {K : PySem.W.Frag} {mg : Str → Option Value} {base : Heap}
/-! ### getChild, getChildren -/
def spGetChild (K : PySem.W.Frag) : Sp := fun vs H Q _ => ∃ (a y dy lm rt : Addr) (fs : List (Str × V)) (es : Es) (g : Addr → LG) (nm suf : Str) (par : V), vs = [.ref a, .str suf] ∧ Tree K H y dy lm rt fs es g ∧ RootAt K H y rt g ∧ H a = some (.ins (CL K) (g a).d (lG (g a) y nm par)) ∧
  ((a = rt ∧ spGetLog K [.ref y, .str suf] H Q E0) ∨ (a ≠ rt ∧ suf.cps.size ≤ 1000000 ∧ (Txt.split suf ".").length ≤ 1000000 ∧ (∀ u ∈ Txt.split suf ".", u.cps.size ≤ 1000000) ∧ (Txt.split suf ".").all partB = true ∧ nm.length + 1 + suf.length ≤ sizeLine ∧ ∀ H1, Same H H1 → spGetLog K [.ref y, .str (nm ++ "." ++ suf)] H1 Q E0))
def adr (es : Es) (n : Str) : Addr := (es.lookup n).getD 0
def kids (es : Es) (a rt : Addr) (nm : Str) (ys : List Str) : List Addr := (ys.filter fun n => kidB a rt nm n (parA es rt n)).map (adr es)
def spKids (K : PySem.W.Frag) : Sp := fun vs H Q _ => ∃ (a y dy lm rt : Addr) (fs : List (Str × V)) (es : Es) (g : Addr → LG) (nm : Str) (par : V), vs = [.ref a] ∧ Tree K H y dy lm rt fs es g ∧ RootAt K H y rt g ∧ H a = some (.ins (CL K) (g a).d (lG (g a) y nm par)) ∧ es.length < 64 ∧
  ∀ (H' : Hp) (l : Addr) (ys : List Str), Same H H' → ys.Perm (es.map (·.1)) → sortedS ys = true → H l = none → H' l = some (.lst ((kids es a rt nm ys).map V.ref)) → Q (.ref l) H'
theorem adr_mem {es : Es} {n : Str} (h : n ∈ es.map (·.1)) (nd : (es.map (·.1)).Nodup) : (n, adr es n) ∈ es ∧ es.lookup n = some (adr es n) := by
  obtain ⟨e, he, rfl⟩ := List.mem_map.mp h
  have l := lookup_nd he nd
  have e2 : adr es e.1 = e.2 := by unfold adr; rw [l]; rfl
  rw [e2]; exact ⟨he, l⟩
theorem ok_kids {f : Addr} (T : Txt P w K mg) (F : Stands K "getChildren" "Logger.getChildren" s_Logger_getChildren [] f) (c_Logger_is_parent_of : Callable P w K mg base 1 (He.ma K (He.ga K "Logger") "is_parent_of") ["self", "other"] [] (spIsParent K)) : Callable P w K mg base 2 f ["self"] [] (spKids K) := by
  refine F.call0 sc_Logger_getChildren (fun vs H Q E h => ?_) (fun cdv A outer s H vs Q E hr h => ?_) (fun _ _ _ _ _ _ us hl => match us, hl with | [_], _ => rfl)
  · obtain ⟨a, y, dy, lm, rt, fs, es, g, nm, par, rfl, _⟩ := h; rfl
  obtain ⟨a, y, dy, lm, rt, fs, es, g, nm, par, rfl, TR, R, ha, h64, hQ⟩ := h
  refine ⟨_, (pss_cons (ps_setLc (i := 1) (own := [("name", 2)]) (by rfl) sc_Logger_getChildren.nd rfl rfl (sw_true rfl rfl rfl (by decide +kernel)) (pi_list (pe_callB (call_sortedD rfl) (by rfl) T.b_sorted (by decide +kernel) (pa_cons (pe_fld (pe_fld (pv 0) rfl) rfl) pa_nil))) (blkOk_by (own := [("name", 2)]) (N := nm_Logger_getChildren) (sc := defScope s_Logger_getChildren) (by decide +kernel)) (fun _ _ _ _ _ => (pg_name (i := 2) sc_Logger_getChildren.nd rfl (by first | exact Or.inl rfl | exact Or.inr rfl))) (fun _ _ _ _ _ => pts_nil) (fun _ _ _ _ _ => (pe_dget (hu_of hr) (pe_fldK (K := K) (pe_fldK (K := K) (pv 0) rfl) rfl) (pv 2) (fun _ _ => rfl))))
      (pss_one (ps_ret (pe_lc (own := [("logger", 3)]) (by rfl) sc_Logger_getChildren.nd (pi_list (pv 1)) (blkOk_by (own := [("logger", 3)]) (N := nm_Logger_getChildren) (sc := defScope s_Logger_getChildren) (by decide +kernel)) (fun _ _ _ _ _ => (pg_name (i := 3) sc_Logger_getChildren.nd rfl (by first | exact Or.inl rfl | exact Or.inr rfl))) (fun _ _ _ _ _ => (pts_one (pt_val (pe_mt T.c_Logger T.m_Logger_is_parent_of c_Logger_is_parent_of (hr.mono (by first | decide | exact Nat.le_refl _)) (pv 0) (pa_cons (pv 3) pa_nil))))) (fun _ _ _ _ _ => (pv 3)))))), ?_⟩
  have ek : (lmK es).map (·.1) = (es.map (·.1)).map Sum.inr := by unfold lmK; rw [List.map_map, List.map_map]; rfl
  refine ⟨_, rfl, a, _, _, _, _, rfl, ha, T.c_Logger, T.n_Logger_yard, rfl, y, _, dy, fs, _, rfl, TR.yd, T.c_Yard, T.n_Yard_logger_map, TR.map, lm, _, es.map (·.1), rfl, .inl TR.lmo, ek, (by rw [List.length_map]; exact h64), fun ys p hperm hsort hp => ?_⟩
  have s1 : Same H (upd H p (.lst (ys.map V.str))) := same_new hp _
  have q1 : upd H p (.lst (ys.map V.str)) p = some (.lst (ys.map V.str)) := upd_same
  generalize upd H p (.lst (ys.map V.str)) = H1 at s1 q1
  have hlen : ys.length < 64 := by rw [hperm.length_eq, List.length_map]; exact h64
  refine ⟨p, rfl, ⟨_, SqL.of q1⟩, fun D hD => ?_⟩
  refine lc_it walk_list (fun i H' => Same H1 H' ∧ H' D = some (.lst ((ys.take i).map fun n => V.ref (adr es n)))) ⟨same_new hD _, upd_same⟩ (fun i H' _ h => SqL.of (h.1 _ _ q1)) (fun i x H2 H3 hi hP hx => ?_) (fun H2 hP => ?_)
  · obtain ⟨rfl, hx⟩ := hx
    obtain ⟨s2, d2⟩ := hP
    rw [List.getElem?_map] at hx
    obtain ⟨n, hn, rfl⟩ := Option.map_eq_some_iff.mp hx
    have hm := hperm.mem_iff.mp (List.mem_of_getElem? hn)
    have hl := (adr_mem hm TR.nd).2
    have s12 := s1.trans s2
    have ge := DGet.k (k := Sum.inr n) (s12 _ _ TR.lmo)
    rw [valV_lmK, hl] at ge
    refine ⟨rfl, yes_if ?_⟩
    refine ⟨_, rfl, a, _, _, _, _, rfl, s12 _ _ ha, T.c_Logger, T.n_Logger_yard, rfl, y, _, dy, fs, _, rfl, s12 _ _ TR.yd, T.c_Yard, T.n_Yard_logger_map, TR.map, _, rfl, lm, _, rfl, ge, _, d2, ?_, ?_, ?_⟩
    · rw [List.length_map, List.length_take, sizeLine_eq]; omega
    · intro b o hb
      rw [upd_ne (ne_of_none hb hD)]; exact s2 _ _ hb
    · rw [upd_same, take_more hn, List.map_append]; rfl
  · obtain ⟨s2, d2⟩ := hP
    rw [List.length_map, List.take_length] at d2
    have s12 := s1.trans s2
    refine ⟨_, rfl, D, rfl, ⟨_, SqL.of d2⟩, fun D2 hD2 => ?_⟩
    refine lc_it (walk_list (xs := ys.map fun n => V.ref (adr es n))) (fun i H' => Same H2 H' ∧ H' D2 = some (.lst (((ys.take i).filter fun n => kidB a rt nm n (parA es rt n)).map fun n => V.ref (adr es n)))) ⟨same_new hD2 _, upd_same⟩ (fun i H' _ h => SqL.of (h.1 _ _ d2)) (fun i x H3 H4 hi hP hx => ?_) (fun H3 hP => ?_)
    · obtain ⟨rfl, hx⟩ := hx
      obtain ⟨s3, d3⟩ := hP
      rw [List.getElem?_map] at hx
      obtain ⟨n, hn, rfl⟩ := Option.map_eq_some_iff.mp hx
      have hm := hperm.mem_iff.mp (List.mem_of_getElem? hn)
      have he := (adr_mem hm TR.nd).1
      have s13 := s12.trans s3
      obtain ⟨dp, fp, hpar⟩ := par_ins TR R n
      refine ⟨rfl, ?_⟩
      refine ⟨_, rfl, a, _, _, rfl, s13 _ _ ha, rfl, _, rfl, a, adr es n, y, dy, rt, _, _, fs, _, g, nm, n, par, rfl, s13 _ _ TR.yd, TR.root, s13 _ _ R, s13 _ _ ha, s13 _ _ (TR.lg _ he), s13 _ _ hpar, _, rfl, ?_⟩
      have et := take_more hn
      by_cases c : kidB a rt nm n (parA es rt n) = true
      · refine iteT' c ⟨_, rfl, _, d3, ?_, ?_, ?_⟩
        · have l1 : ((ys.take i).filter fun n => kidB a rt nm n (parA es rt n)).length ≤ (ys.take i).length := List.length_filter_le _ _
          rw [List.length_take] at l1
          rw [List.length_map, sizeLine_eq]; omega
        · intro b o hb
          rw [upd_ne (ne_of_none hb hD2)]; exact s3 _ _ hb
        · rw [upd_same, et, List.filter_append, List.map_append]
          simp [c]
      · refine iteF' (eq_false_of_ne_true c) ⟨s3, ?_⟩
        rw [d3, et, List.filter_append]
        simp [c]
    · obtain ⟨s3, d3⟩ := hP
      rw [List.length_map, List.take_length] at d3
      refine hQ _ D2 ys (s12.trans s3) hperm hsort (s12.free hD2) ?_
      rw [d3]; unfold kids; rw [List.map_map]; rfl
end
end K17

set_option Elab.async false
set_option linter.all false
set_option maxRecDepth 100000
set_option maxHeartbeats 0

namespace K17
open PySem PySem.Spec PyProof.Rows L2 RC
section
variable {P : Program} {w : World} {K : PySem.W.Frag} {mg : Str → Option Value} {base : Heap}
def spHasH (K : PySem.W.Frag) : Sp := fun vs H Q _ => ∃ (m : TM) (ad : YRo → Addr) (x : Str) (l : List Str), vs = [.ref (ad (.lg x))] ∧ YR K m ad H ∧ m.Ok ∧ x ∈ m.all ∧ Rch m x l ∧ l.length ≤ 100 ∧ ∀ (H' : Hp), Same H H' → Q (.bl (l.any fun z => !decide (m.hands z = []))) H'
theorem ok_hasH {f : Addr} (T : Txt P w K mg) (F : Stands K "hasHandlers" "Logger.hasHandlers" s_Logger_hasHandlers [] f) (c_Logger_reached : Callable P w K mg base 1 (He.ma K (He.ga K "Logger") "reached") ["self"] [] (spReached K)) : Callable P w K mg base 2 f ["self"] [] (spHasH K) := by
  refine F.call0 sc_Logger_hasHandlers (fun vs H Q E h => ?_) (fun cdv A outer s H vs Q E hr h => ?_) (fun _ _ _ _ _ _ us hl => match us, hl with | [_], _ => rfl)
  · obtain ⟨m, ad, x, l, rfl, _⟩ := h; rfl
  obtain ⟨m, ad, x, l, rfl, R, O, hx, hC, hl, hQ⟩ := h
  refine ⟨_, (pss_one (ps_ret (pe_callB (cr_any rfl) (by rfl) T.b_any (by decide +kernel) (pa_cons (pe_lc (own := [("logger", 1)]) (by rfl) sc_Logger_hasHandlers.nd (pi_list (pe_mt0 T.c_Logger T.m_Logger_reached c_Logger_reached (hr.mono (by first | decide | exact Nat.le_refl _)) (pv 0))) (blkOk_by (own := [("logger", 1)]) (N := nm_Logger_hasHandlers) (sc := defScope s_Logger_hasHandlers) (by decide +kernel)) (fun _ _ _ _ _ => (pg_name (i := 1) sc_Logger_hasHandlers.nd rfl (by first | exact Or.inl rfl | exact Or.inr rfl))) (fun _ _ _ _ _ => pts_nil) (fun _ _ _ _ _ => (pe_cmpR (opK (K := K) RX.rNeLL (RX.op_neLL (Nat.lt_of_succ_lt (hu_of hr)))) (pe_fldK (K := K) (pv 1) rfl) (pe_lst pa_nil) (nomark _)))) pa_nil)))), ?_⟩
  walk_at "in"
  have hE0 := R.lg_ hx
  walk_at "go"
  intro H1 p s1 hp q1
  walk_at "go"
  intro D hD
  have q2 := same_new hD (.lst []) _ _ q1
  refine lc_list (xs := l.map fun z => V.ref (ad (.lg z))) (fun i H' => Same H1 H' ∧ H' D = some (.lst (((l.take i).map fun z => !decide (m.hands z = [])).map V.bl))) ⟨same_new hD _, upd_same⟩ (fun i H' _ h => SqL.of (h.1 _ _ q1)) (fun i v H2 hv h => ?_) (fun H2 h => ?_)
  · obtain ⟨s2, d2⟩ := h
    rw [List.getElem?_map] at hv
    obtain ⟨z, hz, rfl⟩ := Option.map_eq_some_iff.mp hv
    have hzm := hC.mem O hx z (List.mem_of_getElem? hz)
    have R2 := R.same (s1.trans s2)
    have hE := R2.lg_ hzm
    have hl2 := R2.lgH_ hzm
    have em : (m.hands z).map (fun j => V.ref (ad (.hd j))) = ((m.hands z).map fun j => ad (.hd j)).map V.ref := by rw [List.map_map]; rfl
    rw [em] at hl2
    walk_at "go"
    intro p fp
    have hl3 := same_new fp (.lst []) _ _ hl2
    have d3 := same_new fp (.lst []) _ _ d2
    have D0 : H1 D = none := hD
    have ht := List.take_add_one (l := l) (i := i)
    rw [hz] at ht
    have lt : (l.take i).length ≤ 100 := by rw [List.length_take]; omega
    have fin : ∀ b : Bool, b = (!decide (m.hands z = [])) → ∃ acc, upd H2 p (.lst []) D = some (HO.lst acc) ∧ acc.length < sizeLine ∧ Same H1 (upd (upd H2 p (.lst [])) D (HO.lst (acc ++ [.bl b]))) ∧ upd (upd H2 p (.lst [])) D (HO.lst (acc ++ [.bl b])) D = some (HO.lst (List.map V.bl (List.map (fun z => !decide (m.hands z = [])) (List.take (i + 1) l)))) := fun b hb => by
      refine ⟨_, d3, by rw [List.length_map, List.length_map, sizeLine_eq]; omega, fun c o hc => by rw [upd_ne (ne_of_none hc D0)]; exact same_new fp _ _ _ (s2 _ _ hc), ?_⟩
      rw [upd_same, ht, List.map_append, List.map_append, hb]; rfl
    refine ⟨(LGm m ad z).hl, p, (m.hands z).map fun j => ad (.hd j), [], rfl, rfl, SqL.of hl3, SqL.of upd_same, ?_, fin _ ?_⟩
    · cases m.hands z with
      | nil => exact .inl rfl
      | cons a r => exact .inr (by simp)
    · cases m.hands z with
      | nil => rfl
      | cons a r => rfl
  · obtain ⟨s2, d2⟩ := h
    rw [List.length_map, List.take_length] at d2
    have hQ2 := hQ _ (s1.trans s2)
    walk_at "go"
    show Q (.bl _) H2
    rw [List.any_map]; exact hQ2
end
end K17

set_option Elab.async false
set_option linter.all false
set_option maxRecDepth 100000
set_option maxHeartbeats 4000000
/-! What changes: all but some places stay; what is apart from these places. -/
namespace RC
open PySem PySem.Spec PyProof.Rows L2
theorem yes_if {σ : L2.St} {H : Hp} {A B : Hp → Prop} (h : A H) : tYes σ H (fun b H3 => if b = true then A H3 else B H3) := by
  show if true = true then A H else B H
  rw [if_pos rfl]; exact h
theorem seq_of {a b : TS} {D : Ends} {σ : L2.St} {H : Hp} (Mid : L2.St → Hp → Prop) (hA : ∀ b' : TS, (∀ σ' H', Mid σ' H' → b' D σ' H') → tSeq a b' D σ H) (hB : ∀ σ' H', Mid σ' H' → b D σ' H') : tSeq a b D σ H := hA b hB
theorem free_same {H H' : Hp} {a : Addr} (s : Same H H') (h : H' a = none) : H a = none := by
  cases e : H a with
  | none => rfl
  | some o => rw [s _ _ e] at h; cases h
theorem cxK2 {CX : CXT} {P : Program} {w : World} {K : PySem.W.Frag} {mg : Str → Option Value} {base : Heap} {N : List Str} {qual : Str} {scope : Scope} {f : Addr} {cd : Value} {A : Around} {outer : List Env} {sh : Shared} {H : Hp} {E : XK} :
    (cxOf CX P w K mg base N qual scope f cd A outer sh H E).K = K := rfl
theorem cxK3 {CX : CXT} {P : Program} {w : World} {K : PySem.W.Frag} {mg : Str → Option Value} {base : Heap} {N : List Str} {qual : Str} {scope : Scope} {f : Addr} {cd : Value} {A : Around} {outer : List Env} {sh : Shared} {H : Hp} {E : XK} {p : Addr × Obj} :
    (L2H.cxH CX P w K mg base N qual scope f cd A outer sh H E p).K = K := rfl
theorem hu_hot {A : Around} {k : Nat} {h : Option Value} (hr : Room k A) : (A.mark h).units + 1 < cLine := (show A.units + 1 < cLine from hu_of hr)
/-- all that stands outside of ms is as it was -/
def Chg (ms : List Addr) (H H' : Hp) : Prop := ∀ b o, b ∉ ms → H b = some o → H' b = some o
section
variable {ms ns : List Addr} {H H' H'' G : Hp} {a b p : Addr} {o o' : HO}
theorem Chg.refl : Chg ms H H := fun _ _ _ e => e
theorem Chg.of (s : Same H H') : Chg ms H H' := fun b o _ e => s b o e
theorem Chg.trans (c : Chg ms H H') (d : Chg ms H' H'') : Chg ms H H'' := fun b o n e => d b o n (c b o n e)
theorem Chg.mono (c : Chg ms H H') (h : ∀ b ∈ ms, b ∈ ns) : Chg ns H H' := fun b o n e => c b o (fun z => n (h b z)) e
theorem Chg.put (h : a ∈ ms) : Chg ms H (upd H a o) := fun b u n e => by rw [upd_ne (fun z => n (by rw [z]; exact h))]; exact e
theorem Chg.sameR (c : Chg ms H H') (s : Same H' H'') : Chg ms H H'' := fun b o n e => s b o (c b o n e)
theorem Chg.sameL (s : Same H H') (c : Chg ms H' H'') : Chg ms H H'' := fun b o n e => c b o n (s b o e)
theorem Chg.new (c : Chg ms H H') (h : H a = none) : Chg ms H (upd H' a o) := fun b u n e => by rw [upd_ne (ne_of_none e h)]; exact c b u n e
theorem Chg.set (c : Chg ms H H') (h : a ∈ ms) : Chg ms H (upd H' a o) := c.trans (Chg.put h)
theorem nin1 (h : b ≠ a) : b ∉ [a] := fun z => h (List.mem_singleton.mp z)
theorem nin2 {c : Addr} (h : b ≠ a) (k : b ≠ c) : b ∉ [a, c] := fun z => (List.mem_cons.mp z).elim h fun z => k (List.mem_singleton.mp z)
/-- what an apart heap holds stays -/
theorem Chg.apart (c : Chg ms H H') (s : Same G H) (out : ∀ m ∈ ms, G m = none) : Same G H' := fun b o e => c b o (fun z => by rw [out b z] at e; cases e) (s b o e)
/-- the heap without some places -/
noncomputable def rst (S : Addr → Prop) (H : Hp) : Hp := open Classical in fun b => if S b then none else H b
variable {S S' : Addr → Prop}
theorem rst_same : Same (rst S H) H := fun b o e => by
  unfold rst at e
  split at e
  · cases e
  · exact e
theorem rst_at (h : H b = some o) (n : ¬ S b) : rst S H b = some o := by unfold rst; rw [if_neg n]; exact h
theorem rst_none (h : S b) : rst S H b = none := by unfold rst; rw [if_pos h]
theorem rst_next (c : ∀ b o, ¬ S b → H b = some o → H' b = some o) (h : ∀ b, S' b → S b ∨ H b = none) : Same (rst S H) (rst S' H') := fun b o e => by
  have e2 := rst_same _ _ e
  have n : ¬ S b := fun z => by rw [rst_none z] at e; cases e
  refine rst_at (c b o n e2) fun z => ?_
  rcases h b z with k | k
  · exact n k
  · rw [k] at e2; cases e2
end
end RC

set_option Elab.async false
set_option linter.all false
set_option maxRecDepth 100000
set_option maxHeartbeats 0

namespace K17
open PySem PySem.Spec PyProof.Rows L2 RC
section
variable {P : Program} {w : World} {K : PySem.W.Frag} {mg : Str → Option Value} {base : Heap}
/-! ### what a yard tells of its loggers -/
section
variable {m m' : TM} {ad ad' : YRo → Addr} {H H' : Hp} {x : Str}
theorem _root_.RR.Rep.getOld (R : YR K m ad H) (O : m.Ok) (hx : x ∈ m.all) {Q : VK} (q : ∀ H', Same H H' → Q (.ref (ad (.lg x))) H') : spGetLogR K [.ref (ad .y), .str x] H Q E0 := by
  have N := R.known O
  rcases List.mem_cons.mp hx with rfl | hx
  · exact .inr ⟨ad .y, ad .yD, ad (.lg ""), yFm m ad, rfl, R.y_, rfl, q H (Same.refl H)⟩
  obtain ⟨qs, hq, ex⟩ := O.nm x hx
  refine .inl (N.get (by unfold esM; rw [List.length_map]; exact O.few) hq ex fun H' a es' g' kp N' cs => ?_)
  rcases cs with ⟨hl, rfl, rfl, sm⟩ | ⟨hl, _, _⟩
  · have h1 := lookup_mem hl
    obtain ⟨y, hy, e⟩ := List.mem_map.mp h1
    cases e
    exact q H' sm
  · have := lookup_none hl
    rw [esM_fst] at this
    exact absurd hx this
def kidsN (m : TM) (x : Str) (zs : List Str) : List Str := zs.filter fun n => decide (cnt n = if x = "" then 0 else cnt x + 1) && decide (m.par n = x)
theorem rn_ne (h : x ≠ "") : rn x = x := if_neg h
theorem adr_es (ad : YRo → Addr) (O : m.Ok) {n : Str} (h : n ∈ m.names) : adr (esM m ad) n = ad (.lg n) := by
  have h1 := (adr_mem (es := esM m ad) (n := n) (by rw [esM_fst]; exact h) (by rw [esM_fst]; exact O.nd)).1
  obtain ⟨y, _, e⟩ := List.mem_map.mp h1
  have e1 : y = n := congrArg Prod.fst e
  have e2 : ad (.lg y) = adr (esM m ad) n := congrArg Prod.snd e
  rw [← e2, e1]
theorem kids_names (R : YR K m ad H) (O : m.Ok) (hx : x ∈ m.all) {zs : List Str} (hz : ∀ z ∈ zs, z ∈ m.names) : kids (esM m ad) (ad (.lg x)) (ad (.lg "")) (rn x) zs = (kidsN m x zs).map fun n => ad (.lg n) := by
  unfold kids kidsN
  have inj : ∀ {u v : Str}, u ∈ m.all → v ∈ m.all → ad (.lg u) = ad (.lg v) → u = v := fun hu hv e => by
    have h := R.inj _ _ _ _ (Y_lg hu) (Y_lg hv) e
    cases h; rfl
  have e1 : zs.filter (fun n => kidB (ad (.lg x)) (ad (.lg "")) (rn x) n (parA (esM m ad) (ad (.lg "")) n)) = zs.filter fun n => decide (cnt n = if x = "" then 0 else cnt x + 1) && decide (m.par n = x) := by
    refine List.filter_congr fun n hn => ?_
    have hn2 := hz n hn
    have hp := par_ref O hn2 ad
    unfold parV at hp
    rw [if_neg (fun z => O.nonil (by rw [← z]; exact hn2))] at hp
    have hp := V.ref.inj hp
    unfold kidB
    rw [hp]
    congr 1
    · by_cases c : x = ""
      · subst c; rw [if_pos rfl, if_pos rfl]
      · rw [if_neg c, if_neg (fun z => c (inj hx m.mem_root z)), rn_ne c]
    · by_cases c : m.par n = x
      · rw [c, decide_eq_true rfl, decide_eq_true rfl]
      · rw [decide_eq_false c, decide_eq_false (fun z => c (inj (par_mem O hn2) hx z))]
  rw [e1]
  exact List.map_congr_left fun n hn => adr_es ad O (hz n (List.mem_filter.mp hn).1)
end
def spLoggers (K : PySem.W.Frag) : Sp := fun vs H Q _ => ∃ (m : TM) (ad : YRo → Addr), vs = [.ref (ad .y)] ∧ YR K m ad H ∧ m.names.length < 64 ∧ ∀ (H' : Hp) (p : Addr) (ys : List Str), Same H H' → H p = none → H' p = some (.lst (ys.map V.str)) → ys.Perm m.names → sortedS ys = true → Q (.ref p) H'
theorem ok_loggers {f : Addr} (T : Txt P w K mg) (F : Stands K "loggers" "Yard.loggers" s_Yard_loggers [] f) : Callable P w K mg base 1 f ["self"] [] (spLoggers K) := by
  refine F.call0 sc_Yard_loggers (fun vs H Q E h => ?_) (fun cdv A outer s H vs Q E hr h => ?_) (fun _ _ _ _ _ _ us hl => match us, hl with | [_], _ => rfl)
  · obtain ⟨m, ad, rfl, _⟩ := h; rfl
  obtain ⟨m, ad, rfl, R, h64, hQ⟩ := h
  refine ⟨_, (pss_one (ps_ret (pe_callB (call_sortedD rfl) (by rfl) T.b_sorted (by decide +kernel) (pa_cons (pe_fld (pv 0) rfl) pa_nil)))), ?_⟩
  walk_at "in"
  have hy := R.y_
  have hlm := R.lm_
  refine ⟨_, rfl, ad .y, _, _, _, _, rfl, hy, T.c_Yard, T.n_Yard_logger_map, rfl, ad .lm, _, m.names, rfl, .inl hlm, ?_, h64, fun ys p pm so hp => ?_⟩
  · unfold lmK esM
    rw [List.map_map, List.map_map]
    exact List.map_congr_left fun _ _ => rfl
  · exact hQ _ p ys (same_new hp _) hp upd_same pm so
noncomputable def ToldR (H : Hp) (m : TM) (zs : List Str) (x : Str) (t : Addr) : Prop := ∃ q, H t = some (.tup [.str (rn (m.par x)), .ref q, .int (m.eff x), .bl ((m.rch x).any fun z => !decide (m.hands z = []))]) ∧ H q = some (.lst ((kidsN m x zs).map V.str))
theorem ToldR.same {H H' : Hp} {m : TM} {zs : List Str} {x : Str} {t : Addr} (s : Same H H') (h : ToldR H m zs x t) : ToldR H' m zs x t := let ⟨q, h1, h2⟩ := h; ⟨q, s _ _ h1, s _ _ h2⟩
structure ToldAt (H : Hp) (m : TM) (zs : List Str) (p a b c : Addr) (rs : List Addr) : Prop where
  p_ : H p = some (.tup [.ref a, .ref b, .ref c])
  a_ : H a = some (.lst (zs.map V.str))
  b_ : H b = some (.lst (rs.map V.ref))
  ln : rs.length = zs.length
  r_ : ∀ (i : Nat) (x : Str) (t : Addr), zs[i]? = some x → rs[i]? = some t → ToldR H m zs x t
  c_ : H c = some (.lst ((kidsN m "" zs).map V.str))
theorem ToldAt.same {H H' : Hp} {m : TM} {zs : List Str} {p a b c : Addr} {rs : List Addr} (s : Same H H') (h : ToldAt H m zs p a b c rs) : ToldAt H' m zs p a b c rs :=
  ⟨s _ _ h.p_, s _ _ h.a_, s _ _ h.b_, h.ln, fun i x t h1 h2 => (h.r_ i x t h1 h2).same s, s _ _ h.c_⟩
def spTold (K : PySem.W.Frag) : Sp := fun vs H Q _ => ∃ (m : TM) (ad : YRo → Addr), vs = [.ref (ad .y)] ∧ YR K m ad H ∧ m.Ok ∧ ∀ (H' : Hp) (p a b c : Addr) (zs : List Str) (rs : List Addr), Same H H' → H p = none → zs.Perm m.names → sortedS zs = true → ToldAt (rst (fun b => H b ≠ none) H') m zs p a b c rs → Q (.ref p) H'
structure TInv (K : PySem.W.Frag) (H1 : Hp) (m : TM) (ad : YRo → Addr) (F L : Addr) (zs : List Str) (i : Nat) (σ : L2.St) (H' : Hp) : Prop where
  sm : Same H1 (rst (fun b => b = F) H')
  L_ : rst (fun b => b = F) H' L = some (.lst (zs.map V.str))
  rs : ∃ rs : List Addr, rs.length = i ∧ H' F = some (.lst (rs.map V.ref)) ∧ ∀ (j : Nat) (x : Str) (t : Addr), zs[j]? = some x → rs[j]? = some t → ToldR (rst (fun b => b = F ∨ H1 b ≠ none) H') m zs x t
  σ : ∃ o2 o3 o4 o5, σ = [some (.ref (ad .y)), some (.ref F), o2, o3, o4, o5]
theorem ok_told {f : Addr} (T : Txt P w K mg) (F : Stands K "_law_all_told" "_law_all_told" s__law_all_told [] f)
    (c_Yard_loggers : Callable P w K mg base 1 (He.ma K (He.ga K "Yard") "loggers") ["self"] [] (spLoggers K))
    (c_Yard_getLogger : Callable P w K mg base 4 (He.ma K (He.ga K "Yard") "getLogger") ["self", "name"] [] (spGetLogR K))
    (c_Logger_getChildren : Callable P w K mg base 2 (He.ma K (He.ga K "Logger") "getChildren") ["self"] [] (spKids K))
    (c_Logger_getEffectiveLevel : Callable P w K mg base 1 (He.ma K (He.ga K "Logger") "getEffectiveLevel") ["self"] [] (spEff K))
    (c_Logger_hasHandlers : Callable P w K mg base 2 (He.ma K (He.ga K "Logger") "hasHandlers") ["self"] [] (spHasH K)) :
    Callable P w K mg base 5 f ["_law_yard"] [] (spTold K) := by
  refine F.call0 sc__law_all_told (fun vs H Q E h => ?_) (fun cdv A outer s0 H vs Q E hr h => ?_) (fun _ _ _ _ _ _ us hl => match us, hl with | [_], _ => rfl)
  · obtain ⟨m, ad, rfl, _⟩ := h; rfl
  obtain ⟨m, ad, rfl, R0, O, hQ⟩ := h
  refine ⟨_, (pss_cons (ps_set (i := 1) sc__law_all_told.nd rfl (by first | exact Or.inl rfl | exact Or.inr rfl) (pe_lst pa_nil))
      (pss_cons (ps_for PassesOwn.never rfl (pi_list (pe_mt0 T.c_Yard T.m_Yard_loggers c_Yard_loggers (hr.mono (by first | decide | exact Nat.le_refl _)) (pv 0))) (pg_name (i := 2) sc__law_all_told.nd rfl (by first | exact Or.inl rfl | exact Or.inr rfl)) (pss_cons (ps_set (i := 3) sc__law_all_told.nd rfl (by first | exact Or.inl rfl | exact Or.inr rfl) (pe_mt T.c_Yard T.m_Yard_getLogger c_Yard_getLogger (hr.mono (by first | decide | exact Nat.le_refl _)) (pv 0) (pa_cons (pv 2) pa_nil)))
      (pss_cons (ps_setLc (i := 4) (own := [("_law_one", 5)]) (by rfl) sc__law_all_told.nd rfl rfl (sw_true rfl rfl rfl (by decide +kernel)) (pi_list (pe_mt0 T.c_Logger T.m_Logger_getChildren c_Logger_getChildren (hr.mono (by first | decide | exact Nat.le_refl _)) (pv 3))) (blkOk_by (own := [("_law_one", 5)]) (N := nm__law_all_told) (sc := defScope s__law_all_told) (by decide +kernel)) (fun _ _ _ _ _ => (pg_name (i := 5) sc__law_all_told.nd rfl (by first | exact Or.inl rfl | exact Or.inr rfl))) (fun _ _ _ _ _ => pts_nil) (fun _ _ _ _ _ => (pe_fldK (K := K) (pv 5) rfl)))
      (pss_one (ps_expr (pe_bm PySem.F.plainAttrs_list PySem.F.slot_list_append PySem.F.type_list_append mt_append (pv 1) (pa_cons (pe_tup (pa_cons (pe_fld (pe_fld (pv 3) rfl) rfl) (pa_cons (pv 4) (pa_cons (pe_mt0 T.c_Logger T.m_Logger_getEffectiveLevel c_Logger_getEffectiveLevel (hr.mono (by first | decide | exact Nat.le_refl _)) (pv 3)) (pa_cons (pe_mt0 T.c_Logger T.m_Logger_hasHandlers c_Logger_hasHandlers (hr.mono (by first | decide | exact Nat.le_refl _)) (pv 3)) pa_nil))))) pa_nil)))))))
      (pss_one (ps_ret (pe_tup (pa_cons (pe_mt0 T.c_Yard T.m_Yard_loggers c_Yard_loggers (hr.mono (by first | decide | exact Nat.le_refl _)) (pv 0)) (pa_cons (pv 1) (pa_cons (pe_lc (own := [("_law_one", 5)]) (by rfl) sc__law_all_told.nd (pi_list (pe_mt0 T.c_Logger T.m_Logger_getChildren c_Logger_getChildren (hr.mono (by first | decide | exact Nat.le_refl _)) (pe_fld (pv 0) rfl))) (blkOk_by (own := [("_law_one", 5)]) (N := nm__law_all_told) (sc := defScope s__law_all_told) (by decide +kernel)) (fun _ _ _ _ _ => (pg_name (i := 5) sc__law_all_told.nd rfl (by first | exact Or.inl rfl | exact Or.inr rfl))) (fun _ _ _ _ _ => pts_nil) (fun _ _ _ _ _ => (pe_fldK (K := K) (pv 5) rfl))) pa_nil)))))))), ?_⟩
  walk_at "in"
  have h64 : m.names.length < 64 := by have := O.few; omega
  walk_at "go"
  intro F fF
  have sF := same_new fF (.lst [])
  have dF := upd_same (H := H) (a := F) (o := .lst [])
  generalize upd H F (.lst []) = H1 at sF dF ⊢
  have R1 : YR K m ad H1 := R0.same sF
  have hy1 := R1.y_
  walk_at "go"
  intro H2 L zs s12 fL dL pm so
  have nLF : L ≠ F := fun z => by rw [z, dF] at fL; cases fL
  have dF2 := s12 _ _ dF
  have zm : ∀ z ∈ zs, z ∈ m.names := fun z hz => pm.mem_iff.mp hz
  have zl : zs.length < 64 := by rw [pm.length_eq]; exact h64
  have sr : Same H (rst (fun b => b = F) H2) := fun b u e => rst_at (s12 _ _ (sF _ _ e)) (ne_of_none e fF)
  have sF2 : ∀ {A B : Hp}, Same A B → Same (rst (fun b => b = F) A) (rst (fun b => b = F) B) := fun s => rst_next (fun b o _ e => s b o e) fun b h => .inl h
  have hel : (esM m ad).length < 64 := by unfold esM; rw [List.length_map]; exact h64
  clear hy1 R1 sF s12 dF fL
  walk_at "go"
  refine for_it walk_list (TInv K H m ad F L zs) ⟨sr, rst_at dL nLF, ⟨[], rfl, dF2, fun j x t _ h => by simp at h⟩, _, _, _, _, rfl⟩ (fun i σ H' _ h => SqL.of (rst_same _ _ h.L_)) (fun i v σ H9 H3 hi hP hv => ?_) (fun σ H3 hP => ?_)
  · obtain ⟨rfl, hv⟩ := hv
    obtain ⟨sm3, L3, ⟨rs, rl, dF3, hrs⟩, o2, o3, o4, o5, rfl⟩ := hP
    rw [List.getElem?_map] at hv
    obtain ⟨x, hx, rfl⟩ := Option.map_eq_some_iff.mp hv
    have hxn := zm x (List.mem_of_getElem? hx)
    have hxa : x ∈ m.all := List.mem_cons_of_mem _ hxn
    have xne : x ≠ "" := fun z => O.nonil (by rw [← z]; exact hxn)
    have s03 : Same H H3 := sm3.trans rst_same
    have R3 := R0.same s03
    have hy3 := R3.y_
    walk_at "go"
    show spGetLogR K [.ref (ad .y), .str x] H3 _ E0
    refine R3.getOld O hxa fun H4 s4 => ?_
    have R4 := RR.Rep.same R3 s4
    have hTr := (R4.known O).tr
    have hRt := (R4.known O).rt_
    have hE4 : H4 (ad (.lg x)) = some (.ins (CL K) (gOf m ad (ad (.lg x))).d (lG (gOf m ad (ad (.lg x))) (ad .y) (rn x) (parV (esM m ad) (ad (.lg "")) x))) := by rw [gOf_at R4 hxa]; exact R4.lg_ hxa
    have dF4 := s4 _ _ dF3
    clear hy3
    walk_at "go"
    intro H5 l zs2 s5 pm2 so2 fl dl
    obtain rfl : zs = zs2 := RE.uniq (pm.trans (by rw [esM_fst] at pm2; exact pm2.symm)) (RE.sorted_pw so) (RE.sorted_pw so2)
    rw [kids_names R4 O hxa zm] at dl
    have nlF : l ≠ F := fun z => by rw [z, dF4] at fl; cases fl
    have R5 := RR.Rep.same R4 s5
    have dF5 := s5 _ _ dF4
    walk_at "go"
    intro D hD
    have kl : (kidsN m x zs).length ≤ zs.length := List.length_filter_le _ _
    refine lc_it (walk_list (xs := ((kidsN m x zs).map fun n => ad (.lg n)).map V.ref)) (fun i H' => Same H5 H' ∧ H' D = some (.lst (((kidsN m x zs).take i).map V.str))) ⟨same_new hD _, upd_same⟩ (fun i H' _ h => SqL.of (h.1 _ _ dl)) (fun i y H6 H7 hi hP hy => ?_) (fun H6 hP => ?_)
    · obtain ⟨rfl, hy⟩ := hy
      obtain ⟨s7, d7⟩ := hP
      rw [List.map_map, List.getElem?_map] at hy
      obtain ⟨n, hn, rfl⟩ := Option.map_eq_some_iff.mp hy
      have hnn := zm n (List.mem_filter.mp (List.mem_of_getElem? hn)).1
      have hna : n ∈ m.all := List.mem_cons_of_mem _ hnn
      have hE7 := (RR.Rep.same R5 s7).lg_ hna
      rw [rn_ne (fun z => O.nonil (by rw [← z]; exact hnn))] at hE7
      have ln : (((kidsN m x zs).take i).map V.str).length < sizeLine := by rw [List.length_map, List.length_take, sizeLine_eq]; omega
      walk_at "go"
      rw [upd_same]
      have et := List.take_add_one (l := kidsN m x zs) (i := i)
      rw [hn] at et
      rw [show (kidsN m x zs).take (i + 1) = (kidsN m x zs).take i ++ [n] from et, List.map_append]; rfl
    · obtain ⟨s6, d6⟩ := hP
      rw [List.length_map, List.length_map, List.take_length] at d6
      have R6 := RR.Rep.same R5 s6
      have hE6 := R6.lg_ hxa
      rw [par_ref O hxn] at hE6
      have hp6 := R6.lg_ (par_mem O hxn)
      have hTr6 := (R6.known O).tr
      have hRt6 := (R6.known O).rt_
      have hIn6 := (R6.known O).inT (mem_kn ad hxa)
      obtain ⟨k, hEf⟩ := R6.effN O hxa
      obtain ⟨rc, rl6, _⟩ := (R6.chs O).rch hxa
      have rl7 : (m.rch x).length ≤ 100 := by omega
      have dF6 := s6 _ _ dF5
      have nDF : D ≠ F := fun z => by rw [z, dF5] at hD; cases hD
      have nD0 : H D = none := ((s03.trans s4).trans s5).free hD
      clear hTr hRt hE4 R5 R4 R3
      walk_at "go"
      intro H7 s7
      have dF7 := s7 _ _ dF6
      have dD7 := s7 _ _ d6
      have iz : i < zs.length := by rw [List.length_map] at hi; exact hi
      have ln : (rs.map V.ref).length < sizeLine := by rw [List.length_map, rl, sizeLine_eq]; omega
      have s37 : Same H3 H7 := ((s4.trans s5).trans s6).trans s7
      clear hTr6 hRt6 hIn6 hEf hE6 hp6 R6 s4 s5 s6 s7 dF3 dF4 dF5 dF6 d6 dl
      walk_at "go"
      intro t ft
      have st := same_new ft (.tup [.str (rn (m.par x)), .ref D, .int (m.eff x), .bl ((m.rch x).any fun z => !decide (m.hands z = []))])
      have dt := upd_same (H := H7) (a := t) (o := .tup [.str (rn (m.par x)), .ref D, .int (m.eff x), .bl ((m.rch x).any fun z => !decide (m.hands z = []))])
      have dF8 := st _ _ dF7
      have dD8 := st _ _ dD7
      have ntF : t ≠ F := fun z => by rw [z, dF7] at ft; cases ft
      have nt0 : H t = none := (s03.trans s37).free ft
      have s38 := s37.trans st
      clear s37 st dF7 dD7 ft
      generalize upd H7 t (.tup [.str (rn (m.par x)), .ref D, .int (m.eff x), .bl ((m.rch x).any fun z => !decide (m.hands z = []))]) = H8 at dt dF8 dD8 s38 ⊢
      walk_at "go"
      have c38 : Same (rst (fun b => b = F) H3) (rst (fun b => b = F) (upd H8 F (.lst (rs.map V.ref ++ [.ref t])))) := rst_next (fun b o nb e => by rw [upd_ne nb]; exact s38 _ _ e) fun b h => .inl h
      have c38' : Same (rst (fun b => b = F ∨ H b ≠ none) H3) (rst (fun b => b = F ∨ H b ≠ none) (upd H8 F (.lst (rs.map V.ref ++ [.ref t])))) := rst_next (fun b o nb e => by rw [upd_ne fun z => nb (.inl z)]; exact s38 _ _ e) fun b h => .inl h
      refine ⟨sm3.trans c38, c38 _ _ L3, ⟨rs ++ [t], by rw [List.length_append, rl]; rfl, by rw [upd_same, List.map_append]; rfl, fun j y u hy hu => ?_⟩, _, _, _, _, rfl⟩
      rcases Nat.lt_or_ge j rs.length with c | c
      · rw [List.getElem?_append_left c] at hu
        exact (hrs j y u hy hu).same c38'
      · have ej : j = i := by
          have h1 := (List.getElem?_eq_some_iff.mp hu).1
          rw [List.length_append, List.length_singleton] at h1
          omega
        rw [ej, ← rl] at hu
        rw [ej, hx] at hy
        rw [show (rs ++ [t])[rs.length]? = some t from by simp] at hu
        cases hu
        cases hy
        exact ⟨D, rst_at (by rw [upd_ne ntF]; exact dt) (fun z => z.elim ntF fun z => z nt0), rst_at (by rw [upd_ne nDF]; exact dD8) (fun z => z.elim nDF fun z => z nD0)⟩
  · obtain ⟨sm3, L3, ⟨rs, rl, dF3, hrs⟩, o2, o3, o4, o5, rfl⟩ := hP
    rw [List.length_map] at rl
    have s03 : Same H H3 := sm3.trans rst_same
    have R3 := R0.same s03
    have hy3 := R3.y_
    walk_at "go"
    intro H4 L2 zs2 s4 fL2 dL2 pm2 so2
    obtain rfl : zs = zs2 := RE.uniq (pm.trans pm2.symm) (RE.sorted_pw so) (RE.sorted_pw so2)
    have R4 := RR.Rep.same R3 s4
    have hy4 := R4.y_
    have hTr := (R4.known O).tr
    have hRt := (R4.known O).rt_
    have hE4 : H4 (ad (.lg "")) = some (.ins (CL K) (gOf m ad (ad (.lg ""))).d (lG (gOf m ad (ad (.lg ""))) (ad .y) (rn "") (parV (esM m ad) (ad (.lg "")) ""))) := by rw [gOf_at R4 m.mem_root]; exact R4.lg_ m.mem_root
    have dF4 := s4 _ _ dF3
    walk_at "go"
    intro H5 l zs2 s5 pm3 so3 fl dl
    obtain rfl : zs = zs2 := RE.uniq (pm.trans (by rw [esM_fst] at pm3; exact pm3.symm)) (RE.sorted_pw so) (RE.sorted_pw so3)
    rw [kids_names R4 O m.mem_root zm] at dl
    have R5 := RR.Rep.same R4 s5
    have kl : (kidsN m "" zs).length ≤ zs.length := List.length_filter_le _ _
    walk_at "go"
    intro D hD
    refine lc_it (walk_list (xs := ((kidsN m "" zs).map fun n => ad (.lg n)).map V.ref)) (fun i H' => Same H5 H' ∧ H' D = some (.lst (((kidsN m "" zs).take i).map V.str))) ⟨same_new hD _, upd_same⟩ (fun i H' _ h => SqL.of (h.1 _ _ dl)) (fun i y H6 H7 hi hP hy => ?_) (fun H6 hP => ?_)
    · obtain ⟨rfl, hy⟩ := hy
      obtain ⟨s7, d7⟩ := hP
      rw [List.map_map, List.getElem?_map] at hy
      obtain ⟨n, hn, rfl⟩ := Option.map_eq_some_iff.mp hy
      have hnn := zm n (List.mem_filter.mp (List.mem_of_getElem? hn)).1
      have hna : n ∈ m.all := List.mem_cons_of_mem _ hnn
      have hE7 := (RR.Rep.same R5 s7).lg_ hna
      rw [rn_ne (fun z => O.nonil (by rw [← z]; exact hnn))] at hE7
      have ln : (((kidsN m "" zs).take i).map V.str).length < sizeLine := by rw [List.length_map, List.length_take, sizeLine_eq]; omega
      walk_at "go"
      rw [upd_same]
      have et := List.take_add_one (l := kidsN m "" zs) (i := i)
      rw [hn] at et
      rw [show (kidsN m "" zs).take (i + 1) = (kidsN m "" zs).take i ++ [n] from et, List.map_append]; rfl
    · obtain ⟨s6, d6⟩ := hP
      rw [List.length_map, List.length_map, List.take_length] at d6
      have s46 := s5.trans s6
      have s36 := s4.trans s46
      have dL6 := s46 _ _ dL2
      have dF6 := s36 _ _ dF3
      clear hTr hRt hE4 R5 R4 hy4 dF4
      walk_at "go"
      intro p fp
      have sp := same_new fp (.tup [.ref L2, .ref F, .ref D])
      refine hQ _ p L2 F D zs rs ((s03.trans s36).trans sp) ?_ pm so ⟨rst_at upd_same (fun z => z ((s03.trans s36).free fp)), rst_at (sp _ _ dL6) (fun z => z (s03.free fL2)), rst_at (sp _ _ dF6) (fun z => z fF), rl, fun j y u hy hu => (hrs j y u hy hu).same (rst_next (fun b o _ e => (s36.trans sp) _ _ e) fun b h => .inl (.inr h)), rst_at (sp _ _ d6) (fun z => z (((s03.trans s4).trans s5).free hD))⟩
      exact (s03.trans s36).free fp
end
end K17

set_option Elab.async false
set_option linter.all false
set_option maxRecDepth 100000
set_option maxHeartbeats 0
namespace K17
open PySem PySem.Spec PyProof.Rows L2 RC
section
variable {P : Program} {w : World} {K : PySem.W.Frag} {mg : Str → Option Value} {base : Heap}
/-! ### two trees of the same loggers, made in two orders: the plain law -/
def TM.nm (m : TM) (N : List Str) : TM := { m with names := N }
def Tw (m m' : TM) : Prop := ∃ N : List Str, N.Perm m.names ∧ m' = m.nm N
section
variable {m m' m2 : TM} {x y : Str} {N : List Str}
theorem Tw.refl (m : TM) : Tw m m := ⟨m.names, List.Perm.refl _, rfl⟩
theorem Tw.trans (a : Tw m m') (b : Tw m' m2) : Tw m m2 := by
  obtain ⟨N, p, rfl⟩ := a
  obtain ⟨N2, p2, rfl⟩ := b
  exact ⟨N2, p2.trans p, rfl⟩
theorem Tw.names (a : Tw m m') : m'.names.Perm m.names := by obtain ⟨N, p, rfl⟩ := a; exact p
theorem Tw.all (a : Tw m m') : x ∈ m'.all ↔ x ∈ m.all := by
  unfold TM.all
  rw [List.mem_cons, List.mem_cons, a.names.mem_iff]
theorem Tw.has (a : Tw m m') : m'.has = m.has := funext fun x => by
  unfold TM.has
  by_cases c : x ∈ m.all
  · rw [decide_eq_true c, decide_eq_true (a.all.mpr c)]
  · rw [decide_eq_false c, decide_eq_false (fun z => c (a.all.mp z))]
theorem Tw.par (a : Tw m m') : m'.par x = m.par x := by unfold TM.par; rw [a.has]
theorem Tw.chn (a : Tw m m') : m'.chn x = m.chn x := by show chnOf m'.has x = chnOf m.has x; rw [a.has]
theorem Tw.rch (a : Tw m m') : m'.rch x = m.rch x := by
  have h := a.chn (x := x)
  unfold TM.rch
  rw [h]
  obtain ⟨N, p, rfl⟩ := a; rfl
theorem Tw.eff (a : Tw m m') : m'.eff x = m.eff x := by
  have h := a.chn (x := x)
  unfold TM.eff
  rw [h]
  obtain ⟨N, p, rfl⟩ := a; rfl
theorem Tw.hands (a : Tw m m') : m'.hands = m.hands := by obtain ⟨N, p, rfl⟩ := a; rfl
theorem Tw.texts (a : Tw m m') : m'.texts = m.texts := by obtain ⟨N, p, rfl⟩ := a; rfl
theorem Tw.kids (a : Tw m m') (zs : List Str) : kidsN m' x zs = kidsN m x zs := List.filter_congr fun n _ => by rw [a.par]
theorem nm_write (s t : Str) : (m.nm N).write s t = (m.write s t).nm N := rfl
theorem nm_emitH (h : HM) (name msg : Str) : (m.nm N).emitH h name msg = (m.emitH h name msg).nm N := by
  unfold TM.emitH
  split <;> rfl
theorem nm_emitJ (j : Nat) (name : Str) (lv : Int) (msg : Str) : (m.nm N).emitJ j name lv msg = (m.emitJ j name lv msg).nm N := by
  unfold TM.emitJ
  have e : (m.nm N).hs = m.hs := rfl
  rw [e]
  cases m.hs[j]? with
  | none => rfl
  | some h =>
    show (if h.lv ≤ lv then (m.nm N).emitH h name msg else m.nm N) = (if h.lv ≤ lv then m.emitH h name msg else m).nm N
    split
    · exact nm_emitH h name msg
    · rfl
theorem nm_emitAll (name : Str) (lv : Int) (msg : Str) : ∀ (js : List Nat) (m : TM), (m.nm N).emitAll js name lv msg = (m.emitAll js name lv msg).nm N
  | [], _ => rfl
  | j :: js, m => by
    show ((m.nm N).emitJ j name lv msg).emitAll js name lv msg = ((m.emitJ j name lv msg).emitAll js name lv msg).nm N
    rw [nm_emitJ]
    exact nm_emitAll name lv msg js _
theorem nm_call (l : List Str) (name : Str) (lv : Int) (msg : Str) : (m.nm N).call l name lv msg = (m.call l name lv msg).nm N := by
  unfold TM.call
  have e : (m.nm N).hands = m.hands := rfl
  rw [e]
  split
  · rfl
  · exact nm_emitAll name lv msg _ m
theorem nm_log (l : List Str) (e lv : Int) (msg : Str) : (m.nm N).log x l e lv msg = (m.log x l e lv msg).nm N := by
  unfold TM.log TM.handle
  have e1 : (m.nm N).dis = m.dis := rfl
  have e2 : (m.nm N).sv = m.sv := rfl
  have e3 : (m.nm N).bar = m.bar := rfl
  rw [e1, e2, e3]
  split
  · split
    · exact nm_call l (rn x) lv msg
    · rfl
  · rfl
theorem Tw.lg (a : Tw m m') (lv : Int) (msg : Str) : Tw (m.lg x lv msg) (m'.lg x lv msg) := by
  unfold TM.lg
  rw [a.rch, a.eff]
  obtain ⟨N, p, rfl⟩ := a
  have t := log_tx m x (m.rch x) (m.eff x) lv msg
  refine ⟨N, ?_, nm_log _ _ _ _⟩
  rw [t]; exact p
theorem Tw.add (a : Tw m m') (x : Str) : Tw (m.add x) (m'.add x) := by
  by_cases c : x ∈ m.all
  · rw [add_old c, add_old (a.all.mpr c)]; exact a
  · rw [add_new c, add_new (fun z => c (a.all.mp z))]
    obtain ⟨N, p, rfl⟩ := a
    exact ⟨N ++ [x], p.append_right [x], rfl⟩
theorem puts_eq (x : Str) : ∀ (js : List Nat) (m : TM), js.Nodup → (∀ j ∈ js, j ∉ m.hands x) → m.puts x js = { m with hands := fun y => if y = x then m.hands x ++ js else m.hands y }
  | [], m, _, _ => by
    show m = _
    have e : (fun y => if y = x then m.hands x ++ [] else m.hands y) = m.hands := funext fun y => by
      split
      · rename_i h; rw [h, List.append_nil]
      · rfl
    rw [e]
  | j :: js, m, nd, h => by
    obtain ⟨n1, n2⟩ := List.nodup_cons.mp nd
    have hj := h j List.mem_cons_self
    have e1 : m.putH x j = { m with hands := fun y => if y = x then m.hands x ++ [j] else m.hands y } := by
      unfold TM.putH
      rw [if_neg hj]
    show (m.putH x j).puts x js = _
    rw [puts_eq x js (m.putH x j) n2 (fun i hi => ?_), e1]
    · show ({ m with hands := _ } : TM) = { m with hands := _ }
      congr 1
      funext y
      by_cases c : y = x
      · rw [if_pos c, if_pos c]
        show (if x = x then m.hands x ++ [j] else m.hands x) ++ js = _
        rw [if_pos rfl, List.append_assoc]; rfl
      · rw [if_neg c, if_neg c]
        show (if y = x then _ else m.hands y) = _
        rw [if_neg c]
    · rw [e1]
      show i ∉ (if x = x then m.hands x ++ [j] else m.hands x)
      rw [if_pos rfl]
      intro z
      rcases List.mem_append.mp z with z | z
      · exact h i (List.mem_cons_of_mem _ hi) z
      · rw [List.mem_singleton.mp z] at hi; exact n1 hi
/-- a row that is new -/
theorem row_new {r : Row} (h : r.x ∉ m.all) (nd : r.js.Nodup) : m.row r = { m with names := m.names ++ [r.x], lev := fun y => if y = r.x then r.lv else m.lev y, prop := fun y => if y = r.x then r.on else m.prop y, dis := fun y => if y = r.x then r.off else m.dis y, hands := fun y => if y = r.x then r.js else m.hands y, sv := fun y => if y = r.x then [] else m.sv y } := by
  unfold TM.row
  rw [add_new h, puts_eq r.x r.js _ nd (fun j _ z => ?_)]
  · show ({ m with names := _, lev := _, prop := _, dis := _, hands := _, sv := _ } : TM) = _
    have f : ∀ {α : Type} (a b : α) (g : Str → α), (fun y => if y = r.x then a else if y = r.x then b else g y) = fun y => if y = r.x then a else g y := fun a b g => funext fun y => by split <;> rfl
    congr 1
    · exact f _ _ _
    · exact f _ _ _
    · exact f _ _ _
    · funext y
      show (if y = r.x then (if r.x = r.x then [] else m.hands r.x) ++ r.js else if y = r.x then [] else m.hands y) = _
      rw [if_pos rfl, List.nil_append]
      split <;> rfl
  · have z : j ∈ (if r.x = r.x then [] else m.hands r.x) := z
    rw [if_pos rfl] at z; cases z
def TM.rows (m : TM) (rs : List Row) : TM := rs.foldl TM.row m
theorem rows_snoc (m : TM) (rs : List Row) (r : Row) : m.rows (rs ++ [r]) = (m.rows rs).row r := by unfold TM.rows; rw [List.foldl_append]; rfl
theorem Tw.row (a : Tw m m') {r : Row} (h : r.x ∉ m.all) (nd : r.js.Nodup) : Tw (m.row r) (m'.row r) := by
  rw [row_new h nd, row_new (fun z => h (a.all.mp z)) nd]
  obtain ⟨N, p, rfl⟩ := a
  exact ⟨N ++ [r.x], p.append_right [r.x], rfl⟩
theorem row_all {r : Row} (h : r.x ∉ m.all) (nd : r.js.Nodup) : y ∈ (m.row r).all ↔ y ∈ m.all ∨ y = r.x := by
  rw [row_new h nd]
  show y ∈ (("" : Str) :: (m.names ++ [r.x])) ↔ y ∈ (("" : Str) :: m.names) ∨ y = r.x
  rw [← List.cons_append, List.mem_append, List.mem_singleton]
theorem ite_sw {α : Type} {a b : Str} (h : a ≠ b) (u v : α) (g : Str → α) : (fun y => if y = a then u else if y = b then v else g y) = fun y => if y = b then v else if y = a then u else g y := funext fun y => by
  by_cases c : y = a
  · rw [if_pos c, if_neg (fun z => h (c.symm.trans z)), if_pos c]
  · rw [if_neg c]
    split
    · rfl
    · first | rfl | rw [if_neg c]
theorem rows_perm {rs rs' : List Row} (p : rs.Perm rs') : ∀ {m m' : TM}, Tw m m' → (rs.map (·.x)).Nodup → (∀ r ∈ rs, r.x ∉ m.all ∧ r.js.Nodup) → Tw (m.rows rs) (m'.rows rs') := by
  induction p with
  | nil => intro m m' a _ _; exact a
  | @cons r l1 l2 p ih =>
    intro m m' a nd h
    obtain ⟨h1, h2⟩ := h r List.mem_cons_self
    obtain ⟨n1, n2⟩ := List.nodup_cons.mp nd
    refine ih (a.row h1 h2) n2 fun u hu => ?_
    obtain ⟨h3, h4⟩ := h u (List.mem_cons_of_mem _ hu)
    refine ⟨fun z => ?_, h4⟩
    rcases (row_all h1 h2).mp z with z | z
    · exact h3 z
    · exact n1 (by show r.x ∈ _; rw [← z]; exact List.mem_map_of_mem (f := fun x : Row => x.x) hu)
  | swap r u l =>
    intro m m' a nd h
    obtain ⟨h1, h2⟩ := h u List.mem_cons_self
    obtain ⟨h3, h4⟩ := h r (List.mem_cons_of_mem _ List.mem_cons_self)
    obtain ⟨n1, n2⟩ := List.nodup_cons.mp nd
    have hne : u.x ≠ r.x := fun z => n1 (by show u.x ∈ _; rw [z]; exact List.mem_cons_self)
    obtain ⟨n3, n4⟩ := List.nodup_cons.mp n2
    have b1 : r.x ∉ (m.row u).all := fun z => by
      rcases (row_all h1 h2).mp z with z | z
      · exact h3 z
      · exact hne z.symm
    have b2 : u.x ∉ (m.row r).all := fun z => by
      rcases (row_all h3 h4).mp z with z | z
      · exact h1 z
      · exact hne z
    have key : Tw ((m.row u).row r) ((m.row r).row u) := by
      rw [row_new b1 h4, row_new b2 h2, row_new h1 h2, row_new h3 h4]
      refine ⟨m.names ++ [r.x] ++ [u.x], ?_, ?_⟩
      · show (m.names ++ [r.x] ++ [u.x]).Perm (m.names ++ [u.x] ++ [r.x])
        rw [List.append_assoc, List.append_assoc]
        exact List.Perm.append_left _ (List.Perm.swap _ _ _)
      · unfold TM.nm
        dsimp only
        rw [ite_sw hne, ite_sw hne, ite_sw hne, ite_sw hne, ite_sw hne]
    have a2 : Tw ((m.row r).row u) ((m'.row r).row u) := (a.row h3 h4).row b2 h2
    have go : ∀ (l : List Row) {m m' : TM}, Tw m m' → (l.map (·.x)).Nodup → (∀ r ∈ l, r.x ∉ m.all ∧ r.js.Nodup) → Tw (m.rows l) (m'.rows l) := fun l => by
      induction l with
      | nil => intro m m' a _ _; exact a
      | cons r l ih =>
        intro m m' a nd h
        obtain ⟨h1, h2⟩ := h r List.mem_cons_self
        obtain ⟨n1, n2⟩ := List.nodup_cons.mp nd
        refine ih (a.row h1 h2) n2 fun u hu => ?_
        obtain ⟨h3, h4⟩ := h u (List.mem_cons_of_mem _ hu)
        refine ⟨fun z => ?_, h4⟩
        rcases (row_all h1 h2).mp z with z | z
        · exact h3 z
        · exact n1 (by show r.x ∈ _; rw [← z]; exact List.mem_map_of_mem (f := fun x : Row => x.x) hu)
    refine go l (key.trans a2) n4 fun v hv => ?_
    obtain ⟨h5, h6⟩ := h v (List.mem_cons_of_mem _ (List.mem_cons_of_mem _ hv))
    refine ⟨fun z => ?_, h6⟩
    rcases (row_all b1 h4).mp z with z | z
    · rcases (row_all h1 h2).mp z with z | z
      · exact h5 z
      · exact n1 (by show u.x ∈ _; rw [← z]; exact List.mem_cons_of_mem _ (List.mem_map_of_mem (f := fun x : Row => x.x) hv))
    · exact n3 (by show r.x ∈ _; rw [← z]; exact List.mem_map_of_mem (f := fun x : Row => x.x) hv)
  | trans p1 p2 ih1 ih2 =>
    intro m m' a nd h
    have t1 := ih1 (Tw.refl m) nd h
    have nd2 := (p1.map (·.x)).nodup_iff.mp nd
    exact t1.trans (ih2 a nd2 fun r hr => h r (p1.mem_iff.mpr hr))
theorem rows_names : ∀ (rs : List Row) (m : TM), (rs.map (·.x)).Nodup → (∀ r ∈ rs, r.x ∉ m.all ∧ r.js.Nodup) → (m.rows rs).names = m.names ++ rs.map (·.x) ∧ (m.rows rs).hs = m.hs ∧ (m.rows rs).texts = m.texts ∧ (m.rows rs).nms = m.nms
  | [], m, _, _ => ⟨(List.append_nil _).symm, rfl, rfl, rfl⟩
  | r :: rs, m, nd, h => by
    obtain ⟨h1, h2⟩ := h r List.mem_cons_self
    obtain ⟨n1, n2⟩ := List.nodup_cons.mp nd
    have ih := rows_names rs (m.row r) n2 fun u hu => by
      obtain ⟨h3, h4⟩ := h u (List.mem_cons_of_mem _ hu)
      refine ⟨fun z => ?_, h4⟩
      rcases (row_all h1 h2).mp z with z | z
      · exact h3 z
      · exact n1 (by show r.x ∈ _; rw [← z]; exact List.mem_map_of_mem (f := fun x : Row => x.x) hu)
    show ((m.row r).rows rs).names = _ ∧ ((m.row r).rows rs).hs = _ ∧ ((m.row r).rows rs).texts = _ ∧ ((m.row r).rows rs).nms = _
    rw [ih.1, ih.2.1, ih.2.2.1, ih.2.2.2, row_new h1 h2]
    refine ⟨?_, rfl, rfl, rfl⟩
    show m.names ++ [r.x] ++ rs.map (·.x) = _
    rw [List.append_assoc]; rfl
end
end
end K17

set_option Elab.async false
set_option linter.all false
set_option maxRecDepth 100000
set_option maxHeartbeats 0

namespace K17
open PySem PySem.Spec PyProof.Rows L2 RC
section
variable {P : Program} {w : World} {K : PySem.W.Frag} {mg : Str → Option Value} {base : Heap}
/-! ### same, of texts and tuples -/
theorem walkZT {K : PySem.W.Frag} {a b : Addr} {xs ys : List V} (e : xs.length = ys.length) : Walk (RZ.ItzT K a b) xs.length (fun H => SqT K H a xs ∧ SqT K H b ys) (YPair (fun i => xs[i]?) (fun i => ys[i]?)) := by
  constructor
  · intro j _ hj ⟨ea, eb⟩
    have hj2 : j < ys.length := e ▸ hj
    exact ⟨xs, ys, _, _, ea, eb, List.getElem?_eq_getElem hj, List.getElem?_eq_getElem hj2⟩
  · intro _ ⟨ea, eb⟩
    exact ⟨xs, ys, ea, eb, Or.inl (Nat.le_refl _)⟩
  · intro j _ _ _ _ ⟨ea, eb⟩ ⟨T, x, z, k1, k2, k3, k4, k5⟩
    exact ⟨T, x, z, k1, k2, k3, k4 _ ea, k5 _ eb⟩
theorem walkZL {K : PySem.W.Frag} {a b : Addr} {xs ys : List V} (e : xs.length = ys.length) : Walk (Itz K a b) xs.length (fun H => SqL K H a xs ∧ SqL K H b ys) (YPair (fun i => xs[i]?) (fun i => ys[i]?)) := by
  constructor
  · intro j _ hj ⟨ea, eb⟩
    have hj2 : j < ys.length := e ▸ hj
    exact ⟨xs, ys, _, _, ea, eb, List.getElem?_eq_getElem hj, List.getElem?_eq_getElem hj2⟩
  · intro _ ⟨ea, eb⟩
    exact ⟨xs, ys, ea, eb, Or.inl (Nat.le_refl _)⟩
  · intro j _ _ _ _ ⟨ea, eb⟩ ⟨T, x, z, k1, k2, k3, k4, k5⟩
    exact ⟨T, x, z, k1, k2, k3, k4 _ ea, k5 _ eb⟩
/-- what is the same, up to n deep -/
inductive SameD (H : Hp) : Nat → V → V → Prop where
  | str (n : Nat) (x : Str) : SameD H (n + 1) (.str x) (.str x)
  | non (n : Nat) : SameD H (n + 1) .non .non
  | int (n : Nat) (i : Int) : SameD H (n + 1) (.int i) (.int i)
  | bl (n : Nat) (b : Bool) : SameD H (n + 1) (.bl b) (.bl b)
  | tup {n : Nat} {a b : Addr} {xs ys : List V} (ha : H a = some (.tup xs)) (hb : H b = some (.tup ys)) (hl : xs.length = ys.length) (hs : xs.length ≤ 1000000) (h : ∀ (i : Nat) (x y : V), xs[i]? = some x → ys[i]? = some y → SameD H n x y) : SameD H (n + 1) (.ref a) (.ref b)
  | lst {n : Nat} {a b : Addr} {xs ys : List V} (ha : H a = some (.lst xs)) (hb : H b = some (.lst ys)) (hl : xs.length = ys.length) (hs : xs.length ≤ 1000000) (h : ∀ (i : Nat) (x y : V), xs[i]? = some x → ys[i]? = some y → SameD H n x y) : SameD H (n + 1) (.ref a) (.ref b)
theorem SameD.same {H H' : Hp} (s : Same H H') : ∀ {n : Nat} {x y : V}, SameD H n x y → SameD H' n x y
  | _, _, _, .str n x => .str n x
  | _, _, _, .non n => .non n
  | _, _, _, .int n i => .int n i
  | _, _, _, .bl n b => .bl n b
  | _, _, _, .tup ha hb hl hs h => .tup (s _ _ ha) (s _ _ hb) hl hs fun i x y hx hy => (h i x y hx hy).same s
  | _, _, _, .lst ha hb hl hs h => .lst (s _ _ ha) (s _ _ hb) hl hs fun i x y hx hy => (h i x y hx hy).same s
def spSame (n : Nat) : Sp := fun vs H Q _ => ∃ x y : V, vs = [x, y] ∧ SameD H n x y ∧ ∀ H', Same H H' → Q (.bl true) H'
theorem ok_same {f : Addr} (T : Txt P w K mg) (F : Stands K "_law_same" "_law_same" s__law_same [] f) (e : f = He.ga K "_law_same") : ∀ n : Nat, Callable P w K mg base (n + 1) f ["_law_found", "_law_due"] [] (spSame n)
  | 0 => by
    refine F.call0 sc__law_same (fun vs H Q E h => ?_) (fun cdv A outer s H vs Q E hr h => ?_) (fun _ _ _ _ _ _ us hl => match us, hl with | [_, _], _ => rfl)
    · obtain ⟨x, y, rfl, _⟩ := h; rfl
    · obtain ⟨x, y, rfl, h, _⟩ := h; cases h
  | n + 1 => by
    have c__law_same := ok_same T F e n
    rw [e] at c__law_same
    refine F.call0 sc__law_same (fun vs H Q E h => ?_) (fun cdv A outer s H vs Q E hr h => ?_) (fun _ _ _ _ _ _ us hl => match us, hl with | [_, _], _ => rfl)
    · obtain ⟨x, y, rfl, _⟩ := h; rfl
    obtain ⟨x, y, rfl, h, hQ⟩ := h
    refine ⟨_, (pss_cons (ps_if (pt_val (pe_callB call_isiT (by rfl) T.b_isinstance (by decide +kernel) (pa_cons (pv 1) (pa_cons (pe_tup (pa_cons (pe_bltn (v := .ty "list") (u := .type "list") (by rfl) T.b_list (by decide +kernel) rfl) (pa_cons (pe_bltn (v := .ty "tuple") (u := .type "tuple") (by rfl) T.b_tuple (by decide +kernel) rfl) pa_nil))) pa_nil)))) (pss_cons (ps_if (PW.pt (pw_or (pt_cmpR op_ne (pe_callB call_isi (by rfl) T.b_isinstance (by decide +kernel) (pa_cons (pv 0) (pa_cons (pe_bltn (v := .ty "list") (u := .type "list") (by rfl) T.b_list (by decide +kernel) rfl) pa_nil))) (pe_callB call_isi (by rfl) T.b_isinstance (by decide +kernel) (pa_cons (pv 1) (pa_cons (pe_bltn (v := .ty "list") (u := .type "list") (by rfl) T.b_list (by decide +kernel) rfl) pa_nil))) (nomark _)) (pw_or1 (pt_cmpR op_ne (pe_callB call_isi (by rfl) T.b_isinstance (by decide +kernel) (pa_cons (pv 0) (pa_cons (pe_bltn (v := .ty "tuple") (u := .type "tuple") (by rfl) T.b_tuple (by decide +kernel) rfl) pa_nil))) (pe_callB call_isi (by rfl) T.b_isinstance (by decide +kernel) (pa_cons (pv 1) (pa_cons (pe_bltn (v := .ty "tuple") (u := .type "tuple") (by rfl) T.b_tuple (by decide +kernel) rfl) pa_nil))) (nomark _))))) (pss_one (ps_ret pe_bl)) pss_nil)
      (pss_one (ps_ret (pe_and (pe_cmpR op_eq (pe_callB call_len (by rfl) T.b_len (by decide +kernel) (pa_cons (pv 0) pa_nil)) (pe_callB call_len (by rfl) T.b_len (by decide +kernel) (pa_cons (pv 1) pa_nil)) (nomark _)) (pe_one (pe_callB (cr_all rfl) (by rfl) T.b_all (by decide +kernel) (pa_cons (pe_lc (own := [("_law_one", 2), ("_law_two", 3)]) (by rfl) sc__law_same.nd (RZ.pi_zipA (by rfl) T.b_zip (pa_cons (pv 0) (pa_cons (pv 1) pa_nil))) (blkOk_by (own := [("_law_one", 2), ("_law_two", 3)]) (N := nm__law_same) (sc := defScope s__law_same) (by decide +kernel)) (fun _ _ _ _ _ => (RG.pg_tupK (K := K) (n := 2) (by rfl) (pgs_cons (pg_name (i := 2) sc__law_same.nd rfl (by first | exact Or.inl rfl | exact Or.inr rfl)) (pgs_cons (pg_name (i := 3) sc__law_same.nd rfl (by first | exact Or.inl rfl | exact Or.inr rfl)) pgs_nil)))) (fun _ _ _ _ _ => pts_nil) (fun _ _ _ _ _ => (pe_fn T.g__law_same c__law_same (hr.mono (by first | decide | exact Nat.le_refl _)) (by rfl) (pa_cons (pv 2) (pa_cons (pv 3) pa_nil))))) pa_nil))))))) pss_nil)
      (pss_cons (ps_if (pt_val (pe_callB call_isiT (by rfl) T.b_isinstance (by decide +kernel) (pa_cons (pv 1) (pa_cons (pe_tup (pa_cons (pe_bltn (v := .ty "bool") (u := .type "bool") (by rfl) T.b_bool (by decide +kernel) rfl) (pa_cons (pe_bltn (v := .ty "int") (u := .type "int") (by rfl) T.b_int (by decide +kernel) rfl) pa_nil))) pa_nil)))) (pss_one (ps_ret (pe_and (pe_callB call_isi (by rfl) T.b_isinstance (by decide +kernel) (pa_cons (pv 0) (pa_cons (pe_bltn (v := .ty "int") (u := .type "int") (by rfl) T.b_int (by decide +kernel) rfl) pa_nil))) (pe_and (pe_cmpR op_eq (pe_callB call_isi (by rfl) T.b_isinstance (by decide +kernel) (pa_cons (pv 0) (pa_cons (pe_bltn (v := .ty "bool") (u := .type "bool") (by rfl) T.b_bool (by decide +kernel) rfl) pa_nil))) (pe_callB call_isi (by rfl) T.b_isinstance (by decide +kernel) (pa_cons (pv 1) (pa_cons (pe_bltn (v := .ty "bool") (u := .type "bool") (by rfl) T.b_bool (by decide +kernel) rfl) pa_nil))) (nomark _)) (pe_one (pe_cmpR op_eq (pv 0) (pv 1) (nomark _))))))) pss_nil)
      (pss_one (ps_ret (pe_and (pe_cmpR op_isBl (pe_callB call_isiT (by rfl) T.b_isinstance (by decide +kernel) (pa_cons (pv 0) (pa_cons (pe_tup (pa_cons (pe_bltn (v := .ty "bool") (u := .type "bool") (by rfl) T.b_bool (by decide +kernel) rfl) (pa_cons (pe_bltn (v := .ty "int") (u := .type "int") (by rfl) T.b_int (by decide +kernel) rfl) (pa_cons (pe_bltn (v := .ty "list") (u := .type "list") (by rfl) T.b_list (by decide +kernel) rfl) (pa_cons (pe_bltn (v := .ty "tuple") (u := .type "tuple") (by rfl) T.b_tuple (by decide +kernel) rfl) pa_nil))))) pa_nil))) pe_bl (nomark _)) (pe_one (pe_cmpR op_eq (pv 0) (pv 1) (nomark _)))))))), ?_⟩
    walk_at "in"
    cases h with
    | str _ x =>
      walk_at "gi"
      rw [show decide (V.str x = V.str x) = true from decide_eq_true rfl]
      exact hQ _ (by walk_at "sm")
    | non =>
      walk_at "gi"
      exact hQ _ (by walk_at "sm")
    | int _ i =>
      walk_at "gi"
      rw [show decide (V.int i = V.int i) = true from decide_eq_true rfl]
      exact hQ _ (by walk_at "sm")
    | bl _ i =>
      walk_at "gi"
      rw [show decide (V.bl i = V.bl i) = true from decide_eq_true rfl]
      exact hQ _ (by walk_at "sm")
    | @tup _ a b xs ys ha hb hl hs h =>
      walk_at "gi"
      have el : decide (V.int xs.length = V.int ys.length) = true := by rw [hl]; exact decide_eq_true rfl
      walk_at "gi"
      rename_i T0 fT0
      have s0 : Same H (upd H T0 (.tup [.ty "list", .ty "tuple"])) := same_new fT0 _
      generalize upd H T0 (.tup [.ty "list", .ty "tuple"]) = H1 at s0 ⊢
      refine .inr ⟨SqT.of (s0 _ _ ha), SqT.of (s0 _ _ hb), fun D fD' => ?_⟩
      refine lc_it (walkZT (xs := xs) (ys := ys) hl) (fun i H' => Same H1 H' ∧ H' D = some (.lst ((List.replicate i true).map V.bl))) ⟨same_new fD' _, upd_same⟩ (fun i H' _ h => ⟨SqT.of (h.1 _ _ (s0 _ _ ha)), SqT.of (h.1 _ _ (s0 _ _ hb))⟩) (fun i v H2 H3 hi hP hv => ?_) (fun H2 hP => ?_)
      · obtain ⟨T, x, y, rfl, fT, rfl, hx, hy⟩ := hv
        obtain ⟨s2, d2⟩ := hP
        have s23 : Same H1 (upd H2 T (.tup [x, y])) := s2.trans (same_new fT _)
        have hd := (h i x y hx hy).same (s0.trans s23)
        have d3 : upd H2 T (.tup [x, y]) D = some (.lst ((List.replicate i true).map V.bl)) := same_new fT _ _ _ d2
        have q3 : upd H2 T (.tup [x, y]) T = some (.tup [x, y]) := upd_same
        clear fT
        generalize upd H2 T (.tup [x, y]) = H3 at hd d3 q3 s23
        walk_at "go"
        intro H4 s4
        walk_at "go"
        rw [upd_same, List.replicate_succ', List.map_append]; rfl
      · obtain ⟨s2, d2⟩ := hP
        refine ⟨D, List.replicate xs.length true, rfl, SqL.of d2, ?_⟩
        rw [show (List.replicate xs.length true).all id = true from by simp]
        exact hQ _ (s0.trans s2)
    | @lst _ a b xs ys ha hb hl hs h =>
      walk_at "gi"
      have el : decide (V.int xs.length = V.int ys.length) = true := by rw [hl]; exact decide_eq_true rfl
      walk_at "gi"
      rename_i T0 fT0
      have s0 : Same H (upd H T0 (.tup [.ty "list", .ty "tuple"])) := same_new fT0 _
      generalize upd H T0 (.tup [.ty "list", .ty "tuple"]) = H1 at s0 ⊢
      refine .inl ⟨SqL.of (s0 _ _ ha), SqL.of (s0 _ _ hb), fun D fD' => ?_⟩
      refine lc_it (walkZL (xs := xs) (ys := ys) hl) (fun i H' => Same H1 H' ∧ H' D = some (.lst ((List.replicate i true).map V.bl))) ⟨same_new fD' _, upd_same⟩ (fun i H' _ h => ⟨SqL.of (h.1 _ _ (s0 _ _ ha)), SqL.of (h.1 _ _ (s0 _ _ hb))⟩) (fun i v H2 H3 hi hP hv => ?_) (fun H2 hP => ?_)
      · obtain ⟨T, x, y, rfl, fT, rfl, hx, hy⟩ := hv
        obtain ⟨s2, d2⟩ := hP
        have s23 : Same H1 (upd H2 T (.tup [x, y])) := s2.trans (same_new fT _)
        have hd := (h i x y hx hy).same (s0.trans s23)
        have d3 : upd H2 T (.tup [x, y]) D = some (.lst ((List.replicate i true).map V.bl)) := same_new fT _ _ _ d2
        have q3 : upd H2 T (.tup [x, y]) T = some (.tup [x, y]) := upd_same
        clear fT
        generalize upd H2 T (.tup [x, y]) = H3 at hd d3 q3 s23
        walk_at "go"
        intro H4 s4
        walk_at "go"
        rw [upd_same, List.replicate_succ', List.map_append]; rfl
      · obtain ⟨s2, d2⟩ := hP
        refine ⟨D, List.replicate xs.length true, rfl, SqL.of d2, ?_⟩
        rw [show (List.replicate xs.length true).all id = true from by simp]
        exact hQ _ (s0.trans s2)
end
end K17

set_option Elab.async false
set_option linter.all false
set_option maxRecDepth 100000
set_option maxHeartbeats 0
namespace K17
open PySem PySem.Spec PyProof.Rows L2 RC
section
variable {P : Program} {w : World} {K : PySem.W.Frag} {mg : Str → Option Value} {base : Heap}
/-- a name of one to most parts -/
def spName : Sp := fun vs H Q _ => ∃ (s l : Addr) (n : Nat) (most : Int), vs = [.ref s, .int most] ∧ Stm H s l n ∧ n ≤ 900000 ∧ 1 ≤ most ∧ most ≤ 50 ∧
  ∀ (H' : Hp) (ps : List Str), Old s l H H' → Stm H' s l (n + 100) → 1 ≤ ps.length → (ps.length : Int) ≤ most → (∀ p ∈ ps, p ∈ parts5) → Q (.str (Txt.join "." ps)) H'
theorem ok_name {f : Addr} (T : Txt P w K mg) (F : Stands K "_law_name" "_law_name" s__law_name [] f) (c__law_draw : Callable P w K mg base 1 (He.ga K "_law_draw") ["_law_s", "_law_many"] [] spDraw)
    (c__law_pick : Callable P w K mg base 2 (He.ga K "_law_pick") ["_law_s", "_law_some"] [] (spPick K)) : Callable P w K mg base 3 f ["_law_s", "_law_most"] [] spName := by
  refine F.call0 sc__law_name (fun vs H Q E h => ?_) (fun cdv A outer s H vs Q E hr h => ?_) (fun _ _ _ _ _ _ us hl => match us, hl with | [_, _], _ => rfl)
  · obtain ⟨s, l, n, most, rfl, _⟩ := h; rfl
  obtain ⟨s, l, n, most, rfl, hs, hn, hm1, hm2, hQ⟩ := h
  refine ⟨_, (pss_one (ps_ret (pe_join pe_str (pe_lc (own := [("_law_k", 2)]) (by rfl) sc__law_name.nd (pi_range1 (by rfl) T.b_range (pa_cons (pe_op op_add pe_int (pe_fn T.g__law_draw c__law_draw (hr.mono (by first | decide | exact Nat.le_refl _)) (by rfl) (pa_cons (pv 0) (pa_cons (pv 1) pa_nil)))) pa_nil)) (blkOk_by (own := [("_law_k", 2)]) (N := nm__law_name) (sc := defScope s__law_name) (by decide +kernel)) (fun _ _ _ _ _ => (pg_name (i := 2) sc__law_name.nd rfl (by first | exact Or.inl rfl | exact Or.inr rfl))) (fun _ _ _ _ _ => pts_nil) (fun _ _ _ _ _ => (pe_fn T.g__law_pick c__law_pick (hr.mono (by first | decide | exact Nat.le_refl _)) (by rfl) (pa_cons (pv 0) (pa_cons (pe_lst (pa_cons pe_str (pa_cons pe_str (pa_cons pe_str (pa_cons pe_str (pa_cons pe_str pa_nil)))))) pa_nil)))))))), ?_⟩
  refine ⟨⟨_, rfl⟩, _, rfl, _, rfl, s, l, n, most, rfl, hs, by omega, hm1, by omega, fun H1 d h1 h2 h3 h4 => ?_⟩
  refine ⟨1, d, rfl, rfl, 1 + d, rfl, by omega, by omega, fun D hD => ?_⟩
  obtain ⟨k, rfl⟩ := Int.eq_ofNat_of_zero_le h3
  have en : (1 + (k : Int)).toNat = 1 + k := by omega
  rw [en]
  have nDs : D ≠ s := fun z => by obtain ⟨_, _, _, _, _, z1, _⟩ := h2; rw [z, z1] at hD; cases hD
  have nDl : D ≠ l := fun z => by obtain ⟨_, _, _, _, _, _, z1, _⟩ := h2; rw [z, z1] at hD; cases hD
  refine lc_it (n := 1 + k) walk_range (fun i H' => Old s l H1 H' ∧ Stm H' s l (n + 1 + i) ∧ ∃ ps : List Str, ps.length = i ∧ (∀ p ∈ ps, p ∈ parts5) ∧ H' D = some (.lst (ps.map V.str))) ⟨Old.of_same (same_new hD _), h2.same (same_new hD _), [], rfl, (fun _ h => nomatch h), upd_same⟩ (fun _ _ _ _ => trivial) (fun i x H2 H3 hi hp hy => ?_) (fun H2 h => ?_)
  · obtain ⟨rfl, rfl⟩ := hy
    obtain ⟨g1, g2, ps, g3, g4, g5⟩ := hp
    refine ⟨rfl, yes_if ?_⟩
    refine ⟨_, rfl, (by show 5 ≤ sizeLine; decide), fun q hq => ?_⟩
    have nqs : q ≠ s := fun z => by obtain ⟨_, _, _, _, _, z1, _⟩ := g2; rw [z, z1] at hq; cases hq
    have nql : q ≠ l := fun z => by obtain ⟨_, _, _, _, _, _, z1, _⟩ := g2; rw [z, z1] at hq; cases hq
    have sq := same_new hq (.lst [.str "a", .str "b", .str "ab", .str "A", .str "_1"])
    refine ⟨s, l, q, n + 1 + i, _, rfl, g2.same sq, by omega, nqs, nql, upd_same, by decide, by decide, fun H4 x k1 k2 k3 => ?_⟩
    have hx : ∃ p : Str, p ∈ parts5 ∧ x = V.str p := by
      have e : x ∈ parts5.map V.str := k3
      obtain ⟨p, hp, rfl⟩ := List.mem_map.mp e
      exact ⟨p, hp, rfl⟩
    obtain ⟨p, hp5, rfl⟩ := hx
    have gD := k1 _ _ nDs nDl (sq _ _ g5)
    refine ⟨_, gD, by rw [List.length_map, sizeLine_eq]; omega, ?_, ?_, ps ++ [p], by simp [g3], ?_, by rw [upd_same, List.map_append]; rfl⟩
    · exact old_new (g1.trans ((Old.of_same sq).trans k1)) hD
    · exact k2.put nDs nDl
    · intro z hz
      rcases List.mem_append.mp hz with c | c
      · exact g4 z c
      · cases List.mem_singleton.mp c; exact hp5
  · obtain ⟨g1, g2, ps, g3, g4, g5⟩ := h
    have hsum := sum_parts ps g4
    refine ⟨".", D, ps, rfl, rfl, .inl (SqL.of g5), ?_, hQ _ ps (h1.trans g1) (g2.mono (by omega)) (by omega) (by omega) g4⟩
    have e1 : (("." : Str)).length = 1 := rfl
    rw [e1]; omega
end
end K17

set_option Elab.async false
set_option linter.all false
set_option maxRecDepth 100000
set_option maxHeartbeats 0

namespace K17
open PySem PySem.Spec PyProof.Rows L2 RC
section
variable {P : Program} {w : World} {K : PySem.W.Frag} {mg : Str → Option Value} {base : Heap}
/-! ### some things in a drawn order -/
def spOrder (K : PySem.W.Frag) : Sp := fun vs H Q _ => ∃ (s l a : Addr) (n : Nat) (xs : List V), vs = [.ref s, .ref a] ∧ Stm H s l n ∧ n ≤ 900000 ∧ SqL K H a xs ∧ xs.length ≤ 1000 ∧ ∀ (H' : Hp) (p : Addr) (ys : List V), Old s l H H' → H p = none → p ≠ s → p ≠ l → H' p = some (.lst ys) → ys.Perm xs → Stm H' s l (n + xs.length) → Q (.ref p) H'
theorem erase_perm : ∀ (l : List V) (i : Nat) (h : i < l.length), (l[i] :: l.eraseIdx i).Perm l
  | [], i, h => absurd h (Nat.not_lt_zero _)
  | a :: t, 0, _ => .refl _
  | a :: t, i + 1, h => (List.Perm.swap a (t[i]'(Nat.lt_of_succ_lt_succ h)) _).trans (.cons a (erase_perm t i (Nat.lt_of_succ_lt_succ h)))
theorem seqAt {d : Int} {n : Nat} (h0 : 0 ≤ d) (h1 : d < n) : seqIndex? d n = some d.toNat := by
  unfold seqIndex?
  simp
  omega
theorem ok_order {f : Addr} (T : Txt P w K mg) (F : Stands K "_law_order" "_law_order" s__law_order [] f) (c__law_draw : Callable P w K mg base 1 (He.ga K "_law_draw") ["_law_s", "_law_many"] [] spDraw) : Callable P w K mg base 2 f ["_law_s", "_law_some"] [] (spOrder K) := by
  refine F.call0 sc__law_order (fun vs H Q E h => ?_) (fun cdv A outer s0 H vs Q E hr h => ?_) (fun _ _ _ _ _ _ us hl => match us, hl with | [_, _], _ => rfl)
  · obtain ⟨s, l, a, n, xs, rfl, _⟩ := h; rfl
  obtain ⟨s, l, a, n, xs, rfl, st, hn, ha, hx, hQ⟩ := h
  refine ⟨_, (pss_cons (ps_par (by rfl) sc__law_order.nd (i := 2) (j := 3) rfl rfl (by decide) rfl rfl (pa_cons (pe_callTy call_list_of (by rfl) T.b_list (by decide +kernel) (pa_cons (pv 1) pa_nil)) (pa_cons (pe_lst pa_nil) pa_nil)) (by rfl))
      (pss_cons (ps_while PassesOwn.never (pt_cmpR (RY.op_neE (Nat.lt_of_succ_lt (hu_of hr))) (pv 2) (pe_lst pa_nil) (nomark _)) (pss_one (ps_expr (pe_bm PySem.F.plainAttrs_list PySem.F.slot_list_append PySem.F.type_list_append mt_append (pv 3) (pa_cons (pe_bm PySem.F.plainAttrs_list PySem.F.slot_list_pop PySem.F.type_list_pop mt_popAt (pv 2) (pa_cons (pe_fn T.g__law_draw c__law_draw (hr.mono (by first | decide | exact Nat.le_refl _)) (by rfl) (pa_cons (pv 0) (pa_cons (pe_callB call_len (by rfl) T.b_len (by decide +kernel) (pa_cons (pv 2) pa_nil)) pa_nil))) pa_nil)) pa_nil)))))
      (pss_one (ps_ret (pv 3))))), ?_⟩
  walk_at "in"
  obtain ⟨⟨os, hs0⟩, ⟨ol, hl0⟩, nsl⟩ := RW.stm_at st
  refine ⟨_, rfl, a, xs, rfl, .inl ha, fun L hL => ⟨(by show 0 ≤ sizeLine; decide), fun D hD => ⟨_, _, rfl, ?_⟩⟩⟩
  obtain ⟨nDL, hD0⟩ := upd_none hD
  have Ls : L ≠ s := RW.ne_new' hL hs0
  have Ll : L ≠ l := RW.ne_new' hL hl0
  have Ds : D ≠ s := RW.ne_new' hD0 hs0
  have Dl : D ≠ l := RW.ne_new' hD0 hl0
  have oO : Old s l H (upd (upd H L (.lst xs)) D (.lst [])) := fun b u h1 h2 e => by rw [upd_ne (ne_of_none e hD0), upd_ne (ne_of_none e hL)]; exact e
  have st0 : Stm (upd (upd H L (.lst xs)) D (.lst [])) s l n := (st.put Ls Ll).put Ds Dl
  have gL : upd (upd H L (.lst xs)) D (.lst []) L = some (.lst xs) := by rw [upd_ne (Ne.symm nDL), upd_same]
  have gD : upd (upd H L (.lst xs)) D (.lst []) D = some (.lst []) := upd_same
  generalize upd (upd H L (.lst xs)) D (.lst []) = H1 at oO st0 gL gD ⊢
  refine ⟨fun m σ H' => σ = [some (.ref s), some (.ref a), some (.ref L), some (.ref D)] ∧ Old s l H H' ∧ ∃ left found : List V, m = left.length ∧ H' L = some (.lst left) ∧ H' D = some (.lst found) ∧ (found ++ left).Perm xs ∧ Stm H' s l (n + found.length),
    ⟨_, rfl, oO, xs, [], rfl, gL, gD, .refl _, st0⟩, ?_⟩
  clear oO st0 gL gD
  rintro m σ H2 ⟨rfl, o2, left, found, rfl, gL, gD, pm, st2⟩
  have pl := pm.length_eq
  rw [List.length_append] at pl
  walk_at "go"
  intro p fp
  have gL3 := same_new fp (.lst []) _ _ gL
  have gD3 := same_new fp (.lst []) _ _ gD
  obtain ⟨⟨os2, hs2⟩, ⟨ol2, hl2⟩, _⟩ := RW.stm_at st2
  have st3 : Stm (upd H2 p (.lst [])) s l (n + found.length) := st2.put (RW.ne_new' fp hs2) (RW.ne_new' fp hl2)
  have o3 : Old s l H (upd H2 p (.lst [])) := RW.old_upd o2 (by
    cases e : H p with
    | none => rfl
    | some u =>
      have e2 := o2 p u (RW.ne_new' fp hs2) (RW.ne_new' fp hl2) e
      rw [fp] at e2; cases e2)
  refine ⟨L, p, left, rfl, rfl, SqL.of gL3, SqL.of upd_same, _, rfl, ?_⟩
  clear gL gD st2 hs2 hl2 o2
  generalize upd H2 p (.lst []) = H3 at gL3 gD3 st3 o3 ⊢
  cases left with
  | nil =>
    refine RC.iteF' rfl ?_
    rw [List.append_nil] at pm
    rw [List.length_nil, Nat.add_zero] at pl
    have hQ2 := hQ H3 D found o3 hD0 Ds Dl gD3 pm (by rw [← pl]; exact st3)
    walk_at "go"
    exact hQ2
  | cons x r =>
    refine RC.iteT' rfl ?_
    refine ⟨_, fun σ' H' z => z, ?_⟩
    have lq : (x :: r).length ≤ xs.length := by omega
    have lr : ((x :: r).length : Int) < 1073741824 := by omega
    have ln : found.length < sizeLine := by rw [sizeLine_eq]; omega
    have n6 : n + found.length ≤ 1000000 := by omega
    have lp : (1 : Int) ≤ ((x :: r).length : Int) := by rw [List.length_cons]; omega
    walk_at "go"
    intro H4 d q4 st4 d1 d2
    have gL4 := q4 _ _ Ls Ll gL3
    have gD4 := q4 _ _ Ds Dl gD3
    have hk := seqAt d1 d2
    have dl : d.toNat < (x :: r).length := by omega
    have hy : (x :: r)[d.toNat]? = some (x :: r)[d.toNat] := List.getElem?_eq_getElem dl
    have b1 : -(2 ^ 63) ≤ d := by omega
    have b2 : d < 2 ^ 63 := by omega
    have pe : ((x :: r)[d.toNat] :: (x :: r).eraseIdx d.toNat).Perm (x :: r) := erase_perm _ _ dl
    have le : ((x :: r).eraseIdx d.toNat).length < (x :: r).length := by have := pe.length_eq; rw [List.length_cons] at this; omega
    have o4 : Old s l H H4 := o3.trans q4
    clear gL3 gD3 st3 o3 q4
    generalize (x :: r)[d.toNat] = y at hy pe
    walk_at "go"
    have nLD : L ≠ D := Ne.symm nDL
    refine ⟨?_, ?_⟩
    · have e : found ++ [y] ++ (x :: r).eraseIdx d.toNat = found ++ (y :: (x :: r).eraseIdx d.toNat) := by simp
      rw [e]
      exact (pe.append_left found).trans pm
    · rw [List.length_append, List.length_singleton, ← Nat.add_assoc]
      exact (st4.put Ls Ll).put Ds Dl
end
end K17

set_option Elab.async false
set_option linter.all false
set_option maxRecDepth 100000
set_option maxHeartbeats 0

namespace K17
open PySem PySem.Spec PyProof.Rows L2 RC
section
variable {P : Program} {w : World} {K : PySem.W.Frag} {mg : Str → Option Value} {base : Heap}
/-! ### the rows of the law are drawn -/
theorem cut_take (xs : List V) {d : Nat} (h : d ≤ xs.length) : cutV xs none (some (d : Int)) = xs.take d := by
  unfold cutV
  rw [HT.sIx_none, HT.sIx_nat, Nat.min_eq_left h]; rfl
theorem inV_strs (x : Str) (xs : List Str) : L2.inV (.str x) (xs.map V.str) = decide (x ∈ xs) := by
  unfold L2.inV
  rw [List.any_map, Bool.eq_iff_iff, List.any_eq_true, decide_eq_true_eq]
  refine ⟨fun ⟨i, hi, z⟩ => ?_, fun h => ⟨x, h, ?_⟩⟩
  · have z : L2.eqV (.str i) (.str x) = true := z
    simp [L2.eqV] at z
    rw [← z]; exact hi
  · show L2.eqV (.str x) (.str x) = true
    simp [L2.eqV]
theorem flat_strs (xs : List Str) : (xs.map V.str).all L2.flatV = true := by rw [List.all_map]; exact List.all_eq_true.mpr fun _ _ => rfl
def RowsI (s l RL : Addr) (G0 : Hp) (cs : List RS.Comp) (n0 : Nat) (i : Nat) (H : Hp) : Prop := ∃ (rs : List Row) (as : List Addr) (G : Hp), RS.Wd H s l (n0 + 300 * i) (RS.cG G :: RS.cell RL (.lst (as.map V.ref)) :: cs) ∧ Same G0 G ∧ as.length = rs.length ∧ (∀ (j : Nat) (a : Addr) (r : Row), as[j]? = some a → rs[j]? = some r → RowAt G a r) ∧ (∀ r ∈ rs, r.Ok) ∧ (rs.map (·.x)).Nodup ∧ rs.length ≤ i
abbrev b_rows : List Stmt := bodyFor ((defBody s_law).getD 4 (.Pass ⟨0, 0, 0, 0⟩))
abbrev sgR (a s RL YL M S2 PL : Addr) (o7 o8 o9 o10 : Option V) : L2.St := [some (.ref a), some (.ref s), some (.ref RL), some (.ref YL), some (.ref M), some (.ref S2), some (.ref PL), o7, o8, o9, o10, none, none, none, none, none, none, none]
theorem rows_turn (T : Txt P w K mg) {f : Addr} {cdv : Value} {A : Around} {outer : List Env} {st0 : Shared} {E : XK} {H : Hp} (hr : Room 9 (A.deeper (envOfC "law" (defScope s_law) st0.heap.objs.size f cdv)))
    (c__law_draw : Callable P w K mg base 1 (He.ga K "_law_draw") ["_law_s", "_law_many"] [] spDraw)
    (c__law_pick : Callable P w K mg base 2 (He.ga K "_law_pick") ["_law_s", "_law_some"] [] (spPick K))
    (c__law_name : Callable P w K mg base 3 (He.ga K "_law_name") ["_law_s", "_law_most"] [] spName)
    (c__law_order : Callable P w K mg base 2 (He.ga K "_law_order") ["_law_s", "_law_some"] [] (spOrder K)) :
    ∃ t, PSs (cxOf CX0 P w K mg base nm_law "law" (defScope s_law) f cdv A outer st0 H E).nox b_rows t ∧ ∀ {a s l RL YL M S2 PL : Addr} {G0 : Hp} {cs : List RS.Comp} {n0 : Nat} (i : Nat) (H5 : Hp) (D' : Ends), RowsI s l RL G0 cs n0 i H5 → i < 8 → n0 ≤ 1000 → ∀ o8 o9 o10, (∀ σ H', RowsI s l RL G0 cs n0 (i + 1) H' → (∃ o7 o8 o9 o10, σ = sgR a s RL YL M S2 PL o7 o8 o9 o10) → D'.nx σ H') → t D' (sgR a s RL YL M S2 PL (some (.int (0 + (i : Nat)))) o8 o9 o10) H5 := by
  refine ⟨_, (pss_cons (ps_set (i := 8) sc_law.nd rfl (by first | exact Or.inl rfl | exact Or.inr rfl) (pe_op op_add_str (pe_op RD.op_mulS pe_str (pe_callTy call_int1 (by rfl) T.b_int (by decide +kernel) (pa_cons (pe_cmpR op_eq (pe_fn T.g__law_draw c__law_draw (hr.mono (by first | decide | exact Nat.le_refl _)) (by rfl) (pa_cons (pv 1) (pa_cons pe_int pa_nil))) pe_int (nomark _)) pa_nil))) (pe_fn T.g__law_name c__law_name (hr.mono (by first | decide | exact Nat.le_refl _)) (by rfl) (pa_cons (pv 1) (pa_cons pe_int pa_nil)))))
      (pss_one (ps_if (pt_cmpR op_notIn_seq (pv 8) (pe_lc (own := [("_law_row", 9)]) (by rfl) sc_law.nd (pi_list (pv 2)) (blkOk_by (own := [("_law_row", 9)]) (N := nm_law) (sc := defScope s_law) (by decide +kernel)) (fun _ _ _ _ _ => (pg_name (i := 9) sc_law.nd rfl (by first | exact Or.inl rfl | exact Or.inr rfl))) (fun _ _ _ _ _ => pts_nil) (fun _ _ _ _ _ => (pe_ix (ixK (K := K) rIxT ix_tup) (pv 9) pe_int (fun _ _ => rfl)))) (by rfl)) (pss_cons (ps_set (i := 10) sc_law.nd rfl (by first | exact Or.inl rfl | exact Or.inr rfl) (pe_slice sl_list (pe_fn T.g__law_order c__law_order (hr.mono (by first | decide | exact Nat.le_refl _)) (by rfl) (pa_cons (pv 1) (pa_cons (pe_lst (pa_cons pe_int (pa_cons pe_int (pa_cons pe_int pa_nil)))) pa_nil))) po_none (po_some (pe_fn T.g__law_draw c__law_draw (hr.mono (by first | decide | exact Nat.le_refl _)) (by rfl) (pa_cons (pv 1) (pa_cons pe_int pa_nil))))))
      (pss_one (ps_expr (pe_bm PySem.F.plainAttrs_list PySem.F.slot_list_append PySem.F.type_list_append mt_append (pv 2) (pa_cons (pe_tup (pa_cons (pv 8) (pa_cons (pe_fn T.g__law_pick c__law_pick (hr.mono (by first | decide | exact Nat.le_refl _)) (by rfl) (pa_cons (pv 1) (pa_cons (pe_lst (pa_cons pe_int (pa_cons pe_int (pa_cons pe_int pa_nil)))) pa_nil))) (pa_cons (pe_cmpR op_gt (pe_fn T.g__law_draw c__law_draw (hr.mono (by first | decide | exact Nat.le_refl _)) (by rfl) (pa_cons (pv 1) (pa_cons pe_int pa_nil))) pe_int (nomark _)) (pa_cons (pe_cmpR op_eq (pe_fn T.g__law_draw c__law_draw (hr.mono (by first | decide | exact Nat.le_refl _)) (by rfl) (pa_cons (pv 1) (pa_cons pe_int pa_nil))) pe_int (nomark _)) (pa_cons (pv 10) pa_nil)))))) pa_nil))))) pss_nil))), ?_⟩
  walk_at "in"
  intro a s l RL YL M S2 PL G0 cs n0 i H5 D' ⟨rs, as, G, W5, sG, hln, hat, hok, hnd, hle⟩ hi hn0 o8 o9 o10 k'
  refine st_cont (fun v H' => ∃ qs, Nm qs ∧ v = V.str (Txt.join "." qs) ∧ RS.Wd H' s l (n0 + 300 * i + 150) (RS.cG G :: RS.cell RL (.lst (as.map V.ref)) :: cs)) (fun Q' k' => ?_) (fun v H6 r => ?_)
  · refine ⟨_, rfl, s, l, _, 6, rfl, W5.stm, by omega, by decide, by decide, fun H6 c q6 st6 c1 c2 => ⟨rfl, .inr ⟨_, rfl, _, _, rfl, rfl, mul_ok _, ?_⟩⟩⟩
    have W6 := W5.old q6 st6
    refine ⟨_, rfl, s, l, _, 3, rfl, W6.stm, by omega, by decide, by decide, fun H7 ps q7 st7 p1 p2 p3 => ⟨_, _, rfl, rfl, ?_, ?_⟩⟩
    · rw [mul_root]
      have := len6 (fun p hp => in56 p (p3 p hp)) (by omega)
      rw [sizeLine_eq]
      split
      · show 5 + _ ≤ _; omega
      · show 0 + _ ≤ _; omega
    · rw [mul_root]
      have W7 := (W6.old q7 st7).mono (show n0 + 300 * i + 1 + 100 ≤ n0 + 300 * i + 150 by omega)
      have p4 : ps.length ≤ 4 := by omega
      cases decide (V.int c = V.int 0) with
      | true =>
        refine k' _ _ ⟨("root" : Str) :: ps, nm_root p3 p1 p4, ?_, W7⟩
        rw [if_pos rfl, join_root p1]
      | false =>
        refine k' _ _ ⟨ps, nm_plain p3 p1 p4, ?_, W7⟩
        rw [if_neg (by decide), nil_app]
  obtain ⟨qs, nm, rfl, W6⟩ := r
  dsimp only [gName]
  clear W5
  generalize hx : Txt.join "." qs = x
  have hRL : H6 RL = some (.lst (as.map V.ref)) := W6.up1.c0
  walk_at "go"
  intro D hD
  refine lc_it (walk_list (xs := as.map V.ref)) (fun i H' => Same H6 H' ∧ H' D = some (.lst ((rs.take i).map fun r => V.str r.x))) ⟨same_new hD _, upd_same⟩ (fun i H' _ h => SqL.of (h.1 _ _ hRL)) (fun i y H8 H7 hi hP hy => ?_) (fun H7 hP => ?_)
  · obtain ⟨rfl, hy⟩ := hy
    obtain ⟨s7, d7⟩ := hP
    rw [List.getElem?_map] at hy
    obtain ⟨p, hp, rfl⟩ := Option.map_eq_some_iff.mp hy
    have hl := (List.getElem?_eq_some_iff.mp hp).1
    rw [hln] at hl
    obtain ⟨q, hq1, hq2⟩ := hat i p _ hp (List.getElem?_eq_getElem hl)
    have hpt := s7 _ _ (W6.g0 _ _ hq1)
    have ln : ((rs.take i).map fun r => V.str r.x).length < sizeLine := by rw [List.length_map, List.length_take, sizeLine_eq]; omega
    walk_at "go"
    rw [upd_same]
    have et := List.take_add_one (l := rs) (i := i)
    rw [List.getElem?_eq_getElem hl] at et
    rw [et, List.map_append]; rfl
  obtain ⟨s7, d7⟩ := hP
  rw [List.length_map, hln, List.take_length] at d7
  have em : (rs.map fun r => V.str r.x) = (rs.map (·.x)).map V.str := by rw [List.map_map]; rfl
  rw [em] at d7
  have W7 := W6.same s7
  clear W6 hRL
  walk_at "go"
  refine ⟨.inl (SqL.of d7), rfl, flat_strs _, ?_⟩
  rw [inV_strs]
  refine ⟨_, rfl, ?_⟩
  have fin : ∀ {H' : Hp} {rs2 : List Row} {as2 : List Addr} {G2 : Hp}, RS.Wd H' s l (n0 + 300 * (i + 1)) (RS.cG G2 :: RS.cell RL (.lst (as2.map V.ref)) :: cs) → Same G0 G2 → as2.length = rs2.length → (∀ (j : Nat) (a : Addr) (r : Row), as2[j]? = some a → rs2[j]? = some r → RowAt G2 a r) → (∀ r ∈ rs2, r.Ok) → (rs2.map (·.x)).Nodup → rs2.length ≤ i + 1 → RowsI s l RL G0 cs n0 (i + 1) H' := fun h1 h2 h3 h4 h5 h6 h7 => ⟨_, _, _, h1, h2, h3, h4, h5, h6, h7⟩
  by_cases c : x ∈ rs.map (·.x)
  · refine iteF' (by rw [decide_eq_true c]; rfl) ?_
    walk_at "go"
    exact k' _ _ (fin (W7.mono (by omega)) sG hln hat hok hnd (by omega)) ⟨_, _, _, _, rfl⟩
  · refine iteT' (by rw [decide_eq_false c]; rfl) ?_
    have st7 := W7.stm
    obtain ⟨⟨os, hs7⟩, ⟨ol, hl7⟩, _⟩ := RW.stm_at st7
    walk_at "go"
    intro pA fA
    have sA := same_new fA (.lst [.int 0, .int 1, .int 2])
    refine ⟨s, l, pA, _, _, rfl, st7.same sA, by omega, SqL.of upd_same, by decide, fun H8 p8 ys q8 f8 n8s n8l d8 pm8 st8 => ?_⟩
    have W8 := ((W7.same sA).old q8 st8)
    obtain ⟨js, pj, rfl⟩ := perm_lift (fun j : Nat => V.int (j : Nat)) pm8 [0, 1, 2] rfl
    clear q8 sA fA hs7 hl7 W7 d7 st7
    walk_at "go"
    intro H9 d q9 st9 d1 d2
    have W9 := W8.old q9 st9
    have d9 := q9 _ _ n8s n8l d8
    obtain ⟨k, rfl⟩ := Int.eq_ofNat_of_zero_le d1
    have hk3 : k ≤ 3 := by omega
    have lj : js.length = 3 := pj.length_eq
    walk_at "go"
    intro pN fN
    rw [cut_take _ (by rw [List.length_map, lj]; exact hk3), ← List.map_take]
    obtain ⟨jt, hjt⟩ : ∃ jt, jt = js.take k := ⟨_, rfl⟩
    have jnd : jt.Nodup := by rw [hjt]; exact (pj.nodup_iff.mpr (by decide)).sublist (List.take_sublist _ _)
    have jlt : ∀ j ∈ jt, j < 3 := fun j hj => by
      rw [hjt] at hj
      have h := pj.mem_iff.mp (List.mem_of_mem_take hj)
      simp only [List.mem_cons, List.not_mem_nil, or_false] at h
      omega
    rw [← hjt]
    clear d9 d8 hjt pj lj pm8
    have LA := W9.lay (o := .lst (jt.map fun j => V.int (j : Nat))) fN
    have WA := LA.1
    have sA := LA.2
    have hN : upd G pN (.lst (jt.map fun j => V.int (j : Nat))) pN = _ := upd_same
    generalize upd H9 pN (.lst (jt.map fun j => V.int (j : Nat))) = HA at WA ⊢
    generalize upd G pN (.lst (jt.map fun j => V.int (j : Nat))) = GA at WA sA hN ⊢
    clear LA W9
    have stA := WA.stm
    obtain ⟨⟨os, hsA⟩, ⟨ol, hlA⟩, _⟩ := RW.stm_at stA
    have hRA : HA RL = some (.lst (as.map V.ref)) := WA.up1.c0
    walk_at "gi"
    rename_i pB fB
    intro HB v qB stB hv
    have WB := (WA.same (same_new fB _)).old qB stB
    obtain ⟨lv, rfl⟩ : ∃ lv : Int, v = .int lv := by
      simp only [List.mem_cons, List.not_mem_nil, or_false] at hv
      rcases hv with rfl | rfl | rfl <;> exact ⟨_, rfl⟩
    clear qB fB hsA hlA hRA WA stA hv
    walk_at "gi"
    intro HC dC qC stC c1 c2
    have WC := WB.old qC stC
    clear qC WB stB
    walk_at "gi"
    intro HD dD qD stD e1 e2
    have WD := WC.old qD stD
    clear qD WC stC
    have hRD : HD RL = some (.lst (as.map V.ref)) := WD.up1.c0
    have lnR : (as.map V.ref).length < sizeLine := by rw [List.length_map, hln, sizeLine_eq]; omega
    walk_at "go"
    intro pT fT
    dsimp only
    generalize decide (0 < dC) = on
    generalize decide (V.int dD = V.int 0) = off
    have LT := WD.lay (o := .tup [.str x, .int lv, .bl on, .bl off, .ref pN]) fT
    have WT := LT.1
    have sT := LT.2
    have hTp : upd GA pT (.tup [.str x, .int lv, .bl on, .bl off, .ref pN]) pT = _ := upd_same
    have hRT := same_new fT (.tup [.str x, .int lv, .bl on, .bl off, .ref pN]) _ _ hRD
    generalize upd HD pT (.tup [.str x, .int lv, .bl on, .bl off, .ref pN]) = HT at WT hRT ⊢
    generalize upd GA pT (.tup [.str x, .int lv, .bl on, .bl off, .ref pN]) = GT at WT sT hTp
    clear LT WD hRD fT
    walk_at "go"
    have WE := (WT.up1.set (o' := .lst (as.map V.ref ++ [.ref pT]))).up1
    have ea : as.map V.ref ++ [.ref pT] = (as ++ [pT]).map V.ref := by rw [List.map_append]; rfl
    rw [ea] at WE ⊢
    refine k' _ _ (fin (rs2 := rs ++ [⟨x, lv, on, off, jt⟩]) (WE.mono (by simp only [List.length_cons, List.length_nil]; omega)) (sG.trans (sA.trans sT)) (by rw [List.length_append, List.length_append, hln]; rfl) (fun j b r hb hr => ?_) (fun r hr => ?_) ?_ (by rw [List.length_append]; show rs.length + 1 ≤ _; omega)) ⟨_, _, _, _, rfl⟩
    · rcases Nat.lt_or_ge j as.length with c | c
      · rw [List.getElem?_append_left c] at hb
        rw [List.getElem?_append_left (by rw [← hln]; exact c)] at hr
        exact (hat j b r hb hr).same (sA.trans sT)
      · have ej : j = as.length := by
          have h1 := (List.getElem?_eq_some_iff.mp hb).1
          rw [List.length_append, List.length_singleton] at h1
          omega
        subst ej
        rw [show (as ++ [pT])[as.length]? = some pT from by simp] at hb
        rw [hln, show (rs ++ [(⟨x, lv, on, off, jt⟩ : Row)])[rs.length]? = some ⟨x, lv, on, off, jt⟩ from by simp] at hr
        cases hb
        cases hr
        exact ⟨pN, hTp, sT _ _ hN⟩
    · rcases List.mem_append.mp hr with hr | hr
      · exact hok r hr
      · rw [List.mem_singleton.mp hr]
        exact ⟨⟨qs, nm, hx.symm⟩, jnd, jlt⟩
    · rw [List.map_append]
      refine List.nodup_append.mpr ⟨hnd, by simp, fun u hu v hv => ?_⟩
      have ev : v = x := List.mem_singleton.mp hv
      rw [ev]
      intro z
      exact c (by rw [← z]; exact hu)
/-- two tellings are the same -/
theorem told_same {H : Hp} {m m' : TM} {zs : List Str} {p a b c p' a' b' c' : Addr} {rs rs' : List Addr} (t : Tw m m') (h : ToldAt H m zs p a b c rs) (h' : ToldAt H m' zs p' a' b' c' rs') (hz : zs.length ≤ 1000) : SameD H 5 (.ref p) (.ref p') := by
  have strE : ∀ (xs : List Str) (n : Nat) (u v : Addr), xs.length ≤ 1000 → H u = some (.lst (xs.map V.str)) → H v = some (.lst (xs.map V.str)) → SameD H (n + 2) (.ref u) (.ref v) := fun xs n u v hx hu hv =>
    .lst hu hv rfl (by rw [List.length_map]; omega) fun i x y h1 h2 => by
      rw [h1] at h2; cases h2
      rw [List.getElem?_map] at h1
      obtain ⟨z, _, rfl⟩ := Option.map_eq_some_iff.mp h1
      exact .str _ _
  have kl : ∀ y, (kidsN m y zs).length ≤ 1000 := fun y => Nat.le_trans (List.length_filter_le _ _) hz
  refine .tup h.p_ h'.p_ rfl (by show 3 ≤ 1000000; decide) fun i x y hx hy => ?_
  match i, hx, hy with
  | 0, hx, hy =>
    cases hx; cases hy
    exact strE zs 2 a a' hz h.a_ h'.a_
  | 1, hx, hy =>
    cases hx; cases hy
    refine .lst h.b_ h'.b_ (by rw [List.length_map, List.length_map, h.ln, h'.ln]) (by rw [List.length_map, h.ln]; omega) fun j u v hu hv => ?_
    rw [List.getElem?_map] at hu hv
    obtain ⟨q, hq, rfl⟩ := Option.map_eq_some_iff.mp hu
    obtain ⟨q', hq', rfl⟩ := Option.map_eq_some_iff.mp hv
    have hj : j < zs.length := by rw [← h.ln]; exact (List.getElem?_eq_some_iff.mp hq).1
    obtain ⟨k, k1, k2⟩ := h.r_ j _ q (List.getElem?_eq_getElem hj) hq
    obtain ⟨k', k1', k2'⟩ := h'.r_ j _ q' (List.getElem?_eq_getElem hj) hq'
    rw [t.par, t.eff, t.rch, t.hands] at k1'
    rw [t.kids] at k2'
    refine .tup k1 k1' rfl (by show 4 ≤ 1000000; decide) fun i x y hx hy => ?_
    match i, hx, hy with
    | 0, hx, hy => cases hx; cases hy; exact .str _ _
    | 1, hx, hy => cases hx; cases hy; exact strE _ 0 _ _ (kl _) k2 k2'
    | 2, hx, hy => cases hx; cases hy; exact .int _ _
    | 3, hx, hy => cases hx; cases hy; exact .bl _ _
    | (_ + 4), hx, _ => cases hx
  | 2, hx, hy =>
    cases hx; cases hy
    have e := h'.c_
    rw [t.kids] at e
    exact strE _ 2 c c' (kl _) h.c_ e
  | (_ + 3), hx, _ => cases hx
end
end K17

set_option Elab.async false
set_option linter.all false
set_option maxRecDepth 100000
set_option maxHeartbeats 0
namespace K17
open PySem PySem.Spec PyProof.Rows L2 RC
section
variable {P : Program} {w : World} {K : PySem.W.Frag} {mg : Str → Option Value} {base : Heap}
/-! ### the law's own reach, and what Filters let by -/
def spLawReach : Sp := fun vs H Q _ => ∃ (A : MAd) (bar : V) (h t : Addr) (lv pr : List (Key × V)) (x : Str) (l : List Str) (pf : Str → Bool), vs = [.ref A.m, .str x] ∧ H A.m = some (.dK (mdK A bar h t)) ∧ Rd H A.lv (.dK lv) ∧ H A.pr = some (.dK pr) ∧ Chain (hasK lv) x l ∧ (∀ y ∈ l, Sized y) ∧ l.length ≤ 1000 ∧ (∀ y ∈ l, valV pr (Sum.inr y) = some (.bl (pf y))) ∧
  ∀ (H' : Hp) (p : Addr), Same H H' → H p = none → H' p = some (.lst ((reachL pf l).map V.str)) → Q (.ref p) H'
theorem reachL_cut (pf : Str → Bool) (l : List Str) (i : Nat) (h : ∀ y ∈ l.take i, pf y = true) : reachL pf l = l.take i ++ reachL pf (l.drop i) := by
  induction i generalizing l with
  | zero => simp
  | succ i ih =>
    cases l with
    | nil => rfl
    | cons x r =>
      rw [List.take_succ_cons] at h
      show (if pf x = true then x :: reachL pf r else [x]) = _
      rw [if_pos (h x List.mem_cons_self), ih r fun y hy => h y (List.mem_cons_of_mem _ hy)]
      rfl
def spLets : Sp := fun vs H Q _ => ∃ (a : Addr) (ns : List Str) (rn : Str), vs = [.ref a, .str rn] ∧ H a = some (.lst (ns.map V.str)) ∧ ns.length ≤ 1000 ∧ (∀ n ∈ ns, n.length ≤ 2000) ∧ rn.length ≤ 2000 ∧ ∀ H', Same H H' → Q (.bl (lets ns rn)) H'
end
end K17

set_option Elab.async false
set_option linter.all false
set_option maxRecDepth 100000
set_option maxHeartbeats 0
namespace K17
open PySem PySem.Spec PyProof.Rows L2 RC
section
variable {P : Program} {w : World} {K : PySem.W.Frag} {mg : Str → Option Value} {base : Heap}
/-! ### what the law's own yard writes -/
def spWritten : Sp := fun vs H Q _ => ∃ (m : TM) (bd : LRo → Addr) (x rn : Str) (lv : Int) (msg : Str) (n : Nat), vs = [.ref (bd .m), .str x, .str rn, .int lv, .str msg] ∧ LR m bd H ∧ m.Ok ∧ m.Chs ∧ x ∈ m.all ∧ rn.length ≤ 2000 ∧ msg.length ≤ 1000 ∧ lv < 1000000000 ∧ Cap m.texts n ∧ n ≤ 5000000 ∧
  ∀ H', LR (m.hl x rn lv msg) bd H' → LV m bd H (m.hl x rn lv msg) bd H' → Q .non H'
theorem Tx.all {m m' : TM} (t : m.Tx m') : m'.all = m.all := by rw [t]; rfl
theorem Tx.bd {m m' : TM} (t : m.Tx m') : m'.bar = m.bar := by rw [t]
theorem lawH_ok {m : TM} (O : m.Ok) {h : HM} {j : Nat} (hj : m.hs[j]? = some h) : (lawH h).2.2.1.length ≤ 1000 ∧ (∀ n ∈ (lawH h).2.2.1, n.length ≤ 2000) ∧ (lawH h).2.2.2.length ≤ 100 := by
  have o := O.hsv h (List.mem_of_getElem? hj)
  unfold lawH
  split
  · exact ⟨(by show 0 ≤ 1000; decide), (fun n z => absurd (show n ∈ ([] : List Str) from z) List.not_mem_nil), (by show 0 ≤ 100; decide)⟩
  · exact ⟨by show h.sv.length ≤ 1000; omega, o.2.1, o.2.2.1⟩
/-- by what the law keeps of a handler -/
theorem emitJ_law {m : TM} {h : HM} {j : Nat} (hj : m.hs[j]? = some h) (rn msg : Str) {lv : Int} (hl : lv < 1000000000) : m.emitJ j rn lv msg = if (lawH h).2.1 ≤ lv ∧ lets (lawH h).2.2.1 rn = true then m.write (lawH h).1 (msg ++ (lawH h).2.2.2) else m := by
  unfold TM.emitJ
  rw [hj]
  show (if h.lv ≤ lv then m.emitH h rn msg else m) = _
  unfold lawH TM.emitH
  by_cases c : h.null = true
  · rw [if_pos c, if_neg (show ¬(h.null = false ∧ lets h.sv rn = true) from fun z => by rw [c] at z; exact nomatch z.1)]
    rw [if_neg (show ¬((1000000000 : Int) ≤ lv ∧ lets [] rn = true) from fun z => by have := z.1; omega)]
    split <;> rfl
  · rw [if_neg c]
    have c' : h.null = false := by simpa using c
    by_cases d : h.lv ≤ lv
    · rw [if_pos d]
      by_cases e : lets h.sv rn = true
      · rw [if_pos ⟨c', e⟩, if_pos ⟨d, e⟩]
      · rw [if_neg (fun z => e z.2), if_neg (fun z => e z.2)]
    · rw [if_neg d, if_neg (fun z => d z.1)]
end
end K17

set_option Elab.async false
set_option linter.all false
set_option maxRecDepth 100000
set_option maxHeartbeats 0

namespace K17
open PySem PySem.Spec PyProof.Rows L2 RC
section
variable {P : Program} {w : World} {K : PySem.W.Frag} {mg : Str → Option Value} {base : Heap}
theorem lg_eq (m : TM) (x : Str) (lv : Int) (msg : Str) : m.lg x lv msg = if m.bar < lv ∧ m.eff x ≤ lv then m.hl x (rn x) lv msg else m := by
  unfold TM.lg TM.log TM.hl TM.handle
  cases h : m.dis x with
  | true =>
    rw [if_neg (fun z => nomatch z.1)]
    split
    · rw [if_neg (fun z => nomatch z.1)]
    · rfl
  | false =>
    by_cases c : m.bar < lv ∧ m.eff x ≤ lv
    · rw [if_pos ⟨rfl, c⟩, if_pos c]
    · rw [if_neg (fun z => c z.2), if_neg c]
def spLogged : Sp := fun vs H Q _ => ∃ (m : TM) (bd : LRo → Addr) (x : Str) (lv : Int) (msg : Str) (n : Nat), vs = [.ref (bd .m), .str x, .int lv, .str msg] ∧ LR m bd H ∧ (m.add x).Ok ∧ (m.add x).Chs ∧ m.names.length ≤ 100 ∧ x.length ≤ 2000 ∧ msg.length ≤ 1000 ∧ lv < 1000000000 ∧ Cap m.texts n ∧ n ≤ 5000000 ∧
  ∀ bd' H', LR ((m.add x).lg x lv msg) bd' H' → LV m bd H ((m.add x).lg x lv msg) bd' H' → FixL bd bd' → Q .non H'
theorem add_texts (m : TM) (x : Str) : (m.add x).texts = m.texts := by
  by_cases c : x ∈ m.all
  · rw [add_old c]
  · rw [add_new c]
theorem rn_len {x : Str} (h : x.length ≤ 2000) : (rn x).length ≤ 2000 := by
  unfold rn
  split
  · decide
  · exact h
/-! ### texts of streams -/
def liveS (ts : List (Str × Str)) : List Str := (ts.filter fun e => !decide (e.2 = ("" : Str))).map (·.1)
def spStreams (K : PySem.W.Frag) : Sp := fun vs H Q _ => ∃ (m : TM) (ad : YRo → Addr), vs = [.ref (ad .y)] ∧ YR K m ad H ∧ m.texts.length < 64 ∧ (m.texts.map (·.1)).Nodup ∧ ∀ (H' : Hp) (p : Addr) (ys : List Str), Same H H' → H p = none → H' p = some (.lst (ys.map V.str)) → ys.Perm (liveS m.texts) → sortedS ys = true → Q (.ref p) H'
theorem lookup_ts : ∀ {ts : List (Str × Str)} {e : Str × Str}, e ∈ ts → (ts.map (·.1)).Nodup → ts.lookup e.1 = some e.2
  | [], _, h, _ => nomatch h
  | a :: es, e, h, nd => by
    rw [List.lookup_cons]
    rcases List.mem_cons.mp h with rfl | h
    · rw [beq_self_eq_true]
    · rw [List.map_cons, List.nodup_cons] at nd
      have hne : e.1 ≠ a.1 := fun z => nd.1 (by rw [← z]; exact List.mem_map_of_mem h)
      rw [show (e.1 == a.1) = false from by simpa using hne, lookup_ts h nd.2]
theorem ok_streams {f : Addr} (T : Txt P w K mg) (F : Stands K "streams" "Yard.streams" s_Yard_streams [] f) : Callable P w K mg base 1 f ["self"] [] (spStreams K) := by
  refine F.call0 sc_Yard_streams (fun vs H Q E h => ?_) (fun cdv A outer s H vs Q E hr h => ?_) (fun _ _ _ _ _ _ us hl => match us, hl with | [_], _ => rfl)
  · obtain ⟨m, ad, rfl, _⟩ := h; rfl
  obtain ⟨m, ad, rfl, R, h64, nd, hQ⟩ := h
  refine ⟨_, (pss_one (ps_ret (pe_callB cr_sortedS (by rfl) T.b_sorted (by decide +kernel) (pa_cons (pe_lock (pe_lc (own := [("name", 1)]) (by rfl) sc_Yard_streams.nd (pi_keys (pe_fld (pv 0) rfl)) (blkOk_by (own := [("name", 1)]) (N := nm_Yard_streams) (sc := defScope s_Yard_streams) (by decide +kernel)) (fun _ _ _ _ _ => (pg_name (i := 1) sc_Yard_streams.nd rfl (by first | exact Or.inl rfl | exact Or.inr rfl))) (fun _ _ _ _ _ => (pts_one (pt_cmpR op_ne (pe_dget (hu_of hr) (pe_fldK (K := K) (pv 0) rfl) (pv 1) (fun _ _ => rfl)) pe_str (nomark _)))) (fun _ _ _ _ _ => (pv 1)))) pa_nil)))), ?_⟩
  walk_at "in"
  have hy := R.y_
  have hst := R.st_
  walk_at "go"
  refine ⟨hst, trivial, fun od => ?_⟩
  have k0 : upd H (ad .st) (.frz od (.dK (strK m.texts))) (ad .st) = some (.frz od (.dK (strK m.texts))) := upd_same
  have nys : ad .y ≠ ad .st := RW.ne_kind hy hst (fun z => nomatch z)
  have hy0 : upd H (ad .st) (.frz od (.dK (strK m.texts))) (ad .y) = some (.ins (CY K) (ad .yD) (yFm m ad)) := by rw [upd_ne nys]; exact hy
  have fr0 : ∀ b, upd H (ad .st) (.frz od (.dK (strK m.texts))) b = none → H b = none := fun b h => (upd_none h).2
  have back : ∀ H', Same (upd H (ad .st) (.frz od (.dK (strK m.texts)))) H' → Same H (upd H' (ad .st) (.dK (strK m.texts))) := fun H' s b o e => by
    by_cases c : b = ad .st
    · rw [c, upd_same]; rw [c, hst] at e; exact e
    · rw [upd_ne c]; exact s _ _ (by rw [upd_ne c]; exact e)
  generalize upd H (ad .st) (.frz od (.dK (strK m.texts))) = H0 at k0 hy0 fr0 back
  walk_at "go"
  refine .inl ⟨_, k0, fun D hD => ?_⟩
  have hD0 : H0 D = none := hD
  have nD : D ≠ ad .st := fun z => by rw [z, k0] at hD0; cases hD0
  refine lc_it walk_keys (fun i H' => Same H0 H' ∧ H' D = some (.lst ((liveS (m.texts.take i)).map V.str))) ⟨same_new hD _, upd_same⟩ (fun i H' _ h => h.1 _ _ k0) (fun i x H9 H2 hi hP hx => ?_) (fun H2 hP => ?_)
  · obtain ⟨rfl, kx, vx, hx, rfl⟩ := hx
    obtain ⟨s2, d2⟩ := hP
    unfold strK at hx
    rw [List.getElem?_map] at hx
    obtain ⟨e, he0, hee⟩ := Option.map_eq_some_iff.mp hx
    cases hee
    have he : e ∈ m.texts := List.mem_of_getElem? he0
    have hy2 := s2 _ _ hy0
    have k2 := s2 _ _ k0
    have rd2 : Rd H2 (ad .st) (.dK (strK m.texts)) := .inr ⟨od, k2⟩
    have vv : valV (strK m.texts) (Sum.inr e.1) = some (.str e.2) := (valV_strK e.1 m.texts).trans (congrArg (Option.map V.str) (lookup_ts he nd))
    have etk := List.take_add_one (l := m.texts) (i := i)
    rw [he0] at etk
    have ln : ((liveS (m.texts.take i)).map V.str).length < sizeLine := by
      have h1 := List.length_filter_le (fun e => !decide (e.2 = ("" : Str))) (m.texts.take i)
      have h2 : (m.texts.take i).length ≤ m.texts.length := by rw [List.length_take]; exact Nat.min_le_right _ _
      unfold liveS
      rw [List.length_map, List.length_map, sizeLine_eq]; omega
    have el : liveS (m.texts.take (i + 1)) = liveS (m.texts.take i) ++ if e.2 = "" then [] else [e.1] := by
      unfold liveS
      rw [etk, List.filter_append, List.map_append]
      congr 1
      by_cases c : e.2 = ""
      · simp [c]
      · rw [if_neg c]; simp [c]
    by_cases c : e.2 = ""
    · rw [if_pos c, List.append_nil] at el
      rw [el]
      walk_at "go"
      exact d2
    · rw [if_neg c] at el
      rw [el]
      walk_at "go"
      rw [upd_same, List.map_append]; rfl
  · obtain ⟨s2, d2⟩ := hP
    refine ⟨s2 _ _ k0, ?_⟩
    have b2 := back _ s2
    have d3 : upd H2 (ad .st) (.dK (strK m.texts)) D = some (.lst ((liveS (m.texts.take (strK m.texts).length)).map V.str)) := by rw [upd_ne nD]; exact d2
    rw [show (strK m.texts).length = m.texts.length from List.length_map _, List.take_length] at d3
    refine ⟨D, liveS m.texts, rfl, SqL.of d3, ?_, fun ys p hp hs hn => ?_⟩
    · have h1 := List.length_filter_le (fun e => !decide (e.2 = ("" : Str))) m.texts
      unfold liveS
      rw [List.length_map]; omega
    · exact hQ _ p ys (b2.trans (same_new hn _)) (b2.free hn) upd_same hp hs
end
end K17

set_option Elab.async false
set_option linter.all false
set_option maxRecDepth 100000
set_option maxHeartbeats 0
namespace K17
open PySem PySem.Spec PyProof.Rows L2 RC
section
variable {P : Program} {w : World} {K : PySem.W.Frag} {mg : Str → Option Value} {base : Heap}
def spTextsRight (K : PySem.W.Frag) : Sp := fun vs H Q _ => ∃ (m : TM) (ad : YRo → Addr) (bd : LRo → Addr), vs = [.ref (ad .y), .ref (bd .m)] ∧ YR K m ad H ∧ LR m bd H ∧ m.texts.length < 64 ∧ (m.texts.map (·.1)).Nodup ∧ ∀ (H' : Hp), Same H H' → Q (.bl true) H'
end
end K17

set_option Elab.async false
set_option linter.all false
set_option maxRecDepth 100000
set_option maxHeartbeats 0

namespace K17
open PySem PySem.Spec PyProof.Rows L2 RC
section
variable {P : Program} {w : World} {K : PySem.W.Frag} {mg : Str → Option Value} {base : Heap}
/-! ### loggers set in a drawn order; logs -/
/-- another stream of draws -/
theorem _root_.RS.Wd.turnS {H : Hp} {s l s2 l2 : Addr} {n k : Nat} {o o' o2 o2' : HO} {cs : List RS.Comp} (W : RS.Wd H s l n (RS.cell s2 o2 :: RS.cell l2 o2' :: cs)) (st : Stm H s2 l2 k) (hs : H s = some o) (hl : H l = some o') : RS.Wd H s2 l2 k (RS.cell s o :: RS.cell l o' :: cs) := by
  obtain ⟨ne, ns, x, c, d, g1, g2, g3⟩ := id W.stm
  have h1 := List.pairwise_cons.mp W.pw
  have h2 := List.pairwise_cons.mp h1.2
  have a := W.os _ List.mem_cons_self
  have b := W.os _ (List.mem_cons_of_mem _ List.mem_cons_self)
  have n1 : s2 ≠ s := fun z => a.1 () _ rfl z
  have n2 : s2 ≠ l := fun z => a.2 () _ rfl z
  have n3 : l2 ≠ s := fun z => b.1 () _ rfl z
  have n4 : l2 ≠ l := fun z => b.2 () _ rfl z
  have mm : ∀ e ∈ cs, e ∈ RS.cell s2 o2 :: RS.cell l2 o2' :: cs := fun e he => List.mem_cons_of_mem _ (List.mem_cons_of_mem _ he)
  refine ⟨st, fun e he => ?_, List.pairwise_cons.mpr ⟨fun e he => ?_, List.pairwise_cons.mpr ⟨fun e he => ?_, h2.2⟩⟩, fun e he => ?_⟩
  · rcases List.mem_cons.mp he with rfl | he
    · exact RS.cell_rep hs
    · rcases List.mem_cons.mp he with rfl | he
      · exact RS.cell_rep hl
      · exact W.rep e (mm e he)
  · rcases List.mem_cons.mp he with rfl | he
    · exact fun _ _ _ _ _ _ z => ne z
    · intro r u er r' u' er' z
      exact (W.os e (mm e he)).1 r u er z.symm
  · intro r u er r' u' er' z
    exact (W.os e (mm e he)).2 r u er z.symm
  · rcases List.mem_cons.mp he with rfl | he
    · exact ⟨fun _ _ _ z => n1 z.symm, fun _ _ _ z => n3 z.symm⟩
    · rcases List.mem_cons.mp he with rfl | he
      · exact ⟨fun _ _ _ z => n2 z.symm, fun _ _ _ z => n4 z.symm⟩
      · refine ⟨fun r u er z => ?_, fun r u er z => ?_⟩
        · exact h1.1 e (List.mem_cons_of_mem _ he) r u er () _ rfl z.symm
        · exact h2.1 e he r u er () _ rfl z.symm
theorem _root_.RS.Wd.freshO {H H' : Hp} {s l p : Addr} {n k : Nat} {u : HO} {cs : List RS.Comp} (W : RS.Wd H s l n cs) (o : Old s l H H') (st : Stm H' s l k) (hp : H p = none) (h : H' p = some u) : RS.Wd H' s l k (RS.cell p u :: cs) := by
  have W' := W.old o st
  obtain ⟨ne, ns, x, c, d, g1, g2, g3⟩ := W.stm
  refine ⟨st, fun e he => ?_, List.pairwise_cons.mpr ⟨fun e he => ?_, W'.pw⟩, fun e he => ?_⟩
  · rcases List.mem_cons.mp he with rfl | he
    · exact RS.cell_rep h
    · exact W'.rep e he
  · intro r v er _ _ _ z
    exact (W.rep e he).out hp r v er z.symm
  · rcases List.mem_cons.mp he with rfl | he
    · exact ⟨RS.cell_out (fun z => (by rw [← z, g1] at hp; cases hp)), RS.cell_out (fun z => (by rw [← z, g2] at hp; cases hp))⟩
    · exact W'.os e he
abbrev b_set : List Stmt := bodyFor ((defBody s_law).getD 5 (.Pass ⟨0, 0, 0, 0⟩))
abbrev sgS (a s RL YL M S2 PL : Addr) (o7 o8 o9 o10 o11 o12 : Option V) : L2.St := [some (.ref a), some (.ref s), some (.ref RL), some (.ref YL), some (.ref M), some (.ref S2), some (.ref PL), o7, o8, o9, o10, o11, o12, none, none, none, none, none]
structure SetI (K : PySem.W.Frag) (s l : Addr) (G : Hp) (cs : List RS.Comp) (n : Nat) (m0 : TM) (ad0 : YRo → Addr) (rs : List Row) (H : Hp) (ad : YRo → Addr) : Prop where
  W : RS.Wd H s l n (cY K (m0.rows rs) ad :: RS.cG G :: cs)
  O : (m0.rows rs).Ok
  y : ad .y = ad0 .y
  hd : ∀ j, ad (.hd j) = ad0 (.hd j)
theorem set_turn (T : Txt P w K mg) {f : Addr} {cdv : Value} {A : Around} {outer : List Env} {st0 : Shared} {E : XK} {H : Hp} (hr : Room 9 (A.deeper (envOfC "law" (defScope s_law) st0.heap.objs.size f cdv)))
    (c__law_order : Callable P w K mg base 2 (He.ga K "_law_order") ["_law_s", "_law_some"] [] (spOrder K))
    (c__law_set : Callable P w K mg base 5 (He.ga K "_law_set") ["_law_yard", "_law_pool", "_law_row"] [] (spSetR K)) :
    ∃ t, PSs (cxOf CX0 P w K mg base nm_law "law" (defScope s_law) f cdv A outer st0 H E).nox b_set t ∧ ∀ {a s l RL YL M S2 PL Po : Addr} {G : Hp} {cs : List RS.Comp} {n : Nat} {m0 : TM} {ad0 : YRo → Addr} {rs : List Row} {as : List Addr} (H5 : Hp) (D' : Ends), RS.Wd H5 s l n (cY K m0 ad0 :: RS.cG G :: cs) → m0.Ok → m0.hs.length = 3 → m0.names = [] →
      G RL = some (.lst (as.map V.ref)) → G Po = some (.lst (poolL m0 ad0)) → as.length = rs.length → (∀ (j : Nat) (a : Addr) (r : Row), as[j]? = some a → rs[j]? = some r → RowAt G a r) → (∀ r ∈ rs, r.Ok) → (rs.map (·.x)).Nodup → rs.length ≤ 8 → n ≤ 100000 →
      ∀ o7 o8 o9 o10, (∀ σ H' rs' G' ad', rs'.Perm rs → Same G G' → SetI K s l G' cs (n + 8) m0 ad0 rs' H' ad' → (∃ o9, σ = sgS a s RL YL M S2 PL o7 o8 o9 o10 (some (.ref (ad0 .y))) (some (.ref Po))) → D'.nx σ H') → t D' (sgS a s RL YL M S2 PL o7 o8 o9 o10 (some (.ref (ad0 .y))) (some (.ref Po))) H5 := by
  refine ⟨_, (pss_one (ps_for PassesOwn.never rfl (pi_list (pe_fn T.g__law_order c__law_order (hr.mono (by first | decide | exact Nat.le_refl _)) (by rfl) (pa_cons (pv 1) (pa_cons (pv 2) pa_nil)))) (pg_name (i := 9) sc_law.nd rfl (by first | exact Or.inl rfl | exact Or.inr rfl)) (pss_one (ps_expr (pe_fn T.g__law_set c__law_set (hr.mono (by first | decide | exact Nat.le_refl _)) (by rfl) (pa_cons (pv 11) (pa_cons (pv 12) (pa_cons (pv 9) pa_nil)))))))), ?_⟩
  walk_at "in"
  intro a s l RL YL M S2 PL Po G cs n m0 ad0 rs as H5 D' W5 O5 h3 hnm hRL hPo hln hat hok hnd hl8 hn o7 o8 o9 o10 k'
  have st5 := W5.stm
  have hR5 := W5.g1 _ _ hRL
  have hal : (as.map V.ref).length ≤ 1000 := by rw [List.length_map, hln]; omega
  refine ⟨_, rfl, _, rfl, ?_⟩
  dsimp only [tNil]
  refine ⟨s, l, RL, n, _, rfl, st5, by omega, SqL.of hR5, hal, fun H6 p6 ys q6 f6 n6s n6l d6 pm6 st6 => ?_⟩
  have W6 := W5.old q6 st6
  have ez : (as.zip rs).map (fun z => V.ref z.1) = as.map V.ref := by
    have h1 : (as.zip rs).map (fun z => V.ref z.1) = ((as.zip rs).map (·.1)).map V.ref := by rw [List.map_map]; rfl
    rw [h1, List.map_fst_zip (by omega)]
  obtain ⟨zs, pz, rfl⟩ := perm_lift (fun z : Addr × Row => V.ref z.1) pm6 (as.zip rs) ez
  have prs : (zs.map (·.2)).Perm rs := by
    have e := pz.map (·.2)
    rw [List.map_snd_zip (by omega)] at e
    exact e
  have zat : ∀ z ∈ zs, RowAt G z.1 z.2 := fun z hz => by
    obtain ⟨j, hj⟩ := List.getElem?_of_mem (pz.mem_iff.mp hz)
    obtain ⟨h1, h2⟩ := List.getElem?_zip_eq_some.mp hj
    exact hat j _ _ h1 h2
  have zl : zs.length ≤ 8 := by
    have e := prs.length_eq
    rw [List.length_map] at e; omega
  have zok : ∀ z ∈ zs, z.2.Ok := fun z hz => hok _ (prs.mem_iff.mp (List.mem_map_of_mem hz))
  have znd : ((zs.map (·.2)).map (·.x)).Nodup := (prs.map (·.x)).nodup_iff.mpr hnd
  have d6' : H6 p6 = some (.lst (zs.map fun z => V.ref z.1)) := d6
  have W7a := (W5.freshO q6 st6 f6 d6').up2.take
  have W7 := (W7a.1.mono (k := n + 8) (by rw [List.length_map]; omega)).up1
  have sG6 : Same G (upd G p6 (.lst (zs.map fun z => V.ref z.1))) := same_new W7a.2 _
  have hp6 : upd G p6 (.lst (zs.map fun z => V.ref z.1)) p6 = _ := upd_same
  generalize upd G p6 (.lst (zs.map fun z => V.ref z.1)) = G6 at W7 sG6 hp6
  clear W7a W6 W5 q6 f6 d6 d6' st6 st5 hR5
  have hP6 := sG6 _ _ hPo
  have hpH := W7.g1 _ _ hp6
  refine ⟨_, rfl, ⟨_, SqL.of hpH⟩, ?_⟩
  refine for_it walk_list (fun i σ H' => (∃ ad, SetI K s l G6 cs (n + 8) m0 ad0 ((zs.map (·.2)).take i) H' ad) ∧ ∃ o9, σ = sgS a s RL YL M S2 PL o7 o8 o9 o10 (some (.ref (ad0 .y))) (some (.ref Po))) ⟨⟨ad0, W7, O5, rfl, fun _ => rfl⟩, _, rfl⟩ (fun i σ H' _ h => by obtain ⟨⟨ad, I⟩, _⟩ := h; exact SqL.of (I.W.g1 _ _ hp6)) (fun i v σ H9 H10 hi hP' hv => ?_) (fun σ H10 hP' => ?_)
  · obtain ⟨rfl, hv⟩ := hv
    obtain ⟨⟨ad, I⟩, o9, rfl⟩ := hP'
    rw [List.getElem?_map] at hv
    obtain ⟨z, hz, rfl⟩ := Option.map_eq_some_iff.mp hv
    have hzm := List.mem_of_getElem? hz
    have tk : (zs.map (·.2)).take (i + 1) = (zs.map (·.2)).take i ++ [z.2] := by
      have et := List.take_add_one (l := zs.map (·.2)) (i := i)
      rw [List.getElem?_map, hz] at et
      exact et
    have nd1 : (((zs.map (·.2)).take i).map (·.x)).Nodup := (znd).sublist (by rw [List.map_take]; exact List.take_sublist _ _)
    have new1 : ∀ r ∈ (zs.map (·.2)).take i, r.x ∉ m0.all ∧ r.js.Nodup := fun r hr => by
      obtain ⟨u, hu, rfl⟩ := List.mem_map.mp (List.mem_of_mem_take hr)
      obtain ⟨⟨qs, nm, e⟩, nd, _⟩ := zok u hu
      refine ⟨fun h => ?_, nd⟩
      unfold TM.all at h
      rw [hnm] at h
      exact nm.ne.1 (by rw [← e]; exact List.mem_singleton.mp h)
    obtain ⟨e1, e2, _⟩ := rows_names _ m0 nd1 new1
    have ll : ((zs.map (·.2)).take i).length ≤ 8 := by rw [List.length_take, List.length_map]; omega
    refine ⟨_, rfl, _, rfl, _, rfl, ?_⟩
    dsimp only [tNil]
    rw [← I.y]
    refine ⟨s, l, Po, z.1, n + 8, _, ad, G6, z.2, cs, rfl, I.W, I.O, ?_, (zat z hzm).same sG6, zok z hzm, by rw [e2]; exact h3, ?_, fun H' ad' W' O' y' hd' => ?_⟩
    · rw [hP6, pool_congr (m := m0) (ad := ad0) (m' := m0.rows ((zs.map (·.2)).take i)) (ad' := ad) (by rw [e2]) I.hd]
    · rw [e1, hnm, List.nil_append, List.length_map]; omega
    · rw [← rows_snoc, ← tk] at W' O'
      exact ⟨⟨ad', W', O', y'.trans I.y, fun j => (hd' j).trans (I.hd j)⟩, _, by rw [I.y]; rfl⟩
  · obtain ⟨⟨ad, I⟩, o9, rfl⟩ := hP'
    have et : (zs.map (·.2)).take (zs.map fun z => V.ref z.1).length = zs.map (·.2) := List.take_of_length_le (by rw [List.length_map, List.length_map]; exact Nat.le_refl _)
    rw [et] at I
    exact k' _ _ _ G6 ad prs sG6 I ⟨_, rfl⟩
end
end K17

set_option Elab.async false
set_option linter.all false
set_option maxRecDepth 100000
set_option maxHeartbeats 0

namespace K17
open PySem PySem.Spec PyProof.Rows L2 RC
section
variable {P : Program} {w : World} {K : PySem.W.Frag} {mg : Str → Option Value} {base : Heap}
/-! ### logs at both yards -/
section
variable {m : TM} {x : Str}
theorem TM.Ok.few3 (O : m.Ok) (C : m.Chs) (hx : x ∈ m.all) : ((m.rch x).flatMap m.hands).length ≤ 6 * m.hs.length := by
  have r := C.rch hx
  have a0 : ∀ y ∈ m.all, (m.hands y).length ≤ m.hs.length := fun y hy => by
    have h := nodup_bound _ _ (O.hl y) (O.hj y hy)
    exact h
  have a1 : ∀ (u : List Str), (∀ y ∈ u, y ∈ m.all) → (u.flatMap m.hands).length ≤ u.length * m.hs.length := fun u => by
    induction u with
    | nil => intro _; exact Nat.zero_le _
    | cons y u ih =>
      intro hu
      rw [List.flatMap_cons, List.length_append, List.length_cons, Nat.succ_mul]
      have h1 := a0 y (hu y List.mem_cons_self)
      have h2 := ih fun z hz => hu z (List.mem_cons_of_mem _ hz)
      omega
  have := a1 _ r.2.2
  have := Nat.mul_le_mul_right m.hs.length r.2.1
  omega
end
theorem _root_.RS.Wd.less {H G G' : Hp} {s l : Addr} {n : Nat} {cs : List RS.Comp} (W : RS.Wd H s l n (RS.cG G' :: cs)) (e : Same G G') : RS.Wd H s l n (RS.cG G :: cs) := by
  have h1 := List.pairwise_cons.mp W.pw
  have a := W.os _ List.mem_cons_self
  refine ⟨W.stm, fun d hd => ?_, List.pairwise_cons.mpr ⟨fun d hd r u er r' u' er' z => h1.1 d hd r u er r' u' (e _ _ er') z, h1.2⟩, fun d hd => ?_⟩
  · rcases List.mem_cons.mp hd with rfl | hd
    · exact ⟨fun r u q => W.g0 _ _ (e _ _ q), fun _ _ _ _ _ _ z => z⟩
    · exact W.rep d (List.mem_cons_of_mem _ hd)
  · rcases List.mem_cons.mp hd with rfl | hd
    · exact ⟨fun r u q => a.1 r u (e _ _ q), fun r u q => a.2 r u (e _ _ q)⟩
    · exact W.os d (List.mem_cons_of_mem _ hd)
structure TF (m : TM) (c k : Nat) (x : Str) : Prop where
  O : m.Ok
  S : m.St strs3
  h3 : m.hs.length = 3
  nn : (m.add x).names.length ≤ k
  cp : Cap m.texts c
  nm : NmsOk m.nms
theorem add_le (m : TM) (x : Str) : m.names.length ≤ (m.add x).names.length := by
  by_cases c : x ∈ m.all
  · rw [add_old c]; exact Nat.le_refl _
  · rw [add_new c]
    show m.names.length ≤ (m.names ++ [x]).length
    rw [List.length_append]; omega
theorem TF.mono {m : TM} {c k c' : Nat} {x : Str} (t : TF m c k x) (h : c ≤ c') : TF m c' k x := ⟨t.O, t.S, t.h3, t.nn, cap_mono t.cp h, t.nm⟩
theorem lg_tx (m : TM) (x : Str) (lv : Int) (msg : Str) : m.Tx (m.lg x lv msg) := log_tx _ _ _ _ _ _
theorem TF.lg {m : TM} {c k : Nat} {x : Str} (t : TF m c k x) (ok : x = "" ∨ ∃ qs, Nm qs ∧ x = Txt.join "." qs) (hk : k < 40) (C : (m.add x).Chs) (lv : Int) {msg : Str} (hm : msg.length ≤ 1000) : TF ((m.add x).lg x lv msg) (c + 22000) k x := by
  have O2 : (m.add x).Ok := t.O.add ok (by have := add_le m x; have := t.nn; omega)
  have hx2 := add_mem (m := m) x
  have th := lg_tx (m.add x) x lv msg
  have h3 : (m.add x).hs.length = 3 := by rw [add_hs]; exact t.h3
  have few := O2.few3 C hx2
  rw [h3] at few
  have cp2 : Cap (m.add x).texts c := by rw [add_texts]; exact t.cp
  have cp14 : Cap ((m.add x).lg x lv msg).texts (c + ((((m.add x).rch x).flatMap (m.add x).hands).length + 1) * 1100) := log_cap O2 cp2 x ((m.add x).rch x) ((m.add x).eff x) lv (by omega)
  have en : ((m.add x).lg x lv msg).names = (m.add x).names := by rw [th]
  refine ⟨Tx.ok th O2, (t.S.of (add_texts m x) (add_hs m x)).log _ _ _ _ _, by rw [Tx.hs th]; exact h3, ?_, cap_mono cp14 (by have := Nat.mul_le_mul_right 1100 (Nat.add_le_add_right few 1); omega), ?_⟩
  · have hx3 : x ∈ ((m.add x).lg x lv msg).all := by unfold TM.all; rw [en]; exact hx2
    rw [add_old hx3, en]; exact t.nn
  · have e : ((m.add x).lg x lv msg).nms = m.nms := by
      rw [th]; exact add_nms m x
    rw [e]; exact t.nm
def LogI (K : PySem.W.Frag) (s l : Addr) (G : Hp) (y0 y1 : Addr) (n c k : Nat) (x : Str) (H : Hp) : Prop := ∃ (m0 m1 : TM) (a0 a1 : YRo → Addr), RS.Wd H s l n [cY K m0 a0, cY K m1 a1, RS.cG G] ∧ Tw m0 m1 ∧ TF m0 c k x ∧ TF m1 c k x ∧ a0 .y = y0 ∧ a1 .y = y1
def LogJ (K : PySem.W.Frag) (s l : Addr) (G : Hp) (y0 y1 : Addr) (n c k : Nat) (x : Str) (lv : Int) (tx : Str) (j : Nat) (H : Hp) : Prop :=
  (j = 0 ∧ LogI K s l G y0 y1 n c k x H) ∨ (j = 2 ∧ LogI K s l G y0 y1 n (c + 22000) k x H) ∨
  (j = 1 ∧ ∃ (m0 m1 : TM) (a0 a1 : YRo → Addr), RS.Wd H s l n [cY K ((m0.add x).lg x lv tx) a0, cY K m1 a1, RS.cG G] ∧ Tw m0 m1 ∧ TF ((m0.add x).lg x lv tx) (c + 22000) k x ∧ TF m1 c k x ∧ a0 .y = y0 ∧ a1 .y = y1)
abbrev b_log : List Stmt := bodyFor ((defBody s_law).getD 8 (.Pass ⟨0, 0, 0, 0⟩))
theorem log_turn (T : Txt P w K mg) {f : Addr} {cdv : Value} {A : Around} {outer : List Env} {st0 : Shared} {E : XK} {H : Hp} (hr : Room 9 (A.deeper (envOfC "law" (defScope s_law) st0.heap.objs.size f cdv)))
    (c_Yard_getLogger : Callable P w K mg base 4 (He.ma K (He.ga K "Yard") "getLogger") ["self", "name"] [] (spGetLogR K))
    (c_Logger_log_d2 : Callable P w K mg base 8 (He.ma K (He.ga K "Logger") "log") ["self", "level", "msg", "args", "extra"] [.ref (He.dflAt ("Logger", some "log") 0 K), .non] (spLog K)) :
    ∃ t, PSs (cxOf CX0 P w K mg base nm_law "law" (defScope s_law) f cdv A outer st0 H E).nox b_log t ∧ ∀ {a s l RL YL M S2 PL y0 y1 : Addr} {G : Hp} {n c k : Nat} {x : Str} (H5 : Hp) (D' : Ends), LogI K s l G y0 y1 n c k x H5 → (x = "" ∨ ∃ qs, Nm qs ∧ x = Txt.join "." qs) → x.length ≤ 100 → k < 40 → c + 66000 ≤ 4000000 → G YL = some (.lst [.ref y0, .ref y1]) →
      ∀ o7 o9 o10 o11 o12 o13 o14 o15, (∀ σ H', LogI K s l G y0 y1 n (c + 66000) k x H' → (∃ o11 o15, σ = [some (.ref a), some (.ref s), some (.ref RL), some (.ref YL), some (.ref M), some (.ref S2), some (.ref PL), o7, some (.str x), o9, o10, o11, o12, o13, o14, o15, none, none]) → D'.nx σ H') → t D' [some (.ref a), some (.ref s), some (.ref RL), some (.ref YL), some (.ref M), some (.ref S2), some (.ref PL), o7, some (.str x), o9, o10, o11, o12, o13, o14, o15, none, none] H5 := by
  refine ⟨_, (pss_one (ps_for PassesOwn.never rfl (pi_tup (pe_tup (pa_cons pe_int (pa_cons pe_int (pa_cons pe_int pa_nil))))) (pg_name (i := 15) sc_law.nd rfl (by first | exact Or.inl rfl | exact Or.inr rfl)) (pss_one (ps_for PassesOwn.never rfl (pi_list (pv 3)) (pg_name (i := 11) sc_law.nd rfl (by first | exact Or.inl rfl | exact Or.inr rfl)) (pss_one (ps_expr (pe_mt T.c_Logger T.m_Logger_log c_Logger_log_d2 (hr.mono (by first | decide | exact Nat.le_refl _)) (pe_mt T.c_Yard T.m_Yard_getLogger c_Yard_getLogger (hr.mono (by first | decide | exact Nat.le_refl _)) (pv 11) (pa_cons (pv 8) pa_nil)) (pa_cons (pv 15) (pa_cons (pe_op op_add_str (pv 8) (pe_callTy call_str_int (by rfl) T.b_str (by decide +kernel) (pa_cons (pv 15) pa_nil))) pa_nil))))))))), ?_⟩
  walk_at "in"
  intro a s l RL YL M S2 PL y0 y1 G n c k x H5 D' I5 okn xl hk hc hYL o7 o9 o10 o11 o12 o13 o14 o15 k'
  walk_at "go"
  intro p10 f10
  obtain ⟨G1, I1, sG, d10⟩ : ∃ G1, LogI K s l G1 y0 y1 n c k x (upd H5 p10 (.tup [.int 10, .int 20, .int 40])) ∧ Same G G1 ∧ G1 p10 = some (.tup [.int 10, .int 20, .int 40]) := by
    obtain ⟨m0, m1, a0, a1, W, r⟩ := I5
    have LA := W.up2.lay (o := .tup [.int 10, .int 20, .int 40]) f10
    exact ⟨_, ⟨m0, m1, a0, a1, LA.1.dn2, r⟩, LA.2, upd_same⟩
  generalize upd H5 p10 (.tup [.int 10, .int 20, .int 40]) = H6 at I1 ⊢
  have fin : ∀ {H' : Hp}, LogI K s l G1 y0 y1 n (c + 66000) k x H' → LogI K s l G y0 y1 n (c + 66000) k x H' := fun ⟨m0, m1, a0, a1, W, r⟩ => ⟨m0, m1, a0, a1, (W.up2.less sG).dn2, r⟩
  have hYL1 := sG _ _ hYL
  have gH : ∀ {n' c' : Nat} {H' : Hp}, LogI K s l G1 y0 y1 n' c' k x H' → Same G1 H' := fun ⟨m0, m1, a0, a1, W, _⟩ => W.g2
  clear I5 hYL f10
  refine ⟨_, rfl, ⟨_, SqT.of (gH I1 _ _ d10)⟩, ?_⟩
  refine for_it walk_tup (fun i σ H' => LogI K s l G1 y0 y1 n (c + 22000 * i) k x H' ∧ ∃ o11 o15, σ = [some (.ref a), some (.ref s), some (.ref RL), some (.ref YL), some (.ref M), some (.ref S2), some (.ref PL), o7, some (.str x), o9, o10, o11, o12, o13, o14, o15, none, none]) ⟨I1, _, _, rfl⟩ (fun i σ H' _ h => SqT.of (gH h.1 _ _ d10)) (fun i v σ H9 H7 hi hP hv => ?_) (fun σ H7 hP => ?_)
  · obtain ⟨rfl, hv⟩ := hv
    obtain ⟨I7, o11, o15, rfl⟩ := hP
    have hi3 : i < 3 := hi
    obtain ⟨lv, rfl, l0, l1⟩ : ∃ lv : Int, v = .int lv ∧ 0 ≤ lv ∧ lv ≤ 40 := by
      have hm := List.mem_of_getElem? hv
      simp only [List.mem_cons, List.not_mem_nil, or_false] at hm
      rcases hm with rfl | rfl | rfl
      · exact ⟨10, rfl, by decide, by decide⟩
      · exact ⟨20, rfl, by decide, by decide⟩
      · exact ⟨40, rfl, by decide, by decide⟩
    clear hv
    have en : lv.natAbs ≤ 40 := by omega
    have hlen := RN.len_toString lv
    have lg0 : lv.natAbs.log2 ≤ lv.natAbs := Nat.log2_le_self _
    have lg : lv.natAbs.log2 < 1920 := by omega
    have tl : (Str.ofString (toString lv)).length ≤ 100 := by omega
    have z1 : x.length + (Str.ofString (toString lv)).length ≤ sizeLine := by rw [sizeLine_eq]; omega
    have tx1 : (x ++ Str.ofString (toString lv)).length ≤ 1000 := by rw [len_app]; omega
    have hl63 : lv.natAbs < 2 ^ 63 := Nat.lt_of_le_of_lt en (by decide)
    have hl9 : lv < 1000000000 := by omega
    have xl2 : x.length ≤ 2000 := by omega
    generalize hc1 : c + 22000 * i = c1 at I7
    have c9 : c1 ≤ 4000000 := by omega
    have hYH := gH I7 _ _ hYL1
    refine ⟨_, rfl, _, rfl, ⟨_, SqL.of hYH⟩, ?_⟩
    refine for_it (walk_list (xs := [.ref y0, .ref y1])) (fun j σ H' => LogJ K s l G1 y0 y1 n c1 k x lv (x ++ Str.ofString (toString lv)) j H' ∧ ∃ o11, σ = [some (.ref a), some (.ref s), some (.ref RL), some (.ref YL), some (.ref M), some (.ref S2), some (.ref PL), o7, some (.str x), o9, o10, o11, o12, o13, o14, some (.int lv), none, none]) ⟨.inl ⟨rfl, I7⟩, _, rfl⟩ (fun j σ H' _ h => ?_) (fun j v σ H9 H8 hj hP hv => ?_) (fun σ H8 hP => ?_)
    · rcases h.1 with ⟨_, I⟩ | ⟨_, I⟩ | ⟨_, m0, m1, a0, a1, W, _⟩
      · exact SqL.of (gH I _ _ hYL1)
      · exact SqL.of (gH I _ _ hYL1)
      · exact SqL.of (W.g2 _ _ hYL1)
    · obtain ⟨rfl, hv⟩ := hv
      obtain ⟨J8, o11, rfl⟩ := hP
      rcases J8 with ⟨rfl, m0, m1, a0, a1, W, tw, t0, t1, e0, e1⟩ | ⟨rfl, _⟩ | ⟨rfl, m0, m1, a0, a1, W, tw, t0, t1, e0, e1⟩
      · have ev : V.ref y0 = v := Option.some.inj hv
        subst ev
        subst e0
        have W8 := W
        have R8 : YR K m0 a0 H8 := W8.hd
        have hy8 := R8.y_
        walk_at "go"
        show spGetLogR K [.ref (a0 .y), .str x] H8 _ E0
        have O0 := t0.O
        refine R8.get O0 okn fun ad2 H2 R2 M2 F2 => ?_
        have W2 := W8.mv (c' := cY K (m0.add x) ad2) R2 M2
        have O2 : (m0.add x).Ok := O0.add okn (by have := add_le m0 x; have := t0.nn; omega)
        have hx2 := add_mem (m := m0) x
        have C2 := R2.chs O2
        have t2 := t0.lg okn hk C2 lv tx1
        obtain ⟨rc, rl, rm⟩ := C2.rch hx2
        have rl2 : ((m0.add x).rch x).length ≤ 100 := by omega
        have few := O2.few3 C2 hx2
        rw [add_hs, t0.h3] at few
        have cp2 : Cap (m0.add x).texts c1 := by rw [add_texts]; exact t0.cp
        have hcap : c1 + (((m0.add x).rch x).flatMap (m0.add x).hands).length * 1100 ≤ 6000000 := by omega
        have nm2 : NmsOk (m0.add x).nms := by rw [add_nms]; exact t0.nm
        have hE2 := R2.lg_ hx2
        obtain ⟨kk, hEf⟩ := R2.effN O2 hx2
        have hT := T.dt_Logger_log_0 H2
        clear W8 R8 hy8 M2
        walk_at "go"
        intro H12 R12 M12
        have W12 := W2.mv (c' := cY K ((m0.add x).lg x lv (x ++ Str.ofString (toString lv))) ad2) R12 M12
        exact ⟨.inr (.inr ⟨rfl, m0, m1, ad2, a1, W12, tw, t2, t1, F2.1, e1⟩), _, rfl⟩
      · exact absurd hj (Nat.lt_irrefl 2)
      · have ev : V.ref y1 = v := Option.some.inj hv
        subst ev
        subst e1
        have W8 := W.up1
        have R8 : YR K m1 a1 H8 := W8.hd
        have hy8 := R8.y_
        walk_at "go"
        show spGetLogR K [.ref (a1 .y), .str x] H8 _ E0
        have O0 := t1.O
        refine R8.get O0 okn fun ad2 H2 R2 M2 F2 => ?_
        have W2 := W8.mv (c' := cY K (m1.add x) ad2) R2 M2
        have O2 : (m1.add x).Ok := O0.add okn (by have := add_le m1 x; have := t1.nn; omega)
        have hx2 := add_mem (m := m1) x
        have C2 := R2.chs O2
        have t2 := t1.lg okn hk C2 lv tx1
        obtain ⟨rc, rl, rm⟩ := C2.rch hx2
        have rl2 : ((m1.add x).rch x).length ≤ 100 := by omega
        have few := O2.few3 C2 hx2
        rw [add_hs, t1.h3] at few
        have cp2 : Cap (m1.add x).texts c1 := by rw [add_texts]; exact t1.cp
        have hcap : c1 + (((m1.add x).rch x).flatMap (m1.add x).hands).length * 1100 ≤ 6000000 := by omega
        have nm2 : NmsOk (m1.add x).nms := by rw [add_nms]; exact t1.nm
        have hE2 := R2.lg_ hx2
        obtain ⟨kk, hEf⟩ := R2.effN O2 hx2
        have hT := T.dt_Logger_log_0 H2
        clear W8 R8 hy8 M2
        walk_at "go"
        intro H12 R12 M12
        have W12 := W2.mv (c' := cY K ((m1.add x).lg x lv (x ++ Str.ofString (toString lv))) ad2) R12 M12
        exact ⟨.inr (.inl ⟨rfl, _, _, a0, ad2, W12.up1, (tw.add x).lg lv _, t0, t2, e0, F2.1⟩), _, rfl⟩
    · obtain ⟨J8, o11, rfl⟩ := hP
      rcases J8 with ⟨z, _⟩ | ⟨_, I8⟩ | ⟨z, _⟩
      · exact nomatch (show (2 : Nat) = _ from z)
      · refine ⟨?_, _, _, rfl⟩
        rw [← hc1] at I8
        rw [show c + 22000 * (i + 1) = c + 22000 * i + 22000 by omega]
        exact I8
      · exact nomatch (show (2 : Nat) = _ from z)
  · obtain ⟨I7, o11, o15, rfl⟩ := hP
    exact k' _ _ (fin I7) ⟨_, _, rfl⟩
end
end K17

set_option Elab.async false
set_option linter.all false
set_option maxRecDepth 100000
set_option maxHeartbeats 4000000
/-! a, b = a list of that length. -/
namespace RUl
open PySem PySem.Spec PyProof.Rows L2
section
variable {prog : Program} {w : World} {A : Around} {E : Value → Shared → Prop}
theorem pullL {it l : Addr} {us : Array Value} (ne : l ≠ it) (m : Nat) : ∀ (j : Nat) (st : Shared) (R : List Value → Shared → Prop), st.heap.IsListIter it l j → st.heap.IsList l us → j + m ≤ us.size →
    (∀ g, g.IsListIter it l (j + m) → Heap.SameBut it st.heap g → R ((us.toList.drop j).take m) { st with heap := g }) → wpAny (model prog w) A (draw (.ref it) m) R E st := by
  induction m with
  | zero =>
    intro j st R hi hl hle q
    show wpAny _ _ (pure []) _ _ _
    refine wpAny_pure ?_
    have := q st.heap hi (Heap.SameBut.refl ..)
    simpa using this
  | succ m ih =>
    intro j st R hi hl hle q
    have lt : j < us.size := by omega
    show wpAny _ _ (pyNext (.ref it) >>= _) _ _ _
    refine wpAny_bind (wpAny_pyNext_list_item hi hl (x := us[j]) (by simp [lt]) fun g1 i1 b1 => ?_)
    refine wpAny_bind (wpAny_holding (ih (j + 1) _ _ i1 (hl.extBut b1.extBut ne) (by omega) fun g2 i2 b2 => wpAny_pure ?_))
    have ed : us.toList.drop j = us[j] :: us.toList.drop (j + 1) := by simp [List.drop_eq_getElem_cons, lt]
    have z := q g2 (by rw [show j + (m + 1) = j + 1 + m by omega]; exact i2) (b1.trans b2)
    rwa [ed, List.take_succ_cons] at z
theorem unpL {l : Addr} {us : Array Value} {st : Shared} {R : List Value → Shared → Prop} (calm : A.handled = none) (hl : st.heap.IsList l us)
    (q : ∀ g, Heap.ExtBut st.heap.objs.size st.heap g → R us.toList { st with heap := g }) : wpAny (model prog w) A (unpackItems (.ref l) us.size none) R E st := by
  have ne : l ≠ st.heap.objs.size := by
    obtain ⟨o, ho, _⟩ := hl
    exact Nat.ne_of_lt (Heap.lt_size ho)
  unfold unpackItems
  refine wpAny_bind ?_
  unfold notIterableAtAll
  refine wpAny_bind (wpAny_specialOf hl.typeIs slot_list_iter.lookup (wpAny_pure ?_))
  simp only [Bool.false_eq_true, if_false]
  refine wpAny_bind (wpAny_holding (wpAny_pyIter_list hl ?_))
  refine wpAny_bind (wpAny_holding (pullL ne us.size 0 _ _ ⟨_, Heap.get?_push_size _ rfl, rfl, rfl⟩ (hl.push _) (by omega) fun g1 i1 b1 => ?_))
  rw [List.drop_zero, List.take_of_length_le (show us.toList.length ≤ us.size by simp), if_neg (by simp)]
  refine wpAny_bind (wpAny_holding (wpAny_pyNext_list_end calm i1 ((hl.push _).extBut b1.extBut ne) (by simp) fun g2 e2 => ?_))
  simp only [Option.isSome_none, Bool.false_eq_true, if_false]
  exact wpAny_pure (q g2 fun b o hb e => e2 b o hb (b1.extBut b o hb (Heap.get?_push_of_some _ e)))
end
/-- (a, b, ..) = a list of that length -/
def gUnL (K : PySem.W.Frag) (n : Nat) (t : TGs) : TG := fun v σ H Q => ∃ a xs, v = .ref a ∧ SqL K H a xs ∧ xs.length = n ∧ t xs σ H Q
theorem pg_unL {X : Cx} {K : PySem.W.Frag} {es : List Expr} {k n : Nat} {pos : Pos} {t : TGs} (hc : X.calm = true) (h : PGs X es t) (hn : (assignEach es X.env).length = n := by rfl) (hst : (assignEach es X.env).findIdx? (·.1) = none := by rfl) (z : X.K = K := by rfl) :
    PG X (.Tuple es k pos) (gUnL K n t) := by
  subst z
  refine ⟨fun pins s σ H v u Q I r q => ?_⟩
  obtain ⟨l, xs, rfl, hq, hlen, q⟩ := q
  obtain rfl : u = Value.ref l := r
  obtain ⟨us, rv, pl, _⟩ := I.list hq
  have e : (assignEach es X.env).length = us.toArray.size := by rw [hn, List.size_toArray, ← rv.length]; exact hlen.symm
  rw [assign_Tuple]
  refine wpAny_bind (wpAny_standAt ?_)
  unfold unpack
  rw [e, hst]
  refine wpAny_bind (wpAny_holding (unpL (I.ok.hd hc) pl.isList fun g hx => ?_))
  exact h.run pins _ σ H xs _ Q (I.kept (t' := s.toks) fun b o eb => hx b o (Nat.ne_of_lt (Heap.lt_size eb)) eb) (by simpa using rv) q
/-- a for's list, in a comprehension's block -/
theorem pi_listK {X : Cx} {K : PySem.W.Frag} {tg l : Expr} {tl : TE} (hl : PE X l tl) (z : X.K = K := by rfl) : PI X tg l (iList K tl) := z ▸ pi_list hl
end RUl

set_option Elab.async false
set_option linter.all false
set_option maxRecDepth 100000
set_option linter.all false
set_option maxRecDepth 100000
set_option maxHeartbeats 4000000
/-! Worlds of single cells: cells laid, cells set, a model gathered out of cells. -/
namespace RS
open PySem PySem.Spec PyProof.Rows L2 RC RR
section
variable {H H' : Hp} {s l p m q b : Addr} {n k : Nat} {cs xs ys : List Comp} {c : Comp} {o o' o1 o1' o2 : HO}
abbrev cl (x : Addr × HO) : Comp := cell x.1 x.2
theorem cell_dj (h : p ≠ q) : (cell p o).dj (cell q o1) := fun _ _ _ _ _ _ z => h z
theorem Wd.addL (W : Wd H s l n cs) (e : Same H H') : ∀ L : List (Addr × HO), (L.map (·.1)).Nodup → (∀ x ∈ L, H x.1 = none ∧ H' x.1 = some x.2) → Wd H' s l n (L.map cl ++ cs)
  | [], _, _ => W.same e
  | x :: L, nd, h => by
    obtain ⟨n1, n2⟩ := List.nodup_cons.mp nd
    have W' := Wd.addL W e L n2 fun y hy => h y (List.mem_cons_of_mem _ hy)
    obtain ⟨h1, h2⟩ := h x List.mem_cons_self
    obtain ⟨ne, ns, y, cc, dd, g1, g2, g3⟩ := W.stm
    refine ⟨W'.stm, fun d hd => ?_, List.pairwise_cons.mpr ⟨fun d hd => ?_, W'.pw⟩, fun d hd => ?_⟩
    · rcases List.mem_cons.mp hd with rfl | hd
      · exact cell_rep h2
      · exact W'.rep d hd
    · rcases List.mem_append.mp hd with hd | hd
      · obtain ⟨y, hy, rfl⟩ := List.mem_map.mp hd
        exact cell_dj fun z => n1 (by show x.1 ∈ _; rw [z]; exact List.mem_map_of_mem hy)
      · intro r u er _ _ _ z
        have z : x.1 = d.ad r := z
        exact (W.rep d hd).out h1 r u er z.symm
    · rcases List.mem_cons.mp hd with rfl | hd
      · exact ⟨cell_out (fun z => (by rw [← z, g1] at h1; cases h1)), cell_out (fun z => (by rw [← z, g2] at h1; cases h1))⟩
      · exact W'.os d hd
theorem Wd.mid (W : Wd H s l n (xs ++ c :: ys)) : Wd H s l n (c :: (xs ++ ys)) := W.perm List.perm_middle.symm
theorem Wd.unmid (W : Wd H s l n (c :: (xs ++ ys))) : Wd H s l n (xs ++ c :: ys) := W.perm List.perm_middle
theorem Wd.at_ (W : Wd H s l n (xs ++ cell p o :: ys)) : H p = some o := W.mid.c0
theorem Wd.setM (W : Wd H s l n (xs ++ cell p o :: ys)) : Wd (upd H p o') s l n (xs ++ cell p o' :: ys) := Wd.unmid (Wd.set W.mid)
theorem Wd.neM (W : Wd H s l n (cell p o :: (xs ++ cell m o1 :: ys))) : p ≠ m := fun z => by
  have h := (List.pairwise_cons.mp W.pw).1 (cell m o1) (by simp)
  exact h () o1 rfl () o rfl z
/-- a call that writes the cells p and m and lays q -/
theorem Wd.hand (W : Wd H s l n (cell p o :: (xs ++ cell m o1 :: ys))) (kp : ∀ b u, b ≠ p → b ≠ m → H b = some u → H' b = some u) (hq : H q = none) (hp : H' p = some o') (hm : H' m = some o1') (hq' : H' q = some o2) : Wd H' s l n (cell q o2 :: cell p o' :: (xs ++ cell m o1' :: ys)) := by
  have npm : p ≠ m := W.neM
  have W1 : Wd (upd H p o') s l n (cell p o' :: (xs ++ cell m o1 :: ys)) := W.set
  have W2 : Wd (upd (upd H p o') m o1') s l n ((cell p o' :: xs) ++ cell m o1' :: ys) := Wd.setM (xs := cell p o' :: xs) W1
  have hp0 : H p = some o := W.c0
  have hm0 : H m = some o1 := Wd.at_ (xs := cell p o :: xs) W
  have nqp : q ≠ p := fun z => by rw [z, hp0] at hq; cases hq
  have nqm : q ≠ m := fun z => by rw [z, hm0] at hq; cases hq
  refine Wd.fresh W2 (fun b u e => ?_) (by rw [upd_ne nqm, upd_ne nqp]; exact hq) hq'
  by_cases c1 : b = m
  · subst c1; rw [upd_same] at e; cases e; exact hm
  · rw [upd_ne c1] at e
    by_cases c2 : b = p
    · subst c2; rw [upd_same] at e; cases e; exact hp
    · rw [upd_ne c2] at e; exact kp b u c2 c1 e
/-- a model out of cells -/
theorem Wd.gather {R : Type} {M : R → Option HO} {ad : R → Addr} (L : List (R × Addr × HO)) (W : Wd H s l n (L.map (fun x => cell x.2.1 x.2.2) ++ cs)) (hM : ∀ r o, M r = some o → (r, ad r, o) ∈ L) : Wd H s l n (⟨R, M, ad⟩ :: cs) := by
  have mem : ∀ x ∈ L, cell x.2.1 x.2.2 ∈ L.map (fun x => cell x.2.1 x.2.2) ++ cs := fun x hx => List.mem_append_left _ (List.mem_map_of_mem hx)
  have pw := List.pairwise_append.mp W.pw
  have nd : (L.map (·.2.1)).Nodup := by
    have h1 := List.pairwise_map.mp pw.1
    refine List.pairwise_map.mpr (h1.imp fun {a b} h z => ?_)
    exact h () b.2.2 rfl () a.2.2 rfl z
  have hh : ∀ x ∈ L, (fun _ : Addr => (none : Option HO)) x.2.1 = none ∧ H x.2.1 = some x.2.2 := fun x hx => ⟨rfl, (W.rep _ (mem x hx)).at_ () _ rfl⟩
  have rp := (RS.rep_list (H0 := fun _ => none) L hM nd hh).1
  refine ⟨W.stm, fun d hd => ?_, List.pairwise_cons.mpr ⟨fun d hd => ?_, pw.2.1⟩, fun d hd => ?_⟩
  · rcases List.mem_cons.mp hd with rfl | hd
    · exact rp
    · exact W.rep d (List.mem_append_right _ hd)
  · intro r u er r' u' er' z
    exact pw.2.2 _ (List.mem_map_of_mem (hM r' u' er')) d hd r u er () u' rfl z
  · rcases List.mem_cons.mp hd with rfl | hd
    · exact ⟨fun r u er z => (W.os _ (mem _ (hM r u er))).1 () u rfl z, fun r u er z => (W.os _ (mem _ (hM r u er))).2 () u rfl z⟩
    · exact W.os d (List.mem_append_right _ hd)
theorem pw_at {ds : List Comp} (pw : ds.Pairwise Comp.dj) {i j : Nat} {a b : Comp} (hij : i ≠ j) (ha : ds[i]? = some a) (hb : ds[j]? = some b) : a.dj b := by
  obtain ⟨li, rfl⟩ := List.getElem?_eq_some_iff.mp ha
  obtain ⟨lj, rfl⟩ := List.getElem?_eq_some_iff.mp hb
  rcases Nat.lt_or_ge i j with h | h
  · exact List.pairwise_iff_getElem.mp pw i j li lj h
  · exact Dj.symm (List.pairwise_iff_getElem.mp pw j i lj li (by omega))
/-- some of the models, in another order -/
theorem Wd.pickL (is : List Nat) {ds : List Comp} (W : Wd H s l n (ds ++ cs)) (nd : is.Nodup) : Wd H s l n (is.filterMap (fun i => ds[i]?) ++ cs) := by
  have pw := List.pairwise_append.mp W.pw
  have mem : ∀ c ∈ is.filterMap (fun i => ds[i]?), c ∈ ds := fun c hc => by
    obtain ⟨i, _, hi⟩ := List.mem_filterMap.mp hc
    exact List.mem_of_getElem? hi
  have mm : ∀ c ∈ is.filterMap (fun i => ds[i]?) ++ cs, c ∈ ds ++ cs := fun c hc => by
    rcases List.mem_append.mp hc with h | h
    · exact List.mem_append_left _ (mem c h)
    · exact List.mem_append_right _ h
  refine ⟨W.stm, fun c hc => W.rep c (mm c hc), List.pairwise_append.mpr ⟨?_, pw.2.1, fun a ha b hb => pw.2.2 a (mem a ha) b hb⟩, fun c hc => W.os c (mm c hc)⟩
  refine List.pairwise_filterMap.mpr (nd.imp fun {i j} hij a ha b hb => ?_)
  exact pw_at pw.1 hij ha hb
end
end RS

set_option Elab.async false
set_option linter.all false
set_option maxRecDepth 100000
set_option maxHeartbeats 4000000
/-! == and != of two things of the same shape: lists and tuples in one another. -/
namespace RQE
open PySem PySem.Spec PyProof.Rows PySem.SeqAt L2
def SmR (K : PySem.W.Frag) (H : Hp) (E : V → V → Prop) (x y : V) : Prop :=
  (∃ a b xs ys, x = .ref a ∧ y = .ref b ∧ SqL K H a xs ∧ SqL K H b ys ∧ Paired E xs ys) ∨ (∃ a b xs ys, x = .ref a ∧ y = .ref b ∧ SqT K H a xs ∧ SqT K H b ys ∧ Paired E xs ys)
def SmV (K : PySem.W.Frag) (H : Hp) : Nat → V → V → Prop
  | 0 => fun x y => x = y ∧ RY.flatW x = true
  | n + 1 => fun x y => (x = y ∧ RY.flatW x = true) ∨ SmR K H (SmV K H n) x y
theorem SmV.flat {K : PySem.W.Frag} {H : Hp} {n : Nat} {x : V} (h : RY.flatW x = true) : SmV K H n x x := by
  cases n with
  | zero => exact ⟨rfl, h⟩
  | succ n => exact .inl ⟨rfl, h⟩
theorem paired_flat {K : PySem.W.Frag} {H : Hp} {n : Nat} : ∀ {xs : List V}, xs.all RY.flatW = true → Paired (SmV K H n) xs xs
  | [], _ => .nil
  | x :: xs, h => by
    rw [List.all_cons, Bool.and_eq_true] at h
    exact .cons (SmV.flat h.1) (paired_flat h.2)
theorem paired_map {α : Type} {E : V → V → Prop} {f g : α → V} : ∀ {xs : List α}, (∀ x ∈ xs, E (f x) (g x)) → Paired E (xs.map f) (xs.map g)
  | [], _ => .nil
  | x :: xs, h => .cons (h x List.mem_cons_self) (paired_map fun y hy => h y (List.mem_cons_of_mem _ hy))
theorem paired_at {E : V → V → Prop} : ∀ {xs ys : List V}, xs.length = ys.length → (∀ (i : Nat) (x y : V), xs[i]? = some x → ys[i]? = some y → E x y) → Paired E xs ys
  | [], [], _, _ => .nil
  | [], _ :: _, h, _ => by simp at h
  | _ :: _, [], h, _ => by simp at h
  | x :: xs, y :: ys, hl, h => .cons (h 0 x y rfl rfl) (paired_at (by simpa using hl) fun i a b h1 h2 => h (i + 1) a b (by simpa using h1) (by simpa using h2))
section
variable {X : Cx} {pins : List (Addr × Obj)} {σ : L2.St} {H : Hp} {s : Shared}
theorem its_run {A : Around} {F : V → V → Prop} (ih : ∀ x y v u, F x y → RelV x v → RelV y u → EqAt A s v u true) {xs ys : List V} (hp : Paired F xs ys) :
    ∀ {us ws : List Value}, Vals xs us → Vals ys ws → ∀ j (h1 : j < us.length) (h2 : j < ws.length), EqAt A s us[j] ws[j] true := by
  induction hp with
  | nil =>
    intro us ws r1 r2 j h1 h2
    cases r1
    exact absurd h1 (Nat.not_lt_zero j)
  | cons h _ k =>
    intro us ws r1 r2 j h1 h2
    cases r1 with
    | cons a1 b1 =>
      cases r2 with
      | cons a2 b2 =>
        cases j with
        | zero => exact ih _ _ _ _ h a1 a2
        | succ j => exact k b1 b2 j (Nat.lt_of_succ_lt_succ h1) (Nat.lt_of_succ_lt_succ h2)
theorem smR_run (I : Inv X pins σ H s) {A : Around} {F : V → V → Prop} (hu : A.units < cLine) (ih : ∀ x y v u, F x y → RelV x v → RelV y u → EqAt A.in1 s v u true) {x y : V} {v u : Value} (h : SmR X.K H F x y) (rx : RelV x v) (ry : RelV y u) : RcAt A s v u true ∧ RcNeAt A s v u false := by
  rcases h with ⟨a, b, xs, ys, rfl, rfl, ha, hb, hp⟩ | ⟨a, b, xs, ys, rfl, rfl, ha, hb, hp⟩
  · cases (show v = Value.ref a from rx)
    cases (show u = Value.ref b from ry)
    obtain ⟨us, r1, p1, _⟩ := I.list ha
    obtain ⟨ws, r2, p2, _⟩ := I.list hb
    have hsz : us.toArray.size = ws.toArray.size := by
      rw [List.size_toArray, List.size_toArray, ← r1.length, ← r2.length]
      exact Paired.length hp
    have ee : ∀ j (h1 : j < us.toArray.size) (h2 : j < ws.toArray.size), EqAt A.in1 s us.toArray[j] ws.toArray[j] ((fun _ => true) j) := fun j h1 h2 => by
      have k := its_run ih hp r1 r2 j (by simpa using h1) (by simpa using h2)
      simpa using k
    have h1 := RcAt.lists (e := fun _ => true) p1.isList p2.isList hsz hu ee
    have h2 := RcNeAt.lists (e := fun _ => true) p1.isList p2.isList hsz hu ee
    rw [RY.all_tt] at h1 h2
    exact ⟨h1, h2⟩
  · cases (show v = Value.ref a from rx)
    cases (show u = Value.ref b from ry)
    obtain ⟨us, r1, p1, _⟩ := I.tuple ha
    obtain ⟨ws, r2, p2, _⟩ := I.tuple hb
    have hsz : (us.toArray.size == ws.toArray.size) = true := by
      rw [List.size_toArray, List.size_toArray, ← r1.length, ← r2.length]
      exact beq_iff_eq.mpr (Paired.length hp)
    have ee : ∀ j (h1 : j < us.toArray.size) (h2 : j < ws.toArray.size), EqAt A.in1 s us.toArray[j] ws.toArray[j] ((fun _ => true) j) := fun j h1 h2 => by
      have k := its_run ih hp r1 r2 j (by simpa using h1) (by simpa using h2)
      simpa using k
    have h1 := RcAt.tuples (e := fun _ => true) p1 p2 hu ee
    have h2 := RcNeAt.tuples (e := fun _ => true) p1 p2 hu ee
    rw [RY.all_tt, hsz] at h1 h2
    exact ⟨h1, h2⟩
theorem smV_run (I : Inv X pins σ H s) : ∀ (n : Nat) (A : Around), A.units + n < cLine → ∀ (x y : V) (v u : Value), SmV X.K H n x y → RelV x v → RelV y u → EqAt A s v u true
  | 0, _, _, x, y, v, u, h, rx, ry => by
    obtain ⟨rfl, f⟩ := h
    exact RY.eq_same rx ry f
  | n + 1, A, hu, x, y, v, u, h, rx, ry => by
    rcases h with ⟨rfl, f⟩ | h
    · exact RY.eq_same rx ry f
    · have step := (smR_run I (A := A) (by omega) (smV_run I n A.in1 (by show A.units + 1 + n < cLine; omega)) h rx ry).1
      obtain ⟨a, b, rfl, rfl⟩ : ∃ a b, x = .ref a ∧ y = .ref b := by
        rcases h with ⟨a, b, _, _, e1, e2, _⟩ | ⟨a, b, _, _, e1, e2, _⟩ <;> exact ⟨a, b, e1, e2⟩
      cases (show v = Value.ref a from rx)
      cases (show u = Value.ref b from ry)
      by_cases e : a = b
      · subst e; exact EqAt.same _
      · exact EqAt.of_refs e step
end
def rEqS (K : PySem.W.Frag) : R2 := fun x y H Q => ∃ n, n ≤ 60 ∧ SmR K H (SmV K H n) x y ∧ Q (.bl true) H
def rNeS (K : PySem.W.Frag) : R2 := fun x y H Q => ∃ n, n ≤ 60 ∧ SmR K H (SmV K H n) x y ∧ Q (.bl false) H
section
variable {X : Cx}
theorem op_eqS (hu : X.A.units + 64 < cLine) : OpR X (compareOp .Eq) (rEqS X.K) := by
  intro pins s σ H x y v u Q I rx ry h
  obtain ⟨n, hn, h, q⟩ := h
  exact (smR_run I (A := X.A) (by omega) (smV_run I n X.A.in1 (by show X.A.units + 1 + n < cLine; omega)) h rx ry).1 X.prog X.w _ _ ⟨.bl true, H, I, rfl, q⟩
theorem op_neS (hu : X.A.units + 64 < cLine) : OpR X (compareOp .NotEq) (rNeS X.K) := by
  intro pins s σ H x y v u Q I rx ry h
  obtain ⟨n, hn, h, q⟩ := h
  exact (smR_run I (A := X.A) (by omega) (smV_run I n X.A.in1 (by show X.A.units + 1 + n < cLine; omega)) h rx ry).2 X.prog X.w _ _ ⟨.bl false, H, I, rfl, q⟩
end
end RQE

set_option Elab.async false
set_option linter.all false
set_option maxRecDepth 100000
set_option maxHeartbeats 0

namespace K17
open PySem PySem.Spec PyProof.Rows L2 RC
section
variable {P : Program} {w : World} {K : PySem.W.Frag} {mg : Str → Option Value} {base : Heap}
/-! ### the law's end: logs and texts -/
def tNames (K : PySem.W.Frag) : TE := tLc (iList K (tVar 2)) (gName 9) tYes (tOp (rIxT K) (tVar 9) (tC (V.int 0))) (List.map (fun x => x.snd) [(Str.ofString "_law_row", 9)])
def tTail (K : PySem.W.Frag) (t3 : TS) : TS :=
  tSeq (tFor (iList K (tOp rCat (tNames K) (tLst (tCons (tC (V.str (Str.ofString ""))) (tCons (tC (V.str (Str.ofString "a.a"))) (tCons (tC (V.str (Str.ofString "b.z"))) (tCons (tC (V.str (Str.ofString "z"))) tNil))))))) (gName 8) t3)
    (tSeq (tAsg (tLc (iList K (tVar 3)) (gName 11) tYes
        (tLc (iList K (tMeth (He.ga K (Str.ofString "Yard")) (Str.ofString "streams") (spStreams K) [] E0 (tVar 11) tNil)) (gName 17) tYes
          (tTup (tCons (tVar 17) (tCons (tMeth (He.ga K (Str.ofString "Yard")) (Str.ofString "text") (spText K) [] E0 (tVar 11) (tCons (tVar 17) tNil)) tNil)))
          (List.map (fun x => x.snd) [(Str.ofString "_law_stream", 17)])) (List.map (fun x => x.snd) [(Str.ofString "_law_yard", 11)])) (gName 16))
      (tRet (tOp (RQE.rEqS K) (tOp (rIxL K) (tVar 16) (tC (V.int 0))) (tOp (rIxL K) (tVar 16) (tC (V.int 1))))))
def LogQ (K : PySem.W.Frag) (t : TS) : Prop := ∀ {a s l RL YL M S2 PL y0 y1 : Addr} {G : Hp} {n c k : Nat} {x : Str} (H5 : Hp) (D' : Ends), LogI K s l G y0 y1 n c k x H5 → (x = "" ∨ ∃ qs, Nm qs ∧ x = Txt.join "." qs) → x.length ≤ 100 → k < 40 → c + 66000 ≤ 4000000 → G YL = some (.lst [.ref y0, .ref y1]) →
      ∀ o7 o9 o10 o11 o12 o13 o14 o15, (∀ σ H', LogI K s l G y0 y1 n (c + 66000) k x H' → (∃ o11 o15, σ = [some (.ref a), some (.ref s), some (.ref RL), some (.ref YL), some (.ref M), some (.ref S2), some (.ref PL), o7, some (.str x), o9, o10, o11, o12, o13, o14, o15, none, none]) → D'.nx σ H') → t D' [some (.ref a), some (.ref s), some (.ref RL), some (.ref YL), some (.ref M), some (.ref S2), some (.ref PL), o7, some (.str x), o9, o10, o11, o12, o13, o14, o15, none, none] H5
def TextsAt (X : Hp) (ts : List (Str × Str)) (ys : List Str) (d : Addr) : Prop := ∃ rs : List Addr, X d = some (.lst (rs.map V.ref)) ∧ rs.length = ys.length ∧ ∀ (i : Nat) (t : Addr) (s : Str), rs[i]? = some t → ys[i]? = some s → X t = some (.tup [.str s, .str (txt ts s)])
theorem TextsAt.same {X Y : Hp} {ts : List (Str × Str)} {ys : List Str} {d : Addr} (s : Same X Y) (h : TextsAt X ts ys d) : TextsAt Y ts ys d := let ⟨rs, h1, h2, h3⟩ := h; ⟨rs, s _ _ h1, h2, fun i t z ht hz => s _ _ (h3 i t z ht hz)⟩
def Tx (X : Hp) (ts : List (Str × Str)) (d : Addr) : Prop := ∃ ys : List Str, ys.Perm (liveS ts) ∧ sortedS ys = true ∧ TextsAt X ts ys d
theorem Tx.same {X Y : Hp} {ts : List (Str × Str)} {d : Addr} (s : Same X Y) (h : Tx X ts d) : Tx Y ts d := let ⟨ys, h1, h2, h3⟩ := h; ⟨ys, h1, h2, h3.same s⟩
theorem paired_ix {E : V → V → Prop} : ∀ {xs ys : List V}, xs.length = ys.length → (∀ (i : Nat) (x y : V), xs[i]? = some x → ys[i]? = some y → E x y) → Paired E xs ys
  | [], [], _, _ => .nil
  | x :: xs, y :: ys, h, k => .cons (k 0 x y rfl rfl) (paired_ix (Nat.succ.inj h) fun i a b ha hb => k (i + 1) a b ha hb)
theorem texts_eq {X : Hp} {ts : List (Str × Str)} {ys : List Str} {d e : Addr} (h : TextsAt X ts ys d) (h' : TextsAt X ts ys e) : RQE.SmR K X (RQE.SmV K X 1) (.ref d) (.ref e) := by
  obtain ⟨rs, h1, h2, h3⟩ := h
  obtain ⟨rs', h1', h2', h3'⟩ := h'
  refine .inl ⟨d, e, _, _, rfl, rfl, SqL.of h1, SqL.of h1', paired_ix (by rw [List.length_map, List.length_map, h2, h2']) fun i x y hx hy => ?_⟩
  rw [List.getElem?_map] at hx hy
  obtain ⟨t, ht, rfl⟩ := Option.map_eq_some_iff.mp hx
  obtain ⟨t', ht', rfl⟩ := Option.map_eq_some_iff.mp hy
  have hl := (List.getElem?_eq_some_iff.mp ht).1
  rw [h2] at hl
  have hs := List.getElem?_eq_getElem hl
  exact .inr (.inr ⟨t, t', _, _, rfl, rfl, SqT.of (h3 i t _ ht hs), SqT.of (h3' i t' _ ht' hs), RQE.paired_flat (by rfl)⟩)
theorem tail_ok (T : Txt P w K mg) {t3 : TS} (qlog : LogQ K t3) {a s l RL YL M s2 PL p0 p1 : Addr} {o7 o8 o9 o10 o11 o12 : Option V} {H18 G : Hp} {N : Nat} {A0 A1 : TM} {ad0 ad1 : YRo → Addr} {rs : List Row} {as : List Addr} {D : Ends}
    (W18 : RS.Wd H18 s l N [RS.cG G, cY K A0 ad0, cY K A1 ad1]) (tw : Tw A0 A1) (O0 : A0.Ok) (O1 : A1.Ok) (h3 : A0.hs.length = 3) (S0 : A0.St strs3) (htx : A0.texts = []) (hnms : NmsOk A0.nms) (hnl : A0.names.length ≤ 8)
    (gYL : G YL = some (.lst [.ref (ad0 .y), .ref (ad1 .y)])) (gRL : G RL = some (.lst (as.map V.ref))) (hln : as.length = rs.length) (hat : ∀ (j : Nat) (a : Addr) (r : Row), as[j]? = some a → rs[j]? = some r → RowAt G a r) (hok : ∀ r ∈ rs, r.Ok) (hl8 : rs.length ≤ 8)
    (hQ : ∀ H', D.rt (.bl true) H') :
    tTail K t3 D [some (.ref a), some (.ref s), some (.ref RL), some (.ref YL), some (.ref M), some (.ref s2), some (.ref PL), o7, o8, o9, o10, o11, o12, some (.ref p0), some (.ref p1), none, none, none] H18 := by
  have hRL18 := W18.g0 _ _ gRL
  unfold tTail tNames
  walk_at "go"
  intro D3 fD3
  refine lc_it (walk_list (xs := as.map V.ref)) (fun i H' => Same H18 H' ∧ H' D3 = some (.lst ((rs.take i).map fun r => V.str r.x))) ⟨same_new fD3 _, upd_same⟩ (fun i H' _ h => SqL.of (h.1 _ _ hRL18)) (fun i y H8 H7 hi hP hy => ?_) (fun H19 hP => ?_)
  · obtain ⟨rfl, hy⟩ := hy
    obtain ⟨s7, d7⟩ := hP
    rw [List.getElem?_map] at hy
    obtain ⟨p, hp, rfl⟩ := Option.map_eq_some_iff.mp hy
    have hl := (List.getElem?_eq_some_iff.mp hp).1
    rw [hln] at hl
    obtain ⟨q, hq1, hq2⟩ := hat i p _ hp (List.getElem?_eq_getElem hl)
    have hpt := s7 _ _ (W18.g0 _ _ hq1)
    have ln : ((rs.take i).map fun r => V.str r.x).length < sizeLine := by rw [List.length_map, List.length_take, sizeLine_eq]; omega
    walk_at "go"
    rw [upd_same]
    have et := List.take_add_one (l := rs) (i := i)
    rw [List.getElem?_eq_getElem hl] at et
    rw [et, List.map_append]; rfl
  obtain ⟨s19, d19⟩ := hP
  rw [List.length_map, hln, List.take_length] at d19
  have d19 : H19 D3 = some (.lst ((rs.map (·.x)).map V.str)) := by rw [List.map_map]; exact d19
  clear fD3
  have W19 := W18.same s19
  clear W18 hRL18 s19
  walk_at "go"
  intro p5 f5
  have n5 : D3 ≠ p5 := fun z => by rw [← z, d19] at f5; cases f5
  refine ⟨D3, p5, (rs.map (·.x)).map V.str, _, rfl, rfl, by rw [upd_ne n5]; exact d19, upd_same, (by rw [List.length_map, List.length_map, sizeLine_eq]; show _ + 4 ≤ _; omega), fun p6 f6 => ?_⟩
  have W20 := W19.same (same_new f5 (.lst [.str "", .str "a.a", .str "b.z", .str "z"]))
  have L21 := W20.lay (o := .lst ((rs.map (·.x)).map V.str ++ [.str "", .str "a.a", .str "b.z", .str "z"])) f6
  have W21 := L21.1
  have sG := L21.2
  have g6 := upd_same (H := G) (a := p6) (o := .lst ((rs.map (·.x)).map V.str ++ [.str "", .str "a.a", .str "b.z", .str "z"]))
  generalize upd G p6 (.lst ((rs.map (·.x)).map V.str ++ [.str "", .str "a.a", .str "b.z", .str "z"])) = G2 at W21 sG g6
  generalize upd (upd H19 p5 (.lst [.str "", .str "a.a", .str "b.z", .str "z"])) p6 (.lst ((rs.map (·.x)).map V.str ++ [.str "", .str "a.a", .str "b.z", .str "z"])) = H21 at W21 ⊢
  clear L21 W20 W19 f5 f6 d19 n5
  have gYL := sG _ _ gYL
  clear gRL hat sG
  have en : (rs.map (·.x)).map V.str ++ [.str "", .str "a.a", .str "b.z", .str "z"] = (rs.map (·.x) ++ (["", "a.a", "b.z", "z"] : List Str)).map V.str := by rw [List.map_append]; rfl
  rw [en] at g6
  have oks : ∀ x ∈ rs.map (·.x) ++ (["", "a.a", "b.z", "z"] : List Str), (x = "" ∨ ∃ qs, Nm qs ∧ x = Txt.join "." qs) ∧ x.length ≤ 100 := fun x hx => by
    have key : ∀ qs, Nm qs → x = Txt.join "." qs → (x = "" ∨ ∃ qs, Nm qs ∧ x = Txt.join "." qs) ∧ x.length ≤ 100 := fun qs nm e => ⟨.inr ⟨qs, nm, e⟩, by have := len6 nm.in6 nm.few; rw [e]; omega⟩
    rcases List.mem_append.mp hx with hx | hx
    · obtain ⟨r, hr, rfl⟩ := List.mem_map.mp hx
      obtain ⟨qs, nm, e⟩ := (hok r hr).nm
      exact key qs nm e
    · simp only [List.mem_cons, List.not_mem_nil, or_false] at hx
      rcases hx with rfl | rfl | rfl | rfl
      · exact ⟨.inl rfl, by decide⟩
      · exact key ["a", "a"] ⟨by decide, by decide, by decide, by decide⟩ (by decide +kernel)
      · exact key ["b", "z"] ⟨by decide, by decide, by decide, by decide⟩ (by decide +kernel)
      · exact key ["z"] ⟨by decide, by decide, by decide, by decide⟩ (by decide +kernel)
  have hNl : (rs.map (·.x) ++ (["", "a.a", "b.z", "z"] : List Str)).length ≤ 12 := by rw [List.length_append, List.length_map]; show _ + 4 ≤ _; omega
  generalize rs.map (·.x) ++ (["", "a.a", "b.z", "z"] : List Str) = xs at oks g6 hNl
  have S1 : A1.St strs3 := by obtain ⟨Nn, pp, rfl⟩ := tw; exact S0.of rfl rfl
  have h31 : A1.hs.length = 3 := by obtain ⟨Nn, pp, rfl⟩ := tw; exact h3
  have htx1 : A1.texts = [] := by rw [tw.texts]; exact htx
  have hnms1 : NmsOk A1.nms := by obtain ⟨Nn, pp, rfl⟩ := tw; exact hnms
  have hnl1 : A1.names.length ≤ 8 := by rw [tw.names.length_eq]; exact hnl
  have I21 : ∀ x, LogI K s l G2 (ad0 .y) (ad1 .y) N 0 9 x H21 := fun x => ⟨A0, A1, ad0, ad1, W21.dn2, tw,
    ⟨O0, S0, h3, Nat.le_trans (add_len A0 x) (by omega), by rw [htx]; exact ⟨Nat.zero_le _, fun _ h => by cases h⟩, hnms⟩,
    ⟨O1, S1, h31, Nat.le_trans (add_len A1 x) (by omega), by rw [htx1]; exact ⟨Nat.zero_le _, fun _ h => by cases h⟩, hnms1⟩, rfl, rfl⟩
  have next : ∀ {c k : Nat} {x : Str} {H' : Hp}, LogI K s l G2 (ad0 .y) (ad1 .y) N c k x H' → ∀ x', LogI K s l G2 (ad0 .y) (ad1 .y) N c (k + 1) x' H' := fun {c k x H'} ⟨m0, m1, a0, a1, W, tw, t0, t1, e0, e1⟩ x' => by
    refine ⟨m0, m1, a0, a1, W, tw, ⟨t0.O, t0.S, t0.h3, ?_, t0.cp, t0.nm⟩, ⟨t1.O, t1.S, t1.h3, ?_, t1.cp, t1.nm⟩, e0, e1⟩
    · have := add_len m0 x'; have := add_le m0 x; have := t0.nn; omega
    · have := add_len m1 x'; have := add_le m1 x; have := t1.nn; omega
  have gH : ∀ {c k : Nat} {x : Str} {H' : Hp}, LogI K s l G2 (ad0 .y) (ad1 .y) N c k x H' → Same G2 H' := fun ⟨m0, m1, a0, a1, W, _⟩ => W.g2
  clear W21 S1 h31 htx1 hnms1 hnl1 hnl hnms htx h3 O0 O1 S0 tw en
  refine ⟨p6, rfl, ⟨_, SqL.of (gH (I21 "") _ _ g6)⟩, ?_⟩
  refine for_it (walk_list (xs := xs.map V.str)) (fun i σ H' => (∀ x, LogI K s l G2 (ad0 .y) (ad1 .y) N (66000 * i) (9 + i) x H') ∧ ∃ o8 o11 o15, σ = [some (.ref a), some (.ref s), some (.ref RL), some (.ref YL), some (.ref M), some (.ref s2), some (.ref PL), o7, o8, o9, o10, o11, o12, some (.ref p0), some (.ref p1), o15, none, none]) ⟨I21, _, _, _, rfl⟩ (fun i σ H' _ h => SqL.of (gH (h.1 "") _ _ g6)) (fun i v σ H9 H22 hi hP hv => ?_) (fun σ H22 hP => ?_)
  · obtain ⟨rfl, hv⟩ := hv
    obtain ⟨I22, o8, o11', o15, rfl⟩ := hP
    rw [List.getElem?_map] at hv
    obtain ⟨x, hx, rfl⟩ := Option.map_eq_some_iff.mp hv
    have hxm := oks x (List.mem_of_getElem? hx)
    rw [List.length_map] at hi
    exact qlog H22 _ (I22 x) hxm.1 hxm.2 (by omega) (by omega) gYL o7 o9 o10 o11' o12 _ _ o15 fun σ H' I' h' => by
      obtain ⟨p11, p15, rfl⟩ := h'
      refine ⟨fun x' => ?_, _, _, _, rfl⟩
      rw [show 66000 * (i + 1) = 66000 * i + 66000 by omega, show 9 + (i + 1) = 9 + i + 1 by omega]
      exact next I' x'
  obtain ⟨I22, o8, o11', o15, rfl⟩ := hP
  obtain ⟨m0, m1, b0, b1, W22, tw, t0, t1, e0, e1⟩ := I22 ""
  clear I22 I21 next gH oks
  have R0 : YR K m0 b0 H22 := W22.hd
  have R1 : YR K m1 b1 H22 := W22.up1.hd
  have hY22 := W22.g2 _ _ gYL
  rw [← e0, ← e1] at hY22
  clear W22 g6 gYL e0 e1
  have htxs := tw.texts
  have S0 := t0.S
  have S1 := t1.S
  clear t0 t1 tw
  walk_at "go"
  intro D4 f4
  refine lc_it (walk_list (xs := [.ref (b0 .y), .ref (b1 .y)])) (fun i H' => Same H22 (rst (fun b => b = D4) H') ∧ ((i = 0 ∧ H' D4 = some (.lst [])) ∨ (i = 1 ∧ ∃ d0, H' D4 = some (.lst [.ref d0]) ∧ Tx (rst (fun b => b = D4) H') m0.texts d0) ∨ (i = 2 ∧ ∃ d0 d1, H' D4 = some (.lst [.ref d0, .ref d1]) ∧ Tx (rst (fun b => b = D4) H') m0.texts d0 ∧ Tx (rst (fun b => b = D4) H') m0.texts d1))) ⟨fun b u e => rst_at (same_new f4 _ _ _ e) (ne_of_none e f4), .inl ⟨rfl, upd_same⟩⟩ (fun i H' _ h => SqL.of ((h.1.trans rst_same) _ _ hY22)) (fun i v H9 H23 hi hP hv => ?_) (fun H23 hP => ?_)
  · obtain ⟨rfl, hv⟩ := hv
    obtain ⟨sm, hw⟩ := hP
    have s0 : Same H22 H23 := sm.trans rst_same
    have new : ∀ {X : Hp} {ts : List (Str × Str)} {p : Addr} {o : HO}, (∃ u, H23 D4 = some u) → Tx (rst (fun b => H23 b ≠ none) X) ts p → Tx (rst (fun b => b = D4) (upd X D4 o)) ts p := fun ⟨u, hu⟩ t => t.same (rst_next (fun b o n e => by
      rw [upd_ne fun z => n (by rw [z, hu]; exact fun z => nomatch z)]; exact e) fun b hb => .inl (by rw [hb, hu]; exact fun z => nomatch z))
    have old : ∀ {X : Hp} {ts : List (Str × Str)} {p : Addr} {o : HO}, Same H23 X → Tx (rst (fun b => b = D4) H23) ts p → Tx (rst (fun b => b = D4) (upd X D4 o)) ts p := fun s t => t.same (rst_next (fun b o n e => by rw [upd_ne n]; exact s _ _ e) fun b hb => .inl hb)
    have keep : ∀ {X : Hp} {o : HO}, Same H23 X → Same H22 (rst (fun b => b = D4) (upd X D4 o)) := fun s => sm.trans (rst_next (fun b o n e => by rw [upd_ne n]; exact s _ _ e) fun b hb => .inl hb)
    obtain ⟨m, b, ev, R, S, et, fin⟩ : ∃ (m : TM) (b : YRo → Addr), v = .ref (b .y) ∧ YR K m b H23 ∧ m.St strs3 ∧ m.texts = m0.texts ∧ ∀ (H4 : Hp) (d : Addr), Same H23 H4 → Tx (rst (fun b => H23 b ≠ none) H4) m0.texts d → ∃ acc, H4 D4 = some (.lst acc) ∧ acc.length < sizeLine ∧ Same H22 (rst (fun b => b = D4) (upd H4 D4 (.lst (acc ++ [.ref d])))) ∧ ((i + 1 = 0 ∧ upd H4 D4 (.lst (acc ++ [.ref d])) D4 = some (.lst [])) ∨ (i + 1 = 1 ∧ ∃ d0, upd H4 D4 (.lst (acc ++ [.ref d])) D4 = some (.lst [.ref d0]) ∧ Tx (rst (fun b => b = D4) (upd H4 D4 (.lst (acc ++ [.ref d])))) m0.texts d0) ∨ (i + 1 = 2 ∧ ∃ d0 d1, upd H4 D4 (.lst (acc ++ [.ref d])) D4 = some (.lst [.ref d0, .ref d1]) ∧ Tx (rst (fun b => b = D4) (upd H4 D4 (.lst (acc ++ [.ref d])))) m0.texts d0 ∧ Tx (rst (fun b => b = D4) (upd H4 D4 (.lst (acc ++ [.ref d])))) m0.texts d1)) := by
      rcases hw with ⟨rfl, hD⟩ | ⟨rfl, d0, hD, t0⟩ | ⟨rfl, _⟩
      · exact ⟨m0, b0, (Option.some.inj hv).symm, RR.Rep.same R0 s0, S0, rfl, fun H4 d s4 t4 => ⟨_, s4 _ _ hD, (by rw [sizeLine_eq]; decide), keep s4, .inr (.inl ⟨rfl, d, upd_same, new ⟨_, hD⟩ t4⟩)⟩⟩
      · exact ⟨m1, b1, (Option.some.inj hv).symm, RR.Rep.same R1 s0, S1, htxs, fun H4 d s4 t4 => ⟨_, s4 _ _ hD, (by show 1 < sizeLine; rw [sizeLine_eq]; decide), keep s4, .inr (.inr ⟨rfl, d0, d, upd_same, old s4 t0, new ⟨_, hD⟩ t4⟩)⟩⟩
      · exact absurd hi (Nat.lt_irrefl 2)
    subst ev
    clear hw new old keep sm hv
    have sl := S.len
    have hy23 := R.y_
    walk_at "go"
    refine ⟨Nat.lt_of_le_of_lt sl (by decide), S.nd, fun H24 p ys s24 fp dp pm so => ?_⟩
    have hyl : ys.length ≤ 3 := by
      rw [pm.length_eq]
      unfold liveS
      rw [List.length_map]
      exact Nat.le_trans (List.length_filter_le _ _) sl
    rw [et] at pm
    have R24 := RR.Rep.same R s24
    clear hy23 R
    walk_at "go"
    intro D5 f5
    refine lc_it (walk_list (xs := ys.map V.str)) (fun j H' => Same H24 (rst (fun b => b = D5) H') ∧ ∃ ts : List Addr, ts.length = j ∧ H' D5 = some (.lst (ts.map V.ref)) ∧ ∀ (k : Nat) (t : Addr) (s : Str), ts[k]? = some t → ys[k]? = some s → rst (fun b => b = D5 ∨ H23 b ≠ none) H' t = some (.tup [.str s, .str (txt m0.texts s)])) ⟨fun b u e => rst_at (same_new f5 _ _ _ e) (ne_of_none e f5), [], rfl, upd_same, fun k t s h => by simp at h⟩ (fun j H' _ h => SqL.of ((h.1.trans rst_same) _ _ dp)) (fun j y H8 H25 hj hP hy => ?_) (fun H25 hP => ?_)
    · obtain ⟨rfl, hy⟩ := hy
      obtain ⟨sm, ts, tl, dD, hts⟩ := hP
      rw [List.getElem?_map] at hy
      obtain ⟨x, hx, rfl⟩ := Option.map_eq_some_iff.mp hy
      have hj3 : j < 3 := by rw [List.length_map] at hj; omega
      have s25 : Same H24 H25 := sm.trans rst_same
      have R25 := RR.Rep.same R24 s25
      have hy25 := R25.y_
      walk_at "go"
      intro t ft
      rw [et]
      have st := same_new ft (.tup [.str x, .str (txt m0.texts x)])
      have dt := upd_same (H := H25) (a := t) (o := .tup [.str x, .str (txt m0.texts x)])
      have ntD : t ≠ D5 := fun z => by rw [z, dD] at ft; cases ft
      have nt0 : H23 t = none := (s24.trans s25).free ft
      have dD8 := st _ _ dD
      generalize upd H25 t (.tup [.str x, .str (txt m0.texts x)]) = H26 at st dt dD8 ⊢
      have c5 : ∀ o, Same (rst (fun b => b = D5) H25) (rst (fun b => b = D5) (upd H26 D5 o)) := fun _ => rst_next (fun b o nb e => by rw [upd_ne nb]; exact st _ _ e) fun b h => .inl h
      have c6 : ∀ o, Same (rst (fun b => b = D5 ∨ H23 b ≠ none) H25) (rst (fun b => b = D5 ∨ H23 b ≠ none) (upd H26 D5 o)) := fun _ => rst_next (fun b o nb e => by rw [upd_ne fun z => nb (.inl z)]; exact st _ _ e) fun b h => .inl h
      refine ⟨_, dD8, (by rw [List.length_map, tl, sizeLine_eq]; omega), sm.trans (c5 _), ts ++ [t], by rw [List.length_append, tl]; rfl, by rw [upd_same, List.map_append]; rfl, fun k u z hu hz => ?_⟩
      rcases Nat.lt_or_ge k ts.length with c | c
      · rw [List.getElem?_append_left c] at hu
        exact c6 _ _ _ (hts k u z hu hz)
      · have ej : k = j := by
          have h1 := (List.getElem?_eq_some_iff.mp hu).1
          rw [List.length_append, List.length_singleton] at h1
          omega
        rw [ej, ← tl] at hu
        rw [ej, hx] at hz
        rw [show (ts ++ [t])[ts.length]? = some t by simp] at hu
        cases hu
        cases hz
        exact rst_at (by rw [upd_ne ntD]; exact dt) (fun z => z.elim ntD fun z => z nt0)
    obtain ⟨sm, ts, tl, dD, hts⟩ := hP
    rw [List.length_map] at tl
    refine fin H25 D5 (s24.trans (sm.trans rst_same)) ⟨ys, pm, so, ts, rst_at dD (fun z => z (s24.free f5)), tl, fun k t s ht hs => (rst_next (fun b o _ e => e) fun b h => .inl (.inr h)) _ _ (hts k t s ht hs)⟩
  obtain ⟨sm, hw⟩ := hP
  rcases hw with ⟨z, _⟩ | ⟨z, _⟩ | ⟨_, d0, d1, hD, ⟨ys, pm, so, tx⟩, ⟨ys', pm', so', tx'⟩⟩
  · exact nomatch (show (2 : Nat) = 0 from z)
  · exact nomatch (show (2 : Nat) = 1 from z)
  obtain rfl : ys = ys' := RE.uniq (pm.trans pm'.symm) (RE.sorted_pw so) (RE.sorted_pw so')
  have eqs := texts_eq (K := K) (tx.same rst_same) (tx'.same rst_same)
  clear tx tx' sm
  walk_at "go"
  exact ⟨(by decide : 1 ≤ 60), eqs, hQ _⟩
end
end K17

set_option Elab.async false
set_option linter.all false
set_option maxRecDepth 100000
set_option maxHeartbeats 0

namespace K17
open PySem PySem.Spec PyProof.Rows L2 RC
section
variable {P : Program} {w : World} {K : PySem.W.Frag} {mg : Str → Option Value} {base : Heap}
/-! ### the law -/
theorem perm_pick {α : Type _} {x : α} {xs ys : List α} (k : Nat) (h : ys[k]? = some x) (p : xs.Perm (ys.eraseIdx k)) : (x :: xs).Perm ys := by
  refine (p.cons x).trans ?_
  clear p
  induction ys generalizing k with
  | nil => cases h
  | cons y t ih =>
    cases k with
    | zero => cases h; exact .refl _
    | succ k => exact (List.Perm.swap y x _).trans ((ih k h).cons y)
theorem _root_.RS.Wd.pick {H : Hp} {s l : Addr} {n : Nat} {ds : List RS.Comp} (W : RS.Wd H s l n ds) (is : List Nat) (nd : is.Nodup) : RS.Wd H s l n (is.filterMap fun i => ds[i]?) := by
  have h := RS.Wd.pickL is (ds := ds) (cs := []) (by rw [List.append_nil]; exact W) nd
  rwa [List.append_nil] at h
def Told (X : Hp) (m : TM) (p : Addr) : Prop := ∃ (a b c : Addr) (zs : List Str) (rs : List Addr), zs.Perm m.names ∧ sortedS zs = true ∧ ToldAt X m zs p a b c rs
theorem Told.same {X Y : Hp} {m : TM} {p : Addr} (s : Same X Y) (h : Told X m p) : Told Y m p := let ⟨a, b, c, zs, rs, h1, h2, h3⟩ := h; ⟨a, b, c, zs, rs, h1, h2, h3.same s⟩
def spLaw (K : PySem.W.Frag) : Sp := fun vs H Q _ => ∃ (a : Addr) (ns : List Int), vs = [.ref a] ∧ ns.length ≤ 63 ∧ SqL K H a (ns.map V.int) ∧ ∀ H', Q (.bl true) H'
theorem law_body (T : Txt P w K mg) {f : Addr} {cdv : Value} {A : Around} {outer : List Env} {st0 : Shared} {E : XK} {vs : List V} {H : Hp} {Q : VK} (hr : Room 9 (A.deeper (envOfC "law" (defScope s_law) st0.heap.objs.size f cdv))) (hsp : spLaw K vs H Q E)
    (c__law_draw : Callable P w K mg base 1 (He.ga K "_law_draw") ["_law_s", "_law_many"] [] spDraw)
    (c__law_pick : Callable P w K mg base 2 (He.ga K "_law_pick") ["_law_s", "_law_some"] [] (spPick K))
    (c__law_name : Callable P w K mg base 3 (He.ga K "_law_name") ["_law_s", "_law_most"] [] spName)
    (c__law_order : Callable P w K mg base 2 (He.ga K "_law_order") ["_law_s", "_law_some"] [] (spOrder K))
    (c__law_same : Callable P w K mg base 6 (He.ga K "_law_same") ["_law_found", "_law_due"] [] (spSame 5))
    (c__law_tree : Callable P w K mg base 1 (He.ga K "_law_tree") [] [] spTree)
    (c__law_handlers : Callable P w K mg base 5 (He.ga K "_law_handlers") ["_law_s", "_law_yard", "_law_m", "_law_many"] [] (spLawHsX K))
    (c__law_set : Callable P w K mg base 5 (He.ga K "_law_set") ["_law_yard", "_law_pool", "_law_row"] [] (spSetR K))
    (c__law_all_told : Callable P w K mg base 5 (He.ga K "_law_all_told") ["_law_yard"] [] (spTold K))
    (c_Yard_init_d1 : Callable P w K mg base 5 (He.ma K (He.ga K "Yard") "__init__") ["self", "now"] [.int 0] (spYardInit K))
    (c_Yard_getLogger : Callable P w K mg base 4 (He.ma K (He.ga K "Yard") "getLogger") ["self", "name"] [] (spGetLogR K))
    (c_Logger_log_d2 : Callable P w K mg base 8 (He.ma K (He.ga K "Logger") "log") ["self", "level", "msg", "args", "extra"] [.ref (He.dflAt ("Logger", some "log") 0 K), .non] (spLog K))
    (c_Yard_streams : Callable P w K mg base 1 (He.ma K (He.ga K "Yard") "streams") ["self"] [] (spStreams K))
    (c_Yard_text : Callable P w K mg base 1 (He.ma K (He.ga K "Yard") "text") ["self", "stream"] [] (spText K)) :
    ∃ t, PSs (cxOf CX0 P w K mg base nm_law "law" (defScope s_law) f cdv A outer st0 H E).nox (defBody s_law) t ∧ t { nx := fun _ H' => Q .non H', rt := Q } (start nm_law vs) H := by
  obtain ⟨a, ns, rfl, hn, hS, hQ⟩ := hsp
  obtain ⟨t1, hrows, qrows⟩ := rows_turn (f := f) (cdv := cdv) (outer := outer) (st0 := st0) (H := H) (E := E) T hr c__law_draw c__law_pick c__law_name c__law_order
  obtain ⟨t2, hset, qset⟩ := set_turn (f := f) (cdv := cdv) (outer := outer) (st0 := st0) (H := H) (E := E) T hr c__law_order c__law_set
  obtain ⟨t3, hlog, qlog⟩ := log_turn (f := f) (cdv := cdv) (outer := outer) (st0 := st0) (H := H) (E := E) T hr c_Yard_getLogger c_Logger_log_d2
  refine ⟨_, (pss_cons (ps_set (i := 1) sc_law.nd rfl (by first | exact Or.inl rfl | exact Or.inr rfl) (pe_lst (pa_cons (pe_callTy call_list_of (by rfl) T.b_list (by decide +kernel) (pa_cons (pv 0) pa_nil)) (pa_cons pe_int (pa_cons pe_int (pa_cons pe_int pa_nil))))))
      (pss_cons (ps_par3 (by rfl) sc_law.nd (i := 2) (j := 3) (l := 4) rfl rfl rfl (by decide) (by decide) (by decide) rfl rfl rfl (pa_cons (pe_lst pa_nil) (pa_cons (pe_lst (pa_cons (pe_mk0 T.k_Yard T.g_Yard c_Yard_init_d1 (hr.mono (by first | decide | exact Nat.le_refl _)) (by rfl)) (pa_cons (pe_mk0 T.k_Yard T.g_Yard c_Yard_init_d1 (hr.mono (by first | decide | exact Nat.le_refl _)) (by rfl)) pa_nil))) (pa_cons (pe_fn0 T.g__law_tree c__law_tree (hr.mono (by first | decide | exact Nat.le_refl _)) (by rfl)) pa_nil))) (by rfl))
      (pss_cons (ps_set (i := 5) sc_law.nd rfl (by first | exact Or.inl rfl | exact Or.inr rfl) (pe_lst (pa_cons (pe_callTy call_list_of (by rfl) T.b_list (by decide +kernel) (pa_cons (pe_ix ix_list (pv 1) pe_int (fun _ _ => rfl)) pa_nil)) (pa_cons (pe_ix ix_list (pv 1) pe_int (fun _ _ => rfl)) (pa_cons (pe_ix ix_list (pv 1) pe_int (fun _ _ => rfl)) (pa_cons (pe_ix ix_list (pv 1) pe_int (fun _ _ => rfl)) pa_nil))))))
      (pss_cons (ps_set (i := 6) sc_law.nd rfl (by first | exact Or.inl rfl | exact Or.inr rfl) (pe_lst (pa_cons (pe_fn T.g__law_handlers c__law_handlers (hr.mono (by first | decide | exact Nat.le_refl _)) (by rfl) (pa_cons (pv 5) (pa_cons (pe_ix ix_list (pv 3) pe_int (fun _ _ => rfl)) (pa_cons (pv 4) (pa_cons pe_int pa_nil))))) (pa_cons (pe_fn T.g__law_handlers c__law_handlers (hr.mono (by first | decide | exact Nat.le_refl _)) (by rfl) (pa_cons (pv 1) (pa_cons (pe_ix ix_list (pv 3) pe_int (fun _ _ => rfl)) (pa_cons (pv 4) (pa_cons pe_int pa_nil))))) pa_nil))))
      (pss_cons (ps_for PassesOwn.never rfl (pi_range1 (by rfl) T.b_range (pa_cons (pe_op op_add pe_int (pe_fn T.g__law_draw c__law_draw (hr.mono (by first | decide | exact Nat.le_refl _)) (by rfl) (pa_cons (pv 1) (pa_cons pe_int pa_nil)))) pa_nil)) (pg_name (i := 7) sc_law.nd rfl (by first | exact Or.inl rfl | exact Or.inr rfl)) hrows)
      (pss_cons (ps_for PassesOwn.never rfl (pi_zip (by rfl) T.b_zip (pa_cons (pv 3) (pa_cons (pv 6) pa_nil))) (RG.pg_tupK (K := K) (n := 2) (by rfl) (pgs_cons (pg_name (i := 11) sc_law.nd rfl (by first | exact Or.inl rfl | exact Or.inr rfl)) (pgs_cons (pg_name (i := 12) sc_law.nd rfl (by first | exact Or.inl rfl | exact Or.inr rfl)) pgs_nil))) hset)
      (pss_cons (ps_asg (pe_lc (own := [("_law_yard", 11)]) (by rfl) sc_law.nd (pi_list (pv 3)) (blkOk_by (own := [("_law_yard", 11)]) (N := nm_law) (sc := defScope s_law) (by decide +kernel)) (fun _ _ _ _ _ => (pg_name (i := 11) sc_law.nd rfl (by first | exact Or.inl rfl | exact Or.inr rfl))) (fun _ _ _ _ _ => pts_nil) (fun _ _ _ _ _ => (pe_fn T.g__law_all_told c__law_all_told (hr.mono (by first | decide | exact Nat.le_refl _)) (by rfl) (pa_cons (pv 11) pa_nil)))) (RUl.pg_unL (K := K) (n := 2) (by rfl) (pgs_cons (pg_name (i := 13) sc_law.nd rfl (by first | exact Or.inl rfl | exact Or.inr rfl)) (pgs_cons (pg_name (i := 14) sc_law.nd rfl (by first | exact Or.inl rfl | exact Or.inr rfl)) pgs_nil))))
      (pss_cons (ps_if (PW.pt (pw_or (pt_not (pt_val (pe_fn T.g__law_same c__law_same (hr.mono (by first | decide | exact Nat.le_refl _)) (by rfl) (pa_cons (pv 13) (pa_cons (pv 14) pa_nil))))) (pw_or1 (pt_cmpR (RY.op_neV (Nat.lt_of_succ_lt (hu_of hr))) (pe_ix ix_tup (pv 13) pe_int (fun _ _ => rfl)) (pe_callB cr_sortedS (by rfl) T.b_sorted (by decide +kernel) (pa_cons (pe_lc (own := [("_law_row", 9)]) (by rfl) sc_law.nd (pi_list (pv 2)) (blkOk_by (own := [("_law_row", 9)]) (N := nm_law) (sc := defScope s_law) (by decide +kernel)) (fun _ _ _ _ _ => (pg_name (i := 9) sc_law.nd rfl (by first | exact Or.inl rfl | exact Or.inr rfl))) (fun _ _ _ _ _ => pts_nil) (fun _ _ _ _ _ => (pe_ix (ixK (K := K) rIxT ix_tup) (pv 9) pe_int (fun _ _ => rfl)))) pa_nil)) (nomark _))))) (pss_one (ps_ret pe_bl)) pss_nil)
      (pss_cons (ps_for PassesOwn.never rfl (pi_list (pe_op op_cat (pe_lc (own := [("_law_row", 9)]) (by rfl) sc_law.nd (pi_list (pv 2)) (blkOk_by (own := [("_law_row", 9)]) (N := nm_law) (sc := defScope s_law) (by decide +kernel)) (fun _ _ _ _ _ => (pg_name (i := 9) sc_law.nd rfl (by first | exact Or.inl rfl | exact Or.inr rfl))) (fun _ _ _ _ _ => pts_nil) (fun _ _ _ _ _ => (pe_ix (ixK (K := K) rIxT ix_tup) (pv 9) pe_int (fun _ _ => rfl)))) (pe_lst (pa_cons pe_str (pa_cons pe_str (pa_cons pe_str (pa_cons pe_str pa_nil))))))) (pg_name (i := 8) sc_law.nd rfl (by first | exact Or.inl rfl | exact Or.inr rfl)) hlog)
      (pss_cons (ps_setLc (i := 16) (own := [("_law_yard", 11)]) (by rfl) sc_law.nd rfl rfl (sw_true rfl rfl rfl (by decide +kernel)) (pi_list (pv 3)) (blkOk_by (own := [("_law_yard", 11)]) (N := nm_law) (sc := defScope s_law) (by decide +kernel)) (fun _ _ _ _ _ => (pg_name (i := 11) sc_law.nd rfl (by first | exact Or.inl rfl | exact Or.inr rfl))) (fun _ _ _ _ _ => pts_nil) (fun _ _ _ _ _ => (pe_lc (own := [("_law_stream", 17)]) (by rfl) sc_law.nd (RUl.pi_listK (K := K) (pe_mt0 T.c_Yard T.m_Yard_streams c_Yard_streams (hr.mono (by first | decide | exact Nat.le_refl _)) (pv 11))) (blkOk_by (own := [("_law_stream", 17)]) (by kernel_rfl)) (fun _ _ _ _ _ => (pg_name (i := 17) sc_law.nd rfl (by first | exact Or.inl rfl | exact Or.inr rfl))) (fun _ _ _ _ _ => pts_nil) (fun _ _ _ _ _ => (pe_tup (pa_cons (pv 17) (pa_cons (pe_mt T.c_Yard T.m_Yard_text c_Yard_text (hr.mono (by first | decide | exact Nat.le_refl _)) (pv 11) (pa_cons (pv 17) pa_nil)) pa_nil)))))))
      (pss_one (ps_ret (pe_cmpR (RQE.op_eqS hr.units) (pe_ix ix_list (pv 16) pe_int (fun _ _ => rfl)) (pe_ix ix_list (pv 16) pe_int (fun _ _ => rfl)) (nomark _)))))))))))))), ?_⟩
  walk_at "in"
  refine ⟨_, rfl, a, ns.map V.int, rfl, .inl hS, fun l hl => ⟨(by show 4 ≤ sizeLine; decide), fun s hs => ?_⟩⟩
  have X1 : StX (upd (upd H l (.lst (ns.map V.int))) s (.lst [.ref l, .int 0, .int 0, .int 0])) s l ⟨ns, 0, 0, 0⟩ 0 := by
    have n1 := (upd_none hs).1
    exact ⟨n1, upd_same, by rw [upd_ne (Ne.symm n1)]; exact upd_same, hn, Int.le_refl 0, Int.le_refl 0, Int.le_refl 0, Int.le_refl 0, (by show (0 : Int) < 2147483647; decide)⟩
  generalize upd (upd H l (.lst (ns.map V.int))) s (.lst [.ref l, .int 0, .int 0, .int 0]) = H1 at X1
  have W1 : RS.Wd H1 s l 0 [] := ⟨X1.stm, fun c h => (by cases h), .nil, fun c h => (by cases h)⟩
  have W1 := W1.g0'
  walk_at "go"
  intro RL fRL
  have W2 := W1.new (o := .lst []) fRL
  have X2 := X1.same (same_new fRL (.lst []))
  clear W1 X1
  generalize upd H1 RL (.lst []) = H2 at W2 X2 ⊢
  walk_at "go"
  intro y dy hy hdy hne
  refine ⟨y, dy, 0, rfl, upd_same, fun H3 q N => ⟨rfl, ?_⟩⟩
  obtain ⟨a0, ea0, R3, f3, S3⟩ := YNew.rep hy hdy hne N
  have W3 := W2.add (c := cY K (TM.m0 K) a0) S3 R3 f3
  have X3 := X2.same S3
  clear N W2 X2 S3 R3 f3 hy hdy hne
  intro y1 dy1 hy hdy hne
  refine ⟨y1, dy1, 0, rfl, upd_same, fun H4 q1 N => ⟨rfl, ?_⟩⟩
  obtain ⟨a1, ea1, R4, f4, S4⟩ := YNew.rep hy hdy hne N
  have W4 := W3.add (c := cY K (TM.m0 K) a1) S4 R4 f4
  have X4 := X3.same S4
  clear N W3 X3 S4 R4 f4 hy hdy hne
  subst ea0
  subst ea1
  walk_at "go"
  intro YL fYL
  have L5 := (W4.perm (perm_pick 3 rfl (perm_pick 0 rfl (perm_pick 0 rfl (perm_pick 0 rfl .nil))))).lay (o := .lst [.ref (a0 .y), .ref (a1 .y)]) fYL
  have W5 := L5.1
  have gYL : upd (fun _ => none) YL (.lst [.ref (a0 .y), .ref (a1 .y)]) YL = some (.lst [.ref (a0 .y), .ref (a1 .y)]) := upd_same
  generalize upd (fun _ => none) YL (.lst [.ref (a0 .y), .ref (a1 .y)]) = G5 at W5 gYL
  have X5 := X4.same (same_new fYL (.lst [.ref (a0 .y), .ref (a1 .y)]))
  clear L5 W4 X4
  walk_at "go"
  intro H6 A h t u b4 b5 ou Gr0
  have gm := Gr0.has (A.m, .dK (mdK A (.int 0) h t)) (by simp)
  have gh := Gr0.has (h, .lst []) (by simp)
  have nhm : h ≠ A.m := fun z => by have e := gh.2; rw [show (h, HO.lst []).1 = A.m from z, gm.2] at e; cases e
  have W6 : RS.Wd H6 s l 0 [RS.cell h (.lst []), RS.cell A.m (.dK (mdK A (.int 0) h t)), RS.cG G5, cY K (TM.m0 K) a1, cY K (TM.m0 K) a0, RS.cell RL (.lst [])] := W5.addL Gr0.sm [(h, .lst []), (A.m, .dK (mdK A (.int 0) h t))] (by simpa using nhm) (fun x hx => by
    simp only [List.mem_cons, List.not_mem_nil, or_false] at hx
    rcases hx with rfl | rfl
    · exact gh
    · exact gm)
  have X6 := X5.same Gr0.sm
  have W6b : RS.Wd H6 s l 0 [RS.cG G5, RS.cell A.m (.dK (mdK A (.int 0) h t)), RS.cell h (.lst []), cY K (TM.m0 K) a1, cY K (TM.m0 K) a0, RS.cell RL (.lst [])] := W6.pick [2, 1, 0, 3, 4, 5] (by decide)
  have L6 := W6b.take
  have W6 : RS.Wd H6 s l 0 [RS.cG (upd G5 A.m (.dK (mdK A (.int 0) h t))), RS.cell h (.lst []), cY K (TM.m0 K) a1, cY K (TM.m0 K) a0, RS.cell RL (.lst [])] := L6.1
  have gYL := same_new L6.2 (.dK (mdK A (.int 0) h t)) _ _ gYL
  have gM : upd G5 A.m (.dK (mdK A (.int 0) h t)) A.m = some (.dK (mdK A (.int 0) h t)) := upd_same
  have hkv : valV (mdK A (.int 0) h t) (Sum.inr "handlers") = some (.ref h) := rfl
  generalize upd G5 A.m (.dK (mdK A (.int 0) h t)) = G6 at W6 gYL gM
  generalize mdK A (.int 0) h t = kvs at gM hkv
  generalize A.m = M at gM ⊢
  clear Gr0 gm gh nhm L6 X5 W5 fYL
  clear W6b
  have hs6 := X6.hs
  have hl6 := X6.hl
  walk_at "go"
  refine ⟨.inl (SqL.of hl6), ?_⟩
  intro l2 fl2
  have W7 := W6.new (o := .lst (ns.map V.int)) fl2
  have X7 := X6.same (same_new fl2 (.lst (ns.map V.int)))
  have hl27 := upd_same (H := H6) (a := l2) (o := .lst (ns.map V.int))
  clear hs6 hl6
  generalize upd H6 l2 (.lst (ns.map V.int)) = H7 at W7 X7 hl27 ⊢
  clear W6 X6 fl2
  have hs7 := X7.hs
  walk_at "go"
  intro s2 fs2
  have ns2 : s2 ≠ l2 := fun z => by rw [z, hl27] at fs2; cases fs2
  have W8 := W7.new (o := .lst [.ref l2, .int 0, .int 0, .int 0]) fs2
  have X8 := X7.same (same_new fs2 (.lst [.ref l2, .int 0, .int 0, .int 0]))
  have Y8 : StX (upd H7 s2 (.lst [.ref l2, .int 0, .int 0, .int 0])) s2 l2 ⟨ns, 0, 0, 0⟩ 0 := ⟨ns2, upd_same, by rw [upd_ne (Ne.symm ns2)]; exact hl27, hn, Int.le_refl 0, Int.le_refl 0, Int.le_refl 0, Int.le_refl 0, (by show (0 : Int) < 2147483647; decide)⟩
  generalize upd H7 s2 (.lst [.ref l2, .int 0, .int 0, .int 0]) = H8 at W8 X8 Y8 ⊢
  clear W7 X7 hs7 hl27 fs2
  have W8 : RS.Wd H8 s2 l2 0 [RS.cell s (.lst [.ref l, .int 0, .int 0, .int 0]), RS.cell l (.lst (ns.map V.int)), RS.cG G6, RS.cell h (.lst []), cY K (TM.m0 K) a1, cY K (TM.m0 K) a0, RS.cell RL (.lst [])] := W8.turnS Y8.stm X8.hs X8.hl
  have W8 : RS.Wd H8 s2 l2 0 [cY K (TM.m0 K) a0, RS.cell h (.lst []), RS.cG G6, RS.cell s (.lst [.ref l, .int 0, .int 0, .int 0]), RS.cell l (.lst (ns.map V.int)), cY K (TM.m0 K) a1, RS.cell RL (.lst [])] := W8.pick [5, 3, 2, 0, 1, 4, 6] (by decide)
  have hY8 := W8.g2 _ _ gYL
  walk_at "go"
  refine ⟨m0_ok K, rfl, by decide, by decide, fun H9 P0 ⟨m, ad, xs, n', W9, O9, P9, y9, lx, ln, eh, X9⟩ => ?_⟩
  clear W8 X8 Y8 hY8
  have W9 : RS.Wd H9 s2 l2 n' [RS.cell s (.lst [.ref l, .int 0, .int 0, .int 0]), RS.cell l (.lst (ns.map V.int)), cY K m ad, RS.cell h (.lst xs), RS.cell P0 (.lst ((List.range 3).map fun j => .ref (ad (.hd j)))), RS.cG G6, cY K (TM.m0 K) a1, RS.cell RL (.lst [])] := W9.pick [4, 5, 0, 1, 2, 3, 6, 7] (by decide)
  have Z9 : StX H9 s l ⟨ns, 0, 0, 0⟩ 0 := ⟨fun z => (List.pairwise_cons.mp W9.pw).1 _ List.mem_cons_self () _ rfl () _ rfl z, W9.c0, W9.tl.c0, hn, Int.le_refl 0, Int.le_refl 0, Int.le_refl 0, Int.le_refl 0, (by show (0 : Int) < 2147483647; decide)⟩
  have W9 := (W9.turnS Z9.stm X9.hs X9.hl).tl.tl
  clear X9
  have W9 : RS.Wd H9 s l 0 [RS.cG G6, RS.cell P0 (.lst ((List.range 3).map fun j => .ref (ad (.hd j)))), cY K m ad, RS.cell h (.lst xs), cY K (TM.m0 K) a1, RS.cell RL (.lst [])] := W9.pick [3, 2, 0, 1, 4, 5] (by decide)
  have L9 := W9.take
  have sG := same_new L9.2 (.lst ((List.range 3).map fun j => .ref (ad (.hd j))))
  have gP0 := upd_same (H := G6) (a := P0) (o := .lst ((List.range 3).map fun j => .ref (ad (.hd j))))
  have W9 := L9.1
  clear L9
  generalize upd G6 P0 (.lst ((List.range 3).map fun j => .ref (ad (.hd j)))) = G7 at W9 sG gP0
  have gYL := sG _ _ gYL
  have gM := sG _ _ gM
  clear sG
  have W9 : RS.Wd H9 s l 0 [cY K (TM.m0 K) a1, RS.cell h (.lst xs), RS.cG G7, cY K m ad, RS.cell RL (.lst [])] := W9.pick [3, 2, 0, 1, 4] (by decide)
  have hY9 := W9.g2 _ _ gYL
  have lx3 : xs.length ≤ 20 := by rw [lx]; decide
  walk_at "go"
  refine ⟨m0_ok K, rfl, by decide, by decide, fun H10 P1 ⟨m', ad', xs', n2, W10, O10, P10, y10, lx', ln', eh', X10⟩ => ?_⟩
  have em : m' = m := by rw [P10.eq, P9.eq, eh', eh]
  subst em
  clear W9 Z9 hY9 lx3 eh eh' P9 O9 X10 gM hkv lx lx'
  have W10 : RS.Wd H10 s l n2 [RS.cG G7, RS.cell P1 (.lst ((List.range 3).map fun j => .ref (ad' (.hd j)))), cY K m' ad', cY K m' ad, RS.cell RL (.lst [])] := W10.pick [3, 2, 0, 4, 5] (by decide)
  have L10 := W10.take
  have sG := same_new L10.2 (.lst ((List.range 3).map fun j => .ref (ad' (.hd j))))
  have gP1 := upd_same (H := G7) (a := P1) (o := .lst ((List.range 3).map fun j => .ref (ad' (.hd j))))
  have W10 := L10.1
  clear L10
  generalize upd G7 P1 (.lst ((List.range 3).map fun j => .ref (ad' (.hd j)))) = G8 at W10 sG gP1
  have gYL := sG _ _ gYL
  have gP0 := sG _ _ gP0
  clear sG
  walk_at "go"
  intro PL fPL
  have L11 := W10.lay (o := .lst [.ref P0, .ref P1]) fPL
  have gPL := upd_same (H := G8) (a := PL) (o := .lst [.ref P0, .ref P1])
  have W11 := L11.1
  have sG := L11.2
  clear L11 fPL W10
  generalize upd G8 PL (.lst [.ref P0, .ref P1]) = G9 at W11 sG gPL
  generalize upd H10 PL (.lst [.ref P0, .ref P1]) = H11 at W11 ⊢
  have gYL := sG _ _ gYL
  have gP0 := sG _ _ gP0
  have gP1 := sG _ _ gP1
  clear sG
  have W11 : RS.Wd H11 s l n2 [RS.cG G9, RS.cell RL (.lst []), cY K m' ad', cY K m' ad] := W11.pick [0, 3, 1, 2] (by decide)
  have st11 := W11.stm
  have ln2 : n2 ≤ 30 := ln'
  refine ⟨_, rfl, s, l, n2, 8, rfl, st11, by omega, by decide, by decide, fun H12 c q12 st12 c0 c1 => ?_⟩
  have W12 := W11.old q12 st12
  clear W11 q12 st12 st11
  obtain ⟨e, rfl⟩ : ∃ e : Nat, c = (e : Int) := ⟨c.toNat, by omega⟩
  refine ⟨1, (e : Int), rfl, rfl, _, rfl, by omega, by omega, ?_⟩
  have I12 : RowsI s l RL G9 [cY K m' ad', cY K m' ad] (n2 + 1) 0 H12 := ⟨[], [], G9, W12, Same.refl _, rfl, (fun j a r h1 h2 => by simp at h2), (fun _ h => by cases h), List.nodup_nil, Nat.le_refl _⟩
  clear W12
  refine for_it walk_range (fun i σ H' => RowsI s l RL G9 [cY K m' ad', cY K m' ad] (n2 + 1) i H' ∧ ∃ o7 o8 o9 o10, σ = sgR a s RL YL M s2 PL o7 o8 o9 o10) ⟨I12, _, _, _, _, rfl⟩ (fun _ _ _ _ _ => trivial) (fun i x σ H9 H13 hi hP hx => ?_) (fun σ H13 hP => ?_)
  · obtain ⟨rfl, rfl⟩ := hx
    obtain ⟨I13, o7, o8, o9, o10, rfl⟩ := hP
    exact qrows i H13 _ I13 (by omega) (by omega) o8 o9 o10 fun σ H' I' h' => ⟨I', h'⟩
  obtain ⟨⟨rs, as, Ga, W13, sG, hln, hat, hok, hnd, hle⟩, o7, o8, o9, o10, rfl⟩ := hP
  have hl8 : rs.length ≤ 8 := by omega
  generalize hN : n2 + 1 + 300 * (1 + (e : Int)).toNat = N at W13
  have hN1 : N ≤ 10000 := by omega
  have W13 := W13.take
  have sG2 := same_new W13.2 (.lst (as.map V.ref))
  have gRL := upd_same (H := Ga) (a := RL) (o := .lst (as.map V.ref))
  have W13 := W13.1
  have hat : ∀ (j : Nat) (a : Addr) (r : Row), as[j]? = some a → rs[j]? = some r → RowAt (upd Ga RL (.lst (as.map V.ref))) a r := fun j a r h1 h2 => (hat j a r h1 h2).same sG2
  have sG := sG.trans sG2
  generalize upd Ga RL (.lst (as.map V.ref)) = G at W13 gRL hat sG
  have gYL := sG _ _ gYL
  have gPL := sG _ _ gPL
  have gP0 := sG _ _ gP0
  have gP1 := sG _ _ gP1
  clear sG sG2 I12 hle hN c0 c1
  have hY13 := W13.g0 _ _ gYL
  have hP13 := W13.g0 _ _ gPL
  have pool0 : poolL m' ad = (List.range 3).map fun j => V.ref (ad (.hd j)) := by unfold poolL; rw [P10.ln]
  have pool1 : poolL m' ad' = (List.range 3).map fun j => V.ref (ad' (.hd j)) := by unfold poolL; rw [P10.ln]
  rw [← pool0] at gP0
  rw [← pool1] at gP1
  have hnm : m'.names = [] := by rw [P10.eq]; rfl
  have htx : m'.texts = [] := by rw [P10.eq]; rfl
  have hnms : m'.nms = nms0 K := by rw [P10.eq]; rfl
  have h3 := P10.ln
  have hal := P10.al
  clear pool0 pool1 P10
  rw [← y9] at gYL hY13
  rw [← y10] at gYL hY13
  refine ⟨_, rfl, _, rfl, YL, PL, [.ref (ad .y), .ref (ad' .y)], [.ref P0, .ref P1], rfl, SqL.of hY13, SqL.of hP13, ?_⟩
  refine for_it (walk_zip (xs := [.ref (ad .y), .ref (ad' .y)]) (ys := [.ref P0, .ref P1]) (n := 2) rfl) (fun i σ H' => ∃ G', Same G G' ∧ ((i = 0 ∧ RS.Wd H' s l N [cY K m' ad, RS.cG G', cY K m' ad']) ∨ (i = 1 ∧ ∃ rs0 ad0, rs0.Perm rs ∧ SetI K s l G' [cY K m' ad'] (N + 8) m' ad rs0 H' ad0) ∨ (i = 2 ∧ ∃ rs0 ad0 rs1 ad1, rs0.Perm rs ∧ rs1.Perm rs ∧ SetI K s l G' [cY K (m'.rows rs0) ad0] (N + 16) m' ad' rs1 H' ad1 ∧ (m'.rows rs0).Ok ∧ ad0 .y = ad .y)) ∧ ∃ o7 o8 o9 o10 o11 o12, σ = sgS a s RL YL M s2 PL o7 o8 o9 o10 o11 o12) ⟨G, Same.refl _, .inl ⟨rfl, W13.pick [2, 0, 1] (by decide)⟩, _, _, _, _, _, _, rfl⟩ (fun i σ H' _ h => ?_) (fun i v σ H9 H14 hi hP hv => ?_) (fun σ H14 hP => ?_)
  · obtain ⟨G', sG', h, _⟩ := h
    have sm : Same G' H' := by
      rcases h with ⟨_, W⟩ | ⟨_, _, _, _, I⟩ | ⟨_, _, _, _, _, _, _, I, _⟩
      · exact W.g1
      · exact I.W.g1
      · exact I.W.g1
    exact ⟨SqL.of (sm _ _ (sG' _ _ gYL)), SqL.of (sm _ _ (sG' _ _ gPL))⟩
  · obtain ⟨Tp, x, y, rfl, fT, rfl, hx, hy⟩ := hv
    obtain ⟨G', sG', hw, o7, o8, o9, o10, o11, o12, rfl⟩ := hP
    have qT := upd_same (H := H9) (a := Tp) (o := .tup [x, y])
    have sT := same_new fT (.tup [x, y])
    generalize upd H9 Tp (.tup [x, y]) = H14 at qT sT ⊢
    refine ⟨Tp, _, rfl, SqT.of qT, rfl, ?_⟩
    clear qT fT
    have at' : ∀ {Gx : Hp}, Same G' Gx → ∀ (j : Nat) (a : Addr) (r : Row), as[j]? = some a → rs[j]? = some r → RowAt Gx a r := fun z j a r h1 h2 => (hat j a r h1 h2).same (sG'.trans z)
    rcases hw with ⟨rfl, W⟩ | ⟨rfl, rs0, ad0, pm0, I⟩ | ⟨rfl, _⟩
    · cases hx
      cases hy
      refine ⟨_, _, rfl, _, _, rfl, rfl, ?_⟩
      exact qset H14 _ (W.same sT) O10 h3 hnm (sG' _ _ gRL) (sG' _ _ gP0) hln (at' (Same.refl _)) hok hnd hl8 (by omega) o7 o8 o9 o10 fun σ H' rs' G2 ad2 pm s2 I2 ⟨o9', e9⟩ => ⟨G2, sG'.trans s2, .inr (.inl ⟨rfl, rs', ad2, pm, I2⟩), _, _, _, _, _, _, e9⟩
    · cases hx
      cases hy
      have W : RS.Wd H14 s l (N + 8) [cY K m' ad', RS.cG G', cY K (m'.rows rs0) ad0] := (I.W.same sT).pick [2, 1, 0] (by decide)
      refine ⟨_, _, rfl, _, _, rfl, rfl, ?_⟩
      exact qset H14 _ W O10 h3 hnm (sG' _ _ gRL) (sG' _ _ gP1) hln (at' (Same.refl _)) hok hnd hl8 (by omega) o7 o8 o9 o10 fun σ H' rs' G2 ad2 pm s2 I2 ⟨o9', e9⟩ => ⟨G2, sG'.trans s2, .inr (.inr ⟨rfl, rs0, ad0, rs', ad2, pm0, pm, I2, I.O, I.y⟩), _, _, _, _, _, _, e9⟩
    · exact absurd hi (Nat.lt_irrefl 2)
  obtain ⟨G', sG', hw, o7, o8, o9, o10, o11, o12, rfl⟩ := hP
  rcases hw with ⟨z, _⟩ | ⟨z, _⟩ | ⟨_, rs0, ad0, rs1, ad1, pm0, pm1, I, O0, ya0⟩
  · exact nomatch (show (2 : Nat) = 0 from z)
  · exact nomatch (show (2 : Nat) = 1 from z)
  have W14 := I.W
  have ya1 := I.y
  have O1 := I.O
  clear I W13 hY13 hP13
  have gYL := sG' _ _ gYL
  have gRL := sG' _ _ gRL
  have hat : ∀ (j : Nat) (a : Addr) (r : Row), as[j]? = some a → rs[j]? = some r → RowAt G' a r := fun j a r h1 h2 => (hat j a r h1 h2).same sG'
  clear sG' gPL gP0 gP1
  rw [← ya0, ← ya1] at gYL
  have nd0 : (rs0.map (·.x)).Nodup := (pm0.map (·.x)).nodup_iff.mpr hnd
  have nd1 : (rs1.map (·.x)).Nodup := (pm1.map (·.x)).nodup_iff.mpr hnd
  have new : ∀ r ∈ rs, r.x ∉ m'.all ∧ r.js.Nodup := fun r hr => by
    refine ⟨fun h => ?_, (hok r hr).nd⟩
    obtain ⟨qs, nm, e⟩ := (hok r hr).nm
    unfold TM.all at h
    rw [hnm] at h
    exact nm.ne.1 (by rw [← e]; exact List.mem_singleton.mp h)
  have new0 : ∀ r ∈ rs0, r.x ∉ m'.all ∧ r.js.Nodup := fun r hr => new r (pm0.mem_iff.mp hr)
  have new1 : ∀ r ∈ rs1, r.x ∉ m'.all ∧ r.js.Nodup := fun r hr => new r (pm1.mem_iff.mp hr)
  have tw : Tw (m'.rows rs0) (m'.rows rs1) := rows_perm (pm0.trans pm1.symm) (Tw.refl m') nd0 new0
  obtain ⟨en0, eh0, et0, ek0⟩ := rows_names rs0 m' nd0 new0
  obtain ⟨en1, eh1, et1, ek1⟩ := rows_names rs1 m' nd1 new1
  rw [hnm, List.nil_append] at en0 en1
  generalize m'.rows rs0 = A0 at W14 O0 tw en0 eh0 et0 ek0
  generalize m'.rows rs1 = A1 at W14 O1 tw en1 eh1 et1 ek1
  have W14 : RS.Wd H14 s l (N + 16) [RS.cG G', cY K A0 ad0, cY K A1 ad1] := W14.pick [1, 2, 0] (by decide)
  have pn0 : A0.names.Perm (rs.map (·.x)) := by rw [en0]; exact pm0.map _
  have pn1 : A1.names.Perm (rs.map (·.x)) := by rw [en1]; exact pm1.map _
  clear new0 new1 nd0 nd1 en0 en1 pm0 pm1
  have hY14 := W14.g0 _ _ gYL
  have R0 : YR K A0 ad0 H14 := W14.up1.hd
  have R1 : YR K A1 ad1 H14 := W14.up2.hd
  walk_at "go"
  intro D fD
  refine lc_it (walk_list (xs := [.ref (ad0 .y), .ref (ad1 .y)])) (fun i H' => Same H14 (rst (fun b => b = D) H') ∧ ((i = 0 ∧ H' D = some (.lst [])) ∨ (i = 1 ∧ ∃ p0, H' D = some (.lst [.ref p0]) ∧ Told (rst (fun b => b = D) H') A0 p0) ∨ (i = 2 ∧ ∃ p0 p1, H' D = some (.lst [.ref p0, .ref p1]) ∧ Told (rst (fun b => b = D) H') A0 p0 ∧ Told (rst (fun b => b = D) H') A1 p1))) ⟨fun b u e => rst_at (same_new fD _ _ _ e) (ne_of_none e fD), .inl ⟨rfl, upd_same⟩⟩ (fun i H' _ h => SqL.of ((h.1.trans rst_same) _ _ hY14)) (fun i v H9 H15 hi hP hv => ?_) (fun H15 hP => ?_)
  · obtain ⟨rfl, hv⟩ := hv
    obtain ⟨sm, hw⟩ := hP
    have s0 : Same H14 H15 := sm.trans rst_same
    have new : ∀ {X : Hp} {m : TM} {p : Addr} {o : HO}, (∃ u, H15 D = some u) → Same H15 X → Told (rst (fun b => H15 b ≠ none) X) m p → Told (rst (fun b => b = D) (upd X D o)) m p := fun ⟨u, hu⟩ s t => t.same (rst_next (fun b o n e => by
      rw [upd_ne fun z => n (by rw [z, hu]; exact fun z => nomatch z)]; exact e) fun b hb => .inl (by rw [hb, hu]; exact fun z => nomatch z))
    have old : ∀ {X : Hp} {m : TM} {p : Addr} {o : HO}, Same H15 X → Told (rst (fun b => b = D) H15) m p → Told (rst (fun b => b = D) (upd X D o)) m p := fun s t => t.same (rst_next (fun b o n e => by rw [upd_ne n]; exact s _ _ e) fun b hb => .inl hb)
    have keep : ∀ {X : Hp} {o : HO}, Same H15 X → Same H14 (rst (fun b => b = D) (upd X D o)) := fun s => sm.trans (rst_next (fun b o n e => by rw [upd_ne n]; exact s _ _ e) fun b hb => .inl hb)
    rcases hw with ⟨rfl, hD⟩ | ⟨rfl, p0, hD, t0⟩ | ⟨rfl, _⟩
    · have ev : V.ref (ad0 .y) = v := Option.some.inj hv
      subst ev
      have R0' : YR K A0 ad0 H15 := RR.Rep.same R0 s0
      walk_at "go"
      intro H4 p a b c zs rA s4 fp pm so ta
      exact ⟨_, s4 _ _ hD, (by rw [sizeLine_eq]; decide), keep s4, .inr (.inl ⟨rfl, p, upd_same, new ⟨_, hD⟩ s4 ⟨a, b, c, zs, rA, pm, so, ta⟩⟩)⟩
    · have ev : V.ref (ad1 .y) = v := Option.some.inj hv
      subst ev
      have R1' : YR K A1 ad1 H15 := RR.Rep.same R1 s0
      walk_at "go"
      intro H4 p a b c zs rA s4 fp pm so ta
      exact ⟨_, s4 _ _ hD, (by show 1 < sizeLine; rw [sizeLine_eq]; decide), keep s4, .inr (.inr ⟨rfl, p0, p, upd_same, old s4 t0, new ⟨_, hD⟩ s4 ⟨a, b, c, zs, rA, pm, so, ta⟩⟩)⟩
    · exact absurd hi (Nat.lt_irrefl 2)
  obtain ⟨sm, hw⟩ := hP
  have s0 : Same H14 H15 := sm.trans rst_same
  rcases hw with ⟨z, _⟩ | ⟨z, _⟩ | ⟨_, p0, p1, hD, t0, t1'⟩
  · exact nomatch (show (2 : Nat) = 0 from z)
  · exact nomatch (show (2 : Nat) = 1 from z)
  refine ⟨D, _, rfl, SqL.of hD, rfl, ?_⟩
  obtain ⟨ta, tb, tc, zs, rA, pz, so, tt0⟩ := t0
  obtain ⟨ua, ub, uc, zs', rB, pz', so', tt1⟩ := t1'
  obtain rfl : zs = zs' := RE.uniq (pz.trans (pn0.trans (pn1.symm.trans pz'.symm))) (RE.sorted_pw so) (RE.sorted_pw so')
  have hzl : zs.length ≤ 8 := by rw [(pz.trans pn0).length_eq, List.length_map]; exact hl8
  have tt0 := tt0.same rst_same
  have tt1 := tt1.same rst_same
  have sd : SameD H15 5 (.ref p0) (.ref p1) := told_same tw tt0 tt1 (by omega)
  have hp0 := tt0.p_
  have ha0 := tt0.a_
  have W15 := W14.same s0
  clear tt1 tt0 sm s0 hD hY14 R0 R1 W14 pz' so' fD
  walk_at "go"
  intro H16 s16
  have hp0 := s16 _ _ hp0
  have ha0 := s16 _ _ ha0
  have W16 := W15.same s16
  have hRL16 := W16.g0 _ _ gRL
  clear sd W15 s16
  walk_at "go"
  intro D2 fD2
  refine lc_it (walk_list (xs := as.map V.ref)) (fun i H' => Same H16 H' ∧ H' D2 = some (.lst ((rs.take i).map fun r => V.str r.x))) ⟨same_new fD2 _, upd_same⟩ (fun i H' _ h => SqL.of (h.1 _ _ hRL16)) (fun i y H8 H7 hi hP hy => ?_) (fun H17 hP => ?_)
  · obtain ⟨rfl, hy⟩ := hy
    obtain ⟨s7, d7⟩ := hP
    rw [List.getElem?_map] at hy
    obtain ⟨p, hp, rfl⟩ := Option.map_eq_some_iff.mp hy
    have hl := (List.getElem?_eq_some_iff.mp hp).1
    rw [hln] at hl
    obtain ⟨q, hq1, hq2⟩ := hat i p _ hp (List.getElem?_eq_getElem hl)
    have hpt := s7 _ _ (W16.g0 _ _ hq1)
    have ln : ((rs.take i).map fun r => V.str r.x).length < sizeLine := by rw [List.length_map, List.length_take, sizeLine_eq]; omega
    walk_at "go"
    rw [upd_same]
    have et := List.take_add_one (l := rs) (i := i)
    rw [List.getElem?_eq_getElem hl] at et
    rw [et, List.map_append]; rfl
  obtain ⟨s17, d17⟩ := hP
  rw [List.length_map, hln, List.take_length] at d17
  have d17 : H17 D2 = some (.lst ((rs.map (·.x)).map V.str)) := by rw [List.map_map]; exact d17
  clear fD2
  have hp0 := s17 _ _ hp0
  have ha0 := s17 _ _ ha0
  have W17 := W16.same s17
  refine ⟨D2, _, rfl, SqL.of d17, by rw [List.length_map]; omega, fun ys p4 pm4 so4 f4 => ?_⟩
  obtain rfl : zs = ys := RE.uniq ((pz.trans pn0).trans pm4.symm) (RE.sorted_pw so) (RE.sorted_pw so4)
  refine ⟨ta, p4, zs.map V.str, rfl, rfl, SqL.of (same_new f4 _ _ _ ha0), SqL.of upd_same, (by rw [List.all_map]; exact List.all_eq_true.mpr fun _ _ => rfl), ?_⟩
  have W18 := W17.same (same_new f4 (.lst (zs.map V.str)))
  generalize upd H17 p4 (.lst (zs.map V.str)) = H18 at W18 ⊢
  clear W17 W16 hRL16 hp0 ha0 d17 s17 f4 pm4 so4 so pz
  have al : ∀ h ∈ A0.hs, h.null = false → h.st ∈ strs3 := fun h hh _ => (hal h (by rw [← eh0]; exact hh)).2
  refine ⟨_, rfl, ?_⟩
  exact tail_ok T @qlog W18 tw O0 O1 (by rw [eh0]; exact h3) ⟨by rw [et0, htx]; exact List.nodup_nil, by rw [et0, htx]; exact fun _ h => (by cases h), by decide, al⟩ (by rw [et0, htx]) (by rw [ek0, hnms]; exact nms0_ok K) (by rw [pn0.length_eq, List.length_map]; exact hl8) gYL gRL hln hat hok hl8 hQ
end
end K17

set_option Elab.async false
set_option linter.all false
set_option maxRecDepth 100000
set_option maxHeartbeats 0
namespace K17
open PySem PySem.Spec PyProof.Rows L2 RC
section
variable {P : Program} {w : World} {K : PySem.W.Frag} {mg : Str → Option Value} {base : Heap}
theorem ok_stream_init0 {f : Addr} (T : Txt P w K mg) (F : Stands K "__init__" "StreamHandler.__init__" s_StreamHandler_init [.str "stderr"] f) (c_Handler_init : Callable P w K mg base 2 (He.ma K (He.ga K "Handler") "__init__") ["self", "yard"] [] (spHandlerInit K)) :
    Callable P w K mg base 3 f ["self", "yard", "stream"] [] (spStreamInit K) := by
  refine F.call sc_StreamHandler_init 3 1 (fun vs H Q E h => ?_) (fun cdv A outer s H vs Q E hr h => ?_) (fun z => nomatch z) fun _ => ⟨rfl, fun _ _ _ _ _ _ _ us its hl hi => match us, hl, its, hi with | [_, _, _], _, [_], _ => ⟨_, rfl, rfl⟩⟩
  · obtain ⟨p, dx, y, dy, m, st, fs, xs, rfl, _⟩ := h; rfl
  obtain ⟨p, dx, y, dy, m, st, fs, xs, rfl, hp, npy, hy, hm, he, hmm, hxs, hQ⟩ := h
  refine ⟨_, (pss_cons (ps_expr (pe_cf T.cf_Handler_init c_Handler_init (hr.mono (by first | decide | exact Nat.le_refl _)) (pe_glob (v := .ref _) (by rfl) T.g_Handler rfl) (pa_cons (pv 0) (pa_cons (pv 1) pa_nil))))
      (pss_one (ps_fld (pv 0) (pv 2) rfl))), ?_⟩
  have c : HCls K (He.ga K "StreamHandler") := ⟨T.c_StreamHandler, T.n_StreamHandler_filters, T.n_StreamHandler_yard, T.n_StreamHandler_level, T.n_StreamHandler_formatter, T.n_StreamHandler_name, T.n_StreamHandler_terminator, T.n_StreamHandler_closed⟩
  refine ⟨rfl, _, rfl, _, rfl, p, _, dx, y, dy, m, fs, xs, rfl, hp, c, npy, hy, hm, he, hmm, hxs, fun H1 hM => ?_⟩
  obtain ⟨l, k1, k2, k3, k4, k5⟩ := hM
  have nlp : l ≠ p := fun z => by rw [z, hp] at k2; cases k2
  have npm : m ≠ p := fun z => by rw [z, hp] at hmm; cases hmm
  refine ⟨_, rfl, _, rfl, p, _, dx, _, rfl, k3, T.c_StreamHandler, T.n_StreamHandler_stream, (by show 7 < 1000; decide), ?_⟩
  exact hQ _ l (fun b o h1 h2 h3 => by rw [upd_ne h1]; exact k1 b o h1 h2 h3) k2 upd_same (by rw [upd_ne nlp]; exact k4) (by rw [upd_ne npm]; exact k5)
end
end K17

set_option Elab.async false
set_option linter.all false
set_option maxRecDepth 100000
set_option maxHeartbeats 0
namespace K17
open PySem PySem.Spec PyProof.Rows L2 RC
section
variable {P : Program} {w : World} {K : PySem.W.Frag} {mg : Str → Option Value} {base : Heap}
/-! ### all together -/
theorem ok_law {f : Addr} {fd : FuncData} (T : Txt P w K mg) (F : FunD K "law" "law" (defArgs s_law) (defBody s_law) (defScope s_law) [] [] f fd) : FnOk P w K mg base CX0 10 f fd ["_law_script"] (spLaw K) := by
  have c_draw := ok_draw (base := base) T T.d__law_draw 
  have c_pick := ok_pick (base := base) T T.d__law_pick c_draw
  have c_fi := ok_filterer_init (base := base) T T.d_Filterer_init 
  have c_enrol := ok_enrol (base := base) T T.d_Yard_enrol 
  have c_hi := ok_handler_init (base := base) T T.d_Handler_init c_fi c_enrol
  have c_si := ok_stream_init (base := base) T T.d_StreamHandler_init c_hi
  have c_si0 := ok_stream_init0 (base := base) T T.d_StreamHandler_init c_hi
  have c_li := ok_logger_init (base := base) T T.d_Logger_init c_fi
  have c_yi := ok_yard_init (base := base) T T.d_Yard_init c_li c_si
  have c_part := ok_is_part (base := base) T T.d_is_part 
  have c_parts := ok_are_parts (base := base) T T.d_are_parts c_part
  have c_parent := ok_parent (base := base) T T.d_parent_of 
  have c_place := ok_placeAll (base := base) T T.d_place_loggers c_parent
  have c_get := ok_getLogR (base := base) T T.d_Yard_getLogger c_parts c_li c_place
  have c_isint := ok_is_integer (base := base) T T.d_is_integer 
  have c_lvof := ok_level_of (base := base) T T.d_Yard_level_of c_isint
  have c_eff := ok_eff (base := base) T T.d_Logger_getEffectiveLevel 
  have c_en := ok_enabled (base := base) T T.d_Logger_isEnabledFor c_eff
  have c_set := ok_setLevel (base := base) T T.d_Logger_setLevel c_lvof
  have c_sd := ok_setDis (base := base) T T.d_Logger_setDisabled 
  have c_below := ok_below (base := base) T T.d_is_below 
  have c_passes := ok_passes (fb := 0) (base := base) T T.d_Filter_passes c_below
  have c_letby := ok_let_by (base := base) T T.d_let_by c_passes
  have c_filtS := ok_filtered (base := base) T T.d_StreamHandler_filtered c_letby
  have c_filtL := ok_filtered (base := base) T T.d_Logger_filtered c_letby
  have c_addF := ok_addFilter (base := base) T T.d_StreamHandler_addFilter 
  have c_fin := @ok_filter_init P w K mg base _ [] T T.d_Filter_init 
  have c_copied := ok_copied (base := base) T T.d_copied_value 
  have c_recinit := ok_rec_init (base := base) T T.d_LogRecord_init c_copied
  have c_lname := ok_level_name (base := base) T T.d_Yard_level_name 
  have c_mkrec := ok_make_record (base := base) T T.d_Yard_make_record c_lvof c_lname c_recinit
  have c_text := ok_text (base := base) T T.d_Yard_text 
  have c_write := ok_write (base := base) T T.d_Yard_write_stream c_text
  have c_msg := ok_message (base := base) T T.d_LogRecord_message 
  have c_fmt := ok_formatted (base := base) T T.d_StreamHandler_formatted c_msg
  have c_tof := ok_text_of (base := base) T T.d_StreamHandler_text_of c_fmt
  have c_emit := ok_emit (base := base) T T.d_StreamHandler_emit c_tof c_write
  have c_hs := ok_handleS (base := base) T T.d_StreamHandler_handle c_filtS c_emit
  have c_addH := ok_addH (base := base) T T.d_Logger_addHandler 
  have c_setP := ok_setProp (base := base) T T.d_Logger_setPropagate 
  have c_reached := ok_reached (base := base) T T.d_Logger_reached 
  have c_hasH := ok_hasH (base := base) T T.d_Logger_hasHandlers c_reached
  have c_callH := ok_callH (base := base) T T.d_Logger_call_handlers c_reached c_hs
  have c_lhand := ok_logHandle (base := base) T T.d_Logger_handle c_filtL c_callH
  have c_streams := ok_streams (base := base) T T.d_Yard_streams 
  have c_hsl := ok_hset_level (base := base) T T.d_StreamHandler_setLevel c_lvof
  have c_hst := ok_set_term (base := base) T T.d_StreamHandler_setTerminator 
  have c_log2 := ok_log (base := base) T T.d_Logger_log c_en c_lhand c_mkrec.1
  have c_order := ok_order (base := base) T T.d__law_order c_draw
  have c_tree := ok_tree (base := base) T T.d__law_tree 
  have c_name := ok_name (base := base) T T.d__law_name c_draw c_pick
  have c_drawX := ok_drawX (base := base) T T.d__law_draw 
  have c_pickX := ok_pickX (base := base) T T.d__law_pick c_drawX
  have c_lhx := ok_law_hsX (base := base) T T.d__law_handlers c_drawX c_pickX c_si0 c_hsl c_hst c_addF c_fin.1
  have c_setR := ok_setR (base := base) T T.d__law_set c_get c_set c_setP c_sd c_addH
  have c_loggers := ok_loggers (base := base) T T.d_Yard_loggers 
  have c_isp := ok_is_parent (base := base) T T.d_Logger_is_parent_of 
  have c_kids := ok_kids (base := base) T T.d_Logger_getChildren c_isp
  have c_told := ok_told (base := base) T T.d__law_all_told c_loggers c_get c_kids c_eff c_hasH
  have c_same5 := ok_same (base := base) T T.d__law_same rfl 5
  refine F.ok sc_law (fun vs H Q E h => ?_) (fun cdv A outer s H vs Q E hr hsp => ?_)
  · obtain ⟨a, ns, rfl, _⟩ := h; rfl
  obtain ⟨t, h, q⟩ := law_body T hr hsp c_draw c_pick c_name c_order c_same5 c_tree c_lhx c_setR c_told c_yi c_get c_log2.2 c_streams c_text
  exact ⟨t, h.nox, q⟩
theorem facts {f : Addr} {h : Heap} (X : K.In h) (G : h.Ns mainGlobals mg) (hfa : mg ("law" : Str) = some (.ref f)) (c : RB.SaysB fa fx fn ts w K) :
    ∃ fd : FuncData, (∀ (s : Shared) (v : Value), BindsTo s fd ⟨[v], []⟩ [("_law_script", v)]) ∧ ∀ base : Heap, FnOk P w K mg base CX0 10 f fd ["_law_script"] (spLaw K) := by
  have T : Txt P w K mg := Txt.of X G c
  obtain ⟨fd, F⟩ := T.d_law
  have e := hfa.symm.trans T.g_law
  cases e
  have b := FunD.bindsA (ps := ["_law_script"]) F fun _ _ _ _ _ _ us hl => match us, hl with | [_], _ => rfl
  exact ⟨fd, fun s v => b s [v] rfl, fun base => ok_law T F⟩
end
end K17
open PySem PySem.W PySem.Calls PyProof.Rows
set_option maxHeartbeats 0
theorem PySem.Challenge.cw_recordyard_k22_whole_any_order_makes_one_holds : PySem.Challenge.rw_recordyard_k22_whole_any_order_makes_one.Holds := by
  w_on; o_law
  refine HandSHeadRun.head_any (r := OpenLaw.row PySem.Challenge.rw_recordyard_k22_whole_any_order_makes_one) (q := view (OpenLaw.row PySem.Challenge.rw_recordyard_k22_whole_any_order_makes_one).prog [50]) (H := K17.hk) (ob := K17.ob) (M := 13000) (loose := K17.names) (d := HandSHeadRun.topDef (OpenLaw.row PySem.Challenge.rw_recordyard_k22_whole_any_order_makes_one).prog 50) (kwd := []) K17.ob_eq
    (by kernel_rfl) (fun s => by kernel_rfl) K17.run (by kernel_rfl) (by kernel_rfl) (by kernel_rfl) (by rfl) (by first | assumption | decide +kernel) (by decide +kernel) ⟨rfl, rfl, rfl, rfl, rfl, by decide +kernel⟩ ?hw ?hc
  case hw => w_witness2
  case hc =>
    refine L2.walk_ofE (l := PySem.Challenge.rw_recordyard_k22_whole_any_order_makes_one) (n := 63) (k := 10) (x := "_law_script") (CX := L2.CX0) rfl (by decide) (by kernel_rfl) ⟨rfl, by decide, by decide⟩ ?F (fun _ _ _ _ z => z)
    intro w mg fa h Y G hmg0
    obtain ⟨K, KX, c⟩ := Y
    have hmg : mg ("law" : PySem.Str) = some (.ref fa) := by
      have e : (HandSHeadRun.topDef (OpenLaw.row PySem.Challenge.rw_recordyard_k22_whole_any_order_makes_one).prog 50).name = ("law" : PySem.Str) := by kernel_rfl
      rw [← e]
      exact hmg0
    obtain ⟨fd, hb, hF⟩ := K17.facts (P := (PySem.Challenge.rw_recordyard_k22_whole_any_order_makes_one).prog) (w := w) KX G hmg c
    exact ⟨K, fd, K17.spLaw K, KX, hb, fun H a ns hl _ hS => ⟨a, ns, rfl, hl, hS, fun _ => rfl⟩, fun base _ _ => hF base⟩
