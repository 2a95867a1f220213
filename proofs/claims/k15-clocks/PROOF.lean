import PyProof.Rows.All
import Wide.All
import OpenK.AllK
import Wide.FinOn
import PyProof.EqAt
import PyProof.EqKinds
import PyProof.TupleCall
import HandS.Base
import HandS.Call
import HandS.List
import HandS.Dict
import HandS.More
import HandS.Slots
import HandS.ClsMeth
import KE.KStateDown
import HandS.Exc
import HandS.IsInst
import HandS.Defaults
import HandS.HeadHook1
import HandS.HeadHook2
import HandS.Head0
import HandS.Head1
import HandS.Head2
import HandS.HeadEnd
import HandS.ExcInit
import HandS.ExcField
import HandS.ForMost
import HandS.Walk
import PyProof.NeKinds
import PyProof.StrBlock2
import HandS.Sort
import HandS.Text
import PyProof.DictUpdate
import HandS.Iter
import HandS.Conv
import HandS.Flow
import HandS.Style
import HandS.Steps
import HandS.MakeKw
import HandS.Finally
import HandS.Zip
import HandS.TryMany
import PySem.Challenge.RW_recordyard_k15_clocks_streams_and_files
set_option Elab.async false
set_option linter.all false
set_option maxRecDepth 100000
set_option maxHeartbeats 4000000
/-! Rules beyond the layer: == and != of instances of classes without an own __eq__ (by identity), in and not in over lists of such, a def read off its class. -/
namespace RA
open PySem PySem.Spec PyProof.Rows PySem.SeqAt
/-- a class whose instances are equal by identity -/
structure PlainC (K : PySem.W.Frag) (C : Addr) : Prop where
  mro : PySem.W.mroIn K C (.type "object") = some true
  eq : PySem.W.findIn K (.ref C) "__eq__" = some (some (.builtin "object.__eq__"))
  ne : PySem.W.findIn K (.ref C) "__ne__" = some (some (.builtin "object.__ne__"))
def PairC (K : PySem.W.Frag) (C D : Addr) : Prop := C = D ∨ ∃ b, PySem.W.subIn K (.ref D) (.ref C) = some b
section
variable {M : Model} {prog : Program} {w : World} {A : Around} {E : Value → Shared → Prop} {s : Shared} {K : PySem.W.Frag} {x y C D : Addr} {ox oy : Obj} {od od' : Option Obj}
theorem inst_get (I : PySem.W.InstAt s.heap x ox C od) : s.heap.get? x = some ox := I.at_
theorem inst_notup (I : PySem.W.InstAt s.heap x ox C od) : ox.cls ≠ .type "tuple" := by
  rw [I.cls]; intro z; cases z
theorem eq_same {Q : Value → Shared → Prop} (X : K.In s.heap) (I : PySem.W.InstAt s.heap x ox C od) (hm : PySem.W.mroIn K C (.type "object") = some true) (hq : Q (.bool true) s) :
    wpAny (model prog w) A (call (.builtin "object.__eq__") [.ref x, .ref x]) Q E s :=
  wpAny_call (codeAny_call_builtin F.cmp_object.eq.plain F.cmpEntry_eq (PySem.W.check_slot F.cmpKind_eq F.cmpSplit_eq (I.type.andThen (PySem.W.looks_mroIn X hm)) (F.cmpArgs_eq _ _) (objEq_entry_same hq)))
theorem eq_other {Q : Value → Shared → Prop} (X : K.In s.heap) (I : PySem.W.InstAt s.heap x ox C od) (hm : PySem.W.mroIn K C (.type "object") = some true) (hy : s.heap.get? y = some oy) (hxy : x ≠ y) (hq : Q .notImplemented s) :
    wpAny (model prog w) A (call (.builtin "object.__eq__") [.ref x, .ref y]) Q E s :=
  wpAny_call (codeAny_call_builtin F.cmp_object.eq.plain F.cmpEntry_eq (PySem.W.check_slot F.cmpKind_eq F.cmpSplit_eq (I.type.andThen (PySem.W.looks_mroIn X hm)) (F.cmpArgs_eq _ _) (objEq_entry_other hxy (inst_get I) hy (inst_notup I) hq)))
theorem ifB_ne {args : List Value} {Q : Option Value → Shared → Prop} (X : K.In s.heap) (I : PySem.W.InstAt s.heap x ox C od) (hs : PySem.W.findIn K (.ref C) "__ne__" = some (some (.builtin "object.__ne__")))
    (h : wpAny M A (call (.builtin "object.__ne__") (.ref x :: args)) (fun v => Q (some v)) E s) : wpAny M A (callSpecialIfBound? (.ref x) "__ne__" args) Q E s := by
  simp only [callSpecialIfBound?, bindSpecialIfBound?]
  refine wpAny_holding (wpAny_bind (wpAny_bind (wpAny_bind (I.type.here ((PySem.W.looks_findIn X hs).here ?_)))))
  refine wpAny_bind (wpAny_askSetting (wpAny_ite ?_))
  have fin : wpAny M A (call (.builtin "object.__ne__") ([.ref x] ++ args) >>= fun v => pure (some v)) Q E s := wpAny_bind (wpAny_mono h (fun v s' h' => wpAny_pure h') fun _ _ h' => h')
  split
  · exact wpAny_bind (wpAny_of_eq (F.cmp_object.ne.bind _) (wpAny_pure (by exact fin)))
  · exact wpAny_tryCatch (wpAny_bind (wpAny_of_eq (F.cmp_object.ne.bind _) (wpAny_pure (by exact fin))))
theorem ne_entry_same {Q : Fin → Shared → Prop} (X : K.In s.heap) (I : PySem.W.InstAt s.heap x ox C od) (P : PlainC K C) (hu : A.units < cLine) (hq : Q (.done (.ret (.bool false))) s) :
    wpAny (model prog w) A (Builtin.«object.__ne__» ⟨[.ref x, .ref x], []⟩) Q E s := by
  unfold Builtin.«object.__ne__»
  repeat (first | with_reducible refine wpAny_cRoomFor hu ?_ | with_reducible refine HN.ifBound_objEq X I P.eq (eq_same X I P.mro ?_) | wp_step)
  exact hq
theorem ne_entry_other {Q : Fin → Shared → Prop} (X : K.In s.heap) (I : PySem.W.InstAt s.heap x ox C od) (P : PlainC K C) (hy : s.heap.get? y = some oy) (hxy : x ≠ y) (hu : A.units < cLine) (hq : Q (.done (.ret .notImplemented)) s) :
    wpAny (model prog w) A (Builtin.«object.__ne__» ⟨[.ref x, .ref y], []⟩) Q E s := by
  unfold Builtin.«object.__ne__»
  repeat (first | with_reducible refine wpAny_cRoomFor hu ?_ | with_reducible refine HN.ifBound_objEq X I P.eq (eq_other X I P.mro hy hxy ?_) | wp_step)
  exact hq
theorem try_eq_same {Q : Option Value → Shared → Prop} (X : K.In s.heap) (I : PySem.W.InstAt s.heap x ox C od) (P : PlainC K C) (h : Q (some (.bool true)) s) : wpAny (model prog w) A (tryCompare (.ref x) "__eq__" (.ref x)) Q E s := by
  unfold tryCompare
  exact wpAny_bind (HN.ifBound_objEq X I P.eq (eq_same X I P.mro (wpAny_pure h)))
theorem try_eq_other {Q : Option Value → Shared → Prop} (X : K.In s.heap) (I : PySem.W.InstAt s.heap x ox C od) (P : PlainC K C) (hy : s.heap.get? y = some oy) (hxy : x ≠ y) (h : Q none s) : wpAny (model prog w) A (tryCompare (.ref x) "__eq__" (.ref y)) Q E s := by
  unfold tryCompare
  exact wpAny_bind (HN.ifBound_objEq X I P.eq (eq_other X I P.mro hy hxy (wpAny_pure h)))
theorem try_ne_same {Q : Option Value → Shared → Prop} (hu : A.units + 1 < cLine) (X : K.In s.heap) (I : PySem.W.InstAt s.heap x ox C od) (P : PlainC K C) (h : Q (some (.bool false)) s) : wpAny (model prog w) A (tryCompare (.ref x) "__ne__" (.ref x)) Q E s := by
  unfold tryCompare
  refine wpAny_bind (ifB_ne X I P.ne (wpAny_call (codeAny_call_builtin F.cmp_object.ne.plain F.cmpEntry_ne (PySem.W.check_slot F.cmpKind_ne F.cmpSplit_ne (I.type.andThen (PySem.W.looks_mroIn X P.mro)) (F.cmpArgs_ne _ _) (ne_entry_same (A := A.in1) X I P hu ?_)))))
  exact wpAny_pure h
theorem try_ne_other {Q : Option Value → Shared → Prop} (hu : A.units + 1 < cLine) (X : K.In s.heap) (I : PySem.W.InstAt s.heap x ox C od) (P : PlainC K C) (hy : s.heap.get? y = some oy) (hxy : x ≠ y) (h : Q none s) : wpAny (model prog w) A (tryCompare (.ref x) "__ne__" (.ref y)) Q E s := by
  unfold tryCompare
  refine wpAny_bind (ifB_ne X I P.ne (wpAny_call (codeAny_call_builtin F.cmp_object.ne.plain F.cmpEntry_ne (PySem.W.check_slot F.cmpKind_ne F.cmpSplit_ne (I.type.andThen (PySem.W.looks_mroIn X P.mro)) (F.cmpArgs_ne _ _) (ne_entry_other (A := A.in1) X I P hy hxy hu ?_)))))
  exact wpAny_pure h
theorem rc_same (hu : A.units < cLine) (X : K.In s.heap) (I : PySem.W.InstAt s.heap x ox C od) (P : PlainC K C) : RcAt A s (.ref x) (.ref x) true := fun prog w E Q h => by
  simp only [richCompare, cmpInfo_Eq, oneThing_ref]
  refine wpAny_holding (wpAny_bind (wpAny_cRoomFor hu ?_))
  refine wpAny_bind (I.type.here (wpAny_bind (I.type.here ?_)))
  rw [if_neg (by simp)]
  refine wpAny_bind (wpAny_pure ?_)
  simp only [Bool.false_eq_true, if_false]
  exact wpAny_bind (try_eq_same X I P (wpAny_pure h))
theorem rcn_same (hu : A.units + 1 < cLine) (X : K.In s.heap) (I : PySem.W.InstAt s.heap x ox C od) (P : PlainC K C) {Q : Value → Shared → Prop} (h : Q (.bool false) s) : wpAny (model prog w) A (richCompare .NotEq (.ref x) (.ref x)) Q E s := by
  simp only [richCompare, cmpInfo_NotEq, oneThing_ref]
  refine wpAny_holding (wpAny_bind (wpAny_cRoomFor (Nat.lt_of_succ_lt hu) ?_))
  refine wpAny_bind (I.type.here (wpAny_bind (I.type.here ?_)))
  rw [if_neg (by simp)]
  refine wpAny_bind (wpAny_pure ?_)
  simp only [Bool.false_eq_true, if_false]
  exact wpAny_bind (try_ne_same hu X I P (wpAny_pure h))
theorem rc_other (hu : A.units < cLine) (X : K.In s.heap) (I : PySem.W.InstAt s.heap x ox C od) (J : PySem.W.InstAt s.heap y oy D od') (P : PlainC K C) (P' : PlainC K D) (hp : PairC K C D) (hxy : x ≠ y) : RcAt A s (.ref x) (.ref y) false := fun prog w E Q h => by
  have fin : ∀ (tag : String), wpAny (model prog w) A (rule tag >>= fun _ => isSame (.ref x) (.ref y) >>= fun b => pure (Value.bool b)) Q E s := fun tag =>
    wpAny_bind (wpAny_rule (wpAny_bind (wpAny_isSame_ref_other hxy (inst_get I) (inst_get J) (inst_notup I) (wpAny_pure h))))
  simp only [richCompare, cmpInfo_Eq, oneThing_ref]
  refine wpAny_holding (wpAny_bind (wpAny_cRoomFor hu ?_))
  refine wpAny_bind (I.type.here (wpAny_bind (J.type.here ?_)))
  by_cases hCD : C = D
  · subst hCD
    rw [if_neg (by simp)]
    refine wpAny_bind (wpAny_pure ?_)
    simp only [Bool.false_eq_true, if_false, Bool.not_false, if_true]
    refine wpAny_bind (try_eq_other X I P (inst_get J) hxy ?_)
    refine wpAny_bind (try_eq_other X J P' (inst_get I) (Ne.symm hxy) ?_)
    exact fin _
  · rw [if_pos (by simp [hCD])]
    obtain ⟨b, hb⟩ := hp.resolve_left hCD
    refine wpAny_bind ((PySem.W.looks_subIn X hb).here ?_)
    cases b with
    | false =>
      simp only [Bool.false_eq_true, if_false, Bool.not_false, if_true]
      refine wpAny_bind (try_eq_other X I P (inst_get J) hxy ?_)
      refine wpAny_bind (try_eq_other X J P' (inst_get I) (Ne.symm hxy) ?_)
      exact fin _
    | true =>
      simp only [Bool.not_true, Bool.false_eq_true, if_false, if_true]
      refine wpAny_bind (try_eq_other X J P' (inst_get I) (Ne.symm hxy) ?_)
      refine wpAny_bind (try_eq_other X I P (inst_get J) hxy ?_)
      exact fin _
theorem rcn_other (hu : A.units + 1 < cLine) (X : K.In s.heap) (I : PySem.W.InstAt s.heap x ox C od) (J : PySem.W.InstAt s.heap y oy D od') (P : PlainC K C) (P' : PlainC K D) (hp : PairC K C D) (hxy : x ≠ y) {Q : Value → Shared → Prop} (h : Q (.bool true) s) :
    wpAny (model prog w) A (richCompare .NotEq (.ref x) (.ref y)) Q E s := by
  have fin : ∀ (tag : String), wpAny (model prog w) A (rule tag >>= fun _ => isSame (.ref x) (.ref y) >>= fun b => pure (Value.bool (!b))) Q E s := fun tag =>
    wpAny_bind (wpAny_rule (wpAny_bind (wpAny_isSame_ref_other hxy (inst_get I) (inst_get J) (inst_notup I) (wpAny_pure h))))
  simp only [richCompare, cmpInfo_NotEq, oneThing_ref]
  refine wpAny_holding (wpAny_bind (wpAny_cRoomFor (Nat.lt_of_succ_lt hu) ?_))
  refine wpAny_bind (I.type.here (wpAny_bind (J.type.here ?_)))
  by_cases hCD : C = D
  · subst hCD
    rw [if_neg (by simp)]
    refine wpAny_bind (wpAny_pure ?_)
    simp only [Bool.false_eq_true, if_false, Bool.not_false, if_true]
    refine wpAny_bind (try_ne_other hu X I P (inst_get J) hxy ?_)
    refine wpAny_bind (try_ne_other hu X J P' (inst_get I) (Ne.symm hxy) ?_)
    exact fin _
  · rw [if_pos (by simp [hCD])]
    obtain ⟨b, hb⟩ := hp.resolve_left hCD
    refine wpAny_bind ((PySem.W.looks_subIn X hb).here ?_)
    cases b with
    | false =>
      simp only [Bool.false_eq_true, if_false, Bool.not_false, if_true]
      refine wpAny_bind (try_ne_other hu X I P (inst_get J) hxy ?_)
      refine wpAny_bind (try_ne_other hu X J P' (inst_get I) (Ne.symm hxy) ?_)
      exact fin _
    | true =>
      simp only [Bool.not_true, Bool.false_eq_true, if_false, if_true]
      refine wpAny_bind (try_ne_other hu X J P' (inst_get I) (Ne.symm hxy) ?_)
      refine wpAny_bind (try_ne_other hu X I P (inst_get J) hxy ?_)
      exact fin _
end
end RA
namespace RA
open PySem PySem.Spec PyProof.Rows PySem.SeqAt L2
/-- an instance of a plain class stands there -/
def InsP (K : PySem.W.Frag) (H : Hp) (a C : Addr) : Prop := (∃ dx fs, H a = some (.ins C dx fs)) ∧ PlainC K C
theorem InsP.of {K : PySem.W.Frag} {H : Hp} {a C dx : Addr} {fs : List (Str × V)} (h : H a = some (.ins C dx fs)) (p : PlainC K C) : InsP K H a C := ⟨⟨dx, fs, h⟩, p⟩
section
variable {X : Cx} {pins : List (Addr × Obj)} {σ : L2.St} {H : Hp} {s : Shared}
theorem insp_at {a C : Addr} (I : Inv X pins σ H s) (h : InsP X.K H a C) : ∃ ox od, PySem.W.InstAt s.heap a ox C od := by
  obtain ⟨⟨dx, fs, ha⟩, _⟩ := h
  obtain ⟨mA, O, _⟩ := ins_get I.hok ha
  obtain ⟨od, J, _⟩ := O.look
  exact ⟨_, _, J⟩
/-- x == y: y an instance, None, or a number, a text, a truth -/
def rEqP (K : PySem.W.Frag) : R2 := fun x y H Q => ∃ a C, x = .ref a ∧ InsP K H a C ∧ ((y = .non ∧ Q (.bl false) H) ∨ ∃ b D, y = .ref b ∧ InsP K H b D ∧ PairC K C D ∧ Q (.bl (decide (a = b))) H)
def rNeP (K : PySem.W.Frag) : R2 := fun x y H Q => ∃ a C b D, x = .ref a ∧ InsP K H a C ∧ y = .ref b ∧ InsP K H b D ∧ PairC K C D ∧ Q (.bl (!decide (a = b))) H
theorem op_eqP (hu : X.A.units < cLine) : OpR X (compareOp .Eq) (rEqP X.K) := by
  intro pins s σ H x y v u Q I rx ry h
  obtain ⟨a, C, rfl, ha, h⟩ := h
  cases rx
  obtain ⟨ox, od, Ia⟩ := insp_at I ha
  rcases h with ⟨rfl, q⟩ | ⟨b, D, rfl, hb, hp, q⟩
  · cases ry
    exact HN.rc_none hu I.kIn Ia ha.2.mro ha.2.eq _ _ _ _ (fin_bl I q rfl)
  · cases ry
    obtain ⟨oy, od', Ib⟩ := insp_at I hb
    by_cases z : a = b
    · subst z
      have e : C = D := by
        have h1 := Ia.cls.symm.trans ((congrArg Obj.cls (Option.some.inj (Ia.at_.symm.trans Ib.at_))).trans Ib.cls)
        exact Value.ref.inj h1
      subst e
      exact rc_same hu I.kIn Ia ha.2 _ _ _ _ (fin_bl I q (by simp))
    · exact rc_other hu I.kIn Ia Ib ha.2 hb.2 hp z _ _ _ _ (fin_bl I q (by simp [z]))
theorem op_neP (hu : X.A.units + 1 < cLine) : OpR X (compareOp .NotEq) (rNeP X.K) := by
  intro pins s σ H x y v u Q I rx ry h
  obtain ⟨a, C, b, D, rfl, ha, rfl, hb, hp, q⟩ := h
  cases rx
  cases ry
  obtain ⟨ox, od, Ia⟩ := insp_at I ha
  obtain ⟨oy, od', Ib⟩ := insp_at I hb
  by_cases z : a = b
  · subst z
    exact rcn_same hu I.kIn Ia ha.2 (fin_bl I q (by simp))
  · exact rcn_other hu I.kIn Ia Ib ha.2 hb.2 hp z (fin_bl I q (by simp [z]))
/-- x in l: x an instance, the items instances -/
def rInP (K : PySem.W.Frag) (neg : Bool) : R2 := fun x y H Q => ∃ (a C p : Addr) (as : List Addr), x = .ref a ∧ InsP K H a C ∧ y = .ref p ∧ SqL K H p (as.map V.ref) ∧ (∀ b ∈ as, ∃ D, InsP K H b D ∧ PairC K D C) ∧ Q (.bl (if neg then !decide (a ∈ as) else decide (a ∈ as))) H
theorem eqAt_ref {A : Around} {a b C D : Addr} (I : Inv X pins σ H s) (hu : A.units < cLine) (ha : InsP X.K H a C) (hb : InsP X.K H b D) (hp : PairC X.K D C) : EqAt A s (.ref b) (.ref a) (decide (b = a)) := by
  by_cases z : b = a
  · subst z
    rw [decide_eq_true rfl]
    exact EqAt.same _
  · rw [decide_eq_false z]
    obtain ⟨ox, od, Ia⟩ := insp_at I ha
    obtain ⟨oy, od', Ib⟩ := insp_at I hb
    intro prog w E Q h
    unfold eqBool
    refine wpAny_holding ?_
    refine wpAny_ite_split (fun hab => absurd (eq_of_beq hab) (fun e => z (Value.ref.inj e))) (fun _ => ?_)
    exact wpAny_bind (rc_other hu I.kIn Ib Ia hb.2 ha.2 hp z prog w E _ (wpAny_truthy_bool h))
theorem any_refs {a : Addr} : ∀ {as : List Addr} {us : List Value}, Vals (as.map V.ref) us → us.any (fun u => u == .ref a) = decide (a ∈ as)
  | [], _, .nil => by simp
  | b :: as, u :: us, .cons r t => by
    cases (show u = Value.ref b from r)
    rw [List.any_cons, any_refs t]
    by_cases z : b = a
    · subst z; simp
    · have z' : ¬ a = b := fun e => z e.symm
      simp [z, z']
theorem mem_refs {A : Around} {a C : Addr} (I : Inv X pins σ H s) (hu : A.units < cLine) (ha : InsP X.K H a C) : ∀ {as : List Addr} {us : List Value}, Vals (as.map V.ref) us → (∀ b ∈ as, ∃ D, InsP X.K H b D ∧ PairC X.K D C) → ∀ u ∈ us, EqAt A s u (.ref a) (u == .ref a)
  | [], _, .nil, _ => fun u hu' => by cases hu'
  | b :: as, u :: us, .cons r t, f => fun u' hu' => by
    rcases List.mem_cons.mp hu' with e | hu'
    · subst e
      cases (show u' = Value.ref b from r)
      obtain ⟨D, hb, hp⟩ := f b (List.mem_cons_self ..)
      have e2 : (Value.ref b == Value.ref a) = decide (b = a) := by
        by_cases z : b = a <;> simp [z]
      rw [e2]
      exact eqAt_ref I hu ha hb hp
    · exact mem_refs I hu ha t (fun z hz => f z (List.mem_cons_of_mem _ hz)) u' hu'
theorem op_inP (hu : X.A.units + 64 < cLine) : OpR X (compareOp .In) (rInP X.K false) := by
  intro pins s σ H x y v u Q I rx ry h
  obtain ⟨a, C, p, as, rfl, ha, rfl, hq, f, q⟩ := h
  cases rx
  cases ry
  obtain ⟨its, rv, hl, _⟩ := I.list hq
  have hu1 : X.A.in1.units < cLine := by show X.A.units + 1 < cLine; omega
  refine SeqAt.in_listAt (fun u => u == .ref a) hl.isList (fun z hz => mem_refs I hu1 ha rv f z (by simpa using hz)) ⟨.bl _, H, I, rfl, ?_⟩
  rw [show its.toArray.any (fun u => u == .ref a) = its.any (fun u => u == .ref a) by simp, any_refs rv]
  exact q
theorem op_notInP (hu : X.A.units + 64 < cLine) : OpR X (compareOp .NotIn) (rInP X.K true) := by
  intro pins s σ H x y v u Q I rx ry h
  obtain ⟨a, C, p, as, rfl, ha, rfl, hq, f, q⟩ := h
  cases rx
  cases ry
  obtain ⟨its, rv, hl, _⟩ := I.list hq
  have hu1 : X.A.in1.units < cLine := by show X.A.units + 1 < cLine; omega
  refine SeqAt.notIn_listAt (fun u => u == .ref a) hl.isList (fun z hz => mem_refs I hu1 ha rv f z (by simpa using hz)) ⟨.bl _, H, I, rfl, ?_⟩
  rw [show its.toArray.any (fun u => u == .ref a) = its.any (fun u => u == .ref a) by simp, any_refs rv]
  exact q
/-! ### a def read off its class: C.m(x, ..) -/
structure CFun (K : PySem.W.Frag) (C : Addr) (m : Str) (f : Addr) : Prop where
  ga : PySem.W.specialIn K (.ref C) "__getattribute__" = some (some (.builtin "type.__getattribute__"))
  rd : PySem.W.readsIn K C (.type "type") = true
  at_ : PySem.W.findCls K (.ref C) (.type "type") m = some (.val (.ref f))
  kp : PySem.W.keepIn K (.ref f) = true
def tCFun (C : Addr) (sp : Sp) (dvs : List V) (E : XK) (ta : TE) (t : TA) : TE := fun σ H Q => ta σ H fun x H1 => x = .ref C ∧ t σ H1 fun vs H2 => sp (vs ++ dvs) H2 Q E
theorem pe_cfun {CX : CXT} {k : Nat} {C f : Addr} {fd : FuncData} {ps : List Str} {sp : Sp} {dvs : List V} {ds : List Value} {E : XK} {o e : Expr} {es : List Expr} {m : Str} {pos apos : Pos} {ta : TE} {t : TA} {pl : Sem Bool}
    (he : PE X o ta) (c : CFun X.K C m f) (F : FnOk X.prog X.w X.K X.mg X.base CX k f fd ps sp) (hr : Room k X.A) (hb : Binds X.K fd ps ds) (hd : Vals dvs ds) (hx : Passes CX X E) (ha : PA X (e :: es) t)
    (hst : starEach (e :: es) X.env = (false, eval e X.env) :: starEach es X.env := by rfl) (hpl : (backTo pos (starEach es X.env)).any (·.1) = false := by rfl)
    (ht : eval (.Call (.Attribute o m apos) (e :: es) [] pos) X.env = (do
      let ov ← eval o X.env
      standAt apos.atName
      let (f, first) ← holding [ov] (getMethod ov m pl)
      callWith pos f first (backTo pos (starEach (e :: es) X.env)) (backToKw pos (keywordEach [] X.env))) := by rfl) :
    PE X (.Call (.Attribute o m apos) (e :: es) [] pos) (tCFun C sp dvs E ta t) := by
  refine ⟨fun pins s σ H Q I h => ?_⟩
  refine PySem.W.methodCall_KW (pl := pl) (thn (he.run pins s σ H _ I h) fun u s1 ⟨x, H1, I1, rx, ex, q⟩ => ?_) ht
  subst ex
  obtain rfl : u = Value.ref C := rx
  refine PySem.W.method_cls I1.kIn c.ga (PySem.W.cls_value I1.kIn c.rd c.at_ (handed_of (v := .ref f) rfl) ?_)
  have I2 := I1.tok (s1.toks + 1)
  refine PySem.W.callWith_K (first := []) (h₀ := X.base) I2.ok.mod.kin c.kp (thn (ha.run pos pins _ σ H1 _ I2 q) fun us s2 ⟨vs, H2, I3, r, q2⟩ => ⟨I3.kIn, ?_⟩) hst hpl
  exact run_fn F hr hb hd hx I3 r q2
/-! ### one of two rules -/
theorem PE.or {e : Expr} {t t' : TE} (h : PE X e t) (h' : PE X e t') : PE X e (fun σ H Q => t σ H Q ∨ t' σ H Q) := ⟨fun pins s σ H Q I q => by
  rcases q with q | q
  · exact h.run pins s σ H Q I q
  · exact h'.run pins s σ H Q I q⟩
/-- any of many rules for one expression -/
theorem PE.any {ι : Type} {e : Expr} {t : ι → TE} (S : ι → Prop) (h : ∀ i, S i → PE X e (t i)) : PE X e (fun σ H Q => ∃ i, S i ∧ t i σ H Q) := ⟨fun pins s σ H Q I ⟨i, hi, q⟩ => (h i hi).run pins s σ H Q I q⟩
end
end RA

set_option Elab.async false
set_option linter.all false
set_option maxRecDepth 100000
set_option maxHeartbeats 4000000
/-! The head's facts: He.Fa and He.DefD, further facts of classes, dicts of the top with their items. -/
namespace RB
open PySem PySem.Spec PyProof.Rows L2 He
/-- what isinstance asks of a value's own class -/
structure TyC (K : PySem.W.Frag) (C : Addr) : Prop where
  ha : PySem.W.findIn K (.ref C) "__class__" = some (some (.builtin "object.__class__"))
  hn : PySem.W.specialIn K (.builtin "object.__class__") "__get__" = some (some (.builtin "getset_descriptor.__get__"))
  ht : PySem.W.takesIn K (.builtin "object.__class__") = some true
  hm : PySem.W.mroIn K C (.type "object") = some true
/-- an own class of errors, over ValueError, whose __init__ keeps one field -/
structure ExcF (K : PySem.W.Frag) (C : Addr) (f : Str) : Prop where
  ox : OexC K C
  no : PySem.W.findIn K (.ref C) f = some none
  ini : PySem.W.findIn K (.ref C) "__init__" = some (some (.ref (ma K C "__init__")))
  ty : PySem.W.typeIn K (.ref (ma K C "__init__")) = some (.type "function")
  xf : XfC K C
def clsB (K : PySem.W.Frag) (C : Addr) : Bool := match K.lookup C with
  | some ⟨.type t, _, .cls cd, sl⟩ => decide (t = "type") && (match cd.mro, sl.toList with
    | .ref C' :: bm, [_, _, _, _, some (.builtin n), _] => decide (C' = C) && (decide (n = "ValueError.__new__") && (!cd.hasDel && (cd.hasDict && PySem.HandSPX.refsVE bm)))
    | _, _ => false)
  | _ => false
def oexB (K : PySem.W.Frag) (C : Addr) : Bool := clsB K C && (eqO (PySem.W.findIn K (.ref C) "__setattr__") (some (some (.builtin "object.__setattr__"))) && (decide (PySem.W.subIn K (.ref C) (.type "BaseException") = some true) && (decide (PySem.W.typeIn K (.ref C) = some (.type "type")) && PySem.W.keepIn K (.ref C))))
theorem oexB_ok {K : PySem.W.Frag} {C : Addr} (h : oexB K C = true) : OexC K C := by
  obtain ⟨h1, h⟩ := ba h
  obtain ⟨h2, h⟩ := ba h
  obtain ⟨h3, h⟩ := ba h
  obtain ⟨h4, h5⟩ := ba h
  refine ⟨?_, eqO_ok h2, of_decide_eq_true h3, of_decide_eq_true h4, h5⟩
  unfold clsB at h1
  split at h1
  · rename_i t dd cd sl ho
    obtain ⟨ht, h1⟩ := ba h1
    split at h1
    · rename_i C' bm k0 k1 k2 k3 n k5 hm hs
      obtain ⟨e1, h1⟩ := ba h1
      obtain ⟨e2, h1⟩ := ba h1
      obtain ⟨e3, h1⟩ := ba h1
      obtain ⟨e4, e5⟩ := ba h1
      have e1 := of_decide_eq_true e1
      have e2 := of_decide_eq_true e2
      have ht := of_decide_eq_true ht
      subst e1 e2 ht
      obtain ⟨nm, bs, mro, ns, qn, hd, sn, sub, ab, col, del⟩ := cd
      dsimp only at hm e3 e4
      subst hm e4
      have e3 : del = false := by cases del with
        | false => rfl
        | true => cases e3
      subst e3
      have hsl : sl = #[k0, k1, k2, k3, some (.builtin "ValueError.__new__"), k5] := by
        obtain ⟨l⟩ := sl
        dsimp only at hs
        rw [hs]
      subst hsl
      exact ⟨nm, qn, ns, bs, bm, sn, sub, ab, col, dd, k0, k1, k2, k3, k5, ho, e5⟩
    · cases h1
  · cases h1
inductive Fx where
  | exc (x f : Str)
  | exm (x y : Str) (b : Bool)
  | pl (x : Str)
  | sub (x y : Str)
  | cf (x m : Str)
  | ty (x : Str)
  | kit (x y : Str) (b : Bool)
  | kib (n : String) (y : Str) (b : Bool)
  | dtup (p : Str × Option Str) (i : Nat)
  | kiy (x : Str) (n : String) (b : Bool)
  | ktup (x : Str) (zs : List Str)
/-- these values are these texts -/
def strsB : List Value → List Str → Bool
  | [], [] => true
  | .str a _ :: r, z :: zs => decide (a = z) && strsB r zs
  | _, _ => false
def Fx.ok (K : PySem.W.Frag) : Fx → Bool
  | .exc x f => oexB K (ga K x) && (eqO (PySem.W.findIn K (.ref (ga K x)) f) (some none) && (decide (PySem.W.findIn K (.ref (ga K x)) "__init__" = some (some (.ref (ma K (ga K x) "__init__")))) && (decide (PySem.W.typeIn K (.ref (ma K (ga K x) "__init__")) = some (.type "function")) && xfB K (ga K x))))
  | .exm x y b => decide (PySem.W.exmOne K (.ref (ga K x)) (.ref (ga K y)) = some b)
  | .pl x => decide (PySem.W.mroIn K (ga K x) (.type "object") = some true) && (eqO (PySem.W.findIn K (.ref (ga K x)) "__eq__") (some (some (.builtin "object.__eq__"))) && eqO (PySem.W.findIn K (.ref (ga K x)) "__ne__") (some (some (.builtin "object.__ne__"))))
  | .sub x y => decide (ga K x = ga K y) || (PySem.W.subIn K (.ref (ga K y)) (.ref (ga K x))).isSome
  | .cf x m => eqO (PySem.W.specialIn K (.ref (ga K x)) "__getattribute__") (some (some (.builtin "type.__getattribute__"))) && (PySem.W.readsIn K (ga K x) (.type "type") && ((match PySem.W.findCls K (.ref (ga K x)) (.type "type") m with
    | some (.val (.ref f)) => decide (f = ma K (ga K x) m)
    | _ => false) && PySem.W.keepIn K (.ref (ma K (ga K x) m))))
  | .ty x => eqO (PySem.W.findIn K (.ref (ga K x)) "__class__") (some (some (.builtin "object.__class__"))) && (eqO (PySem.W.specialIn K (.builtin "object.__class__") "__get__") (some (some (.builtin "getset_descriptor.__get__"))) && (decide (PySem.W.takesIn K (.builtin "object.__class__") = some true) && decide (PySem.W.mroIn K (ga K x) (.type "object") = some true)))
  | .kit x y b => decide (PySem.W.kitOne K (.ref (ga K x)) (.ref (ga K y)) = some b)
  | .kib n y b => decide (PySem.W.kitOne K (.type n) (.ref (ga K y)) = some b)
  | .ktup x zs => decide (zs.length ≤ 1000) && (match K.lookup (ga K x) with
    | some ⟨.type c, _, .seq its _, _⟩ => decide (c = "tuple") && strsB its.toList zs
    | _ => false)
  | .kiy x n b => decide (PySem.W.kitOne K (.ref (ga K x)) (.type n) = some b)
  | .dtup p i => (match K.lookup (dflAt p i K) with
    | some ⟨.type c, _, .seq its _, _⟩ => decide (c = "tuple") && its.isEmpty
    | _ => false)
section
variable {K : PySem.W.Frag}
theorem exc_ok {x f : Str} (c : (Fx.exc x f).ok K = true) : ExcF K (ga K x) f := by
  obtain ⟨c1, c⟩ := ba c
  obtain ⟨c2, c⟩ := ba c
  obtain ⟨c3, c⟩ := ba c
  obtain ⟨c4, c5⟩ := ba c
  exact ⟨oexB_ok c1, eqO_ok c2, of_decide_eq_true c3, of_decide_eq_true c4, xfB_ok c5⟩
theorem exm_ok {x y : Str} {b : Bool} (c : (Fx.exm x y b).ok K = true) : PySem.W.exmOne K (.ref (ga K x)) (.ref (ga K y)) = some b := of_decide_eq_true c
theorem pl_ok {x : Str} (c : (Fx.pl x).ok K = true) : RA.PlainC K (ga K x) := by
  obtain ⟨c1, c⟩ := ba c
  obtain ⟨c2, c3⟩ := ba c
  exact ⟨of_decide_eq_true c1, eqO_ok c2, eqO_ok c3⟩
theorem sub_ok {x y : Str} (c : (Fx.sub x y).ok K = true) : RA.PairC K (ga K x) (ga K y) := by
  rcases Bool.or_eq_true_iff.mp c with c | c
  · exact .inl (of_decide_eq_true c)
  · exact .inr (Option.isSome_iff_exists.mp c)
theorem cf_ok {x m : Str} (c : (Fx.cf x m).ok K = true) : RA.CFun K (ga K x) m (ma K (ga K x) m) := by
  obtain ⟨c1, c⟩ := ba c
  obtain ⟨c2, c⟩ := ba c
  obtain ⟨c3, c4⟩ := ba c
  refine ⟨eqO_ok c1, c2, ?_, c4⟩
  cases e : PySem.W.findCls K (.ref (ga K x)) (.type "type") m with
  | none => rw [e] at c3; cases c3
  | some r =>
    rw [e] at c3
    cases r with
    | get _ _ _ _ => cases c3
    | val v =>
      cases v with
      | ref f => rw [of_decide_eq_true c3]
      | _ => cases c3
theorem ty_ok {x : Str} (c : (Fx.ty x).ok K = true) : TyC K (ga K x) := by
  obtain ⟨c1, c⟩ := ba c
  obtain ⟨c2, c⟩ := ba c
  obtain ⟨c3, c4⟩ := ba c
  exact ⟨eqO_ok c1, eqO_ok c2, of_decide_eq_true c3, of_decide_eq_true c4⟩
theorem kit_ok {x y : Str} {b : Bool} (c : (Fx.kit x y b).ok K = true) : PySem.W.kitOne K (.ref (ga K x)) (.ref (ga K y)) = some b := of_decide_eq_true c
theorem kiy_ok {x : Str} {n : String} {b : Bool} (c : (Fx.kiy x n b).ok K = true) : PySem.W.kitOne K (.ref (ga K x)) (.type n) = some b := of_decide_eq_true c
theorem kib_ok {n : String} {y : Str} {b : Bool} (c : (Fx.kib n y b).ok K = true) : PySem.W.kitOne K (.type n) (.ref (ga K y)) = some b := of_decide_eq_true c
theorem dtup_ok {p : Str × Option Str} {i : Nat} (h : (Fx.dtup p i).ok K = true) (H : Hp) : SqT K H (dflAt p i K) [] := by
  have h1 : (match K.lookup (dflAt p i K) with
    | some ⟨.type c, _, .seq its _, _⟩ => decide (c = "tuple") && its.isEmpty
    | _ => false) = true := h
  cases q : K.lookup (dflAt p i K) with
  | none => rw [q] at h1; cases h1
  | some o =>
    obtain ⟨oc, od, dt, osl⟩ := o
    rw [q] at h1
    cases oc with
    | type c =>
      cases dt with
      | seq its n =>
        obtain ⟨h2, h3⟩ := ba (show (decide (c = "tuple") && its.isEmpty) = true from h1)
        have e3 : its = #[] := Array.isEmpty_iff.mp h3
        subst e3
        exact .inr ⟨_, #[], n, q, congrArg Value.type (of_decide_eq_true h2), rfl, Nat.zero_le _, .nil⟩
      | _ => cases h1
    | _ => cases dt <;> cases h1
theorem strs_vals : ∀ {us : List Value} {zs : List Str}, strsB us zs = true → Vals (zs.map V.str) us
  | [], [], _ => .nil
  | .str a t :: r, z :: zs, h => by
    obtain ⟨h1, h2⟩ := ba (show (decide (a = z) && strsB r zs) = true from h)
    obtain rfl := of_decide_eq_true h1
    exact .cons ⟨t, rfl⟩ (strs_vals h2)
theorem ktup_ok {x : Str} {zs : List Str} (h : (Fx.ktup x zs).ok K = true) (H : Hp) : SqT K H (ga K x) (zs.map V.str) := by
  obtain ⟨h0, h⟩ := ba h
  have h1 : (match K.lookup (ga K x) with
    | some ⟨.type c, _, .seq its _, _⟩ => decide (c = "tuple") && strsB its.toList zs
    | _ => false) = true := h
  cases q : K.lookup (ga K x) with
  | none => rw [q] at h1; cases h1
  | some o =>
    obtain ⟨oc, od, dt, osl⟩ := o
    rw [q] at h1
    cases oc with
    | type c =>
      cases dt with
      | seq its n =>
        obtain ⟨h2, h3⟩ := ba (show (decide (c = "tuple") && strsB its.toList zs) = true from h1)
        have hv := strs_vals h3
        refine .inr ⟨_, its, n, q, congrArg Value.type (of_decide_eq_true h2), rfl, ?_, hv⟩
        have hl := hv.length
        have hz := of_decide_eq_true h0
        rw [List.length_map] at hl
        have : its.size = zs.length := by rw [← Array.length_toList]; omega
        rw [this, sizeLine_eq]; omega
      | _ => cases h1
    | _ => cases dt <;> cases h1
theorem TyC.tyx {C a dx : Addr} {H : Hp} {fs : List (Str × V)} (t : TyC K C) (c : Cls K C) (e : H a = some (.ins C dx fs)) : TyX K H (.ref a) (.ref C) := .base (.ins e c t.ha t.hn t.ht t.hm)
end
/-! ### dicts of the top -/
def keyE (e : DictEntry) : Option (Key × Int) := match e.key with
  | .int i _ => some (Sum.inl i, e.hash)
  | .str x _ => some (Sum.inr x, e.hash)
  | _ => none
def keyHP (P : Params) : Key → Int
  | .inl i => hashInt i
  | .inr x => PyData.keyHash P x
abbrev Tb : Type := Str × List (Key × Dv)
def tbRow (K : PySem.W.Frag) (x : Str) : Option (List (Option (Key × Int))) := match K.lookup (ga K x) with
  | some ⟨.type c, none, .dict es _, sl⟩ => (match decide (c = "dict") && (sl.isEmpty && !(ga K x == sysModules)) with
    | true => some (es.toList.map keyE)
    | false => none)
  | _ => none
def tbWant (P : Params) (kvs : List (Key × Dv)) : Option (List (Option (Key × Int))) := some (kvs.map fun q => some (q.1, keyHP P q.1))
def tbVals (K : PySem.W.Frag) (t : Tb) : Bool := decide ((t.2.map (·.1)).Nodup) && (decide (t.2.length ≤ sizeLine) && (match K.lookup (ga K t.1) with
  | some ⟨_, _, .dict es _, _⟩ => relAll (t.2.map fun q => q.2.v K) (es.toList.map (·.val))
  | _ => false))
/-- a dict of the top with these items -/
structure KD (P : Program) (w : World) (K : PySem.W.Frag) (a : Addr) (kvs : List (Key × V)) : Prop where
  low : (a == sysModules) = false
  len : kvs.length ≤ sizeLine
  at_ : ∃ vs, KV kvs vs ∧ ∀ h : Heap, K.In h → h.DictOf (mixKind P w) a vs
theorem rows_pairs {P : Program} {w : World} : ∀ {es : List DictEntry} {kvs : List (Key × V)}, es.map keyE = kvs.map (fun q => some (q.1, keyHP w.params q.1)) → relAll (kvs.map (·.2)) (es.map (·.val)) = true →
    ∃ vs, KV kvs vs ∧ Pairs (mixKind P w) es vs ∧ vs.map (·.1) = kvs.map (·.1) ∧ ∀ e ∈ es, ∃ k, (mixKind P w).is k e.key = true ∧ e.hash = (mixKind P w).hash k
  | [], [], _, _ => ⟨[], .nil, .nil, rfl, fun _ h => nomatch h⟩
  | [], _ :: _, h, _ => by cases h
  | _ :: _, [], h, _ => by cases h
  | e :: es, q :: kvs, h, hv => by
    rw [List.map_cons, List.map_cons] at h
    injection h with h1 h2
    obtain ⟨v1, v2⟩ := ba (show (relB q.2 e.val && relAll (kvs.map (·.2)) (es.map (·.val))) = true from hv)
    obtain ⟨vs, r, p, n, kk⟩ := rows_pairs (P := P) h2 v2
    have key : (mixKind P w).is q.1 e.key = true ∧ e.hash = (mixKind P w).hash q.1 := by
      unfold keyE at h1
      split at h1
      · rename_i i t ek
        have h3 := Prod.mk.inj (Option.some.inj h1)
        rw [← h3.1, ek]
        refine ⟨mixKind_int P w i t, ?_⟩
        rw [h3.2, ← h3.1]; rfl
      · rename_i x t ek
        have h3 := Prod.mk.inj (Option.some.inj h1)
        rw [← h3.1, ek]
        refine ⟨mixKind_str P w x t, ?_⟩
        rw [h3.2, ← h3.1]; rfl
      · cases h1
    refine ⟨(q.1, e.val) :: vs, .cons ⟨rfl, relB_ok v1⟩ r, .cons key.1 rfl p, by rw [List.map_cons, List.map_cons, n], fun e' he => ?_⟩
    rcases List.mem_cons.mp he with rfl | he
    · exact ⟨q.1, key⟩
    · exact kk e' he
theorem kd_of {P : Program} {w : World} {K : PySem.W.Frag} {t : Tb} (h1 : tbRow K t.1 = tbWant w.params t.2) (h2 : tbVals K t = true) : KD P w K (ga K t.1) (t.2.map fun q => (q.1, q.2.v K)) := by
  obtain ⟨nd, h2⟩ := ba h2
  obtain ⟨ln, h2⟩ := ba h2
  unfold tbRow tbWant at h1
  cases q : K.lookup (ga K t.1) with
  | none => rw [q] at h1; cases h1
  | some o =>
    obtain ⟨oc, od, dt, osl⟩ := o
    rw [q] at h1 h2
    cases oc with
    | type c =>
      cases od with
      | none =>
        cases dt with
        | dict es n =>
          have h3 : (match decide (c = "dict") && (osl.isEmpty && !(ga K t.1 == sysModules)) with
            | true => some (es.toList.map keyE)
            | false => none) = some (t.2.map fun q => some (q.1, keyHP w.params q.1)) := h1
          cases z : decide (c = "dict") && (osl.isEmpty && !(ga K t.1 == sysModules)) with
          | false => rw [z] at h3; cases h3
          | true =>
            rw [z] at h3
            obtain ⟨z1, z2⟩ := ba z
            obtain ⟨z3, z4⟩ := ba z2
            have e1 : c = "dict" := of_decide_eq_true z1
            have e2 : osl = #[] := Array.isEmpty_iff.mp z3
            have e3 : (ga K t.1 == sysModules) = false := by
              cases y : (ga K t.1 == sysModules) with
              | false => rfl
              | true => rw [y] at z4; cases z4
            subst e1 e2
            have h4 : es.toList.map keyE = (t.2.map fun q => (q.1, q.2.v K)).map (fun q => some (q.1, keyHP w.params q.1)) := by
              rw [List.map_map]
              exact Option.some.inj h3
            have h5 : relAll ((t.2.map fun q => (q.1, q.2.v K)).map (·.2)) (es.toList.map (·.val)) = true := by
              rw [List.map_map]
              exact h2
            obtain ⟨vs, r, p, nm, kk⟩ := rows_pairs (P := P) h4 h5
            refine ⟨e3, by rw [List.length_map]; exact of_decide_eq_true ln, vs, r, fun h X => ⟨_, es, n, X _ _ q, ⟨rfl, rfl, rfl⟩, rfl, fun e he => kk e (Array.mem_toList_iff.mpr he), p, ?_⟩⟩
            rw [nm, List.map_map]
            exact of_decide_eq_true nd
        | _ => cases h1
      | some d => cases dt <;> cases h1
    | _ => cases od <;> cases dt <;> cases h1
section
variable {X : Cx}
/-- dict(D), D a dict of the top: a new one -/
theorem call_dictK {D : Addr} {kvs : List (Key × V)} (k : KD X.prog X.w X.K D kvs) : CallR X (.type "dict") (fun xs H Q => xs = [.ref D] ∧ ∀ p, H p = none → Q (.ref p) (upd H p (.dK kvs))) := by
  intro pins s σ H xs us Q I r q
  obtain ⟨ex, q⟩ := q
  subst ex
  obtain ⟨u, eu, rx⟩ := vals1 r
  subst eu
  cases rx
  obtain ⟨vs, rel, dd⟩ := k.at_
  refine kt_call_dict k.low (dd _ I.kIn) (by rw [← rel.length]; exact k.len) fun h' d' hs => ?_
  have hm : (s.heap.objs.size == sysModules) = false := beq_eq_false_iff_ne.mpr (Nat.ne_of_gt I.big)
  exact ⟨.ref s.heap.objs.size, upd H s.heap.objs.size (.dK kvs), I.laid (t' := s.toks) (fun b u e => (hs.2 b (Nat.ne_of_lt (Heap.lt_size e))).trans (Heap.get?_push_of_some _ e)) (Nat.le_refl _)
    (show ObjOk X.prog X.w _ _ _ (.dK kvs) from ⟨k.len, hm, vs, rel, d'⟩), rfl, q _ (I.hok.fresh (Nat.le_refl _))⟩
end
/-! ### the Hook -/
abbrev AlB : Type := AlD × List (Option (List (Option (Key × Int)))) × Bool
def obsB (fa : List Fa) (fx : List Fx) (fn : List DefD) (ts : List Tb) (K : PySem.W.Frag) : AlB := (obsD fa fn K, ts.map fun t => tbRow K t.1, (fx.all fun f => f.ok K) && ts.all fun t => tbVals K t)
def valB (fn : List DefD) (ts : List Tb) (w : World) : AlB := (valD fn, ts.map fun t => tbWant w.params t.2, true)
def SaysB (fa : List Fa) (fx : List Fx) (fn : List DefD) (ts : List Tb) (w : World) (K : PySem.W.Frag) : Prop := obsB fa fx fn ts K = valB fn ts w
/-- and the objects that are defaults: one step further, for those alone -/
def extraB (g : Addr → Option Obj) (fx : List Fx) (as : List Addr) : List Addr := cStatics :: (as ++ fx.filterMap fun
  | .dtup p i => some (dflAt p i (frG g as))
  | .ktup x _ => some (ga (frG g as) x)
  | _ => none)
def obsBG (n : Nat) (fa : List Fa) (fx : List Fx) (fn : List DefD) (ts : List Tb) (g : Addr → Option Obj) : AlB := obsB fa fx fn ts (frG g (extraB g fx (asD g n)))
def hookB (n : Nat) (fa : List Fa) (fx : List Fx) (fn : List DefD) (ts : List Tb) : PySem.W.Hook where
  α := AlB
  obs := fun s => obsBG n fa fx fn ts s.heap.get?
  val := fun w => valB fn ts w
  says := fun w h => ∃ K : PySem.W.Frag, K.In h ∧ SaysB fa fx fn ts w K
  of := fun _ _ e => ⟨_, frG_in, e⟩
  keeps := fun _ _ _ ⟨K, hK, c⟩ k => ⟨K, PySem.W.Frag.In.keeps hK k, c⟩
theorem obsBG_eq {n : Nat} {fa : List Fa} {fx : List Fx} {fn : List DefD} {ts : List Tb} {g : Addr → Option Obj} {s : Shared} (h : ∀ a, g a = s.heap.get? a) : obsBG n fa fx fn ts g = (hookB n fa fx fn ts).obs s := by
  have e : g = s.heap.get? := funext h
  rw [e] <;> rfl
section
variable {fa : List Fa} {fx : List Fx} {fn : List DefD} {ts : List Tb} {w : World} {K : PySem.W.Frag}
theorem SaysB.d (c : SaysB fa fx fn ts w K) : SaysD fa fn K := congrArg (fun z : AlB => z.1) c
theorem SaysB.fact (c : SaysB fa fx fn ts w K) (i : Nat) {f : Fa} (h : fa[i]? = some f := by rfl) : f.ok K = true := c.d.fact i h
theorem SaysB.more (c : SaysB fa fx fn ts w K) (i : Nat) {f : Fx} (h : fx[i]? = some f := by rfl) : f.ok K = true := by
  have c1 := (ba (show ((fx.all fun f => f.ok K) && ts.all fun t => tbVals K t) = true from congrArg (fun z : AlB => z.2.2) c)).1
  exact List.all_eq_true.mp c1 f (List.mem_of_getElem? h)
theorem SaysB.tb (c : SaysB fa fx fn ts w K) (i : Nat) {t : Tb} (h : ts[i]? = some t := by rfl) (P : Program) : KD P w K (ga K t.1) (t.2.map fun q => (q.1, q.2.v K)) := by
  have c1 := (ba (show ((fx.all fun f => f.ok K) && ts.all fun t => tbVals K t) = true from congrArg (fun z : AlB => z.2.2) c)).2
  have e : ts.map (fun t => tbRow K t.1) = ts.map fun t => tbWant w.params t.2 := congrArg (fun z : AlB => z.2.1) c
  have e2 : (ts.map fun t => tbRow K t.1)[i]? = (ts.map fun t => tbWant w.params t.2)[i]? := by rw [e]
  rw [List.getElem?_map, List.getElem?_map, h] at e2
  exact kd_of (Option.some.inj e2) (List.all_eq_true.mp c1 t (List.mem_of_getElem? h))
end
end RB

set_option Elab.async false
set_option linter.all false
set_option maxRecDepth 100000
set_option maxHeartbeats 4000000
/-! What a caller needs of a def, in one word; the stream of draws. -/
namespace RC
open PySem PySem.Spec PyProof.Rows L2 He
/-- the def at f may be called with all parameters but the last ones, whose defaults are dvs -/
def Callable (P : Program) (w : World) (K : PySem.W.Frag) (mg : Str → Option Value) (base : Heap) (k : Nat) (f : Addr) (ps : List Str) (dvs : List V) (sp : Sp) : Prop :=
  ∃ fd ds, FnOk P w K mg base CX0 k f fd ps sp ∧ Vals dvs ds ∧ Binds K fd ps ds ∧ PySem.W.keepIn K (.ref f) = true
section
variable {X : Cx} {k : Nat} {f C : Addr} {ps : List Str} {sp : Sp} {dvs : List V} {x m : Str} {p pos apos : Pos} {e o : Expr} {es : List Expr} {ta : TE} {t : TA} {pl : Sem Bool}
theorem pe_fn (hm : X.mg x = some (.ref f)) (c : Callable X.prog X.w X.K X.mg X.base k f ps dvs sp) (hr : Room k X.A) (hg : Gl X x) (ha : PA X (e :: es) t) (hdb : (x == ("__debug__" : Str)) = false := by decide)
    (he : starEach (e :: es) X.env = (false, eval e X.env) :: starEach es X.env := by rfl) (hpl : (backTo pos (starEach es X.env)).any (·.1) = false := by rfl) : PE X (.Call (.Name x p) (e :: es) [] pos) (tCall sp dvs E0 t) := by
  obtain ⟨fd, ds, F, hd, hb, hk⟩ := c
  exact pe_call F hr hg hm hk hb hd pass0 ha hdb he hpl
theorem pe_fn0 (hm : X.mg x = some (.ref f)) (c : Callable X.prog X.w X.K X.mg X.base k f ps dvs sp) (hr : Room k X.A) (hg : Gl X x) (hdb : (x == ("__debug__" : Str)) = false := by decide) : PE X (.Call (.Name x p) [] [] pos) (tCall sp dvs E0 tNil) := by
  obtain ⟨fd, ds, F, hd, hb, hk⟩ := c
  exact pe_call0 F hr hg hm hk hb hd pass0 hdb
theorem pe_mt (cl : Cls X.K C) (hm : Meth X.K C m f) (c : Callable X.prog X.w X.K X.mg X.base k f ps dvs sp) (hr : Room k X.A) (he : PE X o ta) (ha : PA X (e :: es) t)
    (hst : starEach (e :: es) X.env = (false, eval e X.env) :: starEach es X.env := by rfl) (hpl : (backTo pos (starEach es X.env)).any (·.1) = false := by rfl)
    (ht : eval (.Call (.Attribute o m apos) (e :: es) [] pos) X.env = (do
      let ov ← eval o X.env
      standAt apos.atName
      let (f, first) ← holding [ov] (getMethod ov m pl)
      callWith pos f first (backTo pos (starEach (e :: es) X.env)) (backToKw pos (keywordEach [] X.env))) := by rfl) :
    PE X (.Call (.Attribute o m apos) (e :: es) [] pos) (tMeth C m sp dvs E0 ta t) := by
  obtain ⟨fd, ds, F, hd, hb, hk⟩ := c
  exact pe_meth he cl hm F hr hb hd pass0 ha hst hpl ht
theorem pe_mt0 (cl : Cls X.K C) (hm : Meth X.K C m f) (c : Callable X.prog X.w X.K X.mg X.base k f ps dvs sp) (hr : Room k X.A) (he : PE X o ta)
    (ht : eval (.Call (.Attribute o m apos) [] [] pos) X.env = (do
      let ov ← eval o X.env
      standAt apos.atName
      let (f, first) ← holding [ov] (getMethod ov m pl)
      callWith pos f first (backTo pos (starEach [] X.env)) (backToKw pos (keywordEach [] X.env))) := by rfl) :
    PE X (.Call (.Attribute o m apos) [] [] pos) (tMeth C m sp dvs E0 ta tNil) := by
  obtain ⟨fd, ds, F, hd, hb, hk⟩ := c
  exact pe_meth0 he cl hm F hr hb hd pass0 ht
theorem pe_mk (M : Mk X.K C f) (hm : X.mg x = some (.ref C)) (c : Callable X.prog X.w X.K X.mg X.base k f ps dvs sp) (hr : Room (k + 1) X.A) (hg : Gl X x) (ha : PA X (e :: es) t) (hdb : (x == ("__debug__" : Str)) = false := by decide)
    (he : starEach (e :: es) X.env = (false, eval e X.env) :: starEach es X.env := by rfl) (hpl : (backTo pos (starEach es X.env)).any (·.1) = false := by rfl) : PE X (.Call (.Name x p) (e :: es) [] pos) (tMake C sp dvs E0 t) := by
  obtain ⟨fd, ds, F, hd, hb, hk⟩ := c
  exact pe_make M F hr hg hm hb hd pass0 ha hdb he hpl
theorem pe_mk0 (M : Mk X.K C f) (hm : X.mg x = some (.ref C)) (c : Callable X.prog X.w X.K X.mg X.base k f ps dvs sp) (hr : Room (k + 1) X.A) (hg : Gl X x) (hdb : (x == ("__debug__" : Str)) = false := by decide) : PE X (.Call (.Name x p) [] [] pos) (tMake C sp dvs E0 tNil) := by
  obtain ⟨fd, ds, F, hd, hb, hk⟩ := c
  exact pe_make0 M F hr hg hm hb hd pass0 hdb
theorem pe_cf (cf : RA.CFun X.K C m f) (c : Callable X.prog X.w X.K X.mg X.base k f ps dvs sp) (hr : Room k X.A) (he : PE X o ta) (ha : PA X (e :: es) t)
    (hst : starEach (e :: es) X.env = (false, eval e X.env) :: starEach es X.env := by rfl) (hpl : (backTo pos (starEach es X.env)).any (·.1) = false := by rfl)
    (ht : eval (.Call (.Attribute o m apos) (e :: es) [] pos) X.env = (do
      let ov ← eval o X.env
      standAt apos.atName
      let (f, first) ← holding [ov] (getMethod ov m pl)
      callWith pos f first (backTo pos (starEach (e :: es) X.env)) (backToKw pos (keywordEach [] X.env))) := by rfl) :
    PE X (.Call (.Attribute o m apos) (e :: es) [] pos) (RA.tCFun C sp dvs E0 ta t) := by
  obtain ⟨fd, ds, F, hd, hb, hk⟩ := c
  exact RA.pe_cfun he cf F hr hb hd pass0 ha hst hpl ht
end
section
variable {P : Program} {w : World} {K : PySem.W.Frag} {mg : Str → Option Value} {base : Heap} {x qual : Str} {params : Arguments} {body : List Stmt} {scope : Scope} {dvs : List V} {f : Addr} {k : Nat} {N ps : List Str} {sp : Sp}
/-- a def that stands there -/
def Stands (K : PySem.W.Frag) (x qual : Str) (st : Stmt) (dvs : List V) (f : Addr) : Prop := ∃ fd, FunD K x qual (defArgs st) (defBody st) (defScope st) dvs [] f fd
/-- THE RULE for a def, whatever its defaults: what it promises of every call; bind: how its arguments bind with the first n parameters given -/
theorem Stands.call {st : Stmt} (F : Stands K x qual st dvs f) (S : FnScope N ps (defScope st)) (n j : Nat) (len : ∀ vs H Q E, sp vs H Q E → vs.length = ps.length)
    (hbody : ∀ (cdv : Value) (A : Around) (outer : List Env) (s : Shared) (H : Hp) (vs : List V) (Q : VK) (E : XK), Room k (A.deeper (envOfC qual (defScope st) s.heap.objs.size f cdv)) → sp vs H Q E →
      ∃ t, PSs (cxOf CX0 P w K mg base N qual (defScope st) f cdv A outer s H E).nox (defBody st) t ∧ t { nx := fun _ H' => Q .non H', rt := Q } (start N vs) H)
    (h0 : dvs = [] → n = ps.length ∧ ∀ (kV doc pm : Value) (an : Option Addr) (cdv ct : Value) (us : List Value), us.length = ps.length → bindArgs (PySem.W.fnOf x qual (defArgs st) (defBody st) (defScope st) .none kV doc pm an cdv ct) ⟨us, []⟩ = pure (ps.zip us))
    (h1 : dvs ≠ [] → n + (dvs.length - j) = ps.length ∧ ∀ (T : Addr) (kV doc pm : Value) (an : Option Addr) (cdv ct : Value) (us its : List Value), us.length = n → its.length = dvs.length →
      ∃ k, bindArgs (PySem.W.fnOf x qual (defArgs st) (defBody st) (defScope st) (.ref T) kV doc pm an cdv ct) ⟨us, []⟩ = seqItems? (.ref T) >>= k ∧ k (some its.toArray) = pure (ps.zip (us ++ its.drop j))) :
    Callable P w K mg base (k + 1) f ps (dvs.drop j) sp := by
  obtain ⟨fd, F⟩ := F
  have ok : FnOk P w K mg base CX0 (k + 1) f fd ps sp := F.ok S len fun cdv A outer s H vs Q E hr hsp => by
    obtain ⟨t, h, q⟩ := hbody cdv A outer s H vs Q E hr hsp
    exact ⟨t, h.nox, q⟩
  by_cases hd : dvs = []
  · subst hd
    exact ⟨fd, [], ok, by rw [List.drop_nil]; exact .nil, F.bindsN (h0 rfl).2, F.kp⟩
  · obtain ⟨ds, hv, hb⟩ := F.binds1 n j hd (h1 hd).1 (h1 hd).2
    exact ⟨fd, ds, ok, hv, hb, F.kp⟩
/-- no defaults -/
theorem Stands.call0 {st : Stmt} (F : Stands K x qual st [] f) (S : FnScope N ps (defScope st)) (len : ∀ vs H Q E, sp vs H Q E → vs.length = ps.length)
    (hbody : ∀ (cdv : Value) (A : Around) (outer : List Env) (s : Shared) (H : Hp) (vs : List V) (Q : VK) (E : XK), Room k (A.deeper (envOfC qual (defScope st) s.heap.objs.size f cdv)) → sp vs H Q E →
      ∃ t, PSs (cxOf CX0 P w K mg base N qual (defScope st) f cdv A outer s H E).nox (defBody st) t ∧ t { nx := fun _ H' => Q .non H', rt := Q } (start N vs) H)
    (h0 : ∀ (kV doc pm : Value) (an : Option Addr) (cdv ct : Value) (us : List Value), us.length = ps.length → bindArgs (PySem.W.fnOf x qual (defArgs st) (defBody st) (defScope st) .none kV doc pm an cdv ct) ⟨us, []⟩ = pure (ps.zip us)) :
    Callable P w K mg base (k + 1) f ps [] sp := by
  obtain ⟨fd, F⟩ := F
  have ok : FnOk P w K mg base CX0 (k + 1) f fd ps sp := F.ok S len fun cdv A outer s H vs Q E hr hsp => by
    obtain ⟨t, h, q⟩ := hbody cdv A outer s H vs Q E hr hsp
    exact ⟨t, h.nox, q⟩
  exact ⟨fd, [], ok, .nil, F.bindsN h0, F.kp⟩
theorem Callable.imp {sp' : Sp} {dv : List V} (c : Callable P w K mg base k f ps dv sp) (h : ∀ vs H Q E, sp' vs H Q E → sp vs H Q E) : Callable P w K mg base k f ps dv sp' :=
  let ⟨fd, ds, F, r⟩ := c
  ⟨fd, ds, F.imp h, r⟩
theorem Callable.up {j : Nat} {dv : List V} (c : Callable P w K mg base j f ps dv sp) (h : j ≤ k) : Callable P w K mg base k f ps dv sp :=
  let ⟨fd, ds, F, r⟩ := c
  ⟨fd, ds, F.mono h, r⟩
end
/-! ### heaps -/
theorem same_new {H : Hp} {p : Addr} (h : H p = none) (o : HO) : Same H (upd H p o) := fun b u q => by rw [upd_ne (ne_of_none q h)]; exact q
theorem _root_.L2.Same.seqT {K : PySem.W.Frag} {H H' : Hp} {a : Addr} {xs : List V} (e : Same H H') (h : SqT K H a xs) : SqT K H' a xs := by
  rcases h with (h | ⟨o, h⟩) | h
  · exact .inl (.inl (e _ _ h))
  · exact .inl (.inr ⟨o, e _ _ h⟩)
  · exact .inr h
theorem upd_none {H : Hp} {a p : Addr} {o : HO} (h : upd H a o p = none) : p ≠ a ∧ H p = none := by
  by_cases e : p = a
  · subst e; rw [upd_same] at h; cases h
  · rw [upd_ne e] at h; exact ⟨e, h⟩
/-! ### the stream of draws -/
/-- the law's stream at s: its list of ints at l, the number at hand, how many were made up, the seed; n: a bound of those made up -/
def Stm (H : Hp) (s l : Addr) (n : Nat) : Prop := s ≠ l ∧ ∃ (ns : List Int) (x c d : Int), H s = some (.lst [.ref l, .int x, .int c, .int d]) ∧ H l = some (.lst (ns.map V.int)) ∧ ns.length ≤ 63 ∧ 0 ≤ x ∧ 0 ≤ c ∧ c ≤ n ∧ 0 ≤ d ∧ d < 2147483647
theorem Stm.mono {H : Hp} {s l : Addr} {n m : Nat} (h : Stm H s l n) (k : n ≤ m) : Stm H s l m := by
  obtain ⟨ne, ns, x, c, d, h1, h2, h3, h4, h5, h6, h7, h8⟩ := h
  exact ⟨ne, ns, x, c, d, h1, h2, h3, h4, h5, by omega, h7, h8⟩
theorem Stm.same {H H' : Hp} {s l : Addr} {n : Nat} (h : Stm H s l n) (k : Same H H') : Stm H' s l n := by
  obtain ⟨ne, ns, x, c, d, h1, h2, h3⟩ := h
  exact ⟨ne, ns, x, c, d, k _ _ h1, k _ _ h2, h3⟩
/-- all but the stream is as it was -/
def But (s l : Addr) (H H' : Hp) : Prop := ∀ b, b ≠ s → b ≠ l → H' b = H b
/-- all that was there but the stream is as it was -/
def Old (s l : Addr) (H H' : Hp) : Prop := ∀ b o, b ≠ s → b ≠ l → H b = some o → H' b = some o
theorem But.old {s l : Addr} {H H' : Hp} (h : But s l H H') : Old s l H H' := fun b o h1 h2 e => by rw [h b h1 h2]; exact e
theorem Old.refl {s l : Addr} (H : Hp) : Old s l H H := fun _ _ _ _ e => e
theorem Old.trans {s l : Addr} {H H1 H2 : Hp} (a : Old s l H H1) (b : Old s l H1 H2) : Old s l H H2 := fun c o h1 h2 e => b c o h1 h2 (a c o h1 h2 e)
theorem Old.of_same {s l : Addr} {H H' : Hp} (h : Same H H') : Old s l H H' := fun b o _ _ e => h b o e
section
variable {X : Cx} {x : Str} {pos : Pos}
theorem pe_gi {i : Int} (hg : Gl X x) (hm : ∃ t, X.mg x = some (.int i t)) (hd : (x == ("__debug__" : Str)) = false := by decide) : PE X (.Name x pos) (tC (.int i)) := by
  obtain ⟨t, h⟩ := hm
  exact pe_glob hg h ⟨t, rfl⟩ (by first | assumption | exact hd)
theorem pe_gs {z : Str} (hg : Gl X x) (hm : ∃ t, X.mg x = some (.str z t)) (hd : (x == ("__debug__" : Str)) = false := by decide) : PE X (.Name x pos) (tC (.str z)) := by
  obtain ⟨t, h⟩ := hm
  exact pe_glob hg h ⟨t, rfl⟩ (by first | assumption | exact hd)
end
/-! ### in a comprehension's block the written part is the def's own: rules that name it -/
section
variable {X : Cx} {K : PySem.W.Frag}
theorem opK (r : PySem.W.Frag → R2) {f : Value → Value → Sem Value} (h : OpR X f (r X.K)) (e : X.K = K := by rfl) : OpR X f (r K) := e ▸ h
theorem callK (r : PySem.W.Frag → List V → Hp → VK → Prop) {f : Value} (h : CallR X f (r X.K)) (e : X.K = K := by rfl) : CallR X f (r K) := e ▸ h
theorem ixK (r : PySem.W.Frag → R2) (h : IxR X (r X.K)) (e : X.K = K := by rfl) : IxR X (r K) := e ▸ h
theorem pe_fldK {e : Expr} {f : Str} {pos : Pos} {ta : TE} (he : PE X e ta) (hb : attributeBase e f X.env (eval e X.env) = eval e X.env) (z : X.K = K := by rfl) : PE X (.Attribute e f pos) (tFld K ta f) := z ▸ pe_fld he hb
end
/-- an expression that is never reached -/
def tNo : TE := fun _ _ _ => False
theorem pe_never {X : Cx} {e : Expr} : PE X e tNo := ⟨fun _ _ _ _ _ _ h => h.elim⟩
def tNoT : TT := fun _ _ _ => False
theorem pt_never {X : Cx} {e : Expr} : PT X e tNoT := ⟨fun _ _ _ _ _ _ h => h.elim⟩
theorem tyx_tup {K : PySem.W.Frag} {H : Hp} {a : Addr} {xs : List V} (h : SqT K H a xs) : TyX K H (.ref a) (.type "tuple") := by
  rcases h with (h | ⟨o, h⟩) | ⟨o, its, n, h, c, _⟩
  · exact .base (.tup h)
  · exact .fTuple h
  · exact .kTuple h c
theorem tyx_lst {K : PySem.W.Frag} {H : Hp} {a : Addr} {xs : List V} (h : SqL K H a xs) : TyX K H (.ref a) (.type "list") := by
  rcases h with (h | ⟨o, h⟩) | ⟨o, its, n, h, c, _⟩
  · exact .base (.lst h)
  · exact .base (.frz h)
  · exact .kList h c
/-- behind a lock all is as it was but the new -/
theorem unlock {H : Hp} {d D : Addr} {f u o : HO} (hd : H d = some u) (hD : upd H d f D = none) : upd (upd (upd H d f) D o) d u = upd H D o := by
  have ne : D ≠ d := (upd_none hD).1
  funext b
  by_cases e : b = d
  · subst e; rw [upd_same, upd_ne (Ne.symm ne)]; exact hd.symm
  · rw [upd_ne e]
    by_cases z : b = D
    · subst z; rw [upd_same, upd_same]
    · rw [upd_ne z, upd_ne z, upd_ne e]
theorem iteT' {c : Bool} {A B : Prop} (hc : c = true) (h : A) : if c = true then A else B := by rw [if_pos hc]; exact h
theorem iteF' {c : Bool} {A B : Prop} (hc : c = false) (h : B) : if c = true then A else B := by rw [if_neg (by rw [hc]; exact Bool.false_ne_true)]; exact h
end RC

set_option Elab.async false
set_option linter.all false
set_option maxRecDepth 100000
set_option maxHeartbeats 4000000
/-! Further rules: two lists of the same objects are equal; a text times an int. -/
namespace RD
open PySem PySem.Spec PyProof.Rows PySem.SeqAt L2
def rNeRefs (K : PySem.W.Frag) : R2 := fun x y H Q => ∃ (a b : Addr) (as : List Addr), x = .ref a ∧ y = .ref b ∧ SqL K H a (as.map V.ref) ∧ SqL K H b (as.map V.ref) ∧ Q (.bl false) H
def rEqRefs (K : PySem.W.Frag) : R2 := fun x y H Q => ∃ (a b : Addr) (as : List Addr), x = .ref a ∧ y = .ref b ∧ SqL K H a (as.map V.ref) ∧ SqL K H b (as.map V.ref) ∧ Q (.bl true) H
def rMulS : R2 := fun x y H Q => ∃ (i : Str) (k : Int), x = .str i ∧ y = .int k ∧ PySem.MulOk i k ∧ Q (.str (Txt.mul i k)) H
section
variable {X : Cx}
theorem vals_refs : ∀ {as : List Addr} {us : List Value}, Vals (as.map V.ref) us → us = as.map Value.ref
  | [], _, .nil => rfl
  | a :: as, _, .cons r t => by
    cases r
    rw [vals_refs t]; rfl
theorem all_true (n : Nat) : (List.range n).all (fun _ => true) = true := by simp
theorem op_neRefs (hu : X.A.units < cLine) : OpR X (compareOp .NotEq) (rNeRefs X.K) := by
  intro pins s σ H x y v u Q I rx ry h
  obtain ⟨a, b, as, rfl, rfl, ha, hb, q⟩ := h
  cases rx
  cases ry
  obtain ⟨its, rv, hl, _⟩ := I.list ha
  obtain ⟨its2, rv2, hl2, _⟩ := I.list hb
  obtain rfl := vals_refs rv
  obtain rfl := vals_refs rv2
  refine RcNeAt.lists (e := fun _ => true) hl.isList hl2.isList rfl hu (fun j h1 h2 => EqAt.same _) X.prog X.w X.xe _ ?_
  rw [all_true]
  exact fin_bl I q rfl
theorem op_eqRefs (hu : X.A.units < cLine) : OpR X (compareOp .Eq) (rEqRefs X.K) := by
  intro pins s σ H x y v u Q I rx ry h
  obtain ⟨a, b, as, rfl, rfl, ha, hb, q⟩ := h
  cases rx
  cases ry
  obtain ⟨its, rv, hl, _⟩ := I.list ha
  obtain ⟨its2, rv2, hl2, _⟩ := I.list hb
  obtain rfl := vals_refs rv
  obtain rfl := vals_refs rv2
  refine eq_listAt (e := fun _ => true) hl.isList hl2.isList rfl hu (fun j h1 h2 => EqAt.same _) ?_
  rw [all_true]
  exact fin_bl I q rfl
theorem op_mulS : OpR X (binaryOp .Mult) rMulS := by
  intro pins s σ H x y v u Q I rx ry h
  obtain ⟨i, k, rfl, rfl, hk, q⟩ := h
  obtain ⟨t, rfl⟩ := rx
  obtain ⟨t', rfl⟩ := ry
  exact PySem.SB.mul hk fun t2 k2 => ⟨.str (Txt.mul i k), H, I.tok k2, ⟨_, rfl⟩, q⟩
end
end RD

set_option Elab.async false
set_option linter.all false
set_option maxRecDepth 100000
set_option maxHeartbeats 4000000
/-! Rows of texts in order: there is one alone. -/
namespace RE
open PySem PySem.Spec PyProof.Rows L2
def le (a b : List Nat) : Prop := ltCps b a = false
theorem lt_split : ∀ (a b c : List Nat), ltCps a c = true → ltCps a b = true ∨ ltCps b c = true
  | [], [], c, h => .inr h
  | [], _ :: _, _, _ => .inl rfl
  | _ :: _, _, [], h => nomatch h
  | x :: a, [], z :: c, h => .inr rfl
  | x :: a, y :: b, z :: c, h => by
    have h : (decide (x < z) || (x == z && ltCps a c)) = true := h
    show (decide (x < y) || (x == y && ltCps a b)) = true ∨ (decide (y < z) || (y == z && ltCps b c)) = true
    rcases Nat.lt_trichotomy x y with h1 | h1 | h1
    · exact .inl (by rw [decide_eq_true h1]; rfl)
    · subst h1
      rcases Bool.or_eq_true_iff.mp h with h2 | h2
      · exact .inr (by rw [h2]; rfl)
      · obtain ⟨h3, h4⟩ := Bool.and_eq_true_iff.mp h2
        rcases lt_split a b c h4 with h5 | h5
        · exact .inl (by rw [h5]; simp)
        · exact .inr (by rw [h3, h5]; simp)
    · have h6 : y < z := by
        rcases Bool.or_eq_true_iff.mp h with h2 | h2
        · exact Nat.lt_trans h1 (of_decide_eq_true h2)
        · obtain ⟨h3, _⟩ := Bool.and_eq_true_iff.mp h2
          rw [← eq_of_beq h3]; exact h1
      exact .inr (by rw [decide_eq_true h6]; rfl)
theorem le_trans {a b c : List Nat} (h1 : le a b) (h2 : le b c) : le a c := by
  unfold le at *
  cases e : ltCps c a with
  | false => rfl
  | true =>
    rcases lt_split c b a e with h | h
    · rw [h2] at h; cases h
    · rw [h1] at h; cases h
theorem le_anti : ∀ {a b : List Nat}, le a b → le b a → a = b
  | [], [], _, _ => rfl
  | [], _ :: _, _, h => nomatch h
  | _ :: _, [], h, _ => nomatch h
  | x :: a, y :: b, h1, h2 => by
    have h1 : (decide (y < x) || (y == x && ltCps b a)) = false := h1
    have h2 : (decide (x < y) || (x == y && ltCps a b)) = false := h2
    rw [Bool.or_eq_false_iff] at h1 h2
    have e : x = y := by
      have a1 := of_decide_eq_false h1.1
      have a2 := of_decide_eq_false h2.1
      omega
    subst e
    have h3 : ltCps b a = false := by have := h1.2; simpa using this
    have h4 : ltCps a b = false := by have := h2.2; simpa using this
    rw [le_anti (a := a) (b := b) h3 h4]
def leS (a b : Str) : Prop := le (TL.tl a) (TL.tl b)
theorem rising : ∀ (p : Str) (l : List Str), risingS p l = true → (p :: l).Pairwise leS
  | p, [], _ => List.pairwise_singleton _ _
  | p, x :: r, h => by
    have h : (!ltCps x.cps.toList p.cps.toList && risingS x r) = true := h
    obtain ⟨h1, h2⟩ := Bool.and_eq_true_iff.mp h
    have i := rising x r h2
    refine List.pairwise_cons.mpr ⟨fun z hz => ?_, i⟩
    have a : leS p x := by
      show ltCps (TL.tl x) (TL.tl p) = false
      have h1 : (!ltCps (TL.tl x) (TL.tl p)) = true := h1
      cases e : ltCps (TL.tl x) (TL.tl p) with
      | false => rfl
      | true => rw [e] at h1; cases h1
    rcases List.mem_cons.mp hz with rfl | hz
    · exact a
    · exact le_trans a ((List.pairwise_cons.mp i).1 z hz)
theorem sorted_pw : ∀ {l : List Str}, sortedS l = true → l.Pairwise leS
  | [], _ => List.Pairwise.nil
  | x :: r, h => rising x r h
theorem uniq : ∀ {l m : List Str}, l.Perm m → l.Pairwise leS → m.Pairwise leS → l = m
  | [], m, hp, _, _ => by rw [List.nil_perm.mp hp]
  | x :: r, m, hp, h1, h2 => by
    cases m with
    | nil => exact absurd hp.length_eq (by simp)
    | cons y t =>
      obtain ⟨a1, a2⟩ := List.pairwise_cons.mp h1
      obtain ⟨b1, b2⟩ := List.pairwise_cons.mp h2
      have e : x = y := by
        have hx : x ∈ y :: t := hp.mem_iff.mp List.mem_cons_self
        have hy : y ∈ x :: r := hp.mem_iff.mpr List.mem_cons_self
        rcases List.mem_cons.mp hx with rfl | hx
        · rfl
        rcases List.mem_cons.mp hy with rfl | hy
        · rfl
        exact TL.ext_tl (le_anti (a1 y hy) (b1 x hx))
      subst e
      rw [uniq ((List.perm_cons x).mp hp) a2 b2]
/-- a sorted row's part is that part, sorted -/
theorem sorted_filter {xs ys zs : List Str} {p : Str → Bool} (h1 : ys.Perm xs) (h2 : sortedS ys = true) (h3 : zs.Perm (xs.filter p)) (h4 : sortedS zs = true) : zs = ys.filter p :=
  uniq (h3.trans (h1.symm.filter p)) (sorted_pw h4) ((sorted_pw h2).filter p)
end RE

set_option Elab.async false
set_option linter.all false
set_option maxRecDepth 100000
set_option maxHeartbeats 4000000
/-! Further rules of dicts: d.update(d2). -/
namespace RF
open PySem PySem.Spec PyProof.Rows L2
def rUpdD : V → List V → Hp → VK → Prop := fun x xs H Q => ∃ (d o : Addr) (kvs more : List (Key × V)), x = .ref d ∧ xs = [.ref o] ∧ H d = some (.dK kvs) ∧ Rd H o (.dK more) ∧ d ≠ o ∧ kvs.length + more.length ≤ sizeLine ∧ (mergeK kvs more).length ≤ sizeLine ∧ Q .non (upd H d (.dK (mergeK kvs more)))
theorem mt_updD {X : Cx} : MtR X "dict.update" rUpdD := by
  intro pins s σ H x xs v us Q I rx rxs h
  obtain ⟨d, o, kvs, more, rfl, rfl, hd, ho, hne, hl, hl2, q⟩ := h
  cases rx
  obtain rfl := Vals.ref1 rxs
  obtain ⟨z, lo, vs, rel, dd⟩ := dk_of I.hok hd
  obtain ⟨z2, lo2, vs2, rel2, dd2⟩ := dk_rd I.hok ho
  refine call_meetsIn PySem.F.slot_dict_update dd.typeIs PySem.F.entry_dict_update (PySem.F.args_dict_update_2 _ _) (meets_dict_update (mixKind X.prog X.w) d o hne lo2)
    ⟨vs, vs2, dd, dd2, (by rw [← rel.length, ← rel2.length]; exact hl), fun h' hmm _ hs => ?_⟩
  have he : ∃ q, h'.get? d = some q := let ⟨q, _, _, hq, _⟩ := hmm; ⟨q, hq⟩
  refine d_write I (by rw [hd]; exact True.intro) hs he (dk_new hl2 lo (KV.merge rel2 rel) hmm) |> fun I' => ⟨.non, _, I', rfl, q⟩
/-- list(o.values()) -/
def tListVals (td : TE) : TE := fun σ H Q => td σ H fun x H1 => ∃ a kvs, x = V.ref a ∧ H1 a = some (.dK kvs) ∧ ∀ q, H1 q = none → Q (.ref q) (upd H1 q (.lst (kvs.map (·.2))))
section
variable {X : Cx} {o : Expr} {p pos apos mpos : Pos} {td : TE}
theorem pe_listVals (hc : X.calm = true) (hg : Gl X "list") (hm : X.mg "list" = none) (hd : PE X o td) (hbase : attributeBase o "values" X.env (eval o X.env) = eval o X.env := by rfl) (hline : (apos.endLine == mpos.line) = true := by rfl)
    (hse : starEach [Expr.Call (.Attribute o "values" apos) [] [] mpos] X.env = [(false, eval (Expr.Call (.Attribute o "values" apos) [] [] mpos) X.env)] := by rfl) :
    PE X (.Call (.Name "list" p) [.Call (.Attribute o "values" apos) [] [] mpos] [] pos) (tListVals td) := by
  refine ⟨fun pins s σ H Q I h => ?_⟩
  refine wpAny_Call_Name_kw (ld_blt I hg hm (u := .type "list") (by first | rfl | decide +kernel) ?_ (by first | decide +kernel | decide) (by first | decide +kernel | decide))
  rw [hse]
  refine PySem.callWith_type1 (wpAny_Call_method0_late hbase hline (thn (hd.run pins s σ H _ I h) fun v s1 ⟨x, H1, I1, r1, a, kvs, ex, ha, q⟩ => ?_))
  subst ex
  obtain rfl : v = Value.ref a := r1
  obtain ⟨z, hsys, vs, rel, dof⟩ := dk_of I1.hok ha
  obtain ⟨ep, dat⟩ := dof.dictAt
  have dat' := dat
  obtain ⟨ob, es, ho, ex, hdat, hko, hpr, hnd⟩ := dat'
  refine ⟨"dict", "dict.values", F.plainAttrs_dict, F.slot_dict_values, F.type_dict_values, ⟨ob, ho, ex.1⟩, fun b e => ?_, Calls.callWith_builtin rfl (PySem.evalArgs_none ?_)⟩
  · cases e
    exact ⟨ob, ho, ex.2.1⟩
  refine call_meetsIn F.slot_dict_values ⟨ob, ho, ex.1⟩ F.entry_dict_values (F.args_dict_values_1 _) (meets_dict_values (mixKind X.prog X.w) a hsys) ⟨⟨vs, dof⟩, ?_⟩
  have k1 : ∀ b u, s1.heap.get? b = some u → (s1.heap.push { cls := .type "dict_values", data := .fields #[.ref a] }).get? b = some u := fun b u e => Heap.get?_push_of_some _ e
  have dat1 : (s1.heap.push { cls := .type "dict_values", data := .fields #[.ref a] }).DictAt (mixKind X.prog X.w) a vs ep := dat.keep k1
  have I2 : Inv X pins σ H1 { s1 with heap := s1.heap.push { cls := .type "dict_values", data := .fields #[.ref a] } } := I1.kept (t' := s1.toks) k1
  have hl : kvs.length = vs.length := Paired.length rel
  refine PySem.W.kdl_call (PySem.W.kdl_values (knd := mixKind X.prog X.w) (r := s1.heap.objs.size) (d := a) (kvs := vs) (ep := ep)) (I1.ok.hd hc) ⟨⟨_, Heap.get?_push_size _ rfl, rfl, rfl⟩, dat1⟩ (by rw [← hl]; exact z) fun h' tk acc' c' hkeep hS hacc => ?_
  refine ⟨.ref _, upd H1 _ (.lst (kvs.map (·.2))), I2.laid hkeep (Nat.le_refl _) (show ObjOk X.prog X.w _ _ _ (.lst (kvs.map (·.2))) from ⟨?_, acc'.toList, c', ?_, ?_⟩), rfl, q _ (I2.hok.fresh (Nat.le_refl _))⟩
  · rw [List.length_map]; exact z
  · have el : acc'.toList.length = acc'.size := by simp
    refine vals_of_at (by rw [List.length_map, el, hacc.1, hl]) fun j x w h1 h2 => ?_
    obtain ⟨k, hk⟩ := hacc.2 j w (by rw [← Array.getElem?_toList]; exact h2)
    obtain ⟨x', h3, h4⟩ := KV.at' rel hk
    rw [List.getElem?_map, h3] at h1
    cases h1
    exact h4
  · rw [Array.toArray_toList]; exact hS
end
/-- d[i] = v as one of several targets -/
def rSetD : TSet := fun o i v H Q => ∃ (a : Addr) (H' : Hp), o = .ref a ∧ DPut H a i v H' ∧ Q H'
theorem set_dict {X : Cx} (hu : X.A.units + 1 < cLine) : PSet X rSetD := by
  intro pins s σ H o i v ov iv u Q I ro ri rv h
  obtain ⟨a, H', rfl, g, q⟩ := h
  cases ro
  exact d_setItem hu I g ri rv fun s' I' => ⟨H', I', q⟩
end RF

set_option Elab.async false
set_option linter.all false
set_option maxRecDepth 100000
set_option maxHeartbeats 4000000
/-! Rules that name the written part, for a comprehension's block. -/
namespace RG
open PySem PySem.Spec PyProof.Rows L2
theorem pg_tupK {X : Cx} {K : PySem.W.Frag} {es : List Expr} {k n : Nat} {pos : Pos} {t : TGs} (hc : X.calm = true) (h : PGs X es t) (hn : (assignEach es X.env).length = n := by rfl) (hst : (assignEach es X.env).findIdx? (·.1) = none := by rfl) (z : X.K = K := by rfl) :
    PG X (.Tuple es k pos) (gTup K n t) := z ▸ pg_tup hc h hn hst
end RG

set_option Elab.async false
set_option linter.all false
set_option maxRecDepth 100000
set_option maxHeartbeats 4000000
/-! What a walk by itself leans on: facts of the heap carried over changes. -/
namespace RW
open PySem PySem.Spec PyProof.Rows L2 RC
section
variable {H H1 H2 : Hp} {p q s l : Addr} {o o' u : HO}
theorem at_same (e : Same H H1) (h : H p = some o) : H1 p = some o := e _ _ h
theorem at_old (e : Old s l H H1) (h1 : p ≠ s) (h2 : p ≠ l) (h : H p = some o) : H1 p = some o := e _ _ h1 h2 h
theorem at_upd (n : q ≠ p) (h : H q = some u) : upd H p o q = some u := by rw [upd_ne n]; exact h
theorem no_upd (n : q ≠ p) (h : H q = none) : upd H p o q = none := by rw [upd_ne n]; exact h
theorem ne_new (h : H p = none) (h2 : H q = some u) : q ≠ p := ne_of_none h2 h
theorem ne_new' (h : H p = none) (h2 : H q = some u) : p ≠ q := Ne.symm (ne_of_none h2 h)
theorem ne_kind (h : H p = some o) (h' : H q = some u) (n : o ≠ u) : p ≠ q := fun z => n (by rw [z] at h; exact Option.some.inj (h.symm.trans h'))
theorem same_put_new (e : Same H H1) (h : H1 p = none) : Same H (upd H1 p o) := e.trans (same_new h o)
theorem same_put (e : Same H H1) (h : H p = none) : Same H (upd H1 p o) := fun b x hb => by rw [upd_ne (ne_of_none hb h)]; exact e _ _ hb
theorem same_then (h : Same H1 H2) (e : Same H H1) : Same H H2 := e.trans h
theorem free_same (e : Same H H1) (h : H1 p = none) : H p = none := e.free h
theorem free_upd (h : upd H p o q = none) : H q = none := (upd_none h).2
theorem ne_upd (h : upd H p o q = none) : q ≠ p := (upd_none h).1
theorem some_ref {xs : List V} {K : PySem.W.Frag} (h : H p = some (.lst xs)) : SqL K H p xs := SqL.of h
theorem rd_of (h : H p = some o) : Rd H p o := .inl h
theorem fr {R : Addr → Prop} (h : ∀ x, H x = none → x ≠ p → R x) : ∀ x, upd H p o x = none → R x := fun x hx => h x (upd_none hx).2 (upd_none hx).1
theorem fr_same {R : Addr → Prop} (e : Same H H1) (h : ∀ x, H x = none → H1 x = none → R x) : ∀ x, H1 x = none → R x := fun x hx => h x (e.free hx) hx
theorem gHp (h : H p = some o) : H p = some o := h
theorem gStm {n : Nat} (h : Stm H s l n) : Stm H s l n := h
theorem stm_upd {n : Nat} (h1 : p ≠ s) (h2 : p ≠ l) (h : Stm H s l n) : Stm (upd H p o) s l n := by
  obtain ⟨ne, ns, x, c, d, g1, g2, g3⟩ := h
  exact ⟨ne, ns, x, c, d, by rw [upd_ne (Ne.symm h1)]; exact g1, by rw [upd_ne (Ne.symm h2)]; exact g2, g3⟩
theorem stm_at {n : Nat} (h : Stm H s l n) : (∃ o, H s = some o) ∧ (∃ o, H l = some o) ∧ s ≠ l := by
  obtain ⟨ne, ns, x, c, d, g1, g2, g3⟩ := h
  exact ⟨⟨_, g1⟩, ⟨_, g2⟩, ne⟩
theorem stm_same {n : Nat} (h : Stm H s l n) (e : Same H H1) : Stm H1 s l n := h.same e
theorem old_upd (e : Old s l H H1) (h : H p = none) : Old s l H (upd H1 p o) := fun b x h1 h2 hb => by rw [upd_ne (ne_of_none hb h)]; exact e _ _ h1 h2 hb
theorem old_same (e : Old s l H H1) (h : Same H1 H2) : Old s l H H2 := fun b x h1 h2 hb => h _ _ (e _ _ h1 h2 hb)
theorem old_then (h : Old s l H1 H2) (e : Old s l H H1) : Old s l H H2 := e.trans h
theorem old_of (e : Same H H1) : Old s l H H1 := Old.of_same e
theorem gOld (h : Old s l H H1) : Old s l H H1 := h
theorem gCp {i j : Int} (h : 0 ≤ j ∧ j ≤ 1000000 ∧ i.natAbs < 2 ^ 64) : CPow i j := h
theorem gNe (h : p ≠ q) : p ≠ q := h
theorem isMut {d : Addr} {w : HO} {R : Prop} (h : H d = some w ∧ Mut (H d) ∧ R) : H d = some w ∧ Mut (H d) ∧ R := h
theorem isMut2 {d : Addr} {w : HO} {R : Prop} (h : H d = some w ∧ Mut (some w) ∧ R) : H d = some w ∧ Mut (some w) ∧ R := h
theorem gSm (h : Same H H1) : Same H H1 := h
theorem gCls {K : PySem.W.Frag} {C : Addr} (h : Cls K C) : Cls K C := h
theorem gNo {K : PySem.W.Frag} {C : Addr} {f : Str} (h : NoAttr K C f) : NoAttr K C f := h
theorem gCv {c : V} {u : Value} (h : ClsV c u) : ClsV c u := h
theorem gTy {K : PySem.W.Frag} {c : V} {u : Value} (h : TyX K H c u) : TyX K H c u := h
theorem gKit {K : PySem.W.Frag} {t c : Value} {b : Bool} (h : PySem.W.kitOne K t c = some b) : PySem.W.kitOne K t c = some b := h
theorem gKita {K : PySem.W.Frag} {t : Value} {c : List Value} {b : Bool} (h : PySem.W.kitAny K t c = some b) : PySem.W.kitAny K t c = some b := h
theorem gSl {K : PySem.W.Frag} {xs : List V} (h : SqL K H p xs) : SqL K H p xs := h
theorem gSt {K : PySem.W.Frag} {xs : List V} (h : SqT K H p xs) : SqT K H p xs := h
theorem gPr {cs : List V} {us : List Value} (h : Paired ClsV cs us) : Paired ClsV cs us := h
theorem gKi {K : PySem.W.Frag} {t : Value} {b : Bool} (h : PySem.W.kitOne K t (.type "int") = some b) : PySem.W.kitOne K t (.type "int") = some b := h
theorem gKb {K : PySem.W.Frag} {t : Value} {b : Bool} (h : PySem.W.kitOne K t (.type "bool") = some b) : PySem.W.kitOne K t (.type "bool") = some b := h
theorem gKs {K : PySem.W.Frag} {t : Value} {b : Bool} (h : PySem.W.kitOne K t (.type "str") = some b) : PySem.W.kitOne K t (.type "str") = some b := h
theorem gKl {K : PySem.W.Frag} {t : Value} {b : Bool} (h : PySem.W.kitOne K t (.type "list") = some b) : PySem.W.kitOne K t (.type "list") = some b := h
theorem gKt {K : PySem.W.Frag} {t : Value} {b : Bool} (h : PySem.W.kitOne K t (.type "tuple") = some b) : PySem.W.kitOne K t (.type "tuple") = some b := h
theorem gKd {K : PySem.W.Frag} {t : Value} {b : Bool} (h : PySem.W.kitOne K t (.type "dict") = some b) : PySem.W.kitOne K t (.type "dict") = some b := h
theorem cxK {P : Program} {w : World} {K : PySem.W.Frag} {mg : Str → Option Value} {base : Heap} {N : List Str} {qual : Str} {scope : Scope} {f : Addr} {cd : Value} {A : Around} {outer : List Env} {sh : Shared} {E : XK} :
    (cxOf CX0 P w K mg base N qual scope f cd A outer sh H E).nox.K = K := rfl
end
section
variable {H : Hp} {K : PySem.W.Frag} {a p : Addr} {kvs : List (Key × V)} {x y : Str} {i j : Int} {o : Option V} {od : Obj} {v : V} {xs : List V}
theorem dget_s (h : H a = some (.dK kvs)) (e : valV kvs (Sum.inr x) = o) : DGet H a (.str x) o := .inl ⟨kvs, Sum.inr x, .inl h, rfl, e.symm⟩
theorem dget_i (h : H a = some (.dK kvs)) (e : valV kvs (Sum.inl i) = o) : DGet H a (.int i) o := .inl ⟨kvs, Sum.inl i, .inl h, rfl, e.symm⟩
theorem dget_sF (h : H a = some (.frz od (.dK kvs))) (e : valV kvs (Sum.inr x) = o) : DGet H a (.str x) o := .inl ⟨kvs, Sum.inr x, .inr ⟨od, h⟩, rfl, e.symm⟩
theorem dget_sR (h : Rd H a (.dK kvs)) (e : valV kvs (Sum.inr x) = o) : DGet H a (.str x) o := .inl ⟨kvs, Sum.inr x, h, rfl, e.symm⟩
theorem dput_s (h : H a = some (.dK kvs)) (hl : kvs.length < sizeLine) : DPut H a (.str x) v (upd H a (.dK (putK kvs (Sum.inr x) v))) := DPut.k (k := Sum.inr x) h hl
theorem dput_i (h : H a = some (.dK kvs)) (hl : kvs.length < sizeLine) : DPut H a (.int i) v (upd H a (.dK (putK kvs (Sum.inl i) v))) := DPut.k (k := Sum.inl i) h hl
theorem sql_of (h : H p = some (.lst xs)) : ∃ ys, SqL K H p ys := ⟨xs, SqL.of h⟩
theorem sqt_of (h : H p = some (.tup xs)) : ∃ ys, SqT K H p ys := ⟨xs, SqT.of h⟩
theorem disp1 {a0 : Str} {v0 : V} {R : List (Key × V) → Prop} (h : R [((Sum.inr a0 : Key), v0)]) : ∃ kvs : List (Key × V), [(V.str a0, v0)] = kvs.map (fun kv => (kV kv.1, kv.2)) ∧ kvs.length ≤ 15 ∧ R kvs := ⟨[((Sum.inr a0 : Key), v0)], rfl, Nat.le_of_ble_eq_true rfl, h⟩
theorem disp2 {a0 a1 : Str} {v0 v1 : V} {R : List (Key × V) → Prop} (h : R [((Sum.inr a0 : Key), v0), ((Sum.inr a1 : Key), v1)]) : ∃ kvs : List (Key × V), [(V.str a0, v0), (V.str a1, v1)] = kvs.map (fun kv => (kV kv.1, kv.2)) ∧ kvs.length ≤ 15 ∧ R kvs := ⟨[((Sum.inr a0 : Key), v0), ((Sum.inr a1 : Key), v1)], rfl, Nat.le_of_ble_eq_true rfl, h⟩
theorem disp3 {a0 a1 a2 : Str} {v0 v1 v2 : V} {R : List (Key × V) → Prop} (h : R [((Sum.inr a0 : Key), v0), ((Sum.inr a1 : Key), v1), ((Sum.inr a2 : Key), v2)]) : ∃ kvs : List (Key × V), [(V.str a0, v0), (V.str a1, v1), (V.str a2, v2)] = kvs.map (fun kv => (kV kv.1, kv.2)) ∧ kvs.length ≤ 15 ∧ R kvs := ⟨[((Sum.inr a0 : Key), v0), ((Sum.inr a1 : Key), v1), ((Sum.inr a2 : Key), v2)], rfl, Nat.le_of_ble_eq_true rfl, h⟩
theorem disp4 {a0 a1 a2 a3 : Str} {v0 v1 v2 v3 : V} {R : List (Key × V) → Prop} (h : R [((Sum.inr a0 : Key), v0), ((Sum.inr a1 : Key), v1), ((Sum.inr a2 : Key), v2), ((Sum.inr a3 : Key), v3)]) : ∃ kvs : List (Key × V), [(V.str a0, v0), (V.str a1, v1), (V.str a2, v2), (V.str a3, v3)] = kvs.map (fun kv => (kV kv.1, kv.2)) ∧ kvs.length ≤ 15 ∧ R kvs := ⟨[((Sum.inr a0 : Key), v0), ((Sum.inr a1 : Key), v1), ((Sum.inr a2 : Key), v2), ((Sum.inr a3 : Key), v3)], rfl, Nat.le_of_ble_eq_true rfl, h⟩
theorem disp5 {a0 a1 a2 a3 a4 : Str} {v0 v1 v2 v3 v4 : V} {R : List (Key × V) → Prop} (h : R [((Sum.inr a0 : Key), v0), ((Sum.inr a1 : Key), v1), ((Sum.inr a2 : Key), v2), ((Sum.inr a3 : Key), v3), ((Sum.inr a4 : Key), v4)]) : ∃ kvs : List (Key × V), [(V.str a0, v0), (V.str a1, v1), (V.str a2, v2), (V.str a3, v3), (V.str a4, v4)] = kvs.map (fun kv => (kV kv.1, kv.2)) ∧ kvs.length ≤ 15 ∧ R kvs := ⟨[((Sum.inr a0 : Key), v0), ((Sum.inr a1 : Key), v1), ((Sum.inr a2 : Key), v2), ((Sum.inr a3 : Key), v3), ((Sum.inr a4 : Key), v4)], rfl, Nat.le_of_ble_eq_true rfl, h⟩
theorem disp6 {a0 a1 a2 a3 a4 a5 : Str} {v0 v1 v2 v3 v4 v5 : V} {R : List (Key × V) → Prop} (h : R [((Sum.inr a0 : Key), v0), ((Sum.inr a1 : Key), v1), ((Sum.inr a2 : Key), v2), ((Sum.inr a3 : Key), v3), ((Sum.inr a4 : Key), v4), ((Sum.inr a5 : Key), v5)]) : ∃ kvs : List (Key × V), [(V.str a0, v0), (V.str a1, v1), (V.str a2, v2), (V.str a3, v3), (V.str a4, v4), (V.str a5, v5)] = kvs.map (fun kv => (kV kv.1, kv.2)) ∧ kvs.length ≤ 15 ∧ R kvs := ⟨[((Sum.inr a0 : Key), v0), ((Sum.inr a1 : Key), v1), ((Sum.inr a2 : Key), v2), ((Sum.inr a3 : Key), v3), ((Sum.inr a4 : Key), v4), ((Sum.inr a5 : Key), v5)], rfl, Nat.le_of_ble_eq_true rfl, h⟩
theorem disp7 {a0 a1 a2 a3 a4 a5 a6 : Str} {v0 v1 v2 v3 v4 v5 v6 : V} {R : List (Key × V) → Prop} (h : R [((Sum.inr a0 : Key), v0), ((Sum.inr a1 : Key), v1), ((Sum.inr a2 : Key), v2), ((Sum.inr a3 : Key), v3), ((Sum.inr a4 : Key), v4), ((Sum.inr a5 : Key), v5), ((Sum.inr a6 : Key), v6)]) : ∃ kvs : List (Key × V), [(V.str a0, v0), (V.str a1, v1), (V.str a2, v2), (V.str a3, v3), (V.str a4, v4), (V.str a5, v5), (V.str a6, v6)] = kvs.map (fun kv => (kV kv.1, kv.2)) ∧ kvs.length ≤ 15 ∧ R kvs := ⟨[((Sum.inr a0 : Key), v0), ((Sum.inr a1 : Key), v1), ((Sum.inr a2 : Key), v2), ((Sum.inr a3 : Key), v3), ((Sum.inr a4 : Key), v4), ((Sum.inr a5 : Key), v5), ((Sum.inr a6 : Key), v6)], rfl, Nat.le_of_ble_eq_true rfl, h⟩
theorem disp8 {a0 a1 a2 a3 a4 a5 a6 a7 : Str} {v0 v1 v2 v3 v4 v5 v6 v7 : V} {R : List (Key × V) → Prop} (h : R [((Sum.inr a0 : Key), v0), ((Sum.inr a1 : Key), v1), ((Sum.inr a2 : Key), v2), ((Sum.inr a3 : Key), v3), ((Sum.inr a4 : Key), v4), ((Sum.inr a5 : Key), v5), ((Sum.inr a6 : Key), v6), ((Sum.inr a7 : Key), v7)]) : ∃ kvs : List (Key × V), [(V.str a0, v0), (V.str a1, v1), (V.str a2, v2), (V.str a3, v3), (V.str a4, v4), (V.str a5, v5), (V.str a6, v6), (V.str a7, v7)] = kvs.map (fun kv => (kV kv.1, kv.2)) ∧ kvs.length ≤ 15 ∧ R kvs := ⟨[((Sum.inr a0 : Key), v0), ((Sum.inr a1 : Key), v1), ((Sum.inr a2 : Key), v2), ((Sum.inr a3 : Key), v3), ((Sum.inr a4 : Key), v4), ((Sum.inr a5 : Key), v5), ((Sum.inr a6 : Key), v6), ((Sum.inr a7 : Key), v7)], rfl, Nat.le_of_ble_eq_true rfl, h⟩
theorem len_sl (h : SqL K H p xs) : LenV K (.ref p) H xs.length := .inl ⟨xs, h, rfl⟩
theorem len_st (h : SqT K H p xs) : LenV K (.ref p) H xs.length := .inr ⟨xs, h, rfl⟩
theorem sql_same {H' : Hp} (h : SqL K H p xs) (e : Same H H') : SqL K H' p xs := e.seq h
theorem sqt_same {H' : Hp} (h : SqT K H p xs) (e : Same H H') : SqT K H' p xs := e.seqT h
theorem ka1 {t c : Value} {b : Bool} (h : PySem.W.kitOne K t c = some b) : PySem.W.kitAny K t [c] = some (b || false) := kitAny_cons h (fun e => by rw [e]; rfl) (fun e => by rw [e]; rfl)
theorem kac {t c : Value} {cs : List Value} {b r : Bool} (h : PySem.W.kitOne K t c = some b) (h2 : PySem.W.kitAny K t cs = some r) : PySem.W.kitAny K t (c :: cs) = some (b || r) := kitAny_cons h (fun e => by rw [e]; exact h2) (fun e => by rw [e]; rfl)
theorem ka2 {t c1 c2 : Value} {b1 b2 : Bool} (h1 : PySem.W.kitOne K t c1 = some b1) (h2 : PySem.W.kitOne K t c2 = some b2) : PySem.W.kitAny K t [c1, c2] = some (b1 || (b2 || false)) := kac h1 (ka1 h2)
theorem ka3 {t c1 c2 c3 : Value} {b1 b2 b3 : Bool} (h1 : PySem.W.kitOne K t c1 = some b1) (h2 : PySem.W.kitOne K t c2 = some b2) (h3 : PySem.W.kitOne K t c3 = some b3) : PySem.W.kitAny K t [c1, c2, c3] = some (b1 || (b2 || (b3 || false))) := kac h1 (ka2 h2 h3)
theorem ka4 {t c1 c2 c3 c4 : Value} {b1 b2 b3 b4 : Bool} (h1 : PySem.W.kitOne K t c1 = some b1) (h2 : PySem.W.kitOne K t c2 = some b2) (h3 : PySem.W.kitOne K t c3 = some b3) (h4 : PySem.W.kitOne K t c4 = some b4) : PySem.W.kitAny K t [c1, c2, c3, c4] = some (b1 || (b2 || (b3 || (b4 || false)))) := kac h1 (ka3 h2 h3 h4)
theorem ka5 {t c1 c2 c3 c4 c5 : Value} {b1 b2 b3 b4 b5 : Bool} (h1 : PySem.W.kitOne K t c1 = some b1) (h2 : PySem.W.kitOne K t c2 = some b2) (h3 : PySem.W.kitOne K t c3 = some b3) (h4 : PySem.W.kitOne K t c4 = some b4) (h5 : PySem.W.kitOne K t c5 = some b5) : PySem.W.kitAny K t [c1, c2, c3, c4, c5] = some (b1 || (b2 || (b3 || (b4 || (b5 || false))))) := kac h1 (ka4 h2 h3 h4 h5)
theorem len_l (h : H p = some (.lst xs)) : LenV K (.ref p) H xs.length := .inl ⟨xs, SqL.of h, rfl⟩
theorem tyv_l (h : H p = some (.lst xs)) : tyV K "list" (.ref p) H := .inl ⟨rfl, _, SqL.of h⟩
theorem tyv_s (h : SqL K H p xs) : tyV K "list" (.ref p) H := .inl ⟨rfl, _, h⟩
theorem isd (h : H a = some (.dK kvs)) : IsD H a := .inl ⟨kvs, .inl h⟩
theorem cSsT (h : x = y) : decide (V.str x = V.str y) = true := decide_eq_true (congrArg V.str h)
theorem cSsF (h : x ≠ y) : decide (V.str x = V.str y) = false := decide_eq_false fun z => h (V.str.inj z)
theorem cNsT (h : x ≠ y) : (!decide (V.str x = V.str y)) = true := by rw [cSsF h]; rfl
theorem cNsF (h : x = y) : (!decide (V.str x = V.str y)) = false := by rw [cSsT h]; rfl
theorem cSiT (h : i = j) : decide (V.int i = V.int j) = true := decide_eq_true (congrArg V.int h)
theorem cSiF (h : i ≠ j) : decide (V.int i = V.int j) = false := decide_eq_false fun z => h (V.int.inj z)
theorem cNiT (h : i ≠ j) : (!decide (V.int i = V.int j)) = true := by rw [cSiF h]; rfl
theorem cNiF (h : i = j) : (!decide (V.int i = V.int j)) = false := by rw [cSiT h]; rfl
theorem someT (h : o = some v) : o.isSome = true := by rw [h]; rfl
theorem someF (h : o = none) : o.isSome = false := by rw [h]; rfl
theorem nsomeT (h : o = none) : (!o.isSome) = true := by rw [h]; rfl
theorem nsomeF (h : o = some v) : (!o.isSome) = false := by rw [h]; rfl
end
theorem k_int_int {K : PySem.W.Frag} : PySem.W.kitOne K (.type "int") (.type "int") = some true := kit_ty (by decide +kernel)
theorem k_int_bool {K : PySem.W.Frag} : PySem.W.kitOne K (.type "int") (.type "bool") = some false := kit_ty (by decide +kernel)
theorem k_int_str {K : PySem.W.Frag} : PySem.W.kitOne K (.type "int") (.type "str") = some false := kit_ty (by decide +kernel)
theorem k_int_list {K : PySem.W.Frag} : PySem.W.kitOne K (.type "int") (.type "list") = some false := kit_ty (by decide +kernel)
theorem k_int_tuple {K : PySem.W.Frag} : PySem.W.kitOne K (.type "int") (.type "tuple") = some false := kit_ty (by decide +kernel)
theorem k_int_dict {K : PySem.W.Frag} : PySem.W.kitOne K (.type "int") (.type "dict") = some false := kit_ty (by decide +kernel)
theorem k_bool_int {K : PySem.W.Frag} : PySem.W.kitOne K (.type "bool") (.type "int") = some true := kit_ty (by decide +kernel)
theorem k_bool_bool {K : PySem.W.Frag} : PySem.W.kitOne K (.type "bool") (.type "bool") = some true := kit_ty (by decide +kernel)
theorem k_bool_str {K : PySem.W.Frag} : PySem.W.kitOne K (.type "bool") (.type "str") = some false := kit_ty (by decide +kernel)
theorem k_bool_list {K : PySem.W.Frag} : PySem.W.kitOne K (.type "bool") (.type "list") = some false := kit_ty (by decide +kernel)
theorem k_bool_tuple {K : PySem.W.Frag} : PySem.W.kitOne K (.type "bool") (.type "tuple") = some false := kit_ty (by decide +kernel)
theorem k_bool_dict {K : PySem.W.Frag} : PySem.W.kitOne K (.type "bool") (.type "dict") = some false := kit_ty (by decide +kernel)
theorem k_str_int {K : PySem.W.Frag} : PySem.W.kitOne K (.type "str") (.type "int") = some false := kit_ty (by decide +kernel)
theorem k_str_bool {K : PySem.W.Frag} : PySem.W.kitOne K (.type "str") (.type "bool") = some false := kit_ty (by decide +kernel)
theorem k_str_str {K : PySem.W.Frag} : PySem.W.kitOne K (.type "str") (.type "str") = some true := kit_ty (by decide +kernel)
theorem k_str_list {K : PySem.W.Frag} : PySem.W.kitOne K (.type "str") (.type "list") = some false := kit_ty (by decide +kernel)
theorem k_str_tuple {K : PySem.W.Frag} : PySem.W.kitOne K (.type "str") (.type "tuple") = some false := kit_ty (by decide +kernel)
theorem k_str_dict {K : PySem.W.Frag} : PySem.W.kitOne K (.type "str") (.type "dict") = some false := kit_ty (by decide +kernel)
theorem k_NoneType_int {K : PySem.W.Frag} : PySem.W.kitOne K (.type "NoneType") (.type "int") = some false := kit_ty (by decide +kernel)
theorem k_NoneType_bool {K : PySem.W.Frag} : PySem.W.kitOne K (.type "NoneType") (.type "bool") = some false := kit_ty (by decide +kernel)
theorem k_NoneType_str {K : PySem.W.Frag} : PySem.W.kitOne K (.type "NoneType") (.type "str") = some false := kit_ty (by decide +kernel)
theorem k_NoneType_list {K : PySem.W.Frag} : PySem.W.kitOne K (.type "NoneType") (.type "list") = some false := kit_ty (by decide +kernel)
theorem k_NoneType_tuple {K : PySem.W.Frag} : PySem.W.kitOne K (.type "NoneType") (.type "tuple") = some false := kit_ty (by decide +kernel)
theorem k_NoneType_dict {K : PySem.W.Frag} : PySem.W.kitOne K (.type "NoneType") (.type "dict") = some false := kit_ty (by decide +kernel)
theorem k_list_int {K : PySem.W.Frag} : PySem.W.kitOne K (.type "list") (.type "int") = some false := kit_ty (by decide +kernel)
theorem k_list_bool {K : PySem.W.Frag} : PySem.W.kitOne K (.type "list") (.type "bool") = some false := kit_ty (by decide +kernel)
theorem k_list_str {K : PySem.W.Frag} : PySem.W.kitOne K (.type "list") (.type "str") = some false := kit_ty (by decide +kernel)
theorem k_list_list {K : PySem.W.Frag} : PySem.W.kitOne K (.type "list") (.type "list") = some true := kit_ty (by decide +kernel)
theorem k_list_tuple {K : PySem.W.Frag} : PySem.W.kitOne K (.type "list") (.type "tuple") = some false := kit_ty (by decide +kernel)
theorem k_list_dict {K : PySem.W.Frag} : PySem.W.kitOne K (.type "list") (.type "dict") = some false := kit_ty (by decide +kernel)
theorem k_tuple_int {K : PySem.W.Frag} : PySem.W.kitOne K (.type "tuple") (.type "int") = some false := kit_ty (by decide +kernel)
theorem k_tuple_bool {K : PySem.W.Frag} : PySem.W.kitOne K (.type "tuple") (.type "bool") = some false := kit_ty (by decide +kernel)
theorem k_tuple_str {K : PySem.W.Frag} : PySem.W.kitOne K (.type "tuple") (.type "str") = some false := kit_ty (by decide +kernel)
theorem k_tuple_list {K : PySem.W.Frag} : PySem.W.kitOne K (.type "tuple") (.type "list") = some false := kit_ty (by decide +kernel)
theorem k_tuple_tuple {K : PySem.W.Frag} : PySem.W.kitOne K (.type "tuple") (.type "tuple") = some true := kit_ty (by decide +kernel)
theorem k_tuple_dict {K : PySem.W.Frag} : PySem.W.kitOne K (.type "tuple") (.type "dict") = some false := kit_ty (by decide +kernel)
theorem k_dict_int {K : PySem.W.Frag} : PySem.W.kitOne K (.type "dict") (.type "int") = some false := kit_ty (by decide +kernel)
theorem k_dict_bool {K : PySem.W.Frag} : PySem.W.kitOne K (.type "dict") (.type "bool") = some false := kit_ty (by decide +kernel)
theorem k_dict_str {K : PySem.W.Frag} : PySem.W.kitOne K (.type "dict") (.type "str") = some false := kit_ty (by decide +kernel)
theorem k_dict_list {K : PySem.W.Frag} : PySem.W.kitOne K (.type "dict") (.type "list") = some false := kit_ty (by decide +kernel)
theorem k_dict_tuple {K : PySem.W.Frag} : PySem.W.kitOne K (.type "dict") (.type "tuple") = some false := kit_ty (by decide +kernel)
theorem k_dict_dict {K : PySem.W.Frag} : PySem.W.kitOne K (.type "dict") (.type "dict") = some true := kit_ty (by decide +kernel)
end RW

set_option Elab.async false
set_option linter.all false
set_option maxRecDepth 100000
set_option maxHeartbeats 0
namespace K17
open PySem PySem.Spec PyProof.Rows L2 RC
/-! ### the text -/
def top (i : Nat) : Stmt := PySem.Challenge.pw_recordyard_k15_clocks_streams_and_files.main.body.getD i (.Pass ⟨0, 0, 0, 0⟩)
abbrev s_Filterer_init : Stmt := inClass (top 17) 0
abbrev nm_Filterer_init : List Str := ["self"]
theorem sc_Filterer_init : FnScope nm_Filterer_init ["self"] (defScope s_Filterer_init) := ⟨rfl, rfl, rfl, by decide +kernel, rfl, by decide +kernel, by decide +kernel⟩
def dd_Filterer_init : He.DefD := ⟨("Filterer", some "__init__"), "__init__", "Filterer.__init__", defArgs s_Filterer_init, defBody s_Filterer_init, defScope s_Filterer_init, [], []⟩
abbrev s_copied_value : Stmt := top 10
abbrev nm_copied_value : List Str := ["thing", "part", "name"]
theorem sc_copied_value : FnScope nm_copied_value ["thing"] (defScope s_copied_value) := ⟨rfl, rfl, rfl, by decide +kernel, rfl, by decide +kernel, by decide +kernel⟩
def dd_copied_value : He.DefD := ⟨("copied_value", none), "copied_value", "copied_value", defArgs s_copied_value, defBody s_copied_value, defScope s_copied_value, [], []⟩
abbrev s_LogRecord_init : Stmt := inClass (top 12) 0
abbrev nm_LogRecord_init : List Str := ["self", "name", "levelno", "levelname", "msg", "args", "created", "extra"]
theorem sc_LogRecord_init : FnScope nm_LogRecord_init ["self", "name", "levelno", "levelname", "msg", "args", "created", "extra"] (defScope s_LogRecord_init) := ⟨rfl, rfl, rfl, by decide +kernel, rfl, by decide +kernel, by decide +kernel⟩
def dd_LogRecord_init : He.DefD := ⟨("LogRecord", some "__init__"), "__init__", "LogRecord.__init__", defArgs s_LogRecord_init, defBody s_LogRecord_init, defScope s_LogRecord_init, [], []⟩
abbrev s_LogRecord_message : Stmt := inClass (top 12) 1
abbrev nm_LogRecord_message : List Str := ["self"]
theorem sc_LogRecord_message : FnScope nm_LogRecord_message ["self"] (defScope s_LogRecord_message) := ⟨rfl, rfl, rfl, by decide +kernel, rfl, by decide +kernel, by decide +kernel⟩
def dd_LogRecord_message : He.DefD := ⟨("LogRecord", some "message"), "message", "LogRecord.message", defArgs s_LogRecord_message, defBody s_LogRecord_message, defScope s_LogRecord_message, [], []⟩
abbrev s_Handler_init : Stmt := inClass (top 19) 0
abbrev nm_Handler_init : List Str := ["self", "yard"]
theorem sc_Handler_init : FnScope nm_Handler_init ["self", "yard"] (defScope s_Handler_init) := ⟨rfl, rfl, rfl, by decide +kernel, rfl, by decide +kernel, by decide +kernel⟩
def dd_Handler_init : He.DefD := ⟨("Handler", some "__init__"), "__init__", "Handler.__init__", defArgs s_Handler_init, defBody s_Handler_init, defScope s_Handler_init, [], []⟩
abbrev s_StreamHandler_init : Stmt := inClass (top 20) 0
abbrev nm_StreamHandler_init : List Str := ["self", "yard", "stream"]
theorem sc_StreamHandler_init : FnScope nm_StreamHandler_init ["self", "yard", "stream"] (defScope s_StreamHandler_init) := ⟨rfl, rfl, rfl, by decide +kernel, rfl, by decide +kernel, by decide +kernel⟩
def dd_StreamHandler_init : He.DefD := ⟨("StreamHandler", some "__init__"), "__init__", "StreamHandler.__init__", defArgs s_StreamHandler_init, defBody s_StreamHandler_init, defScope s_StreamHandler_init, [.str "stderr"], []⟩
abbrev s_FileHandler_init : Stmt := inClass (top 36) 0
abbrev nm_FileHandler_init : List Str := ["self", "yard", "filename", "mode", "delay"]
theorem sc_FileHandler_init : FnScope nm_FileHandler_init ["self", "yard", "filename", "mode", "delay"] (defScope s_FileHandler_init) := ⟨rfl, rfl, rfl, by decide +kernel, rfl, by decide +kernel, by decide +kernel⟩
def dd_FileHandler_init : He.DefD := ⟨("FileHandler", some "__init__"), "__init__", "FileHandler.__init__", defArgs s_FileHandler_init, defBody s_FileHandler_init, defScope s_FileHandler_init, [.str "a", .bl false], []⟩
abbrev s_Filterer_filtered : Stmt := inClass (top 17) 3
abbrev nm_Filterer_filtered : List Str := ["self", "record", "found", "one"]
theorem sc_Filterer_filtered : FnScope nm_Filterer_filtered ["self", "record"] (defScope s_Filterer_filtered) := ⟨rfl, rfl, rfl, by decide +kernel, rfl, by decide +kernel, by decide +kernel⟩
def dd_StreamHandler_filtered : He.DefD := ⟨("StreamHandler", some "filtered"), "filtered", "Filterer.filtered", defArgs s_Filterer_filtered, defBody s_Filterer_filtered, defScope s_Filterer_filtered, [], []⟩
abbrev s_Handler_setTerminator : Stmt := inClass (top 19) 3
abbrev nm_Handler_setTerminator : List Str := ["self", "text"]
theorem sc_Handler_setTerminator : FnScope nm_Handler_setTerminator ["self", "text"] (defScope s_Handler_setTerminator) := ⟨rfl, rfl, rfl, by decide +kernel, rfl, by decide +kernel, by decide +kernel⟩
def dd_StreamHandler_setTerminator : He.DefD := ⟨("StreamHandler", some "setTerminator"), "setTerminator", "Handler.setTerminator", defArgs s_Handler_setTerminator, defBody s_Handler_setTerminator, defScope s_Handler_setTerminator, [], []⟩
abbrev s_Handler_handle : Stmt := inClass (top 19) 5
abbrev nm_Handler_handle : List Str := ["self", "record", "found"]
theorem sc_Handler_handle : FnScope nm_Handler_handle ["self", "record"] (defScope s_Handler_handle) := ⟨rfl, rfl, rfl, by decide +kernel, rfl, by decide +kernel, by decide +kernel⟩
def dd_StreamHandler_handle : He.DefD := ⟨("StreamHandler", some "handle"), "handle", "Handler.handle", defArgs s_Handler_handle, defBody s_Handler_handle, defScope s_Handler_handle, [], []⟩
abbrev s_StreamHandler_emit : Stmt := inClass (top 20) 1
abbrev nm_StreamHandler_emit : List Str := ["self", "record", "text"]
theorem sc_StreamHandler_emit : FnScope nm_StreamHandler_emit ["self", "record"] (defScope s_StreamHandler_emit) := ⟨rfl, rfl, rfl, by decide +kernel, rfl, by decide +kernel, by decide +kernel⟩
def dd_StreamHandler_emit : He.DefD := ⟨("StreamHandler", some "emit"), "emit", "StreamHandler.emit", defArgs s_StreamHandler_emit, defBody s_StreamHandler_emit, defScope s_StreamHandler_emit, [], []⟩
abbrev s_Handler_formatted : Stmt := inClass (top 19) 7
abbrev nm_Handler_formatted : List Str := ["self", "record"]
theorem sc_Handler_formatted : FnScope nm_Handler_formatted ["self", "record"] (defScope s_Handler_formatted) := ⟨rfl, rfl, rfl, by decide +kernel, rfl, by decide +kernel, by decide +kernel⟩
def dd_StreamHandler_formatted : He.DefD := ⟨("StreamHandler", some "formatted"), "formatted", "Handler.formatted", defArgs s_Handler_formatted, defBody s_Handler_formatted, defScope s_Handler_formatted, [], []⟩
abbrev s_Handler_text_of : Stmt := inClass (top 19) 8
abbrev nm_Handler_text_of : List Str := ["self", "record", "found"]
theorem sc_Handler_text_of : FnScope nm_Handler_text_of ["self", "record"] (defScope s_Handler_text_of) := ⟨rfl, rfl, rfl, by decide +kernel, rfl, by decide +kernel, by decide +kernel⟩
def dd_StreamHandler_text_of : He.DefD := ⟨("StreamHandler", some "text_of"), "text_of", "Handler.text_of", defArgs s_Handler_text_of, defBody s_Handler_text_of, defScope s_Handler_text_of, [], []⟩
def dd_FileHandler_filtered : He.DefD := ⟨("FileHandler", some "filtered"), "filtered", "Filterer.filtered", defArgs s_Filterer_filtered, defBody s_Filterer_filtered, defScope s_Filterer_filtered, [], []⟩
def dd_FileHandler_setTerminator : He.DefD := ⟨("FileHandler", some "setTerminator"), "setTerminator", "Handler.setTerminator", defArgs s_Handler_setTerminator, defBody s_Handler_setTerminator, defScope s_Handler_setTerminator, [], []⟩
def dd_FileHandler_handle : He.DefD := ⟨("FileHandler", some "handle"), "handle", "Handler.handle", defArgs s_Handler_handle, defBody s_Handler_handle, defScope s_Handler_handle, [], []⟩
abbrev s_FileHandler_emit : Stmt := inClass (top 36) 2
abbrev nm_FileHandler_emit : List Str := ["self", "record", "text"]
theorem sc_FileHandler_emit : FnScope nm_FileHandler_emit ["self", "record"] (defScope s_FileHandler_emit) := ⟨rfl, rfl, rfl, by decide +kernel, rfl, by decide +kernel, by decide +kernel⟩
def dd_FileHandler_emit : He.DefD := ⟨("FileHandler", some "emit"), "emit", "FileHandler.emit", defArgs s_FileHandler_emit, defBody s_FileHandler_emit, defScope s_FileHandler_emit, [], []⟩
def dd_FileHandler_formatted : He.DefD := ⟨("FileHandler", some "formatted"), "formatted", "Handler.formatted", defArgs s_Handler_formatted, defBody s_Handler_formatted, defScope s_Handler_formatted, [], []⟩
def dd_FileHandler_text_of : He.DefD := ⟨("FileHandler", some "text_of"), "text_of", "Handler.text_of", defArgs s_Handler_text_of, defBody s_Handler_text_of, defScope s_Handler_text_of, [], []⟩
abbrev s_FileHandler_open_file : Stmt := inClass (top 36) 1
abbrev nm_FileHandler_open_file : List Str := ["self"]
theorem sc_FileHandler_open_file : FnScope nm_FileHandler_open_file ["self"] (defScope s_FileHandler_open_file) := ⟨rfl, rfl, rfl, by decide +kernel, rfl, by decide +kernel, by decide +kernel⟩
def dd_FileHandler_open_file : He.DefD := ⟨("FileHandler", some "open_file"), "open_file", "FileHandler.open_file", defArgs s_FileHandler_open_file, defBody s_FileHandler_open_file, defScope s_FileHandler_open_file, [], []⟩
abbrev s_is_integer : Stmt := top 30
abbrev nm_is_integer : List Str := ["thing"]
theorem sc_is_integer : FnScope nm_is_integer ["thing"] (defScope s_is_integer) := ⟨rfl, rfl, rfl, by decide +kernel, rfl, by decide +kernel, by decide +kernel⟩
def dd_is_integer : He.DefD := ⟨("is_integer", none), "is_integer", "is_integer", defArgs s_is_integer, defBody s_is_integer, defScope s_is_integer, [], []⟩
abbrev s_Logger_init : Stmt := inClass (top 32) 0
abbrev nm_Logger_init : List Str := ["self", "yard", "name", "level"]
theorem sc_Logger_init : FnScope nm_Logger_init ["self", "yard", "name", "level"] (defScope s_Logger_init) := ⟨rfl, rfl, rfl, by decide +kernel, rfl, by decide +kernel, by decide +kernel⟩
def dd_Logger_init : He.DefD := ⟨("Logger", some "__init__"), "__init__", "Logger.__init__", defArgs s_Logger_init, defBody s_Logger_init, defScope s_Logger_init, [], []⟩
abbrev s_Yard_init : Stmt := inClass (top 34) 0
abbrev nm_Yard_init : List Str := ["self", "now"]
theorem sc_Yard_init : FnScope nm_Yard_init ["self", "now"] (defScope s_Yard_init) := ⟨rfl, rfl, rfl, by decide +kernel, rfl, by decide +kernel, by decide +kernel⟩
def dd_Yard_init : He.DefD := ⟨("Yard", some "__init__"), "__init__", "Yard.__init__", defArgs s_Yard_init, defBody s_Yard_init, defScope s_Yard_init, [.int 0], []⟩
abbrev s_Yard_now : Stmt := inClass (top 34) 1
abbrev nm_Yard_now : List Str := ["self"]
theorem sc_Yard_now : FnScope nm_Yard_now ["self"] (defScope s_Yard_now) := ⟨rfl, rfl, rfl, by decide +kernel, rfl, by decide +kernel, by decide +kernel⟩
def dd_Yard_now : He.DefD := ⟨("Yard", some "now"), "now", "Yard.now", defArgs s_Yard_now, defBody s_Yard_now, defScope s_Yard_now, [], []⟩
abbrev s_Yard_advance : Stmt := inClass (top 34) 2
abbrev nm_Yard_advance : List Str := ["self", "milliseconds"]
theorem sc_Yard_advance : FnScope nm_Yard_advance ["self", "milliseconds"] (defScope s_Yard_advance) := ⟨rfl, rfl, rfl, by decide +kernel, rfl, by decide +kernel, by decide +kernel⟩
def dd_Yard_advance : He.DefD := ⟨("Yard", some "advance"), "advance", "Yard.advance", defArgs s_Yard_advance, defBody s_Yard_advance, defScope s_Yard_advance, [], []⟩
abbrev s_Yard_text : Stmt := inClass (top 34) 3
abbrev nm_Yard_text : List Str := ["self", "stream"]
theorem sc_Yard_text : FnScope nm_Yard_text ["self", "stream"] (defScope s_Yard_text) := ⟨rfl, rfl, rfl, by decide +kernel, rfl, by decide +kernel, by decide +kernel⟩
def dd_Yard_text : He.DefD := ⟨("Yard", some "text"), "text", "Yard.text", defArgs s_Yard_text, defBody s_Yard_text, defScope s_Yard_text, [], []⟩
abbrev s_Yard_streams : Stmt := inClass (top 34) 4
abbrev nm_Yard_streams : List Str := ["self", "name"]
theorem sc_Yard_streams : FnScope nm_Yard_streams ["self"] (defScope s_Yard_streams) := ⟨rfl, rfl, rfl, by decide +kernel, rfl, by decide +kernel, by decide +kernel⟩
def dd_Yard_streams : He.DefD := ⟨("Yard", some "streams"), "streams", "Yard.streams", defArgs s_Yard_streams, defBody s_Yard_streams, defScope s_Yard_streams, [], []⟩
abbrev s_Yard_write_stream : Stmt := inClass (top 34) 5
abbrev nm_Yard_write_stream : List Str := ["self", "name", "text"]
theorem sc_Yard_write_stream : FnScope nm_Yard_write_stream ["self", "name", "text"] (defScope s_Yard_write_stream) := ⟨rfl, rfl, rfl, by decide +kernel, rfl, by decide +kernel, by decide +kernel⟩
def dd_Yard_write_stream : He.DefD := ⟨("Yard", some "write_stream"), "write_stream", "Yard.write_stream", defArgs s_Yard_write_stream, defBody s_Yard_write_stream, defScope s_Yard_write_stream, [], []⟩
abbrev s_Yard_files : Stmt := inClass (top 34) 6
abbrev nm_Yard_files : List Str := ["self", "name"]
theorem sc_Yard_files : FnScope nm_Yard_files ["self"] (defScope s_Yard_files) := ⟨rfl, rfl, rfl, by decide +kernel, rfl, by decide +kernel, by decide +kernel⟩
def dd_Yard_files : He.DefD := ⟨("Yard", some "files"), "files", "Yard.files", defArgs s_Yard_files, defBody s_Yard_files, defScope s_Yard_files, [], []⟩
abbrev s_Yard_put_file : Stmt := inClass (top 34) 7
abbrev nm_Yard_put_file : List Str := ["self", "name", "text"]
theorem sc_Yard_put_file : FnScope nm_Yard_put_file ["self", "name", "text"] (defScope s_Yard_put_file) := ⟨rfl, rfl, rfl, by decide +kernel, rfl, by decide +kernel, by decide +kernel⟩
def dd_Yard_put_file : He.DefD := ⟨("Yard", some "put_file"), "put_file", "Yard.put_file", defArgs s_Yard_put_file, defBody s_Yard_put_file, defScope s_Yard_put_file, [], []⟩
abbrev s_Yard_remove_file : Stmt := inClass (top 34) 8
abbrev nm_Yard_remove_file : List Str := ["self", "name"]
theorem sc_Yard_remove_file : FnScope nm_Yard_remove_file ["self", "name"] (defScope s_Yard_remove_file) := ⟨rfl, rfl, rfl, by decide +kernel, rfl, by decide +kernel, by decide +kernel⟩
def dd_Yard_remove_file : He.DefD := ⟨("Yard", some "remove_file"), "remove_file", "Yard.remove_file", defArgs s_Yard_remove_file, defBody s_Yard_remove_file, defScope s_Yard_remove_file, [], []⟩
abbrev s_Yard_has_file : Stmt := inClass (top 34) 9
abbrev nm_Yard_has_file : List Str := ["self", "name"]
theorem sc_Yard_has_file : FnScope nm_Yard_has_file ["self", "name"] (defScope s_Yard_has_file) := ⟨rfl, rfl, rfl, by decide +kernel, rfl, by decide +kernel, by decide +kernel⟩
def dd_Yard_has_file : He.DefD := ⟨("Yard", some "has_file"), "has_file", "Yard.has_file", defArgs s_Yard_has_file, defBody s_Yard_has_file, defScope s_Yard_has_file, [], []⟩
abbrev s_Yard_file_text : Stmt := inClass (top 34) 10
abbrev nm_Yard_file_text : List Str := ["self", "name"]
theorem sc_Yard_file_text : FnScope nm_Yard_file_text ["self", "name"] (defScope s_Yard_file_text) := ⟨rfl, rfl, rfl, by decide +kernel, rfl, by decide +kernel, by decide +kernel⟩
def dd_Yard_file_text : He.DefD := ⟨("Yard", some "file_text"), "file_text", "Yard.file_text", defArgs s_Yard_file_text, defBody s_Yard_file_text, defScope s_Yard_file_text, [], []⟩
abbrev s_Yard_make_file : Stmt := inClass (top 34) 12
abbrev nm_Yard_make_file : List Str := ["self", "name"]
theorem sc_Yard_make_file : FnScope nm_Yard_make_file ["self", "name"] (defScope s_Yard_make_file) := ⟨rfl, rfl, rfl, by decide +kernel, rfl, by decide +kernel, by decide +kernel⟩
def dd_Yard_make_file : He.DefD := ⟨("Yard", some "make_file"), "make_file", "Yard.make_file", defArgs s_Yard_make_file, defBody s_Yard_make_file, defScope s_Yard_make_file, [], []⟩
abbrev s_Yard_write_file : Stmt := inClass (top 34) 13
abbrev nm_Yard_write_file : List Str := ["self", "name", "text"]
theorem sc_Yard_write_file : FnScope nm_Yard_write_file ["self", "name", "text"] (defScope s_Yard_write_file) := ⟨rfl, rfl, rfl, by decide +kernel, rfl, by decide +kernel, by decide +kernel⟩
def dd_Yard_write_file : He.DefD := ⟨("Yard", some "write_file"), "write_file", "Yard.write_file", defArgs s_Yard_write_file, defBody s_Yard_write_file, defScope s_Yard_write_file, [], []⟩
abbrev s_Yard_level_name : Stmt := inClass (top 34) 16
abbrev nm_Yard_level_name : List Str := ["self", "level"]
theorem sc_Yard_level_name : FnScope nm_Yard_level_name ["self", "level"] (defScope s_Yard_level_name) := ⟨rfl, rfl, rfl, by decide +kernel, rfl, by decide +kernel, by decide +kernel⟩
def dd_Yard_level_name : He.DefD := ⟨("Yard", some "level_name"), "level_name", "Yard.level_name", defArgs s_Yard_level_name, defBody s_Yard_level_name, defScope s_Yard_level_name, [], []⟩
abbrev s_Yard_level_of : Stmt := inClass (top 34) 18
abbrev nm_Yard_level_of : List Str := ["self", "level"]
theorem sc_Yard_level_of : FnScope nm_Yard_level_of ["self", "level"] (defScope s_Yard_level_of) := ⟨rfl, rfl, rfl, by decide +kernel, rfl, by decide +kernel, by decide +kernel⟩
def dd_Yard_level_of : He.DefD := ⟨("Yard", some "level_of"), "level_of", "Yard.level_of", defArgs s_Yard_level_of, defBody s_Yard_level_of, defScope s_Yard_level_of, [], []⟩
abbrev s_Yard_make_record : Stmt := inClass (top 34) 19
abbrev nm_Yard_make_record : List Str := ["self", "name", "level", "msg", "args", "extra", "number", "more", "bad", "key"]
theorem sc_Yard_make_record : FnScope nm_Yard_make_record ["self", "name", "level", "msg", "args", "extra"] (defScope s_Yard_make_record) := ⟨rfl, rfl, rfl, by decide +kernel, rfl, by decide +kernel, by decide +kernel⟩
def dd_Yard_make_record : He.DefD := ⟨("Yard", some "make_record"), "make_record", "Yard.make_record", defArgs s_Yard_make_record, defBody s_Yard_make_record, defScope s_Yard_make_record, [.adr (He.dflAt ("Yard", some "make_record") 0), .non], []⟩
abbrev s_Yard_enrol : Stmt := inClass (top 34) 24
abbrev nm_Yard_enrol : List Str := ["self", "handler"]
theorem sc_Yard_enrol : FnScope nm_Yard_enrol ["self", "handler"] (defScope s_Yard_enrol) := ⟨rfl, rfl, rfl, by decide +kernel, rfl, by decide +kernel, by decide +kernel⟩
def dd_Yard_enrol : He.DefD := ⟨("Yard", some "enrol"), "enrol", "Yard.enrol", defArgs s_Yard_enrol, defBody s_Yard_enrol, defScope s_Yard_enrol, [], []⟩
abbrev s__law_draw : Stmt := top 38
abbrev nm__law_draw : List Str := ["_law_stream", "_law_many", "_law_digit", "_law_mixed", "_law_last"]
theorem sc__law_draw : FnScope nm__law_draw ["_law_stream", "_law_many"] (defScope s__law_draw) := ⟨rfl, rfl, rfl, by decide +kernel, rfl, by decide +kernel, by decide +kernel⟩
def dd__law_draw : He.DefD := ⟨("_law_draw", none), "_law_draw", "_law_draw", defArgs s__law_draw, defBody s__law_draw, defScope s__law_draw, [], []⟩
abbrev s__law_pick : Stmt := top 39
abbrev nm__law_pick : List Str := ["_law_stream", "_law_some"]
theorem sc__law_pick : FnScope nm__law_pick ["_law_stream", "_law_some"] (defScope s__law_pick) := ⟨rfl, rfl, rfl, by decide +kernel, rfl, by decide +kernel, by decide +kernel⟩
def dd__law_pick : He.DefD := ⟨("_law_pick", none), "_law_pick", "_law_pick", defArgs s__law_pick, defBody s__law_pick, defScope s__law_pick, [], []⟩
abbrev s__law_same : Stmt := top 40
abbrev nm__law_same : List Str := ["_law_found", "_law_due", "_law_key", "_law_one", "_law_other"]
theorem sc__law_same : FnScope nm__law_same ["_law_found", "_law_due"] (defScope s__law_same) := ⟨rfl, rfl, rfl, by decide +kernel, rfl, by decide +kernel, by decide +kernel⟩
def dd__law_same : He.DefD := ⟨("_law_same", none), "_law_same", "_law_same", defArgs s__law_same, defBody s__law_same, defScope s__law_same, [], []⟩
abbrev s__law_yard_right : Stmt := top 41
abbrev nm__law_yard_right : List Str := ["_law_yard", "_law_row", "_law_streams", "_law_some", "_law_time", "_law_found", "_law_keys", "_law_key", "_law_shown"]
theorem sc__law_yard_right : FnScope nm__law_yard_right ["_law_yard", "_law_row"] (defScope s__law_yard_right) := ⟨rfl, rfl, rfl, by decide +kernel, rfl, by decide +kernel, by decide +kernel⟩
def dd__law_yard_right : He.DefD := ⟨("_law_yard_right", none), "_law_yard_right", "_law_yard_right", defArgs s__law_yard_right, defBody s__law_yard_right, defScope s__law_yard_right, [], []⟩
abbrev s__law_yard_deed : Stmt := top 42
abbrev nm__law_yard_deed : List Str := ["_law_stream", "_law_yard", "_law_row", "_law_handlers", "_law_way", "_law_key", "_law_words", "_law_more", "_law_at", "_law_part"]
theorem sc__law_yard_deed : FnScope nm__law_yard_deed ["_law_stream", "_law_yard", "_law_row", "_law_handlers"] (defScope s__law_yard_deed) := ⟨rfl, rfl, rfl, by decide +kernel, rfl, by decide +kernel, by decide +kernel⟩
def dd__law_yard_deed : He.DefD := ⟨("_law_yard_deed", none), "_law_yard_deed", "_law_yard_deed", defArgs s__law_yard_deed, defBody s__law_yard_deed, defScope s__law_yard_deed, [], []⟩
abbrev s_law : Stmt := top 43
abbrev nm_law : List Str := ["_law_script", "_law_stream", "_law_begin", "_law_yards", "_law_rows", "_law_handlers", "_law_at", "_law_yard", "_law_key", "_law_turn", "_law_k"]
theorem sc_law : FnScope nm_law ["_law_script"] (defScope s_law) := ⟨rfl, rfl, rfl, by decide +kernel, rfl, by decide +kernel, by decide +kernel⟩
def dd_law : He.DefD := ⟨("law", none), "law", "law", defArgs s_law, defBody s_law, defScope s_law, [], []⟩
def kv_FIRST_NAMES : List (Key × He.Dv) := [(Sum.inl (50), .str "CRITICAL"), (Sum.inl (40), .str "ERROR"), (Sum.inl (30), .str "WARNING"), (Sum.inl (20), .str "INFO"), (Sum.inl (10), .str "DEBUG"), (Sum.inl (0), .str "NOTSET")]
def kv_FIRST_NUMBERS : List (Key × He.Dv) := [(Sum.inr "CRITICAL", .int (50)), (Sum.inr "FATAL", .int (50)), (Sum.inr "ERROR", .int (40)), (Sum.inr "WARNING", .int (30)), (Sum.inr "WARN", .int (30)), (Sum.inr "INFO", .int (20)), (Sum.inr "DEBUG", .int (10)), (Sum.inr "NOTSET", .int (0))]
def fa : List He.Fa := ([.glo "Filterer", .glo "LogRecord", .glo "Handler", .glo "StreamHandler", .glo "FileHandler", .glo "Logger", .glo "Yard", .glo "BadMessage", .glo "BadField", .glo "copied_value", .glo "is_integer", .glo "_law_draw"] : List He.Fa) ++ ([.glo "_law_pick", .glo "_law_same", .glo "_law_yard_right", .glo "_law_yard_deed", .glo "law", .int "WARNING" 30, .int "NOTSET" 0, .glo "OWN_FIELDS", .glo "FIRST_NAMES", .glo "FIRST_NUMBERS", .free "len", .free "isinstance"] : List He.Fa) ++ ([.free "int", .free "str", .free "list", .free "tuple", .free "bool", .free "dict", .free "range", .free "sorted", .free "all", .free "zip", .cls "LogRecord", .noat "LogRecord" "name"] : List He.Fa) ++ ([.noat "LogRecord" "levelno", .noat "LogRecord" "levelname", .noat "LogRecord" "msg", .noat "LogRecord" "given", .noat "LogRecord" "created", .noat "LogRecord" "extra", .cls "StreamHandler", .noat "StreamHandler" "filters", .noat "StreamHandler" "yard", .noat "StreamHandler" "level", .noat "StreamHandler" "formatter", .noat "StreamHandler" "name"] : List He.Fa) ++ ([.noat "StreamHandler" "terminator", .noat "StreamHandler" "closed", .noat "StreamHandler" "stream", .cls "FileHandler", .noat "FileHandler" "filters", .noat "FileHandler" "yard", .noat "FileHandler" "level", .noat "FileHandler" "formatter", .noat "FileHandler" "name", .noat "FileHandler" "terminator", .noat "FileHandler" "closed", .noat "FileHandler" "filename"] : List He.Fa) ++ ([.noat "FileHandler" "mode", .noat "FileHandler" "delay", .noat "FileHandler" "is_open", .noat "FileHandler" "shut", .cls "Logger", .noat "Logger" "filters", .noat "Logger" "yard", .noat "Logger" "name", .noat "Logger" "level", .noat "Logger" "propagate", .noat "Logger" "disabled", .noat "Logger" "handlers"] : List He.Fa) ++ ([.noat "Logger" "parent", .cls "Yard", .noat "Yard" "clock", .noat "Yard" "stream_texts", .noat "Yard" "file_rows", .noat "Yard" "names_of", .noat "Yard" "numbers_of", .noat "Yard" "bar_level", .noat "Yard" "logger_map", .noat "Yard" "made", .noat "Yard" "handler_names", .noat "Yard" "failure_rows"] : List He.Fa) ++ ([.noat "Yard" "root", .noat "Yard" "last_resort", .meth "LogRecord" "message", .meth "StreamHandler" "filtered", .meth "StreamHandler" "setTerminator", .meth "StreamHandler" "handle", .meth "StreamHandler" "emit", .meth "StreamHandler" "formatted", .meth "StreamHandler" "text_of", .meth "FileHandler" "filtered", .meth "FileHandler" "setTerminator", .meth "FileHandler" "handle"] : List He.Fa) ++ ([.meth "FileHandler" "emit", .meth "FileHandler" "formatted", .meth "FileHandler" "text_of", .meth "FileHandler" "open_file", .meth "Yard" "now", .meth "Yard" "advance", .meth "Yard" "text", .meth "Yard" "streams", .meth "Yard" "write_stream", .meth "Yard" "files", .meth "Yard" "put_file", .meth "Yard" "remove_file"] : List He.Fa) ++ ([.meth "Yard" "has_file", .meth "Yard" "file_text", .meth "Yard" "make_file", .meth "Yard" "write_file", .meth "Yard" "level_name", .meth "Yard" "level_of", .meth "Yard" "make_record", .meth "Yard" "enrol", .mkr "StreamHandler", .mkr "FileHandler", .mkr "Logger", .mkr "Yard"] : List He.Fa) ++ ([.mkr "LogRecord"] : List He.Fa)
def fx : List RB.Fx := ([.pl "Logger", .pl "StreamHandler", .sub "Logger" "Logger", .sub "StreamHandler" "StreamHandler", .cf "Filterer" "__init__", .cf "Handler" "__init__", .dtup ("Yard", some "make_record") 0] : List RB.Fx)
def fn : List He.DefD := ([dd_Filterer_init, dd_copied_value, dd_LogRecord_init, dd_LogRecord_message, dd_Handler_init, dd_StreamHandler_init, dd_FileHandler_init, dd_StreamHandler_filtered, dd_StreamHandler_setTerminator, dd_StreamHandler_handle, dd_StreamHandler_emit, dd_StreamHandler_formatted] : List He.DefD) ++ ([dd_StreamHandler_text_of, dd_FileHandler_filtered, dd_FileHandler_setTerminator, dd_FileHandler_handle, dd_FileHandler_emit, dd_FileHandler_formatted, dd_FileHandler_text_of, dd_FileHandler_open_file, dd_is_integer, dd_Logger_init, dd_Yard_init, dd_Yard_now] : List He.DefD) ++ ([dd_Yard_advance, dd_Yard_text, dd_Yard_streams, dd_Yard_write_stream, dd_Yard_files, dd_Yard_put_file, dd_Yard_remove_file, dd_Yard_has_file, dd_Yard_file_text, dd_Yard_make_file, dd_Yard_write_file, dd_Yard_level_name] : List He.DefD) ++ ([dd_Yard_level_of, dd_Yard_make_record, dd_Yard_enrol, dd__law_draw, dd__law_pick, dd__law_same, dd__law_yard_right, dd__law_yard_deed, dd_law] : List He.DefD)
def ts : List RB.Tb := ([("FIRST_NAMES", kv_FIRST_NAMES), ("FIRST_NUMBERS", kv_FIRST_NUMBERS)] : List RB.Tb)
def names : List PySem.Str := (["_wall", "YardError", "BadLevel", "BadExtra", "BadMessage", "BadField", "BadMode", "OWN_FIELDS", "copied_value", "message_of", "LogRecord", "is_below"] : List PySem.Str) ++ (["let_by", "Filter", "Filterer", "Handler", "StreamHandler", "CRITICAL", "ERROR", "WARNING", "INFO", "DEBUG", "NOTSET", "FIRST_NAMES"] : List PySem.Str) ++ (["FIRST_NUMBERS", "is_integer", "Logger", "Yard", "FileHandler", "_law_draw", "_law_pick", "_law_same", "_law_yard_right", "_law_yard_deed"] : List PySem.Str)
/-- what the text is, behind the top -/
structure Txt (P : Program) (w : World) (K : PySem.W.Frag) (mg : Str → Option Value) : Prop where
  g_Filterer : mg "Filterer" = some (.ref (He.ga K "Filterer"))
  g_LogRecord : mg "LogRecord" = some (.ref (He.ga K "LogRecord"))
  g_Handler : mg "Handler" = some (.ref (He.ga K "Handler"))
  g_StreamHandler : mg "StreamHandler" = some (.ref (He.ga K "StreamHandler"))
  g_FileHandler : mg "FileHandler" = some (.ref (He.ga K "FileHandler"))
  g_Logger : mg "Logger" = some (.ref (He.ga K "Logger"))
  g_Yard : mg "Yard" = some (.ref (He.ga K "Yard"))
  g_BadMessage : mg "BadMessage" = some (.ref (He.ga K "BadMessage"))
  g_BadField : mg "BadField" = some (.ref (He.ga K "BadField"))
  g_copied_value : mg "copied_value" = some (.ref (He.ga K "copied_value"))
  g_is_integer : mg "is_integer" = some (.ref (He.ga K "is_integer"))
  g__law_draw : mg "_law_draw" = some (.ref (He.ga K "_law_draw"))
  g__law_pick : mg "_law_pick" = some (.ref (He.ga K "_law_pick"))
  g__law_same : mg "_law_same" = some (.ref (He.ga K "_law_same"))
  g__law_yard_right : mg "_law_yard_right" = some (.ref (He.ga K "_law_yard_right"))
  g__law_yard_deed : mg "_law_yard_deed" = some (.ref (He.ga K "_law_yard_deed"))
  g_law : mg "law" = some (.ref (He.ga K "law"))
  g_WARNING : ∃ t, mg "WARNING" = some (.int 30 t)
  g_NOTSET : ∃ t, mg "NOTSET" = some (.int 0 t)
  g_OWN_FIELDS : mg "OWN_FIELDS" = some (.ref (He.ga K "OWN_FIELDS"))
  g_FIRST_NAMES : mg "FIRST_NAMES" = some (.ref (He.ga K "FIRST_NAMES"))
  g_FIRST_NUMBERS : mg "FIRST_NUMBERS" = some (.ref (He.ga K "FIRST_NUMBERS"))
  b_len : mg "len" = none
  b_isinstance : mg "isinstance" = none
  b_int : mg "int" = none
  b_str : mg "str" = none
  b_list : mg "list" = none
  b_tuple : mg "tuple" = none
  b_bool : mg "bool" = none
  b_dict : mg "dict" = none
  b_range : mg "range" = none
  b_sorted : mg "sorted" = none
  b_all : mg "all" = none
  b_zip : mg "zip" = none
  c_LogRecord : Cls K (He.ga K "LogRecord")
  n_LogRecord_name : NoAttr K (He.ga K "LogRecord") "name"
  n_LogRecord_levelno : NoAttr K (He.ga K "LogRecord") "levelno"
  n_LogRecord_levelname : NoAttr K (He.ga K "LogRecord") "levelname"
  n_LogRecord_msg : NoAttr K (He.ga K "LogRecord") "msg"
  n_LogRecord_given : NoAttr K (He.ga K "LogRecord") "given"
  n_LogRecord_created : NoAttr K (He.ga K "LogRecord") "created"
  n_LogRecord_extra : NoAttr K (He.ga K "LogRecord") "extra"
  c_StreamHandler : Cls K (He.ga K "StreamHandler")
  n_StreamHandler_filters : NoAttr K (He.ga K "StreamHandler") "filters"
  n_StreamHandler_yard : NoAttr K (He.ga K "StreamHandler") "yard"
  n_StreamHandler_level : NoAttr K (He.ga K "StreamHandler") "level"
  n_StreamHandler_formatter : NoAttr K (He.ga K "StreamHandler") "formatter"
  n_StreamHandler_name : NoAttr K (He.ga K "StreamHandler") "name"
  n_StreamHandler_terminator : NoAttr K (He.ga K "StreamHandler") "terminator"
  n_StreamHandler_closed : NoAttr K (He.ga K "StreamHandler") "closed"
  n_StreamHandler_stream : NoAttr K (He.ga K "StreamHandler") "stream"
  c_FileHandler : Cls K (He.ga K "FileHandler")
  n_FileHandler_filters : NoAttr K (He.ga K "FileHandler") "filters"
  n_FileHandler_yard : NoAttr K (He.ga K "FileHandler") "yard"
  n_FileHandler_level : NoAttr K (He.ga K "FileHandler") "level"
  n_FileHandler_formatter : NoAttr K (He.ga K "FileHandler") "formatter"
  n_FileHandler_name : NoAttr K (He.ga K "FileHandler") "name"
  n_FileHandler_terminator : NoAttr K (He.ga K "FileHandler") "terminator"
  n_FileHandler_closed : NoAttr K (He.ga K "FileHandler") "closed"
  n_FileHandler_filename : NoAttr K (He.ga K "FileHandler") "filename"
  n_FileHandler_mode : NoAttr K (He.ga K "FileHandler") "mode"
  n_FileHandler_delay : NoAttr K (He.ga K "FileHandler") "delay"
  n_FileHandler_is_open : NoAttr K (He.ga K "FileHandler") "is_open"
  n_FileHandler_shut : NoAttr K (He.ga K "FileHandler") "shut"
  c_Logger : Cls K (He.ga K "Logger")
  n_Logger_filters : NoAttr K (He.ga K "Logger") "filters"
  n_Logger_yard : NoAttr K (He.ga K "Logger") "yard"
  n_Logger_name : NoAttr K (He.ga K "Logger") "name"
  n_Logger_level : NoAttr K (He.ga K "Logger") "level"
  n_Logger_propagate : NoAttr K (He.ga K "Logger") "propagate"
  n_Logger_disabled : NoAttr K (He.ga K "Logger") "disabled"
  n_Logger_handlers : NoAttr K (He.ga K "Logger") "handlers"
  n_Logger_parent : NoAttr K (He.ga K "Logger") "parent"
  c_Yard : Cls K (He.ga K "Yard")
  n_Yard_clock : NoAttr K (He.ga K "Yard") "clock"
  n_Yard_stream_texts : NoAttr K (He.ga K "Yard") "stream_texts"
  n_Yard_file_rows : NoAttr K (He.ga K "Yard") "file_rows"
  n_Yard_names_of : NoAttr K (He.ga K "Yard") "names_of"
  n_Yard_numbers_of : NoAttr K (He.ga K "Yard") "numbers_of"
  n_Yard_bar_level : NoAttr K (He.ga K "Yard") "bar_level"
  n_Yard_logger_map : NoAttr K (He.ga K "Yard") "logger_map"
  n_Yard_made : NoAttr K (He.ga K "Yard") "made"
  n_Yard_handler_names : NoAttr K (He.ga K "Yard") "handler_names"
  n_Yard_failure_rows : NoAttr K (He.ga K "Yard") "failure_rows"
  n_Yard_root : NoAttr K (He.ga K "Yard") "root"
  n_Yard_last_resort : NoAttr K (He.ga K "Yard") "last_resort"
  m_LogRecord_message : Meth K (He.ga K "LogRecord") "message" (He.ma K (He.ga K "LogRecord") "message")
  m_StreamHandler_filtered : Meth K (He.ga K "StreamHandler") "filtered" (He.ma K (He.ga K "StreamHandler") "filtered")
  m_StreamHandler_setTerminator : Meth K (He.ga K "StreamHandler") "setTerminator" (He.ma K (He.ga K "StreamHandler") "setTerminator")
  m_StreamHandler_handle : Meth K (He.ga K "StreamHandler") "handle" (He.ma K (He.ga K "StreamHandler") "handle")
  m_StreamHandler_emit : Meth K (He.ga K "StreamHandler") "emit" (He.ma K (He.ga K "StreamHandler") "emit")
  m_StreamHandler_formatted : Meth K (He.ga K "StreamHandler") "formatted" (He.ma K (He.ga K "StreamHandler") "formatted")
  m_StreamHandler_text_of : Meth K (He.ga K "StreamHandler") "text_of" (He.ma K (He.ga K "StreamHandler") "text_of")
  m_FileHandler_filtered : Meth K (He.ga K "FileHandler") "filtered" (He.ma K (He.ga K "FileHandler") "filtered")
  m_FileHandler_setTerminator : Meth K (He.ga K "FileHandler") "setTerminator" (He.ma K (He.ga K "FileHandler") "setTerminator")
  m_FileHandler_handle : Meth K (He.ga K "FileHandler") "handle" (He.ma K (He.ga K "FileHandler") "handle")
  m_FileHandler_emit : Meth K (He.ga K "FileHandler") "emit" (He.ma K (He.ga K "FileHandler") "emit")
  m_FileHandler_formatted : Meth K (He.ga K "FileHandler") "formatted" (He.ma K (He.ga K "FileHandler") "formatted")
  m_FileHandler_text_of : Meth K (He.ga K "FileHandler") "text_of" (He.ma K (He.ga K "FileHandler") "text_of")
  m_FileHandler_open_file : Meth K (He.ga K "FileHandler") "open_file" (He.ma K (He.ga K "FileHandler") "open_file")
  m_Yard_now : Meth K (He.ga K "Yard") "now" (He.ma K (He.ga K "Yard") "now")
  m_Yard_advance : Meth K (He.ga K "Yard") "advance" (He.ma K (He.ga K "Yard") "advance")
  m_Yard_text : Meth K (He.ga K "Yard") "text" (He.ma K (He.ga K "Yard") "text")
  m_Yard_streams : Meth K (He.ga K "Yard") "streams" (He.ma K (He.ga K "Yard") "streams")
  m_Yard_write_stream : Meth K (He.ga K "Yard") "write_stream" (He.ma K (He.ga K "Yard") "write_stream")
  m_Yard_files : Meth K (He.ga K "Yard") "files" (He.ma K (He.ga K "Yard") "files")
  m_Yard_put_file : Meth K (He.ga K "Yard") "put_file" (He.ma K (He.ga K "Yard") "put_file")
  m_Yard_remove_file : Meth K (He.ga K "Yard") "remove_file" (He.ma K (He.ga K "Yard") "remove_file")
  m_Yard_has_file : Meth K (He.ga K "Yard") "has_file" (He.ma K (He.ga K "Yard") "has_file")
  m_Yard_file_text : Meth K (He.ga K "Yard") "file_text" (He.ma K (He.ga K "Yard") "file_text")
  m_Yard_make_file : Meth K (He.ga K "Yard") "make_file" (He.ma K (He.ga K "Yard") "make_file")
  m_Yard_write_file : Meth K (He.ga K "Yard") "write_file" (He.ma K (He.ga K "Yard") "write_file")
  m_Yard_level_name : Meth K (He.ga K "Yard") "level_name" (He.ma K (He.ga K "Yard") "level_name")
  m_Yard_level_of : Meth K (He.ga K "Yard") "level_of" (He.ma K (He.ga K "Yard") "level_of")
  m_Yard_make_record : Meth K (He.ga K "Yard") "make_record" (He.ma K (He.ga K "Yard") "make_record")
  m_Yard_enrol : Meth K (He.ga K "Yard") "enrol" (He.ma K (He.ga K "Yard") "enrol")
  k_StreamHandler : Mk K (He.ga K "StreamHandler") (He.ma K (He.ga K "StreamHandler") "__init__")
  k_FileHandler : Mk K (He.ga K "FileHandler") (He.ma K (He.ga K "FileHandler") "__init__")
  k_Logger : Mk K (He.ga K "Logger") (He.ma K (He.ga K "Logger") "__init__")
  k_Yard : Mk K (He.ga K "Yard") (He.ma K (He.ga K "Yard") "__init__")
  k_LogRecord : Mk K (He.ga K "LogRecord") (He.ma K (He.ga K "LogRecord") "__init__")
  p_Logger : RA.PlainC K (He.ga K "Logger")
  p_StreamHandler : RA.PlainC K (He.ga K "StreamHandler")
  sub_Logger_Logger : RA.PairC K (He.ga K "Logger") (He.ga K "Logger")
  sub_StreamHandler_StreamHandler : RA.PairC K (He.ga K "StreamHandler") (He.ga K "StreamHandler")
  cf_Filterer_init : RA.CFun K (He.ga K "Filterer") "__init__" (He.ma K (He.ga K "Filterer") "__init__")
  cf_Handler_init : RA.CFun K (He.ga K "Handler") "__init__" (He.ma K (He.ga K "Handler") "__init__")
  dt_Yard_make_record_0 : ∀ H : Hp, SqT K H (He.dflAt ("Yard", some "make_record") 0 K) []
  d_Filterer_init : Stands K "__init__" "Filterer.__init__" s_Filterer_init [] (He.fAd K ("Filterer", some "__init__"))
  d_copied_value : Stands K "copied_value" "copied_value" s_copied_value [] (He.fAd K ("copied_value", none))
  d_LogRecord_init : Stands K "__init__" "LogRecord.__init__" s_LogRecord_init [] (He.fAd K ("LogRecord", some "__init__"))
  d_LogRecord_message : Stands K "message" "LogRecord.message" s_LogRecord_message [] (He.fAd K ("LogRecord", some "message"))
  d_Handler_init : Stands K "__init__" "Handler.__init__" s_Handler_init [] (He.fAd K ("Handler", some "__init__"))
  d_StreamHandler_init : Stands K "__init__" "StreamHandler.__init__" s_StreamHandler_init [(He.Dv.str "stderr" : He.Dv).v K] (He.fAd K ("StreamHandler", some "__init__"))
  d_FileHandler_init : Stands K "__init__" "FileHandler.__init__" s_FileHandler_init [(He.Dv.str "a" : He.Dv).v K, (He.Dv.bl false : He.Dv).v K] (He.fAd K ("FileHandler", some "__init__"))
  d_StreamHandler_filtered : Stands K "filtered" "Filterer.filtered" s_Filterer_filtered [] (He.fAd K ("StreamHandler", some "filtered"))
  d_StreamHandler_setTerminator : Stands K "setTerminator" "Handler.setTerminator" s_Handler_setTerminator [] (He.fAd K ("StreamHandler", some "setTerminator"))
  d_StreamHandler_handle : Stands K "handle" "Handler.handle" s_Handler_handle [] (He.fAd K ("StreamHandler", some "handle"))
  d_StreamHandler_emit : Stands K "emit" "StreamHandler.emit" s_StreamHandler_emit [] (He.fAd K ("StreamHandler", some "emit"))
  d_StreamHandler_formatted : Stands K "formatted" "Handler.formatted" s_Handler_formatted [] (He.fAd K ("StreamHandler", some "formatted"))
  d_StreamHandler_text_of : Stands K "text_of" "Handler.text_of" s_Handler_text_of [] (He.fAd K ("StreamHandler", some "text_of"))
  d_FileHandler_filtered : Stands K "filtered" "Filterer.filtered" s_Filterer_filtered [] (He.fAd K ("FileHandler", some "filtered"))
  d_FileHandler_setTerminator : Stands K "setTerminator" "Handler.setTerminator" s_Handler_setTerminator [] (He.fAd K ("FileHandler", some "setTerminator"))
  d_FileHandler_handle : Stands K "handle" "Handler.handle" s_Handler_handle [] (He.fAd K ("FileHandler", some "handle"))
  d_FileHandler_emit : Stands K "emit" "FileHandler.emit" s_FileHandler_emit [] (He.fAd K ("FileHandler", some "emit"))
  d_FileHandler_formatted : Stands K "formatted" "Handler.formatted" s_Handler_formatted [] (He.fAd K ("FileHandler", some "formatted"))
  d_FileHandler_text_of : Stands K "text_of" "Handler.text_of" s_Handler_text_of [] (He.fAd K ("FileHandler", some "text_of"))
  d_FileHandler_open_file : Stands K "open_file" "FileHandler.open_file" s_FileHandler_open_file [] (He.fAd K ("FileHandler", some "open_file"))
  d_is_integer : Stands K "is_integer" "is_integer" s_is_integer [] (He.fAd K ("is_integer", none))
  d_Logger_init : Stands K "__init__" "Logger.__init__" s_Logger_init [] (He.fAd K ("Logger", some "__init__"))
  d_Yard_init : Stands K "__init__" "Yard.__init__" s_Yard_init [(He.Dv.int 0 : He.Dv).v K] (He.fAd K ("Yard", some "__init__"))
  d_Yard_now : Stands K "now" "Yard.now" s_Yard_now [] (He.fAd K ("Yard", some "now"))
  d_Yard_advance : Stands K "advance" "Yard.advance" s_Yard_advance [] (He.fAd K ("Yard", some "advance"))
  d_Yard_text : Stands K "text" "Yard.text" s_Yard_text [] (He.fAd K ("Yard", some "text"))
  d_Yard_streams : Stands K "streams" "Yard.streams" s_Yard_streams [] (He.fAd K ("Yard", some "streams"))
  d_Yard_write_stream : Stands K "write_stream" "Yard.write_stream" s_Yard_write_stream [] (He.fAd K ("Yard", some "write_stream"))
  d_Yard_files : Stands K "files" "Yard.files" s_Yard_files [] (He.fAd K ("Yard", some "files"))
  d_Yard_put_file : Stands K "put_file" "Yard.put_file" s_Yard_put_file [] (He.fAd K ("Yard", some "put_file"))
  d_Yard_remove_file : Stands K "remove_file" "Yard.remove_file" s_Yard_remove_file [] (He.fAd K ("Yard", some "remove_file"))
  d_Yard_has_file : Stands K "has_file" "Yard.has_file" s_Yard_has_file [] (He.fAd K ("Yard", some "has_file"))
  d_Yard_file_text : Stands K "file_text" "Yard.file_text" s_Yard_file_text [] (He.fAd K ("Yard", some "file_text"))
  d_Yard_make_file : Stands K "make_file" "Yard.make_file" s_Yard_make_file [] (He.fAd K ("Yard", some "make_file"))
  d_Yard_write_file : Stands K "write_file" "Yard.write_file" s_Yard_write_file [] (He.fAd K ("Yard", some "write_file"))
  d_Yard_level_name : Stands K "level_name" "Yard.level_name" s_Yard_level_name [] (He.fAd K ("Yard", some "level_name"))
  d_Yard_level_of : Stands K "level_of" "Yard.level_of" s_Yard_level_of [] (He.fAd K ("Yard", some "level_of"))
  d_Yard_make_record : Stands K "make_record" "Yard.make_record" s_Yard_make_record [(He.Dv.adr (He.dflAt ("Yard", some "make_record") 0) : He.Dv).v K, (He.Dv.non : He.Dv).v K] (He.fAd K ("Yard", some "make_record"))
  d_Yard_enrol : Stands K "enrol" "Yard.enrol" s_Yard_enrol [] (He.fAd K ("Yard", some "enrol"))
  d__law_draw : Stands K "_law_draw" "_law_draw" s__law_draw [] (He.fAd K ("_law_draw", none))
  d__law_pick : Stands K "_law_pick" "_law_pick" s__law_pick [] (He.fAd K ("_law_pick", none))
  d__law_same : Stands K "_law_same" "_law_same" s__law_same [] (He.fAd K ("_law_same", none))
  d__law_yard_right : Stands K "_law_yard_right" "_law_yard_right" s__law_yard_right [] (He.fAd K ("_law_yard_right", none))
  d__law_yard_deed : Stands K "_law_yard_deed" "_law_yard_deed" s__law_yard_deed [] (He.fAd K ("_law_yard_deed", none))
  d_law : Stands K "law" "law" s_law [] (He.fAd K ("law", none))
  t_FIRST_NAMES : RB.KD P w K (He.ga K "FIRST_NAMES") (kv_FIRST_NAMES.map fun q => (q.1, q.2.v K))
  t_FIRST_NUMBERS : RB.KD P w K (He.ga K "FIRST_NUMBERS") (kv_FIRST_NUMBERS.map fun q => (q.1, q.2.v K))
theorem Txt.of {P : Program} {w : World} {K : PySem.W.Frag} {h : Heap} {mg : Str → Option Value} (X : K.In h) (G : h.Ns mainGlobals mg) (c : RB.SaysB fa fx fn ts w K) : Txt P w K mg where
    g_Filterer := He.glo_ok X G (c.fact 0 (f := .glo "Filterer") (by rfl))
    g_LogRecord := He.glo_ok X G (c.fact 1 (f := .glo "LogRecord") (by rfl))
    g_Handler := He.glo_ok X G (c.fact 2 (f := .glo "Handler") (by rfl))
    g_StreamHandler := He.glo_ok X G (c.fact 3 (f := .glo "StreamHandler") (by rfl))
    g_FileHandler := He.glo_ok X G (c.fact 4 (f := .glo "FileHandler") (by rfl))
    g_Logger := He.glo_ok X G (c.fact 5 (f := .glo "Logger") (by rfl))
    g_Yard := He.glo_ok X G (c.fact 6 (f := .glo "Yard") (by rfl))
    g_BadMessage := He.glo_ok X G (c.fact 7 (f := .glo "BadMessage") (by rfl))
    g_BadField := He.glo_ok X G (c.fact 8 (f := .glo "BadField") (by rfl))
    g_copied_value := He.glo_ok X G (c.fact 9 (f := .glo "copied_value") (by rfl))
    g_is_integer := He.glo_ok X G (c.fact 10 (f := .glo "is_integer") (by rfl))
    g__law_draw := He.glo_ok X G (c.fact 11 (f := .glo "_law_draw") (by rfl))
    g__law_pick := He.glo_ok X G (c.fact 12 (f := .glo "_law_pick") (by rfl))
    g__law_same := He.glo_ok X G (c.fact 13 (f := .glo "_law_same") (by rfl))
    g__law_yard_right := He.glo_ok X G (c.fact 14 (f := .glo "_law_yard_right") (by rfl))
    g__law_yard_deed := He.glo_ok X G (c.fact 15 (f := .glo "_law_yard_deed") (by rfl))
    g_law := He.glo_ok X G (c.fact 16 (f := .glo "law") (by rfl))
    g_WARNING := He.int_ok X G (c.fact 17 (f := .int "WARNING" 30) (by rfl))
    g_NOTSET := He.int_ok X G (c.fact 18 (f := .int "NOTSET" 0) (by rfl))
    g_OWN_FIELDS := He.glo_ok X G (c.fact 19 (f := .glo "OWN_FIELDS") (by rfl))
    g_FIRST_NAMES := He.glo_ok X G (c.fact 20 (f := .glo "FIRST_NAMES") (by rfl))
    g_FIRST_NUMBERS := He.glo_ok X G (c.fact 21 (f := .glo "FIRST_NUMBERS") (by rfl))
    b_len := He.free_ok X G (c.fact 22 (f := .free "len") (by rfl))
    b_isinstance := He.free_ok X G (c.fact 23 (f := .free "isinstance") (by rfl))
    b_int := He.free_ok X G (c.fact 24 (f := .free "int") (by rfl))
    b_str := He.free_ok X G (c.fact 25 (f := .free "str") (by rfl))
    b_list := He.free_ok X G (c.fact 26 (f := .free "list") (by rfl))
    b_tuple := He.free_ok X G (c.fact 27 (f := .free "tuple") (by rfl))
    b_bool := He.free_ok X G (c.fact 28 (f := .free "bool") (by rfl))
    b_dict := He.free_ok X G (c.fact 29 (f := .free "dict") (by rfl))
    b_range := He.free_ok X G (c.fact 30 (f := .free "range") (by rfl))
    b_sorted := He.free_ok X G (c.fact 31 (f := .free "sorted") (by rfl))
    b_all := He.free_ok X G (c.fact 32 (f := .free "all") (by rfl))
    b_zip := He.free_ok X G (c.fact 33 (f := .free "zip") (by rfl))
    c_LogRecord := He.cls_ok (c.fact 34 (f := .cls "LogRecord") (by rfl))
    n_LogRecord_name := He.noat_ok (c.fact 35 (f := .noat "LogRecord" "name") (by rfl))
    n_LogRecord_levelno := He.noat_ok (c.fact 36 (f := .noat "LogRecord" "levelno") (by rfl))
    n_LogRecord_levelname := He.noat_ok (c.fact 37 (f := .noat "LogRecord" "levelname") (by rfl))
    n_LogRecord_msg := He.noat_ok (c.fact 38 (f := .noat "LogRecord" "msg") (by rfl))
    n_LogRecord_given := He.noat_ok (c.fact 39 (f := .noat "LogRecord" "given") (by rfl))
    n_LogRecord_created := He.noat_ok (c.fact 40 (f := .noat "LogRecord" "created") (by rfl))
    n_LogRecord_extra := He.noat_ok (c.fact 41 (f := .noat "LogRecord" "extra") (by rfl))
    c_StreamHandler := He.cls_ok (c.fact 42 (f := .cls "StreamHandler") (by rfl))
    n_StreamHandler_filters := He.noat_ok (c.fact 43 (f := .noat "StreamHandler" "filters") (by rfl))
    n_StreamHandler_yard := He.noat_ok (c.fact 44 (f := .noat "StreamHandler" "yard") (by rfl))
    n_StreamHandler_level := He.noat_ok (c.fact 45 (f := .noat "StreamHandler" "level") (by rfl))
    n_StreamHandler_formatter := He.noat_ok (c.fact 46 (f := .noat "StreamHandler" "formatter") (by rfl))
    n_StreamHandler_name := He.noat_ok (c.fact 47 (f := .noat "StreamHandler" "name") (by rfl))
    n_StreamHandler_terminator := He.noat_ok (c.fact 48 (f := .noat "StreamHandler" "terminator") (by rfl))
    n_StreamHandler_closed := He.noat_ok (c.fact 49 (f := .noat "StreamHandler" "closed") (by rfl))
    n_StreamHandler_stream := He.noat_ok (c.fact 50 (f := .noat "StreamHandler" "stream") (by rfl))
    c_FileHandler := He.cls_ok (c.fact 51 (f := .cls "FileHandler") (by rfl))
    n_FileHandler_filters := He.noat_ok (c.fact 52 (f := .noat "FileHandler" "filters") (by rfl))
    n_FileHandler_yard := He.noat_ok (c.fact 53 (f := .noat "FileHandler" "yard") (by rfl))
    n_FileHandler_level := He.noat_ok (c.fact 54 (f := .noat "FileHandler" "level") (by rfl))
    n_FileHandler_formatter := He.noat_ok (c.fact 55 (f := .noat "FileHandler" "formatter") (by rfl))
    n_FileHandler_name := He.noat_ok (c.fact 56 (f := .noat "FileHandler" "name") (by rfl))
    n_FileHandler_terminator := He.noat_ok (c.fact 57 (f := .noat "FileHandler" "terminator") (by rfl))
    n_FileHandler_closed := He.noat_ok (c.fact 58 (f := .noat "FileHandler" "closed") (by rfl))
    n_FileHandler_filename := He.noat_ok (c.fact 59 (f := .noat "FileHandler" "filename") (by rfl))
    n_FileHandler_mode := He.noat_ok (c.fact 60 (f := .noat "FileHandler" "mode") (by rfl))
    n_FileHandler_delay := He.noat_ok (c.fact 61 (f := .noat "FileHandler" "delay") (by rfl))
    n_FileHandler_is_open := He.noat_ok (c.fact 62 (f := .noat "FileHandler" "is_open") (by rfl))
    n_FileHandler_shut := He.noat_ok (c.fact 63 (f := .noat "FileHandler" "shut") (by rfl))
    c_Logger := He.cls_ok (c.fact 64 (f := .cls "Logger") (by rfl))
    n_Logger_filters := He.noat_ok (c.fact 65 (f := .noat "Logger" "filters") (by rfl))
    n_Logger_yard := He.noat_ok (c.fact 66 (f := .noat "Logger" "yard") (by rfl))
    n_Logger_name := He.noat_ok (c.fact 67 (f := .noat "Logger" "name") (by rfl))
    n_Logger_level := He.noat_ok (c.fact 68 (f := .noat "Logger" "level") (by rfl))
    n_Logger_propagate := He.noat_ok (c.fact 69 (f := .noat "Logger" "propagate") (by rfl))
    n_Logger_disabled := He.noat_ok (c.fact 70 (f := .noat "Logger" "disabled") (by rfl))
    n_Logger_handlers := He.noat_ok (c.fact 71 (f := .noat "Logger" "handlers") (by rfl))
    n_Logger_parent := He.noat_ok (c.fact 72 (f := .noat "Logger" "parent") (by rfl))
    c_Yard := He.cls_ok (c.fact 73 (f := .cls "Yard") (by rfl))
    n_Yard_clock := He.noat_ok (c.fact 74 (f := .noat "Yard" "clock") (by rfl))
    n_Yard_stream_texts := He.noat_ok (c.fact 75 (f := .noat "Yard" "stream_texts") (by rfl))
    n_Yard_file_rows := He.noat_ok (c.fact 76 (f := .noat "Yard" "file_rows") (by rfl))
    n_Yard_names_of := He.noat_ok (c.fact 77 (f := .noat "Yard" "names_of") (by rfl))
    n_Yard_numbers_of := He.noat_ok (c.fact 78 (f := .noat "Yard" "numbers_of") (by rfl))
    n_Yard_bar_level := He.noat_ok (c.fact 79 (f := .noat "Yard" "bar_level") (by rfl))
    n_Yard_logger_map := He.noat_ok (c.fact 80 (f := .noat "Yard" "logger_map") (by rfl))
    n_Yard_made := He.noat_ok (c.fact 81 (f := .noat "Yard" "made") (by rfl))
    n_Yard_handler_names := He.noat_ok (c.fact 82 (f := .noat "Yard" "handler_names") (by rfl))
    n_Yard_failure_rows := He.noat_ok (c.fact 83 (f := .noat "Yard" "failure_rows") (by rfl))
    n_Yard_root := He.noat_ok (c.fact 84 (f := .noat "Yard" "root") (by rfl))
    n_Yard_last_resort := He.noat_ok (c.fact 85 (f := .noat "Yard" "last_resort") (by rfl))
    m_LogRecord_message := He.meth_ok (c.fact 86 (f := .meth "LogRecord" "message") (by rfl))
    m_StreamHandler_filtered := He.meth_ok (c.fact 87 (f := .meth "StreamHandler" "filtered") (by rfl))
    m_StreamHandler_setTerminator := He.meth_ok (c.fact 88 (f := .meth "StreamHandler" "setTerminator") (by rfl))
    m_StreamHandler_handle := He.meth_ok (c.fact 89 (f := .meth "StreamHandler" "handle") (by rfl))
    m_StreamHandler_emit := He.meth_ok (c.fact 90 (f := .meth "StreamHandler" "emit") (by rfl))
    m_StreamHandler_formatted := He.meth_ok (c.fact 91 (f := .meth "StreamHandler" "formatted") (by rfl))
    m_StreamHandler_text_of := He.meth_ok (c.fact 92 (f := .meth "StreamHandler" "text_of") (by rfl))
    m_FileHandler_filtered := He.meth_ok (c.fact 93 (f := .meth "FileHandler" "filtered") (by rfl))
    m_FileHandler_setTerminator := He.meth_ok (c.fact 94 (f := .meth "FileHandler" "setTerminator") (by rfl))
    m_FileHandler_handle := He.meth_ok (c.fact 95 (f := .meth "FileHandler" "handle") (by rfl))
    m_FileHandler_emit := He.meth_ok (c.fact 96 (f := .meth "FileHandler" "emit") (by rfl))
    m_FileHandler_formatted := He.meth_ok (c.fact 97 (f := .meth "FileHandler" "formatted") (by rfl))
    m_FileHandler_text_of := He.meth_ok (c.fact 98 (f := .meth "FileHandler" "text_of") (by rfl))
    m_FileHandler_open_file := He.meth_ok (c.fact 99 (f := .meth "FileHandler" "open_file") (by rfl))
    m_Yard_now := He.meth_ok (c.fact 100 (f := .meth "Yard" "now") (by rfl))
    m_Yard_advance := He.meth_ok (c.fact 101 (f := .meth "Yard" "advance") (by rfl))
    m_Yard_text := He.meth_ok (c.fact 102 (f := .meth "Yard" "text") (by rfl))
    m_Yard_streams := He.meth_ok (c.fact 103 (f := .meth "Yard" "streams") (by rfl))
    m_Yard_write_stream := He.meth_ok (c.fact 104 (f := .meth "Yard" "write_stream") (by rfl))
    m_Yard_files := He.meth_ok (c.fact 105 (f := .meth "Yard" "files") (by rfl))
    m_Yard_put_file := He.meth_ok (c.fact 106 (f := .meth "Yard" "put_file") (by rfl))
    m_Yard_remove_file := He.meth_ok (c.fact 107 (f := .meth "Yard" "remove_file") (by rfl))
    m_Yard_has_file := He.meth_ok (c.fact 108 (f := .meth "Yard" "has_file") (by rfl))
    m_Yard_file_text := He.meth_ok (c.fact 109 (f := .meth "Yard" "file_text") (by rfl))
    m_Yard_make_file := He.meth_ok (c.fact 110 (f := .meth "Yard" "make_file") (by rfl))
    m_Yard_write_file := He.meth_ok (c.fact 111 (f := .meth "Yard" "write_file") (by rfl))
    m_Yard_level_name := He.meth_ok (c.fact 112 (f := .meth "Yard" "level_name") (by rfl))
    m_Yard_level_of := He.meth_ok (c.fact 113 (f := .meth "Yard" "level_of") (by rfl))
    m_Yard_make_record := He.meth_ok (c.fact 114 (f := .meth "Yard" "make_record") (by rfl))
    m_Yard_enrol := He.meth_ok (c.fact 115 (f := .meth "Yard" "enrol") (by rfl))
    k_StreamHandler := He.mkr_ok (c.fact 116 (f := .mkr "StreamHandler") (by rfl))
    k_FileHandler := He.mkr_ok (c.fact 117 (f := .mkr "FileHandler") (by rfl))
    k_Logger := He.mkr_ok (c.fact 118 (f := .mkr "Logger") (by rfl))
    k_Yard := He.mkr_ok (c.fact 119 (f := .mkr "Yard") (by rfl))
    k_LogRecord := He.mkr_ok (c.fact 120 (f := .mkr "LogRecord") (by rfl))
    p_Logger := RB.pl_ok (c.more 0 (f := .pl "Logger") (by rfl))
    p_StreamHandler := RB.pl_ok (c.more 1 (f := .pl "StreamHandler") (by rfl))
    sub_Logger_Logger := RB.sub_ok (c.more 2 (f := .sub "Logger" "Logger") (by rfl))
    sub_StreamHandler_StreamHandler := RB.sub_ok (c.more 3 (f := .sub "StreamHandler" "StreamHandler") (by rfl))
    cf_Filterer_init := RB.cf_ok (c.more 4 (f := .cf "Filterer" "__init__") (by rfl))
    cf_Handler_init := RB.cf_ok (c.more 5 (f := .cf "Handler" "__init__") (by rfl))
    dt_Yard_make_record_0 := RB.dtup_ok (c.more 6 (f := .dtup ("Yard", some "make_record") 0) (by rfl))
    d_Filterer_init := c.d.def_ 0 (d := dd_Filterer_init) (by rfl)
    d_copied_value := c.d.def_ 1 (d := dd_copied_value) (by rfl)
    d_LogRecord_init := c.d.def_ 2 (d := dd_LogRecord_init) (by rfl)
    d_LogRecord_message := c.d.def_ 3 (d := dd_LogRecord_message) (by rfl)
    d_Handler_init := c.d.def_ 4 (d := dd_Handler_init) (by rfl)
    d_StreamHandler_init := c.d.def_ 5 (d := dd_StreamHandler_init) (by rfl)
    d_FileHandler_init := c.d.def_ 6 (d := dd_FileHandler_init) (by rfl)
    d_StreamHandler_filtered := c.d.def_ 7 (d := dd_StreamHandler_filtered) (by rfl)
    d_StreamHandler_setTerminator := c.d.def_ 8 (d := dd_StreamHandler_setTerminator) (by rfl)
    d_StreamHandler_handle := c.d.def_ 9 (d := dd_StreamHandler_handle) (by rfl)
    d_StreamHandler_emit := c.d.def_ 10 (d := dd_StreamHandler_emit) (by rfl)
    d_StreamHandler_formatted := c.d.def_ 11 (d := dd_StreamHandler_formatted) (by rfl)
    d_StreamHandler_text_of := c.d.def_ 12 (d := dd_StreamHandler_text_of) (by rfl)
    d_FileHandler_filtered := c.d.def_ 13 (d := dd_FileHandler_filtered) (by rfl)
    d_FileHandler_setTerminator := c.d.def_ 14 (d := dd_FileHandler_setTerminator) (by rfl)
    d_FileHandler_handle := c.d.def_ 15 (d := dd_FileHandler_handle) (by rfl)
    d_FileHandler_emit := c.d.def_ 16 (d := dd_FileHandler_emit) (by rfl)
    d_FileHandler_formatted := c.d.def_ 17 (d := dd_FileHandler_formatted) (by rfl)
    d_FileHandler_text_of := c.d.def_ 18 (d := dd_FileHandler_text_of) (by rfl)
    d_FileHandler_open_file := c.d.def_ 19 (d := dd_FileHandler_open_file) (by rfl)
    d_is_integer := c.d.def_ 20 (d := dd_is_integer) (by rfl)
    d_Logger_init := c.d.def_ 21 (d := dd_Logger_init) (by rfl)
    d_Yard_init := c.d.def_ 22 (d := dd_Yard_init) (by rfl)
    d_Yard_now := c.d.def_ 23 (d := dd_Yard_now) (by rfl)
    d_Yard_advance := c.d.def_ 24 (d := dd_Yard_advance) (by rfl)
    d_Yard_text := c.d.def_ 25 (d := dd_Yard_text) (by rfl)
    d_Yard_streams := c.d.def_ 26 (d := dd_Yard_streams) (by rfl)
    d_Yard_write_stream := c.d.def_ 27 (d := dd_Yard_write_stream) (by rfl)
    d_Yard_files := c.d.def_ 28 (d := dd_Yard_files) (by rfl)
    d_Yard_put_file := c.d.def_ 29 (d := dd_Yard_put_file) (by rfl)
    d_Yard_remove_file := c.d.def_ 30 (d := dd_Yard_remove_file) (by rfl)
    d_Yard_has_file := c.d.def_ 31 (d := dd_Yard_has_file) (by rfl)
    d_Yard_file_text := c.d.def_ 32 (d := dd_Yard_file_text) (by rfl)
    d_Yard_make_file := c.d.def_ 33 (d := dd_Yard_make_file) (by rfl)
    d_Yard_write_file := c.d.def_ 34 (d := dd_Yard_write_file) (by rfl)
    d_Yard_level_name := c.d.def_ 35 (d := dd_Yard_level_name) (by rfl)
    d_Yard_level_of := c.d.def_ 36 (d := dd_Yard_level_of) (by rfl)
    d_Yard_make_record := c.d.def_ 37 (d := dd_Yard_make_record) (by rfl)
    d_Yard_enrol := c.d.def_ 38 (d := dd_Yard_enrol) (by rfl)
    d__law_draw := c.d.def_ 39 (d := dd__law_draw) (by rfl)
    d__law_pick := c.d.def_ 40 (d := dd__law_pick) (by rfl)
    d__law_same := c.d.def_ 41 (d := dd__law_same) (by rfl)
    d__law_yard_right := c.d.def_ 42 (d := dd__law_yard_right) (by rfl)
    d__law_yard_deed := c.d.def_ 43 (d := dd__law_yard_deed) (by rfl)
    d_law := c.d.def_ 44 (d := dd_law) (by rfl)
    t_FIRST_NAMES := c.tb 0 (t := ("FIRST_NAMES", kv_FIRST_NAMES)) (by rfl) P
    t_FIRST_NUMBERS := c.tb 1 (t := ("FIRST_NUMBERS", kv_FIRST_NUMBERS)) (by rfl) P
end K17

set_option Elab.async false
set_option linter.all false
set_option maxRecDepth 100000
set_option maxHeartbeats 0
namespace K17
open PySem PySem.Spec PyProof.Rows L2 RC
/-! ### the head -/
abbrev R : PySem.W.OpenRow := PySem.W.OpenLaw.row PySem.Challenge.rw_recordyard_k15_clocks_streams_and_files
abbrev hk : PySem.W.Hook := RB.hookB 4 fa fx fn ts
def ob (s : PySem.W.SharedT) : RB.AlB := RB.obsBG 4 fa fx fn ts (HandSHeadRun.getT s)
theorem ob_eq (s : PySem.W.SharedT) : ob s = hk.obs s.abs := RB.obsBG_eq (HandSHeadRun.getT_eq s)
theorem run_f (w : World) : HandSHeadRun.RunEq R (PySem.W.view R.prog [43]) hk ob 13000 names (w.withFollow "special-get-raises" false) := by
  intro os
  kernel_rfl
theorem run_t (w : World) : HandSHeadRun.RunEq R (PySem.W.view R.prog [43]) hk ob 13000 names (w.withFollow "special-get-raises" true) := by
  intro os
  kernel_rfl
theorem run (w : World) : HandSHeadRun.RunEq R (PySem.W.view R.prog [43]) hk ob 13000 names w := PySem.W.byRow2 "special-get-raises" (P := fun w => HandSHeadRun.RunEq R (PySem.W.view R.prog [43]) hk ob 13000 names w) run_f run_t w
end K17

set_option Elab.async false
set_option linter.all false
set_option maxRecDepth 100000
set_option maxHeartbeats 4000000
/-! Further rules: two lists of the same objects are equal; a text times an int. -/
namespace RX
open PySem PySem.Spec PyProof.Rows PySem.SeqAt L2
open RD
/-- two lists of objects that are the same, or of unlike lengths -/
def rEqLL (K : PySem.W.Frag) : R2 := fun x y H Q => ∃ (a b : Addr) (as bs : List Addr), x = .ref a ∧ y = .ref b ∧ SqL K H a (as.map V.ref) ∧ SqL K H b (bs.map V.ref) ∧ (as = bs ∨ as.length ≠ bs.length) ∧ Q (.bl (decide (as = bs))) H
def rNeLL (K : PySem.W.Frag) : R2 := fun x y H Q => ∃ (a b : Addr) (as bs : List Addr), x = .ref a ∧ y = .ref b ∧ SqL K H a (as.map V.ref) ∧ SqL K H b (bs.map V.ref) ∧ (as = bs ∨ as.length ≠ bs.length) ∧ Q (.bl (!decide (as = bs))) H
section
variable {X : Cx}
theorem size_ne {as bs : List Addr} (h : as.length ≠ bs.length) : ((as.map Value.ref).toArray.size != (bs.map Value.ref).toArray.size) = true := by simpa using h
theorem op_eqLL (hu : X.A.units < cLine) : OpR X (compareOp .Eq) (rEqLL X.K) := by
  intro pins s σ H x y v u Q I rx ry h
  obtain ⟨a, b, as, bs, rfl, rfl, ha, hb, c, q⟩ := h
  cases rx
  cases ry
  obtain ⟨its, rv, hl, _⟩ := I.list ha
  obtain ⟨its2, rv2, hl2, _⟩ := I.list hb
  obtain rfl := vals_refs rv
  obtain rfl := vals_refs rv2
  rcases c with rfl | c
  · refine eq_listAt (e := fun _ => true) hl.isList hl2.isList rfl hu (fun j h1 h2 => EqAt.same _) ?_
    rw [all_true]
    rw [decide_eq_true rfl] at q
    exact fin_bl I q rfl
  · rw [decide_eq_false (fun z => c (by rw [z]))] at q
    exact eq_list_lengthsAt hl.isList hl2.isList (size_ne c) hu (fin_bl I q rfl)
theorem op_neLL (hu : X.A.units < cLine) : OpR X (compareOp .NotEq) (rNeLL X.K) := by
  intro pins s σ H x y v u Q I rx ry h
  obtain ⟨a, b, as, bs, rfl, rfl, ha, hb, c, q⟩ := h
  cases rx
  cases ry
  obtain ⟨its, rv, hl, _⟩ := I.list ha
  obtain ⟨its2, rv2, hl2, _⟩ := I.list hb
  obtain rfl := vals_refs rv
  obtain rfl := vals_refs rv2
  rcases c with rfl | c
  · refine RcNeAt.lists (e := fun _ => true) hl.isList hl2.isList rfl hu (fun j h1 h2 => EqAt.same _) X.prog X.w X.xe _ ?_
    rw [all_true]
    rw [decide_eq_true rfl] at q
    exact fin_bl I q rfl
  · rw [decide_eq_false (fun z => c (by rw [z]))] at q
    exact RcNeAt.lists_lengths hl.isList hl2.isList (size_ne c) hu X.prog X.w X.xe _ (fin_bl I q rfl)
end
end RX

set_option Elab.async false
set_option linter.all false
set_option maxRecDepth 100000
set_option maxHeartbeats 4000000
/-! How long the text of a number is. -/
namespace RN
open PySem PySem.Spec PyProof.Rows L2
theorem log2_div (n : Nat) (h : 10 ≤ n) : (n / 10).log2 + 1 ≤ n.log2 := by
  have h1 : n / 10 ≤ n / 2 := by omega
  have h2 : n / 10 ≠ 0 := by omega
  have h3 : n ≠ 0 := by omega
  have h4 := Nat.log2_self_le h2
  have h5 : 2 ^ ((n / 10).log2 + 1) ≤ n := by rw [Nat.pow_succ]; omega
  exact (Nat.le_log2 h3).mpr h5
theorem len_numL (n : Nat) : (TL.numL n).length ≤ n.log2 + 1 := by
  induction n using Nat.strongRecOn with
  | ind n ih =>
    by_cases h : n < 10
    · rw [TL.numL_lt h]; simp
    · have h : 10 ≤ n := by omega
      rw [TL.numL_step h, List.length_append]
      have := ih (n / 10) (by omega)
      have := log2_div n h
      simp only [List.length_singleton]
      omega
theorem len_toString (i : Int) : (Str.ofString (toString i)).length ≤ i.natAbs.log2 + 2 := by
  cases i with
  | ofNat n =>
    have e := TL.tl_num n
    rw [TL.len_tl]
    show (TL.tl (Str.ofString (toString ((n : Nat) : Int)))).length ≤ _
    rw [e]
    have := len_numL n
    show _ ≤ n.log2 + 2
    omega
  | negSucc n =>
    have e := TL.tl_num (n + 1)
    have e2 : toString (Int.negSucc n) = "-" ++ toString (((n + 1 : Nat)) : Int) := rfl
    rw [TL.len_tl, e2]
    have e3 : TL.tl (Str.ofString ("-" ++ toString (((n + 1 : Nat)) : Int))) = 45 :: TL.tl (Str.ofString (toString (((n + 1 : Nat)) : Int))) := by
      show (Str.ofString _).cps.toList = 45 :: (Str.ofString _).cps.toList
      rw [signs_ofString, signs_ofString, String.toList_append, List.map_append]; rfl
    rw [e3, e, List.length_cons]
    have := len_numL (n + 1)
    show _ ≤ (n + 1).log2 + 2
    omega
end RN

set_option Elab.async false
set_option linter.all false
set_option maxRecDepth 100000
set_option maxHeartbeats 4000000
/-! Further rules: a list and an empty one. -/
namespace RY
open PySem PySem.Spec PyProof.Rows PySem.SeqAt L2
open RD
def rEqE (K : PySem.W.Frag) : R2 := fun x y H Q => ∃ (a b : Addr) (xs : List V), x = .ref a ∧ y = .ref b ∧ SqL K H a xs ∧ SqL K H b [] ∧ Q (.bl (xs.isEmpty)) H
def rNeE (K : PySem.W.Frag) : R2 := fun x y H Q => ∃ (a b : Addr) (xs : List V), x = .ref a ∧ y = .ref b ∧ SqL K H a xs ∧ SqL K H b [] ∧ Q (.bl (!xs.isEmpty)) H
section
variable {X : Cx}
theorem vals_nil {us : List Value} (h : Vals [] us) : us = [] := by cases h; rfl
theorem vals_cons {x : V} {xs : List V} {us : List Value} (h : Vals (x :: xs) us) : (us.toArray.size != (([] : List Value)).toArray.size) = true := by cases h; simp
theorem op_eqE (hu : X.A.units < cLine) : OpR X (compareOp .Eq) (rEqE X.K) := by
  intro pins s σ H x y v u Q I rx ry h
  obtain ⟨a, b, xs, rfl, rfl, ha, hb, q⟩ := h
  cases rx
  cases ry
  obtain ⟨its, rv, hl, _⟩ := I.list ha
  obtain ⟨its2, rv2, hl2, _⟩ := I.list hb
  obtain rfl := vals_nil rv2
  cases xs with
  | nil =>
    obtain rfl := vals_nil rv
    refine eq_listAt (e := fun _ => true) hl.isList hl2.isList rfl hu (fun j h1 h2 => EqAt.same _) ?_
    rw [all_true]
    exact fin_bl I q rfl
  | cons x xs => exact eq_list_lengthsAt hl.isList hl2.isList (vals_cons rv) hu (fin_bl I q rfl)
theorem op_neE (hu : X.A.units < cLine) : OpR X (compareOp .NotEq) (rNeE X.K) := by
  intro pins s σ H x y v u Q I rx ry h
  obtain ⟨a, b, xs, rfl, rfl, ha, hb, q⟩ := h
  cases rx
  cases ry
  obtain ⟨its, rv, hl, _⟩ := I.list ha
  obtain ⟨its2, rv2, hl2, _⟩ := I.list hb
  obtain rfl := vals_nil rv2
  cases xs with
  | nil =>
    obtain rfl := vals_nil rv
    refine RcNeAt.lists (e := fun _ => true) hl.isList hl2.isList rfl hu (fun j h1 h2 => EqAt.same _) X.prog X.w X.xe _ ?_
    rw [all_true]
    exact fin_bl I q rfl
  | cons x xs => exact RcNeAt.lists_lengths hl.isList hl2.isList (vals_cons rv) hu X.prog X.w X.xe _ (fin_bl I q rfl)

def flatW : V → Bool
  | .int _ => true
  | .bl _ => true
  | .str _ => true
  | .non => true
  | .ref _ => true
  | _ => false
/-- two lists of the same plain values -/
def rEqV (K : PySem.W.Frag) : R2 := fun x y H Q => ∃ (a b : Addr) (xs : List V), x = .ref a ∧ y = .ref b ∧ SqL K H a xs ∧ SqL K H b xs ∧ xs.all flatW = true ∧ Q (.bl true) H
def rNeV (K : PySem.W.Frag) : R2 := fun x y H Q => ∃ (a b : Addr) (xs : List V), x = .ref a ∧ y = .ref b ∧ SqL K H a xs ∧ SqL K H b xs ∧ xs.all flatW = true ∧ Q (.bl false) H
theorem eq_same {A : Around} {s : Shared} {x : V} {u u' : Value} (h : RelV x u) (h' : RelV x u') (hf : flatW x = true) : EqAt A s u u' true := by
  cases x with
  | int i =>
    obtain ⟨t, rfl⟩ := h
    obtain ⟨t', rfl⟩ := h'
    have e := EqAt.int_int (A := A) (s := s) i t i t'
    rw [beq_self_eq_true] at e; exact e
  | str i =>
    obtain ⟨t, rfl⟩ := h
    obtain ⟨t', rfl⟩ := h'
    have e := EqAt.str_str (A := A) (s := s) i t i t'
    rw [beq_self_eq_true] at e; exact e
  | bl b => cases h; cases h'; exact EqAt.same _
  | non => cases h; cases h'; exact EqAt.same _
  | ref a => cases h; cases h'; exact EqAt.same _
  | _ => cases hf
theorem eq_all {A : Around} {s : Shared} : ∀ {xs : List V} {us us' : List Value}, Vals xs us → Vals xs us' → xs.all flatW = true → us.length = us'.length ∧ ∀ (j : Nat) (h1 : j < us.length) (h2 : j < us'.length), EqAt A s us[j] us'[j] true
  | [], _, _, .nil, .nil, _ => ⟨rfl, fun j h1 _ => absurd h1 (Nat.not_lt_zero _)⟩
  | x :: xs, _, _, .cons h t, .cons h' t', hf => by
    rw [List.all_cons, Bool.and_eq_true] at hf
    have ih := eq_all (A := A) (s := s) t t' hf.2
    refine ⟨congrArg (· + 1) ih.1, fun j h1 h2 => ?_⟩
    cases j with
    | zero => exact eq_same h h' hf.1
    | succ j => exact ih.2 j (Nat.lt_of_succ_lt_succ h1) (Nat.lt_of_succ_lt_succ h2)
theorem all_tt (n : Nat) : (List.range n).all (fun _ => true) = true := by simp
theorem op_eqV (hu : X.A.units < cLine) : OpR X (compareOp .Eq) (rEqV X.K) := by
  intro pins s σ H x y v u Q I rx ry h
  obtain ⟨a, b, xs, rfl, rfl, ha, hb, hf, q⟩ := h
  cases rx
  cases ry
  obtain ⟨its, rv, hl, _⟩ := I.list ha
  obtain ⟨its2, rv2, hl2, _⟩ := I.list hb
  have e := eq_all (A := X.A.in1) (s := s) rv rv2 hf
  refine eq_listAt (e := fun _ => true) hl.isList hl2.isList (by simpa using e.1) hu (fun j h1 h2 => by simpa using e.2 j (by simpa using h1) (by simpa using h2)) ?_
  rw [all_tt]
  exact fin_bl I q rfl
theorem op_neV (hu : X.A.units < cLine) : OpR X (compareOp .NotEq) (rNeV X.K) := by
  intro pins s σ H x y v u Q I rx ry h
  obtain ⟨a, b, xs, rfl, rfl, ha, hb, hf, q⟩ := h
  cases rx
  cases ry
  obtain ⟨its, rv, hl, _⟩ := I.list ha
  obtain ⟨its2, rv2, hl2, _⟩ := I.list hb
  have e := eq_all (A := X.A.in1) (s := s) rv rv2 hf
  refine RcNeAt.lists (e := fun _ => true) hl.isList hl2.isList (by simpa using e.1) hu (fun j h1 h2 => by simpa using e.2 j (by simpa using h1) (by simpa using h2)) X.prog X.w X.xe _ ?_
  rw [all_tt]
  exact fin_bl I q rfl
end
end RY

set_option Elab.async false
set_option linter.all false
set_option maxRecDepth 100000
set_option maxHeartbeats 4000000
/-! Calls of methods and classes by keywords alone. -/
namespace RK
open PySem PySem.Spec PyProof.Rows L2 RC
/-- the def at f may be called with n values and the keywords ks -/
def CallKw (P : Program) (w : World) (K : PySem.W.Frag) (mg : Str → Option Value) (base : Heap) (k : Nat) (f : Addr) (ps : List Str) (n : Nat) (ks : List Str) (gV : List V → List V → List V) (sp : Sp) : Prop :=
  ∃ (fd : FuncData) (g : List Value → List Value → List Value), FnOk P w K mg base CX0 k f fd ps sp ∧ KBn K fd ps n ks g gV ∧ PySem.W.keepIn K (.ref f) = true
section
variable {X : Cx} {k : Nat} {f C : Addr} {ps ks : List Str} {sp : Sp} {gV : List V → List V → List V} {x m : Str} {p pos apos : Pos} {o : Expr} {kws : List Keyword} {ta : TE} {tk : TA} {pl : Sem Bool}
/-- o.m(k = v, ..) -/
def tMethK (C : Addr) (m : Str) (n : Nat) (sp : Sp) (gV : List V → List V → List V) (ta : TE) (tk : TA) : TE := fun σ H Q => ta σ H fun x H1 => ∃ a dx fs, x = .ref a ∧ H1 a = some (.ins C dx fs) ∧ fs.lookup m = none ∧
  tk σ H1 fun zs H2 => zs.length = n ∧ sp (gV [x] zs) H2 Q E0
theorem pe_mtK (cl : Cls X.K C) (hm : Meth X.K C m f) (c : CallKw X.prog X.w X.K X.mg X.base k f ps 1 ks gV sp) (hr : Room k X.A) (he : PE X o ta) (hkw : PK X kws tk)
    (hall : (backToKw pos (keywordEach kws X.env)).all (·.1.isSome) = true := by rfl) (hks : (backToKw pos (keywordEach kws X.env)).filterMap (·.1) = ks := by rfl)
    (hpl : ((backTo pos (starEach [] X.env)).any (·.1) || (backToKw pos (keywordEach kws X.env)).any (·.1.isNone)) = false := by rfl)
    (ht : eval (.Call (.Attribute o m apos) [] kws pos) X.env = (do
      let ov ← eval o X.env
      standAt apos.atName
      let (f, first) ← holding [ov] (getMethod ov m pl)
      callWith pos f first (backTo pos (starEach [] X.env)) (backToKw pos (keywordEach kws X.env))) := by rfl) :
    PE X (.Call (.Attribute o m apos) [] kws pos) (tMethK C m ks.length sp gV ta tk) := by
  obtain ⟨fd, g, F, hb, hk⟩ := c
  refine ⟨fun pins s σ H Q I h => ?_⟩
  refine PySem.W.methodCall_KW (pl := pl) (thn (he.run pins s σ H _ I h) fun u s1 ⟨z, H1, I1, rz, a, dx, fs, ez, ea, l, q⟩ => ?_) ht
  subst ez
  obtain rfl : u = Value.ref a := rz
  refine getmeth_ok I1 ea cl hm l ?_
  refine PySem.W.callWith_KW0 (first := [.ref a]) (h₀ := X.base) I.ok.mod.kin hm.kp hall (thn (hkw.run pos pins s1 σ H1 _ I1 q) fun ws s2 ⟨zs, H2, I2, r, l2, q2⟩ => ⟨I2.kIn, ?_⟩) hpl
  rw [hks]
  exact run_fnN (us := [.ref a]) (vs := [.ref a]) F hr hb pass0 I2 (.cons rfl .nil) r rfl l2 q2
/-- C(k = v, ..) -/
def tMakeK (C : Addr) (n : Nat) (sp : Sp) (gV : List V → List V → List V) (tk : TA) : TE := fun σ H Q => tk σ H fun zs H2 => zs.length = n ∧
  ∀ x dx, H2 x = none → H2 dx = none → dx ≠ x → sp (gV [.ref x] zs) (upd (upd H2 dx (.own x)) x (.ins C dx [])) (fun v H3 => v = .non ∧ Q (.ref x) H3) E0
theorem pe_mkK (M : Mk X.K C f) (hm : X.mg x = some (.ref C)) (c : CallKw X.prog X.w X.K X.mg X.base k f ps 1 ks gV sp) (hr : Room (k + 1) X.A) (hg : Gl X x) (hkw : PK X kws tk)
    (hall : (backToKw pos (keywordEach kws X.env)).all (·.1.isSome) = true := by rfl) (hks : (backToKw pos (keywordEach kws X.env)).filterMap (·.1) = ks := by rfl)
    (hdb : (x == ("__debug__" : Str)) = false := by decide)
    (hpl : ((backTo pos (starEach [] X.env)).any (·.1) || (backToKw pos (keywordEach kws X.env)).any (·.1.isNone)) = false := by rfl) :
    PE X (.Call (.Name x p) [] kws pos) (tMakeK C ks.length sp gV tk) := by
  obtain ⟨fd, g, F, hb, hk⟩ := c
  refine ⟨fun pins s σ H Q I h => ?_⟩
  refine wpAny_Call_Name_kw (ld_glob I hg hm ?_ hdb)
  refine PySem.W.callWith_KW0 (first := []) (h₀ := X.base) I.ok.mod.kin M.kp hall (thn (hkw.run pos pins s σ H _ I h) fun ws s2 ⟨zs, H2, I2, r, l2, q2⟩ => ⟨I2.kIn, ?_⟩) hpl
  rw [hks]
  exact run_makeN (n := 0) (us := []) (vs := []) M F hr hb pass0 I2 .nil r rfl l2 q2
end
section
variable {P : Program} {w : World} {K : PySem.W.Frag} {mg : Str → Option Value} {base : Heap} {x qual : Str} {dvs : List V} {f : Addr} {k n : Nat} {N ps ks : List Str} {sp : Sp}
/-- a def without defaults -/
theorem stands_kw0 {st : Stmt} (g : {α : Type} → List α → List α → List α) (F : Stands K x qual st [] f) (S : FnScope N ps (defScope st)) (len : ∀ vs H Q E, sp vs H Q E → vs.length = ps.length)
    (hbody : ∀ (cdv : Value) (A : Around) (outer : List Env) (s : Shared) (H : Hp) (vs : List V) (Q : VK) (E : XK), Room k (A.deeper (envOfC qual (defScope st) s.heap.objs.size f cdv)) → sp vs H Q E →
      ∃ t, PSs (cxOf CX0 P w K mg base N qual (defScope st) f cdv A outer s H E).nox (defBody st) t ∧ t { nx := fun _ H' => Q .non H', rt := Q } (start N vs) H)
    (hrel : ∀ {vs zs : List V} {us ws : List Value}, Vals vs us → Vals zs ws → Vals (g vs zs) (g us ws))
    (h0 : ∀ (kV doc pm : Value) (an : Option Addr) (cdv ct : Value) (us ws : List Value), us.length = n → ws.length = ks.length → bindArgs (PySem.W.fnOf x qual (defArgs st) (defBody st) (defScope st) .none kV doc pm an cdv ct) ⟨us, ks.zip ws⟩ = pure (ps.zip (g us ws))) :
    CallKw P w K mg base (k + 1) f ps n ks g sp := by
  obtain ⟨fd, F⟩ := F
  have ok : FnOk P w K mg base CX0 (k + 1) f fd ps sp := F.ok S len fun cdv A outer s H vs Q E hr hsp => by
    obtain ⟨t, h, q⟩ := hbody cdv A outer s H vs Q E hr hsp
    exact ⟨t, h.nox, q⟩
  refine ⟨fd, g, ok, ⟨?_, fun r1 r2 => hrel r1 r2⟩, F.kp⟩
  obtain ⟨oc, od, dV, kV, doc, pm, an, cdv, ct, osl, rfl, lk, hcd, hD, hK⟩ := F.ex
  rcases hD with ⟨_, rfl⟩ | ⟨e, _⟩
  · exact fun s us ws _ l1 l2 => .of_eq (h0 kV doc pm an cdv ct us ws l1 l2)
  · exact absurd rfl e
/-- a def with defaults -/
theorem stands_kwD {st : Stmt} (g : {α : Type} → List α → List α → List α → List α) (hd : dvs ≠ []) (F : Stands K x qual st dvs f) (S : FnScope N ps (defScope st)) (len : ∀ vs H Q E, sp vs H Q E → vs.length = ps.length)
    (hbody : ∀ (cdv : Value) (A : Around) (outer : List Env) (s : Shared) (H : Hp) (vs : List V) (Q : VK) (E : XK), Room k (A.deeper (envOfC qual (defScope st) s.heap.objs.size f cdv)) → sp vs H Q E →
      ∃ t, PSs (cxOf CX0 P w K mg base N qual (defScope st) f cdv A outer s H E).nox (defBody st) t ∧ t { nx := fun _ H' => Q .non H', rt := Q } (start N vs) H)
    (hrel : ∀ {vs ds zs : List V} {us its ws : List Value}, Vals vs us → Vals ds its → Vals zs ws → Vals (g vs ds zs) (g us its ws))
    (h : ∀ (T : Addr) (kV doc pm : Value) (an : Option Addr) (cdv ct : Value) (us its ws : List Value), us.length = n → its.length = dvs.length → ws.length = ks.length →
      ∃ k, bindArgs (PySem.W.fnOf x qual (defArgs st) (defBody st) (defScope st) (.ref T) kV doc pm an cdv ct) ⟨us, ks.zip ws⟩ = seqItems? (.ref T) >>= k ∧ k (some its.toArray) = pure (ps.zip (g us its ws))) :
    CallKw P w K mg base (k + 1) f ps n ks (fun vs zs => g vs dvs zs) sp := by
  obtain ⟨fd, F⟩ := F
  have ok : FnOk P w K mg base CX0 (k + 1) f fd ps sp := F.ok S len fun cdv A outer s H vs Q E hr hsp => by
    obtain ⟨t, h, q⟩ := hbody cdv A outer s H vs Q E hr hsp
    exact ⟨t, h.nox, q⟩
  obtain ⟨its, hb⟩ := F.kbindsD n ks g hd hrel h
  exact ⟨fd, _, ok, hb, F.kp⟩
theorem CallKw.up {j : Nat} {gV : List V → List V → List V} (c : CallKw P w K mg base j f ps n ks gV sp) (h : j ≤ k) : CallKw P w K mg base k f ps n ks gV sp :=
  let ⟨fd, g, F, r⟩ := c
  ⟨fd, g, F.mono h, r⟩
end
end RK

set_option Elab.async false
set_option linter.all false
set_option maxRecDepth 100000
set_option maxHeartbeats 0
namespace K17
open PySem PySem.Spec PyProof.Rows L2 RC
section
variable {P : Program} {w : World} {K : PySem.W.Frag} {mg : Str → Option Value} {base : Heap}
theorem dp_ints {K : PySem.W.Frag} {H : Hp} : ∀ ns : List Int, DpAll K H (ns.map V.int) (ns.map PyData.int)
  | [] => .nil
  | n :: r => .cons (.int n) (dp_ints r)
theorem can_ints : ∀ ns : List Int, PyData.canLayAll0 (ns.map PyData.int) = true
  | [] => by simp [PyData.canLayAll0]
  | n :: r => by simp [PyData.canLayAll0, PyData.canLay0, can_ints r]
theorem dep_ints : ∀ ns : List Int, PyData.depthAll (ns.map PyData.int) = 0
  | [] => by simp [PyData.depthAll]
  | n :: r => by simp [PyData.depthAll, PyData.depth, dep_ints r]
theorem sh_ints (ns : List Int) : SeqAt.shaped (.list (ns.map PyData.int)) = true := by
  unfold SeqAt.shaped
  simp [PyData.canLay0, PyData.depth, can_ints, dep_ints]
theorem seq0 (v : Int) (r : List Int) : seqIndex? 0 ((v :: r).map V.int).length = some 0 := by
  unfold seqIndex?
  simp
def spDraw : Sp := fun vs H Q _ => ∃ (s l : Addr) (n : Nat) (many : Int), vs = [.ref s, .int many] ∧ Stm H s l n ∧ n ≤ 1000000 ∧ 1 ≤ many ∧ many < 1073741824 ∧
  ∀ (H' : Hp) (d : Int), Old s l H H' → Stm H' s l (n + 1) → 0 ≤ d → d < many → Q (.int d) H'
theorem old_upd {s l : Addr} {H H' : Hp} {a : Addr} {o : HO} (h : Old s l H H') (ha : a = s ∨ a = l ∨ H' a = none) : Old s l H (upd H' a o) := fun b u h1 h2 e => by
  have e2 := h b u h1 h2 e
  have hb : b ≠ a := by
    rintro rfl
    rcases ha with z | z | z
    · exact h1 z
    · exact h2 z
    · rw [z] at e2; cases e2
  rw [upd_ne hb]; exact e2
theorem stm_small {d c : Int} (h : 0 ≤ d) (h1 : d < 2147483647) (h2 : 0 ≤ c) (h3 : c ≤ 1000001) : (d + 104729 * c + 17).natAbs < 2 ^ 64 := by omega
theorem stm_small2 {m c : Int} (h : 0 ≤ m) (h1 : m < 2147483629) (h2 : 0 ≤ c) (h3 : c ≤ 1000001) : (m * 48271 + 40503 * c * c + 13).natAbs < 2 ^ 64 := by
  have q1 : 0 ≤ 40503 * c * c := Int.mul_nonneg (by omega) h2
  have q2 : 40503 * c * c ≤ 40503 * c * 1000001 := Int.mul_le_mul_of_nonneg_left h3 (by omega)
  omega
theorem ok_draw {f : Addr} (T : Txt P w K mg) (F : Stands K "_law_draw" "_law_draw" s__law_draw [] f) : Callable P w K mg base 1 f ["_law_stream", "_law_many"] [] spDraw := by
  refine F.call0 sc__law_draw (fun vs H Q E h => ?_) (fun cdv A outer s H vs Q E hr h => ?_) (fun _ _ _ _ _ _ us hl => match us, hl with | [_, _], _ => rfl)
  · obtain ⟨s, l, n, m, rfl, _⟩ := h
    rfl
  obtain ⟨p, l, n, many, rfl, hS, hn, hm1, hm2, hQ⟩ := h
  refine ⟨_, (pss_cons (ps_while PassesOwn.never (PW.pt (pw_and (pt_cmpR op_eq (pe_ix ix_list (pv 0) pe_int (fun _ _ => rfl)) pe_int (nomark _)) (pw_and1 (pt_cmpR (op_neD hr.units) (pe_ix ix_list (pv 0) pe_int (fun _ _ => rfl)) (pe_lst pa_nil) (nomark _))))) (pss_cons (ps_asg (pe_bm PySem.F.plainAttrs_list PySem.F.slot_list_pop PySem.F.type_list_pop mt_popAt (pe_ix ix_list (pv 0) pe_int (fun _ _ => rfl)) (pa_cons pe_int pa_nil)) (pg_sub (pv 0) pe_int set_list))
      (pss_one (ps_if (pt_cmpR op_lt (pe_ix ix_list (pv 0) pe_int (fun _ _ => rfl)) (pe_op op_pow pe_int pe_int) (nomark _)) (pss_cons (ps_asg (pe_op op_mod (pe_callTy call_int1 (by rfl) T.b_int (by decide +kernel) (pa_cons (pe_op op_add (pe_op op_add (pe_op op_mul (pe_ix ix_list (pv 0) pe_int (fun _ _ => rfl)) pe_int) (pe_ix ix_list (pv 0) pe_int (fun _ _ => rfl))) pe_int) pa_nil)) pe_int) (pg_sub (pv 0) pe_int set_list))
      (pss_one (ps_asg pe_int (pg_sub (pv 0) pe_int set_list)))) pss_nil))))
      (pss_cons (ps_if (pt_cmpR op_gt (pe_ix ix_list (pv 0) pe_int (fun _ _ => rfl)) pe_int (nomark _)) (pss_cons (ps_set (i := 2) sc__law_draw.nd rfl (by first | exact Or.inl rfl | exact Or.inr rfl) (pe_op op_mod (pe_callTy call_int1 (by rfl) T.b_int (by decide +kernel) (pa_cons (pe_ix ix_list (pv 0) pe_int (fun _ _ => rfl)) pa_nil)) (pv 1)))
      (pss_cons (ps_asg (pe_op op_fdiv (pe_ix ix_list (pv 0) pe_int (fun _ _ => rfl)) (pv 1)) (pg_sub (pv 0) pe_int set_list))
      (pss_one (ps_ret (pv 2))))) pss_nil)
      (pss_cons (ps_asg (pe_op op_add (pe_ix ix_list (pv 0) pe_int (fun _ _ => rfl)) pe_int) (pg_sub (pv 0) pe_int set_list))
      (pss_cons (ps_set (i := 3) sc__law_draw.nd rfl (by first | exact Or.inl rfl | exact Or.inr rfl) (pe_op op_mod (pe_callTy call_int1 (by rfl) T.b_int (by decide +kernel) (pa_cons (pe_op op_pow (pe_op op_add (pe_op op_add (pe_ix ix_list (pv 0) pe_int (fun _ _ => rfl)) (pe_op op_mul pe_int (pe_ix ix_list (pv 0) pe_int (fun _ _ => rfl)))) pe_int) pe_int) pa_nil)) pe_int))
      (pss_cons (ps_set (i := 4) sc__law_draw.nd rfl (by first | exact Or.inl rfl | exact Or.inr rfl) (pe_op op_mod (pe_callTy call_int1 (by rfl) T.b_int (by decide +kernel) (pa_cons (pe_op op_pow (pe_op op_add (pe_op op_add (pe_op op_mul (pv 3) pe_int) (pe_op op_mul (pe_op op_mul pe_int (pe_ix ix_list (pv 0) pe_int (fun _ _ => rfl))) (pe_ix ix_list (pv 0) pe_int (fun _ _ => rfl)))) pe_int) pe_int) pa_nil)) pe_int))
      (pss_one (ps_ret (pe_op op_mod (pe_callTy call_int1 (by rfl) T.b_int (by decide +kernel) (pa_cons (pv 4) pa_nil)) (pv 1))))))))), ?_⟩
  obtain ⟨hne, ns, x, c, d, h1, h2, h3, h4, h5, h6, h7, h8⟩ := hS
  refine ⟨fun m σ H' => σ = [some (.ref p), some (.int many), none, none, none] ∧ Old p l H H' ∧ ∃ (ns : List Int) (x c d : Int), m = ns.length ∧ H' p = some (.lst [.ref l, .int x, .int c, .int d]) ∧ H' l = some (.lst (ns.map V.int)) ∧ ns.length ≤ 63 ∧ 0 ≤ x ∧ 0 ≤ c ∧ c ≤ n ∧ 0 ≤ d ∧ d < 2147483647,
    ⟨_, rfl, Old.refl _, ns, x, c, d, rfl, h1, h2, h3, h4, h5, h6, h7, h8⟩, ?_⟩
  clear h1 h2 h3 h4 h5 h6 h7 h8 ns x c d
  rintro m σ H1 ⟨rfl, hO, ns, x, c, d, rfl, h1, h2, h3, h4, h5, h6, h7, h8⟩
  refine ⟨_, rfl, p, _, _, _, rfl, rfl, SqL.of h1, rfl, rfl, _, rfl, ?_⟩
  by_cases hx : x = 0
  · subst hx
    refine iteT' (decide_eq_true rfl) ?_
    refine ⟨_, rfl, p, _, _, _, rfl, rfl, SqL.of h1, rfl, (by show 0 ≤ sizeLine; decide), fun q hq => ?_⟩
    have g1 : upd H1 q (.lst []) p = some (.lst [.ref l, .int 0, .int c, .int d]) := by rw [upd_ne (ne_of_none h1 hq)]; exact h1
    have g2 : upd H1 q (.lst []) l = some (.lst (ns.map V.int)) := by rw [upd_ne (ne_of_none h2 hq)]; exact h2
    have gO : Old p l H (upd H1 q (.lst [])) := old_upd hO (.inr (.inr hq))
    refine ⟨_, _, Dp.lst (SqL.of g2) (dp_ints ns), Dp.lst (SqL.of upd_same) .nil, sh_ints ns, by decide +kernel, _, rfl, ?_⟩
    generalize upd H1 q (.lst []) = H2 at g1 g2 gO
    cases ns with
    | cons v r =>
      refine iteT' (by rfl) ?_
      refine ⟨fun σ' H' => ∃ m', m' < (v :: r).length ∧ (σ' = [some (.ref p), some (.int many), none, none, none] ∧ Old p l H H' ∧ ∃ (ns : List Int) (x c d : Int), m' = ns.length ∧ H' p = some (.lst [.ref l, .int x, .int c, .int d]) ∧ H' l = some (.lst (ns.map V.int)) ∧ ns.length ≤ 63 ∧ 0 ≤ x ∧ 0 ≤ c ∧ c ≤ n ∧ 0 ≤ d ∧ d < 2147483647), fun σ' H' z => z, ?_⟩
      -- s[1] = s[0].pop(0)
      refine ⟨_, rfl, p, _, _, _, rfl, rfl, SqL.of g1, rfl, .inl ⟨rfl, _, SqL.of g2⟩, l, (v :: r).map V.int, 0, 0, .int v, rfl, rfl, g2, by decide, by decide, seq0 _ _, rfl, ?_⟩
      generalize e3 : upd H2 l _ = H3
      have k1 : H3 p = some (.lst [.ref l, .int 0, .int c, .int d]) := by rw [← e3, upd_ne hne]; exact g1
      have kO : Old p l H H3 := by rw [← e3]; exact old_upd gO (.inr (.inl rfl))
      have k2 : H3 l = some (.lst (r.map V.int)) := by rw [← e3]; exact upd_same
      clear e3
      refine ⟨_, rfl, p, _, 1, 1, rfl, rfl, k1, rfl, ?_⟩
      generalize e4 : upd H3 p _ = H4
      have j1 : H4 p = some (.lst [.ref l, .int v, .int c, .int d]) := by rw [← e4]; exact upd_same
      have j2 : H4 l = some (.lst (r.map V.int)) := by rw [← e4, upd_ne (Ne.symm hne)]; exact k2
      have jO : Old p l H H4 := by rw [← e4]; exact old_upd kO (.inl rfl)
      clear e4
      have hl : r.length ≤ 63 := Nat.le_of_succ_le h3
      refine ⟨_, rfl, p, _, _, _, rfl, rfl, SqL.of j1, rfl, _, _, rfl, rfl, ⟨by decide, by decide, by decide⟩, _, _, rfl, rfl, _, rfl, ?_⟩
      refine ite2 (fun hv => ?_) (fun hv => ?_)
      · -- s[3] = int(..) % 2147483647
        refine ⟨_, rfl, p, _, _, _, rfl, rfl, SqL.of j1, rfl, _, _, rfl, rfl, .inr ⟨by decide, by decide⟩, _, rfl, p, _, _, _, rfl, rfl, SqL.of j1, rfl, _, _, rfl, rfl, _, _, rfl, rfl, .inl ⟨_, rfl, _, _, rfl, rfl, (by show (0 : Int) < 2147483647; decide), _, rfl, p, _, 3, 3, rfl, rfl, j1, rfl, ?_⟩⟩
        have m1 := Int.emod_nonneg (d * 31 + v + 7) (show (2147483647 : Int) ≠ 0 by decide)
        have m2 := Int.emod_lt_of_pos (d * 31 + v + 7) (show (0 : Int) < 2147483647 by decide)
        refine ⟨_, rfl, p, _, 1, 1, rfl, rfl, upd_same, rfl, r.length, Nat.lt_succ_self _, rfl, old_upd (old_upd jO (.inl rfl)) (.inl rfl), r, 0, c, (d * 31 + v + 7) % 2147483647, rfl, upd_same, ?_, hl, Int.le_refl 0, h5, h6, m1, m2⟩
        rw [upd_ne (Ne.symm hne), upd_ne (Ne.symm hne)]; exact j2
      · have hv : 10 ^ 18 ≤ v := by
          have z : ¬ v < 10 ^ (18 : Int).toNat := fun z => hv (decide_eq_true z)
          have e : (18 : Int).toNat = 18 := rfl
          rw [e] at z; omega
        exact ⟨r.length, Nat.lt_succ_self _, rfl, jO, r, v, c, d, rfl, j1, j2, hl, by omega, h5, h6, h7, h8⟩
    | nil =>
      refine iteF' (by rfl) ?_
      refine ⟨_, rfl, p, _, _, _, rfl, rfl, SqL.of g1, rfl, _, _, rfl, rfl, _, rfl, ?_⟩
      refine iteF' (by rfl) ?_
      -- s[2] = s[2] + 1
      refine ⟨_, rfl, p, _, _, _, rfl, rfl, SqL.of g1, rfl, _, _, rfl, rfl, _, rfl, p, _, 2, 2, rfl, rfl, g1, rfl, ?_⟩
      generalize e3 : upd H2 p _ = H3
      have a1 : H3 p = some (.lst [.ref l, .int 0, .int (c + 1), .int d]) := by rw [← e3]; exact upd_same
      have a2 : H3 l = some (.lst (([] : List Int).map V.int)) := by rw [← e3, upd_ne (Ne.symm hne)]; exact g2
      have aO : Old p l H H3 := by rw [← e3]; exact old_upd gO (.inl rfl)
      have hc : c + 1 ≤ 1000001 := by omega
      clear e3
      refine ⟨_, rfl, p, _, _, _, rfl, rfl, SqL.of a1, rfl, _, rfl, p, _, _, _, rfl, rfl, SqL.of a1, rfl, _, _, rfl, rfl, .inl ⟨by decide, by decide⟩, _, _, rfl, rfl, _, _, rfl, rfl, _, _, rfl, rfl, ⟨by decide, by decide, stm_small h7 h8 (by omega) hc⟩, .inl ⟨_, rfl, _, _, rfl, rfl, (by show (0 : Int) < 2147483629; decide), ?_⟩⟩
      have m1 := Int.emod_nonneg ((d + 104729 * (c + 1) + 17) ^ (5 : Int).toNat) (show (2147483629 : Int) ≠ 0 by decide)
      have m2 := Int.emod_lt_of_pos ((d + 104729 * (c + 1) + 17) ^ (5 : Int).toNat) (show (0 : Int) < 2147483629 by decide)
      refine ⟨_, rfl, _, _, rfl, rfl, .inr ⟨by decide, by decide⟩, _, rfl, p, _, _, _, rfl, rfl, SqL.of a1, rfl, _, _, rfl, rfl, .inl ⟨by decide, by decide⟩, _, rfl, p, _, _, _, rfl, rfl, SqL.of a1, rfl, _, _, rfl, rfl, .inr ⟨by omega, by omega⟩, _, _, rfl, rfl, _, _, rfl, rfl, _, _, rfl, rfl, ⟨by decide, by decide, stm_small2 m1 m2 (by omega) hc⟩, .inl ⟨_, rfl, _, _, rfl, rfl, (by show (0 : Int) < 1000000007; decide), ?_⟩⟩
      refine ⟨_, rfl, .inl ⟨_, rfl, _, rfl, _, _, rfl, rfl, (by show (0 : Int) < many; omega), ?_⟩⟩
      exact hQ _ _ aO ⟨hne, [], 0, c + 1, d, a1, a2, Nat.zero_le _, Int.le_refl 0, by omega, by omega, h7, h8⟩ (Int.emod_nonneg _ (by omega)) (Int.emod_lt_of_pos _ (by omega))
  · refine iteF' (decide_eq_false fun z => hx (V.int.inj z)) ?_
    have hx1 : 0 < x := by omega
    refine ⟨_, rfl, p, _, _, _, rfl, rfl, SqL.of h1, rfl, _, _, rfl, rfl, _, rfl, ?_⟩
    refine iteT' (decide_eq_true hx1) ?_
    refine ⟨_, rfl, p, _, _, _, rfl, rfl, SqL.of h1, rfl, .inl ⟨_, rfl, _, rfl, _, _, rfl, rfl, (by show (0 : Int) < many; omega), ?_⟩⟩
    refine ⟨_, rfl, p, _, _, _, rfl, rfl, SqL.of h1, rfl, _, rfl, _, _, rfl, rfl, ⟨by omega, by omega⟩, _, rfl, p, _, 1, 1, rfl, rfl, h1, rfl, _, rfl, ?_⟩
    refine hQ _ _ (old_upd hO (.inl rfl)) ⟨hne, ns, x / many, c, d, upd_same, by rw [upd_ne (Ne.symm hne)]; exact h2, h3, Int.ediv_nonneg h4 (by omega), h5, by omega, h7, h8⟩ (Int.emod_nonneg _ (by omega)) (Int.emod_lt_of_pos _ (by omega))
end
end K17

set_option Elab.async false
set_option linter.all false
set_option maxRecDepth 100000
set_option maxHeartbeats 0
namespace K17
open PySem PySem.Spec PyProof.Rows L2 RC
section
variable {P : Program} {w : World} {K : PySem.W.Frag} {mg : Str → Option Value} {base : Heap}
/-- all but p is as it was -/
def SameBut (p : Addr) (H H' : Hp) : Prop := ∀ b o, b ≠ p → H b = some o → H' b = some o
theorem SameBut.trans {p : Addr} {H H1 H2 : Hp} (a : SameBut p H H1) (b : SameBut p H1 H2) : SameBut p H H2 := fun c o h e => b c o h (a c o h e)
theorem SameBut.of {p : Addr} {H H' : Hp} (a : Same H H') : SameBut p H H' := fun c o _ e => a c o e
theorem SameBut.put {p : Addr} {H : Hp} {o : HO} : SameBut p H (upd H p o) := fun c u h e => by rw [upd_ne h]; exact e
theorem made_same {H H' : Hp} {x dx C : Addr} {o : HO} {fs : List (Str × V)} (hx : H x = none) (hd : H dx = none) (b : SameBut x (upd (upd H dx o) x (.ins C dx fs)) H') : Same H H' := fun c u e => by
  have h1 : c ≠ x := ne_of_none e hx
  have h2 : c ≠ dx := ne_of_none e hd
  exact b c u h1 (by rw [upd_ne h1, upd_ne h2]; exact e)
def spFiltererInit (K : PySem.W.Frag) : Sp := fun vs H Q _ => ∃ (C p dx : Addr) (fs : List (Str × V)), vs = [.ref p] ∧ H p = some (.ins C dx fs) ∧ Cls K C ∧ NoAttr K C "filters" ∧ fs.length < 100 ∧ ∀ l, H l = none → Q .non (upd (upd H l (.lst [])) p (.ins C dx (putF "filters" (.ref l) fs)))
theorem ok_filterer_init {f : Addr} (T : Txt P w K mg) (F : Stands K "__init__" "Filterer.__init__" s_Filterer_init [] f) : Callable P w K mg base 1 f ["self"] [] (spFiltererInit K) := by
  refine F.call0 sc_Filterer_init (fun vs H Q E h => ?_) (fun cdv A outer s H vs Q E hr h => ?_) (fun _ _ _ _ _ _ us hl => match us, hl with | [_], _ => rfl)
  · obtain ⟨C, p, dx, fs, rfl, _⟩ := h; rfl
  obtain ⟨C, p, dx, fs, rfl, hp, c, n, hl, hQ⟩ := h
  refine ⟨_, (pss_one (ps_fld (pv 0) (pe_lst pa_nil) rfl)), ?_⟩
  refine ⟨(by show 0 ≤ sizeLine; decide), fun l hl' => ?_⟩
  exact ⟨_, rfl, p, C, dx, fs, rfl, (by rw [upd_ne (ne_of_none hp hl')]; exact hp), c, n, (by omega), hQ l hl'⟩
end
end K17

set_option Elab.async false
set_option linter.all false
set_option maxRecDepth 100000
set_option maxHeartbeats 0
namespace K17
open PySem PySem.Spec PyProof.Rows L2 RC
section
variable {P : Program} {w : World} {K : PySem.W.Frag} {mg : Str → Option Value} {base : Heap}
/-! ### what is made -/
abbrev CY (K : PySem.W.Frag) : Addr := He.ga K "Yard"
abbrev CL (K : PySem.W.Frag) : Addr := He.ga K "Logger"
def spEnrol (K : PySem.W.Frag) : Sp := fun vs H Q _ => ∃ (y h dy m : Addr) (fs : List (Str × V)) (xs : List V), vs = [.ref y, .ref h] ∧ H y = some (.ins (CY K) dy fs) ∧ fs.lookup ("made" : Str) = some (.ref m) ∧ H m = some (.lst xs) ∧ xs.length ≤ 1000 ∧ Q .non (upd H m (.lst (xs ++ [.ref h])))
theorem ok_enrol {f : Addr} (T : Txt P w K mg) (F : Stands K "enrol" "Yard.enrol" s_Yard_enrol [] f) : Callable P w K mg base 1 f ["self", "handler"] [] (spEnrol K) := by
  refine F.call0 sc_Yard_enrol (fun vs H Q E h => ?_) (fun cdv A outer s H vs Q E hr h => ?_) (fun _ _ _ _ _ _ us hl => match us, hl with | [_, _], _ => rfl)
  · obtain ⟨y, h, dy, m, fs, xs, rfl, _⟩ := h; rfl
  obtain ⟨y, h, dy, m, fs, xs, rfl, h1, h2, h3, h4, hQ⟩ := h
  refine ⟨_, (pss_one (ps_expr (pe_bm PySem.F.plainAttrs_list PySem.F.slot_list_append PySem.F.type_list_append mt_append (pe_fld (pv 0) rfl) (pa_cons (pv 1) pa_nil)))), ?_⟩
  exact ⟨_, rfl, y, _, dy, fs, _, rfl, h1, T.c_Yard, T.n_Yard_made, h2, .inl ⟨rfl, _, SqL.of h3⟩, _, rfl, m, _, _, rfl, rfl, h3, (by rw [sizeLine_eq]; omega), hQ⟩
/-- what the text says of a class of handlers -/
structure HCls (K : PySem.W.Frag) (C : Addr) : Prop where
  c : Cls K C
  n1 : NoAttr K C "filters"
  n2 : NoAttr K C "yard"
  n3 : NoAttr K C "level"
  n4 : NoAttr K C "formatter"
  n5 : NoAttr K C "name"
  n6 : NoAttr K C "terminator"
  n7 : NoAttr K C "closed"
def hF (l y : Addr) : List (Str × V) := [("filters", .ref l), ("yard", .ref y), ("level", .int 0), ("formatter", .non), ("name", .non), ("terminator", .str "\n"), ("closed", .bl false)]
/-- a handler at p was made: its filters at l; the yard's list of what was made, at m, has it at its end -/
def HMade (K : PySem.W.Frag) (H : Hp) (p C dx y m : Addr) (xs : List V) (H' : Hp) : Prop := ∃ l, (∀ b o, b ≠ p → b ≠ m → H b = some o → H' b = some o) ∧ H l = none ∧ H' p = some (.ins C dx (hF l y)) ∧ H' l = some (.lst []) ∧ H' m = some (.lst (xs ++ [.ref p]))
def spHandlerInit (K : PySem.W.Frag) : Sp := fun vs H Q _ => ∃ (p C dx y dy m : Addr) (fs : List (Str × V)) (xs : List V), vs = [.ref p, .ref y] ∧ H p = some (.ins C dx []) ∧ HCls K C ∧ p ≠ y ∧ H y = some (.ins (CY K) dy fs) ∧ fs.lookup ("made" : Str) = some (.ref m) ∧ fs.lookup ("enrol" : Str) = none ∧ H m = some (.lst xs) ∧ xs.length ≤ 1000 ∧
  ∀ H', HMade K H p C dx y m xs H' → Q .non H'
theorem ok_handler_init {f : Addr} (T : Txt P w K mg) (F : Stands K "__init__" "Handler.__init__" s_Handler_init [] f) (c_Filterer_init : Callable P w K mg base 1 (He.ma K (He.ga K "Filterer") "__init__") ["self"] [] (spFiltererInit K))
    (c_Yard_enrol : Callable P w K mg base 1 (He.ma K (He.ga K "Yard") "enrol") ["self", "handler"] [] (spEnrol K)) : Callable P w K mg base 2 f ["self", "yard"] [] (spHandlerInit K) := by
  refine F.call0 sc_Handler_init (fun vs H Q E h => ?_) (fun cdv A outer s H vs Q E hr h => ?_) (fun _ _ _ _ _ _ us hl => match us, hl with | [_, _], _ => rfl)
  · obtain ⟨p, C, dx, y, dy, m, fs, xs, rfl, _⟩ := h; rfl
  obtain ⟨p, C, dx, y, dy, m, fs, xs, rfl, hp, c, npy, hy, hm, he, hmm, hxs, hQ⟩ := h
  refine ⟨_, (pss_cons (ps_expr (pe_cf T.cf_Filterer_init c_Filterer_init (hr.mono (by first | decide | exact Nat.le_refl _)) (pe_glob (v := .ref _) (by rfl) T.g_Filterer rfl) (pa_cons (pv 0) pa_nil)))
      (pss_cons (ps_fld (pv 0) (pv 1) rfl)
      (pss_cons (ps_fld (pv 0) pe_int rfl)
      (pss_cons (ps_fld (pv 0) pe_non rfl)
      (pss_cons (ps_fld (pv 0) pe_non rfl)
      (pss_cons (ps_fld (pv 0) pe_str rfl)
      (pss_cons (ps_fld (pv 0) pe_bl rfl)
      (pss_one (ps_expr (pe_mt T.c_Yard T.m_Yard_enrol c_Yard_enrol (hr.mono (by first | decide | exact Nat.le_refl _)) (pv 1) (pa_cons (pv 0) pa_nil))))))))))), ?_⟩
  refine ⟨rfl, _, rfl, C, p, dx, [], rfl, hp, c.c, c.n1, (by decide), fun l hl => ?_⟩
  refine ⟨_, rfl, _, rfl, p, C, dx, _, rfl, upd_same, c.c, c.n2, (by show 1 < 1000; decide), ?_⟩
  rw [upd_upd]
  refine ⟨_, rfl, p, C, dx, _, rfl, upd_same, c.c, c.n3, (by show 2 < 1000; decide), ?_⟩
  rw [upd_upd]
  refine ⟨_, rfl, p, C, dx, _, rfl, upd_same, c.c, c.n4, (by show 3 < 1000; decide), ?_⟩
  rw [upd_upd]
  refine ⟨_, rfl, p, C, dx, _, rfl, upd_same, c.c, c.n5, (by show 4 < 1000; decide), ?_⟩
  rw [upd_upd]
  refine ⟨_, rfl, p, C, dx, _, rfl, upd_same, c.c, c.n6, (by show 5 < 1000; decide), ?_⟩
  rw [upd_upd]
  refine ⟨_, rfl, p, C, dx, _, rfl, upd_same, c.c, c.n7, (by show 6 < 1000; decide), ?_⟩
  rw [upd_upd]
  generalize e1 : upd (upd H l (.lst [])) p _ = H1
  have nlp : l ≠ p := fun z => by rw [z, hp] at hl; cases hl
  have npm : p ≠ m := fun z => by rw [z, hmm] at hp; cases hp
  have nlm : l ≠ m := fun z => by rw [z, hmm] at hl; cases hl
  have q1 : H1 p = some (.ins C dx (hF l y)) := by rw [← e1]; exact upd_same
  have q2 : H1 l = some (.lst []) := by rw [← e1, upd_ne nlp]; exact upd_same
  have q3 : ∀ b o, b ≠ p → H b = some o → H1 b = some o := fun b o h1 h2 => by rw [← e1, upd_ne h1]; exact same_new hl _ b o h2
  clear e1
  refine ⟨_, rfl, y, dy, fs, rfl, q3 _ _ (Ne.symm npy) hy, he, _, rfl, y, p, dy, m, fs, xs, rfl, q3 _ _ (Ne.symm npy) hy, hm, q3 _ _ (Ne.symm npm) hmm, hxs, ?_⟩
  exact hQ _ ⟨l, fun b o h1 h2 h3 => by rw [upd_ne h2]; exact q3 b o h1 h3, hl, by rw [upd_ne npm]; exact q1, by rw [upd_ne nlm]; exact q2, upd_same⟩
def spStreamInit (K : PySem.W.Frag) : Sp := fun vs H Q _ => ∃ (p dx y dy m : Addr) (st : Str) (fs : List (Str × V)) (xs : List V), vs = [.ref p, .ref y, .str st] ∧ H p = some (.ins (He.ga K "StreamHandler") dx []) ∧ p ≠ y ∧ H y = some (.ins (CY K) dy fs) ∧ fs.lookup ("made" : Str) = some (.ref m) ∧ fs.lookup ("enrol" : Str) = none ∧ H m = some (.lst xs) ∧ xs.length ≤ 1000 ∧
  ∀ (H' : Hp) (l : Addr), (∀ b o, b ≠ p → b ≠ m → H b = some o → H' b = some o) → H l = none → H' p = some (.ins (He.ga K "StreamHandler") dx (hF l y ++ ([("stream", .str st)] : List (Str × V)))) → H' l = some (.lst []) → H' m = some (.lst (xs ++ [.ref p])) → Q .non H'
theorem ok_stream_init {f : Addr} (T : Txt P w K mg) (F : Stands K "__init__" "StreamHandler.__init__" s_StreamHandler_init [.str "stderr"] f) (c_Handler_init : Callable P w K mg base 2 (He.ma K (He.ga K "Handler") "__init__") ["self", "yard"] [] (spHandlerInit K)) :
    Callable P w K mg base 3 f ["self", "yard", "stream"] [.str "stderr"] (spStreamInit K) := by
  refine F.call sc_StreamHandler_init 2 0 (fun vs H Q E h => ?_) (fun cdv A outer s H vs Q E hr h => ?_) (fun z => nomatch z) fun _ => ⟨rfl, fun _ _ _ _ _ _ _ us its hl hi => match us, hl, its, hi with | [_, _], _, [_], _ => ⟨_, rfl, rfl⟩⟩
  · obtain ⟨p, dx, y, dy, m, st, fs, xs, rfl, _⟩ := h; rfl
  obtain ⟨p, dx, y, dy, m, st, fs, xs, rfl, hp, npy, hy, hm, he, hmm, hxs, hQ⟩ := h
  refine ⟨_, (pss_cons (ps_expr (pe_cf T.cf_Handler_init c_Handler_init (hr.mono (by first | decide | exact Nat.le_refl _)) (pe_glob (v := .ref _) (by rfl) T.g_Handler rfl) (pa_cons (pv 0) (pa_cons (pv 1) pa_nil))))
      (pss_one (ps_fld (pv 0) (pv 2) rfl))), ?_⟩
  have c : HCls K (He.ga K "StreamHandler") := ⟨T.c_StreamHandler, T.n_StreamHandler_filters, T.n_StreamHandler_yard, T.n_StreamHandler_level, T.n_StreamHandler_formatter, T.n_StreamHandler_name, T.n_StreamHandler_terminator, T.n_StreamHandler_closed⟩
  refine ⟨rfl, _, rfl, _, rfl, p, _, dx, y, dy, m, fs, xs, rfl, hp, c, npy, hy, hm, he, hmm, hxs, fun H1 hM => ?_⟩
  obtain ⟨l, k1, k2, k3, k4, k5⟩ := hM
  have nlp : l ≠ p := fun z => by rw [z, hp] at k2; cases k2
  have npm : m ≠ p := fun z => by rw [z, hp] at hmm; cases hmm
  refine ⟨_, rfl, _, rfl, p, _, dx, _, rfl, k3, T.c_StreamHandler, T.n_StreamHandler_stream, (by show 7 < 1000; decide), ?_⟩
  exact hQ _ l (fun b o h1 h2 h3 => by rw [upd_ne h1]; exact k1 b o h1 h2 h3) k2 upd_same (by rw [upd_ne nlp]; exact k4) (by rw [upd_ne npm]; exact k5)
theorem ok_stream_init3 {f : Addr} (T : Txt P w K mg) (F : Stands K "__init__" "StreamHandler.__init__" s_StreamHandler_init [.str "stderr"] f) (c_Handler_init : Callable P w K mg base 2 (He.ma K (He.ga K "Handler") "__init__") ["self", "yard"] [] (spHandlerInit K)) :
    Callable P w K mg base 3 f ["self", "yard", "stream"] [] (spStreamInit K) := by
  refine F.call sc_StreamHandler_init 3 1 (fun vs H Q E h => ?_) (fun cdv A outer s H vs Q E hr h => ?_) (fun z => nomatch z) fun _ => ⟨rfl, fun _ _ _ _ _ _ _ us its hl hi => match us, hl, its, hi with | [_, _, _], _, [_], _ => ⟨_, rfl, rfl⟩⟩
  · obtain ⟨p, dx, y, dy, m, st, fs, xs, rfl, _⟩ := h; rfl
  obtain ⟨p, dx, y, dy, m, st, fs, xs, rfl, hp, npy, hy, hm, he, hmm, hxs, hQ⟩ := h
  refine ⟨_, (pss_cons (ps_expr (pe_cf T.cf_Handler_init c_Handler_init (hr.mono (by first | decide | exact Nat.le_refl _)) (pe_glob (v := .ref _) (by rfl) T.g_Handler rfl) (pa_cons (pv 0) (pa_cons (pv 1) pa_nil))))
      (pss_one (ps_fld (pv 0) (pv 2) rfl))), ?_⟩
  have c : HCls K (He.ga K "StreamHandler") := ⟨T.c_StreamHandler, T.n_StreamHandler_filters, T.n_StreamHandler_yard, T.n_StreamHandler_level, T.n_StreamHandler_formatter, T.n_StreamHandler_name, T.n_StreamHandler_terminator, T.n_StreamHandler_closed⟩
  refine ⟨rfl, _, rfl, _, rfl, p, _, dx, y, dy, m, fs, xs, rfl, hp, c, npy, hy, hm, he, hmm, hxs, fun H1 hM => ?_⟩
  obtain ⟨l, k1, k2, k3, k4, k5⟩ := hM
  have nlp : l ≠ p := fun z => by rw [z, hp] at k2; cases k2
  have npm : m ≠ p := fun z => by rw [z, hp] at hmm; cases hmm
  refine ⟨_, rfl, _, rfl, p, _, dx, _, rfl, k3, T.c_StreamHandler, T.n_StreamHandler_stream, (by show 7 < 1000; decide), ?_⟩
  exact hQ _ l (fun b o h1 h2 h3 => by rw [upd_ne h1]; exact k1 b o h1 h2 h3) k2 upd_same (by rw [upd_ne nlp]; exact k4) (by rw [upd_ne npm]; exact k5)
def lF (l y : Addr) (name : Str) (lev : Int) (h : Addr) (par : V) : List (Str × V) := [("filters", .ref l), ("yard", .ref y), ("name", .str name), ("level", .int lev), ("propagate", .bl true), ("disabled", .bl false), ("handlers", .ref h), ("parent", par)]
def spLoggerInit (K : PySem.W.Frag) : Sp := fun vs H Q _ => ∃ (p dx y : Addr) (name : Str) (lev : Int), vs = [.ref p, .ref y, .str name, .int lev] ∧ H p = some (.ins (CL K) dx []) ∧
  ∀ (H' : Hp) (l h : Addr), SameBut p H H' → H l = none → H h = none → l ≠ h → H' p = some (.ins (CL K) dx (lF l y name lev h .non)) → H' l = some (.lst []) → H' h = some (.lst []) → Q .non H'
theorem ok_logger_init {f : Addr} (T : Txt P w K mg) (F : Stands K "__init__" "Logger.__init__" s_Logger_init [] f) (c_Filterer_init : Callable P w K mg base 1 (He.ma K (He.ga K "Filterer") "__init__") ["self"] [] (spFiltererInit K)) :
    Callable P w K mg base 2 f ["self", "yard", "name", "level"] [] (spLoggerInit K) := by
  refine F.call0 sc_Logger_init (fun vs H Q E h => ?_) (fun cdv A outer s H vs Q E hr h => ?_) (fun _ _ _ _ _ _ us hl => match us, hl with | [_, _, _, _], _ => rfl)
  · obtain ⟨p, dx, y, name, lev, rfl, _⟩ := h; rfl
  obtain ⟨p, dx, y, name, lev, rfl, hp, hQ⟩ := h
  refine ⟨_, (pss_cons (ps_expr (pe_cf T.cf_Filterer_init c_Filterer_init (hr.mono (by first | decide | exact Nat.le_refl _)) (pe_glob (v := .ref _) (by rfl) T.g_Filterer rfl) (pa_cons (pv 0) pa_nil)))
      (pss_cons (ps_fld (pv 0) (pv 1) rfl)
      (pss_cons (ps_fld (pv 0) (pv 2) rfl)
      (pss_cons (ps_fld (pv 0) (pv 3) rfl)
      (pss_cons (ps_fld (pv 0) pe_bl rfl)
      (pss_cons (ps_fld (pv 0) pe_bl rfl)
      (pss_cons (ps_fld (pv 0) (pe_lst pa_nil) rfl)
      (pss_one (ps_fld (pv 0) pe_non rfl))))))))), ?_⟩
  refine ⟨rfl, _, rfl, _, p, dx, [], rfl, hp, T.c_Logger, T.n_Logger_filters, (by decide), fun l hl => ?_⟩
  refine ⟨_, rfl, _, rfl, p, _, dx, _, rfl, upd_same, T.c_Logger, T.n_Logger_yard, (by show 1 < 1000; decide), ?_⟩
  rw [upd_upd]
  refine ⟨_, rfl, _, rfl, p, _, dx, _, rfl, upd_same, T.c_Logger, T.n_Logger_name, (by show 2 < 1000; decide), ?_⟩
  rw [upd_upd]
  refine ⟨_, rfl, _, rfl, p, _, dx, _, rfl, upd_same, T.c_Logger, T.n_Logger_level, (by show 3 < 1000; decide), ?_⟩
  rw [upd_upd]
  refine ⟨_, rfl, p, _, dx, _, rfl, upd_same, T.c_Logger, T.n_Logger_propagate, (by show 4 < 1000; decide), ?_⟩
  rw [upd_upd]
  refine ⟨_, rfl, p, _, dx, _, rfl, upd_same, T.c_Logger, T.n_Logger_disabled, (by show 5 < 1000; decide), ?_⟩
  rw [upd_upd]
  refine ⟨(by show 0 ≤ sizeLine; decide), fun h hh => ?_⟩
  obtain ⟨nhp, hh1⟩ := upd_none hh
  obtain ⟨nhl, hh2⟩ := upd_none hh1
  refine ⟨_, rfl, p, _, dx, _, rfl, (by rw [upd_ne (Ne.symm nhp)]; exact upd_same), T.c_Logger, T.n_Logger_handlers, (by show 6 < 1000; decide), ?_⟩
  refine ⟨_, rfl, p, _, dx, _, rfl, upd_same, T.c_Logger, T.n_Logger_parent, (by show 7 < 1000; decide), ?_⟩
  rw [upd_upd]
  have nlp : l ≠ p := fun z => by rw [z, hp] at hl; cases hl
  refine hQ _ l h (fun b o h1 h2 => ?_) hl hh2 (Ne.symm nhl) upd_same ?_ ?_
  · have n1 : b ≠ h := ne_of_none h2 hh2
    have n2 : b ≠ l := ne_of_none h2 hl
    rw [upd_ne h1, upd_ne n1, upd_ne h1, upd_ne n2]; exact h2
  · rw [upd_ne nlp, upd_ne (Ne.symm nhl), upd_ne nlp]; exact upd_same
  · rw [upd_ne nhp]; exact upd_same
end
end K17

set_option Elab.async false
set_option linter.all false
set_option maxRecDepth 100000
set_option maxHeartbeats 0
namespace K17
open PySem PySem.Spec PyProof.Rows L2 RC
section
variable {P : Program} {w : World} {K : PySem.W.Frag} {mg : Str → Option Value} {base : Heap}
/-! ### a yard is made -/
/-- H came from H0; ns: what is still being changed; L: what was laid since -/
structure Fr (H0 : Hp) (p : Addr) (ns : List Addr) (L : List (Addr × HO)) (H : Hp) : Prop where
  kp : ∀ b o, b ≠ p → H0 b = some o → H b = some o
  has : ∀ x ∈ L, x.1 ∉ ns ∧ H0 x.1 = none ∧ H x.1 = some x.2
  live : ∀ n ∈ ns, ∃ o, H n = some o
  old : ∀ n ∈ ns, n = p ∨ H0 n = none
  mem : p ∈ ns
  nd : (L.map (·.1)).Nodup
section
variable {H0 H H2 : Hp} {p : Addr} {ns : List Addr} {L : List (Addr × HO)}
theorem Fr.none (F : Fr H0 p ns L H) {q : Addr} (h : H q = none) : H0 q = none := by
  cases e : H0 q with
  | none => rfl
  | some o =>
    by_cases c : q = p
    · subst c; obtain ⟨o', e'⟩ := F.live _ F.mem; rw [e'] at h; cases h
    · rw [F.kp q o c e] at h; cases h
theorem Fr.notin (F : Fr H0 p ns L H) {q : Addr} (h : H q = Option.none) : q ∉ ns := fun z => by obtain ⟨o, e⟩ := F.live q z; rw [e] at h; cases h
theorem Fr.to (F : Fr H0 p ns L H) (k : ∀ b o, b ∉ ns → H b = some o → H2 b = some o) (l : ∀ n ∈ ns, ∃ o, H2 n = some o) : Fr H0 p ns L H2 where
  kp := fun b o hb e => k b o (fun z => by rcases F.old b z with c | c; exact hb c; rw [c] at e; cases e) (F.kp b o hb e)
  has := fun x hx => ⟨(F.has x hx).1, (F.has x hx).2.1, k _ _ (F.has x hx).1 (F.has x hx).2.2⟩
  live := l
  old := F.old
  mem := F.mem
  nd := F.nd
theorem Fr.nin (F : Fr H0 p ns L H) {q : Addr} (h : H q = Option.none) : q ∉ L.map (·.1) := fun z => by
  obtain ⟨x, hx, e⟩ := List.mem_map.mp z
  have := (F.has x hx).2.2
  rw [e, h] at this; cases this
theorem nin_cons {a b : Addr} {o : HO} {L : List (Addr × HO)} (h : a ≠ b) (k : a ∉ L.map (·.1)) : a ∉ ((b, o) :: L).map (·.1) := fun z => by
  rcases List.mem_cons.mp z with z | z
  · exact h z
  · exact k z
theorem Fr.cons (F : Fr H0 p ns L H) {q : Addr} {o : HO} (h1 : q ∉ ns) (h2 : H0 q = Option.none) (h3 : H q = some o) (h4 : q ∉ L.map (·.1)) : Fr H0 p ns ((q, o) :: L) H where
  kp := F.kp
  has := fun x hx => by
    rcases List.mem_cons.mp hx with c | c
    · subst c; exact ⟨h1, h2, h3⟩
    · exact F.has x c
  live := F.live
  old := F.old
  mem := F.mem
  nd := List.nodup_cons.mpr ⟨h4, F.nd⟩
theorem Fr.set (F : Fr H0 p ns L H) {o : HO} {q : Addr} (hq : q ∈ ns) (e : upd H q o = H2) : Fr H0 p ns L H2 := by
  subst e
  refine F.to (fun b u h1 h2 => ?_) (fun n hn => ?_)
  · rw [upd_ne (fun z => h1 (by rw [z]; exact hq))]; exact h2
  · by_cases c : n = q
    · subst c; exact ⟨_, upd_same⟩
    · rw [upd_ne c]; exact F.live n hn
theorem Fr.new (F : Fr H0 p ns L H) {o : HO} {q : Addr} (hq : H q = Option.none) (e : upd H q o = H2) : Fr H0 p ns ((q, o) :: L) H2 := by
  subst e
  refine (F.to (H2 := upd H q o) (fun b u h1 h2 => same_new hq _ _ _ h2) (fun n hn => ?_)).cons (F.notin hq) (F.none hq) upd_same (F.nin hq)
  obtain ⟨u, hu⟩ := F.live n hn
  exact ⟨u, same_new hq _ _ _ hu⟩
/-- one more is being changed -/
theorem Fr.own (F : Fr H0 p ns L H) {o : HO} {q : Addr} (hq : H q = Option.none) (e : upd H q o = H2) : Fr H0 p (q :: ns) L H2 := by
  have G := F.new hq e
  subst e
  refine ⟨G.kp, fun x hx => ?_, fun n hn => ?_, fun n hn => ?_, List.mem_cons_of_mem _ F.mem, F.nd⟩
  · have g := F.has x hx
    refine ⟨fun z => ?_, g.2.1, (G.has x (List.mem_cons_of_mem _ hx)).2.2⟩
    rcases List.mem_cons.mp z with c | c
    · rw [c, hq] at g; cases g.2.2
    · exact g.1 c
  · rcases List.mem_cons.mp hn with c | c
    · subst c; exact ⟨_, upd_same⟩
    · exact G.live n c
  · rcases List.mem_cons.mp hn with c | c
    · subst c; exact .inr (F.none hq)
    · exact F.old n c
theorem Fr.get (F : Fr H0 p ns L H) {x : Addr × HO} (h : x ∈ L) : H x.1 = some x.2 := (F.has x h).2.2
theorem Fr.putf (F : Fr H0 p ns L H) {o o' : HO} {q : Addr} (hq : H q = Option.none) (e : upd (upd H q o) p o' = H2) : Fr H0 p ns ((q, o) :: L) H2 := (F.new hq rfl).set F.mem e
theorem Fr.ownf (F : Fr H0 p ns L H) {o o' : HO} {q : Addr} (hq : H q = Option.none) (e : upd (upd H q o) p o' = H2) : Fr H0 p (q :: ns) L H2 ∧ H2 q = some o := by
  have G := F.own hq (o := o) rfl
  refine ⟨G.set (List.mem_cons_of_mem _ F.mem) e, ?_⟩
  have n : q ≠ p := fun z => F.notin hq (by rw [z]; exact F.mem)
  rw [← e, upd_ne n]; exact upd_same
theorem Fr.same (F : Fr H0 p ns L H) (s : Same H H2) : Fr H0 p ns L H2 := F.to (fun b o _ e => s b o e) (fun n hn => let ⟨o, e⟩ := F.live n hn; ⟨o, s _ _ e⟩)
theorem Fr.start {o : HO} (h : H0 p = some o) : Fr H0 p [p] [] H0 where
  kp := fun _ _ _ e => e
  has := fun _ h => nomatch h
  live := fun n hn => by cases List.mem_singleton.mp hn; exact ⟨o, h⟩
  old := fun n hn => .inl (List.mem_singleton.mp hn)
  mem := List.mem_singleton.mpr rfl
  nd := List.nodup_nil
end
def yF (clk : Int) (st fi na nu lm md hn fr rt lr : Addr) : List (Str × V) := [("clock", .int clk), ("stream_texts", .ref st), ("file_rows", .ref fi), ("names_of", .ref na), ("numbers_of", .ref nu), ("bar_level", .int 0), ("logger_map", .ref lm), ("made", .ref md), ("handler_names", .ref hn), ("failure_rows", .ref fr), ("root", .ref rt), ("last_resort", .ref lr)]
/-- where the parts of a yard lie -/
structure YParts where
  (st fi na nu lm md hn fr rt lr rl rh ll : Addr)
def YParts.L (K : PySem.W.Frag) (y : Addr) (q : YParts) (rd ld : Addr) : List (Addr × HO) := [(q.ll, .lst []), (q.lr, .ins (He.ga K "StreamHandler") ld (hF q.ll y ++ ([("stream", .str "stderr")] : List (Str × V)))), (q.rh, .lst []), (q.rl, .lst []), (q.rt, .ins (CL K) rd (lF q.rl y "root" 30 q.rh .non)), (q.fr, .lst []), (q.hn, .dK []), (q.lm, .dK []), (q.nu, .dK (kv_FIRST_NUMBERS.map fun q => (q.1, q.2.v K))), (q.na, .dK (kv_FIRST_NAMES.map fun q => (q.1, q.2.v K))), (q.fi, .dK []), (q.st, .dK [])]
structure YNew (K : PySem.W.Frag) (H0 H : Hp) (y dy : Addr) (clk : Int) (q : YParts) : Prop where
  fr : ∃ rd ld, Fr H0 y [q.md, y] (q.L K y rd ld) H
  y : H y = some (.ins (CY K) dy (yF clk q.st q.fi q.na q.nu q.lm q.md q.hn q.fr q.rt q.lr))
  md : H q.md = some (.lst [])
def spYardInit (K : PySem.W.Frag) : Sp := fun vs H Q _ => ∃ (p dx : Addr) (clk : Int), vs = [.ref p, .int clk] ∧ H p = some (.ins (CY K) dx []) ∧ ∀ (H' : Hp) (q : YParts), YNew K H H' p dx clk q → Q .non H'
theorem body_yard_init {f : Addr} {cdv : Value} {A : Around} {outer : List Env} {s : Shared} {H : Hp} {vs : List V} {Q : VK} {E : XK} (T : Txt P w K mg) (hr : Room 4 (A.deeper (envOfC "Yard.__init__" (defScope s_Yard_init) s.heap.objs.size f cdv))) (h : spYardInit K vs H Q E)
    (c_Logger_init : Callable P w K mg base 2 (He.ma K (He.ga K "Logger") "__init__") ["self", "yard", "name", "level"] [] (spLoggerInit K))
    (c_StreamHandler_init_d1 : Callable P w K mg base 3 (He.ma K (He.ga K "StreamHandler") "__init__") ["self", "yard", "stream"] [.str "stderr"] (spStreamInit K)) :
    ∃ t, PSs (cxOf CX0 P w K mg base nm_Yard_init "Yard.__init__" (defScope s_Yard_init) f cdv A outer s H E).nox (defBody s_Yard_init) t ∧ t { nx := fun _ H' => Q .non H', rt := Q } (L2.start nm_Yard_init vs) H := by
  obtain ⟨p, dx, clk, rfl, hp, hQ⟩ := h
  refine ⟨_, (pss_cons (ps_fld (pv 0) (pv 1) rfl)
      (pss_cons (ps_fld (pv 0) pe_dnewK rfl)
      (pss_cons (ps_fld (pv 0) pe_dnewK rfl)
      (pss_cons (ps_fld (pv 0) (pe_callTy (RB.call_dictK T.t_FIRST_NAMES) (by rfl) T.b_dict (by decide +kernel) (pa_cons (pe_glob (v := .ref _) (by rfl) T.g_FIRST_NAMES rfl) pa_nil)) rfl)
      (pss_cons (ps_fld (pv 0) (pe_callTy (RB.call_dictK T.t_FIRST_NUMBERS) (by rfl) T.b_dict (by decide +kernel) (pa_cons (pe_glob (v := .ref _) (by rfl) T.g_FIRST_NUMBERS rfl) pa_nil)) rfl)
      (pss_cons (ps_fld (pv 0) pe_int rfl)
      (pss_cons (ps_fld (pv 0) pe_dnewK rfl)
      (pss_cons (ps_fld (pv 0) (pe_lst pa_nil) rfl)
      (pss_cons (ps_fld (pv 0) pe_dnewK rfl)
      (pss_cons (ps_fld (pv 0) (pe_lst pa_nil) rfl)
      (pss_cons (ps_fld (pv 0) (pe_mk T.k_Logger T.g_Logger c_Logger_init (hr.mono (by first | decide | exact Nat.le_refl _)) (by rfl) (pa_cons (pv 0) (pa_cons pe_str (pa_cons (pe_gi (by rfl) T.g_WARNING) pa_nil)))) rfl)
      (pss_cons (ps_fld (pv 0) (pe_mk T.k_StreamHandler T.g_StreamHandler c_StreamHandler_init_d1 (hr.mono (by first | decide | exact Nat.le_refl _)) (by rfl) (pa_cons (pv 0) pa_nil)) rfl)
      (pss_one (ps_expr (pe_bm0 PySem.F.plainAttrs_list PySem.F.slot_list_pop PySem.F.type_list_pop mt_pop (pe_fld (pv 0) rfl)))))))))))))))), ?_⟩
  have F0 := Fr.start hp
  refine ⟨_, rfl, _, rfl, p, _, dx, _, rfl, hp, T.c_Yard, T.n_Yard_clock, (by show 0 < 1000; decide), ?_⟩
  generalize e1 : upd H p _ = H1
  have F1 := F0.set List.mem_cons_self e1
  have p1 := congrFun e1.symm p; rw [upd_same] at p1
  clear e1
  intro st h_st
  refine ⟨_, rfl, p, _, dx, _, rfl, same_new h_st _ _ _ p1, T.c_Yard, T.n_Yard_stream_texts, (by show 1 < 1000; decide), ?_⟩
  generalize e : upd (upd H1 st _) p _ = H2
  have F2 := F1.putf h_st e
  have p2 := congrFun e.symm p; rw [upd_same] at p2
  clear e
  intro fi h_fi
  refine ⟨_, rfl, p, _, dx, _, rfl, same_new h_fi _ _ _ p2, T.c_Yard, T.n_Yard_file_rows, (by show 2 < 1000; decide), ?_⟩
  generalize e : upd (upd H2 fi _) p _ = H3
  have F3 := F2.putf h_fi e
  have p3 := congrFun e.symm p; rw [upd_same] at p3
  clear e
  refine ⟨rfl, fun na h_na => ?_⟩
  refine ⟨_, rfl, p, _, dx, _, rfl, same_new h_na _ _ _ p3, T.c_Yard, T.n_Yard_names_of, (by show 3 < 1000; decide), ?_⟩
  generalize e : upd (upd H3 na _) p _ = H4
  have F4 := F3.putf h_na e
  have p4 := congrFun e.symm p; rw [upd_same] at p4
  clear e
  refine ⟨rfl, fun nu h_nu => ?_⟩
  refine ⟨_, rfl, p, _, dx, _, rfl, same_new h_nu _ _ _ p4, T.c_Yard, T.n_Yard_numbers_of, (by show 4 < 1000; decide), ?_⟩
  generalize e : upd (upd H4 nu _) p _ = H5
  have F5 := F4.putf h_nu e
  have p5 := congrFun e.symm p; rw [upd_same] at p5
  clear e
  refine ⟨_, rfl, p, _, dx, _, rfl, p5, T.c_Yard, T.n_Yard_bar_level, (by show 5 < 1000; decide), ?_⟩
  generalize e : upd H5 p _ = H6
  have F6 := F5.set F5.mem e
  have p6 := congrFun e.symm p; rw [upd_same] at p6
  clear e
  intro lm h_lm
  refine ⟨_, rfl, p, _, dx, _, rfl, same_new h_lm _ _ _ p6, T.c_Yard, T.n_Yard_logger_map, (by show 6 < 1000; decide), ?_⟩
  generalize e : upd (upd H6 lm _) p _ = H7
  have F7 := F6.putf h_lm e
  have p7 := congrFun e.symm p; rw [upd_same] at p7
  clear e
  refine ⟨(by show 0 ≤ sizeLine; decide), fun md h_md => ?_⟩
  refine ⟨_, rfl, p, _, dx, _, rfl, same_new h_md _ _ _ p7, T.c_Yard, T.n_Yard_made, (by show 7 < 1000; decide), ?_⟩
  generalize e : upd (upd H7 md _) p _ = H8
  obtain ⟨F8, m8⟩ := F7.ownf h_md e
  have p8 := congrFun e.symm p; rw [upd_same] at p8
  have nmp : md ≠ p := fun z => F7.notin h_md (by rw [z]; exact F7.mem)
  clear e
  intro hn h_hn
  refine ⟨_, rfl, p, _, dx, _, rfl, same_new h_hn _ _ _ p8, T.c_Yard, T.n_Yard_handler_names, (by show 8 < 1000; decide), ?_⟩
  generalize e : upd (upd H8 hn _) p _ = H9
  have F9 := F8.putf h_hn e
  have p9 := congrFun e.symm p; rw [upd_same] at p9
  have m9 : H9 md = some (.lst []) := by rw [← e, upd_ne nmp]; exact same_new h_hn _ _ _ m8
  clear e
  refine ⟨(by show 0 ≤ sizeLine; decide), fun fr h_fr => ?_⟩
  refine ⟨_, rfl, p, _, dx, _, rfl, same_new h_fr _ _ _ p9, T.c_Yard, T.n_Yard_failure_rows, (by show 9 < 1000; decide), ?_⟩
  generalize e : upd (upd H9 fr _) p _ = H10
  have F10 := F9.putf h_fr e
  have p10 := congrFun e.symm p; rw [upd_same] at p10
  have m10 : H10 md = some (.lst []) := by rw [← e, upd_ne nmp]; exact same_new h_fr _ _ _ m9
  clear e
  -- root
  refine ⟨_, rfl, fun rt rd h_rt h_rd hne => ?_⟩
  refine ⟨rt, rd, p, "root", 30, rfl, upd_same, fun Hr rl rh k1 k2 k3 k4 k5 k6 k7 => ⟨rfl, ?_⟩⟩
  have sr : Same H10 Hr := made_same h_rt h_rd k1
  obtain ⟨k2a, k2⟩ := upd_none k2
  obtain ⟨k3a, k3⟩ := upd_none k3
  have k2 := (upd_none k2).2
  have k3 := (upd_none k3).2
  have j1 : rl ≠ rt := fun z => by rw [z, k5] at k6; cases k6
  have j2 : rh ≠ rt := fun z => by rw [z, k5] at k7; cases k7
  have Fr1 := (((F10.same sr).cons (F10.notin h_rt) (F10.none h_rt) k5 (F10.nin h_rt)).cons (F10.notin k2) (F10.none k2) k6 (nin_cons j1 (F10.nin k2))).cons (F10.notin k3) (F10.none k3) k7 (nin_cons (Ne.symm k4) (nin_cons j2 (F10.nin k3)))
  have pr := sr _ _ p10
  have mr := sr _ _ m10
  refine ⟨_, rfl, p, _, dx, _, rfl, pr, T.c_Yard, T.n_Yard_root, (by show 10 < 1000; decide), ?_⟩
  generalize e : upd Hr p _ = H11
  have F11 := Fr1.set Fr1.mem e
  have p11 := congrFun e.symm p; rw [upd_same] at p11
  have m11 : H11 md = some (.lst []) := by rw [← e, upd_ne nmp]; exact mr
  clear e
  -- last_resort
  refine ⟨_, rfl, fun lr ld h_lr h_ld hne2 => ?_⟩
  have npl : lr ≠ p := fun z => by rw [z, p11] at h_lr; cases h_lr
  have nml : lr ≠ md := fun z => by rw [z, m11] at h_lr; cases h_lr
  have t1 : ∀ C fs, Same H11 (upd (upd H11 ld (.own lr)) lr (.ins C ld fs)) := fun C fs => made_same h_lr h_ld (fun _ _ _ e => e)
  refine ⟨lr, ld, p, dx, md, "stderr", _, [], rfl, upd_same, npl, t1 _ _ _ _ p11, rfl, rfl, t1 _ _ _ _ m11, (by decide), fun Hl ll l1 l2 l3 l4 l5 => ⟨rfl, ?_⟩⟩
  have l2b : H11 ll = none := (upd_none (upd_none l2).2).2
  have f12 : ∀ b o, b ∉ [md, p] → H11 b = some o → Hl b = some o := fun b o hb e => l1 b o (ne_of_none e h_lr) (fun z => hb (by rw [z]; exact List.mem_cons_self)) (t1 _ _ _ _ e)
  have p12 := l1 p _ (Ne.symm npl) (Ne.symm nmp) (t1 _ _ _ _ p11)
  have F12 := ((F11.to f12 (fun n hn => by
    rcases List.mem_cons.mp hn with c | c
    · subst c; exact ⟨_, l5⟩
    · cases List.mem_singleton.mp c; exact ⟨_, p12⟩)).cons (F11.notin h_lr) (F11.none h_lr) l3 (F11.nin h_lr)).cons (F11.notin l2b) (F11.none l2b) l4 (nin_cons (fun z => (by rw [z, l3] at l4; cases l4)) (F11.nin l2b))
  refine ⟨_, rfl, p, _, dx, _, rfl, p12, T.c_Yard, T.n_Yard_last_resort, (by show 11 < 1000; decide), ?_⟩
  generalize e : upd Hl p _ = H13
  have F13 := F12.set F12.mem e
  have p13 := congrFun e.symm p; rw [upd_same] at p13
  have m13 : H13 md = some (.lst [.ref lr]) := by rw [← e, upd_ne nmp]; exact l5
  clear e
  refine ⟨_, rfl, p, _, dx, _, _, rfl, p13, T.c_Yard, T.n_Yard_made, rfl, .inl ⟨rfl, _, SqL.of m13⟩, md, _, _, rfl, rfl, m13, rfl, ?_⟩
  have F14 := F13.set (o := .lst []) List.mem_cons_self rfl
  refine hQ _ ⟨st, fi, na, nu, lm, md, hn, fr, rt, lr, rl, rh, ll⟩ ⟨⟨rd, ld, F14⟩, ?_, upd_same⟩
  rw [upd_ne (Ne.symm nmp)]; exact p13
theorem len_yard_init : ∀ vs H Q E, spYardInit K vs H Q E → vs.length = 2 := fun vs H Q E h => by
  obtain ⟨p, dx, clk, rfl, _⟩ := h; rfl
theorem ok_yard_init {f : Addr} (T : Txt P w K mg) (F : Stands K "__init__" "Yard.__init__" s_Yard_init [.int 0] f)
    (c_Logger_init : Callable P w K mg base 2 (He.ma K (He.ga K "Logger") "__init__") ["self", "yard", "name", "level"] [] (spLoggerInit K))
    (c_StreamHandler_init_d1 : Callable P w K mg base 3 (He.ma K (He.ga K "StreamHandler") "__init__") ["self", "yard", "stream"] [.str "stderr"] (spStreamInit K)) : Callable P w K mg base 5 f ["self", "now"] [.int 0] (spYardInit K) :=
  F.call sc_Yard_init 1 0 len_yard_init (fun cdv A outer s H vs Q E hr h => body_yard_init T hr h c_Logger_init c_StreamHandler_init_d1) (fun z => nomatch z) fun _ => ⟨rfl, fun _ _ _ _ _ _ _ us its hl hi => match us, hl, its, hi with | [_], _, [_], _ => ⟨_, rfl, rfl⟩⟩
theorem ok_yard_kw {f : Addr} (T : Txt P w K mg) (F : Stands K "__init__" "Yard.__init__" s_Yard_init [.int 0] f)
    (c_Logger_init : Callable P w K mg base 2 (He.ma K (He.ga K "Logger") "__init__") ["self", "yard", "name", "level"] [] (spLoggerInit K))
    (c_StreamHandler_init_d1 : Callable P w K mg base 3 (He.ma K (He.ga K "StreamHandler") "__init__") ["self", "yard", "stream"] [.str "stderr"] (spStreamInit K)) : RK.CallKw P w K mg base 5 f ["self", "now"] 1 ["now"] (fun vs zs => vs ++ zs) (spYardInit K) :=
  RK.stands_kwD (dvs := [.int 0]) (n := 1) (ks := ["now"]) (fun us its ws => us ++ ws) (fun z => nomatch z) F sc_Yard_init len_yard_init (fun cdv A outer s H vs Q E hr h => body_yard_init T hr h c_Logger_init c_StreamHandler_init_d1) (fun r1 _ r2 => r1.append r2)
    (fun _ _ _ _ _ _ _ us its ws h1 h2 h3 => match us, its, ws, h1, h2, h3 with | [_], [_], [_], _, _, _ => ⟨_, rfl, rfl⟩)
end
end K17

set_option Elab.async false
set_option linter.all false
set_option maxRecDepth 100000
set_option maxHeartbeats 4000000
/-! A model M of what stands at the places ad: what is changed at one model leaves the others. -/
namespace RR
open PySem PySem.Spec PyProof.Rows L2 RC
section
variable {R S : Type} {M M' M'' : R → Option HO} {N N' : S → Option HO} {ad ad' ad'' : R → Addr} {bd bd' : S → Addr} {H H' H'' : Hp} {b p s l : Addr} {o o0 o1 : HO}
structure Rep (M : R → Option HO) (ad : R → Addr) (H : Hp) : Prop where
  at_ : ∀ r o, M r = some o → H (ad r) = some o
  inj : ∀ r r' o o', M r = some o → M r' = some o' → ad r = ad r' → r = r'
def Out (M : R → Option HO) (ad : R → Addr) (b : Addr) : Prop := ∀ r u, M r = some u → ad r ≠ b
structure Mv {R S : Type} (M : R → Option HO) (ad : R → Addr) (H : Hp) (M' : S → Option HO) (ad' : S → Addr) (H' : Hp) : Prop where
  keep : ∀ b o, Out M ad b → H b = some o → H' b = some o
  img : ∀ r u, M' r = some u → (∃ r' u', M r' = some u' ∧ ad r' = ad' r) ∨ H (ad' r) = none
theorem Rep.out (h : Rep M ad H) (hp : H p = none) : Out M ad p := fun r u e z => by rw [← z, h.at_ _ _ e] at hp; cases hp
theorem Mv.refl (H : Hp) : Mv M ad H M ad H := ⟨fun _ _ _ e => e, fun r u e => .inl ⟨r, u, e, rfl⟩⟩
theorem Mv.out {R S : Type} {M : R → Option HO} {ad : R → Addr} {M' : S → Option HO} {ad' : S → Addr} (m : Mv M ad H M' ad' H') (h : Out M ad b) (e : H b = some o) : Out M' ad' b := fun r u er z => by
  rcases m.img r u er with ⟨r', u', e', z'⟩ | hn
  · exact h r' u' e' (z'.trans z)
  · rw [z, e] at hn; cases hn
theorem Mv.trans {R S U : Type} {M : R → Option HO} {ad : R → Addr} {M' : S → Option HO} {ad' : S → Addr} {M'' : U → Option HO} {ad'' : U → Addr} (a : Mv M ad H M' ad' H') (c : Mv M' ad' H' M'' ad'' H'') : Mv M ad H M'' ad'' H'' where
  keep := fun b o h e => c.keep b o (a.out h e) (a.keep b o h e)
  img := fun r u e => by
    rcases c.img r u e with ⟨r', u', e', z⟩ | hn
    · rcases a.img r' u' e' with ⟨r2, u2, e2, z2⟩ | h
      · exact .inl ⟨r2, u2, e2, z2.trans z⟩
      · exact .inr (by rw [← z]; exact h)
    · cases hH : H (ad'' r) with
      | none => exact .inr rfl
      | some o =>
        by_cases ho : Out M ad (ad'' r)
        · rw [a.keep _ _ ho hH] at hn; cases hn
        · refine .inl ?_
          apply Classical.byContradiction
          intro z
          exact ho fun r' u' e' q => z ⟨r', u', e', q⟩
theorem Rep.same (h : Rep M ad H) (e : Same H H') : Rep M ad H' := ⟨fun r o q => e _ _ (h.at_ r o q), h.inj⟩
theorem Mv.same (e : Same H H') : Mv M ad H M ad H' := ⟨fun b o _ q => e b o q, fun r u q => .inl ⟨r, u, q, rfl⟩⟩
theorem Mv.sameR {R S : Type} {M : R → Option HO} {ad : R → Addr} {M' : S → Option HO} {ad' : S → Addr} (a : Mv M ad H M' ad' H') (e : Same H' H'') : Mv M ad H M' ad' H'' := a.trans (Mv.same e)
theorem Mv.sameL {R S : Type} {M : R → Option HO} {ad : R → Addr} {M' : S → Option HO} {ad' : S → Addr} (a : Mv M ad H' M' ad' H'') (e : Same H H') : Mv M ad H M' ad' H'' := (Mv.same e).trans a
def Dj (M : R → Option HO) (ad : R → Addr) (N : S → Option HO) (bd : S → Addr) : Prop := ∀ r u, N r = some u → Out M ad (bd r)
theorem Dj.symm (d : Dj M ad N bd) : Dj N bd M ad := fun r u e r' u' e' z => d r' u' e' r u e z.symm
theorem Mv.rep {R S U : Type} {M : R → Option HO} {ad : R → Addr} {M' : S → Option HO} {ad' : S → Addr} {N : U → Option HO} {bd : U → Addr} (a : Mv M ad H M' ad' H') (d : Dj M ad N bd) (n : Rep N bd H) : Rep N bd H' := ⟨fun r o q => a.keep _ _ (d r o q) (n.at_ r o q), n.inj⟩
theorem Mv.dj {R S U : Type} {M : R → Option HO} {ad : R → Addr} {M' : S → Option HO} {ad' : S → Addr} {N : U → Option HO} {bd : U → Addr} (a : Mv M ad H M' ad' H') (d : Dj M ad N bd) (n : Rep N bd H) : Dj M' ad' N bd := fun r u q => a.out (d r u q) (n.at_ r u q)
theorem Rep.set (h : Rep M ad H) (r : R) (h0 : M r = some o0) (h1 : M' r = some o) (h2 : ∀ r', r' ≠ r → M' r' = M r') : Rep M' ad (upd H (ad r) o) ∧ Mv M ad H M' ad (upd H (ad r) o) := by
  have k : ∀ r' u, M' r' = some u → ∃ u', M r' = some u' := fun r' u e => by
    by_cases c : r' = r
    · rw [c]; exact ⟨_, h0⟩
    · rw [h2 r' c] at e; exact ⟨_, e⟩
  refine ⟨⟨fun r' u e => ?_, fun r1 r2 u1 u2 e1 e2 z => ?_⟩, fun b u hb e => ?_, fun r' u e => ?_⟩
  · by_cases c : r' = r
    · rw [c, upd_same]; rw [c, h1] at e; exact e
    · rw [h2 r' c] at e
      rw [upd_ne (fun z => c (h.inj _ _ _ _ e h0 z))]; exact h.at_ _ _ e
  · obtain ⟨v1, q1⟩ := k _ _ e1
    obtain ⟨v2, q2⟩ := k _ _ e2
    exact h.inj _ _ _ _ q1 q2 z
  · rw [upd_ne (fun z => hb r _ h0 z.symm)]; exact e
  · obtain ⟨u', q⟩ := k _ _ e
    exact .inl ⟨r', u', q, rfl⟩
theorem Rep.new (h : Rep M ad H) (hp : H p = none) (r : R) (h1 : M' r = some o) (h2 : ∀ r', r' ≠ r → M' r' = M r') (a1 : ad' r = p) (a2 : ∀ r', r' ≠ r → ad' r' = ad r') : Rep M' ad' (upd H p o) ∧ Mv M ad H M' ad' (upd H p o) := by
  refine ⟨⟨fun r' u e => ?_, fun r1 r2 u1 u2 e1 e2 z => ?_⟩, fun b u hb e => ?_, fun r' u e => ?_⟩
  · by_cases c : r' = r
    · rw [c, a1, upd_same]; rw [c, h1] at e; exact e
    · rw [h2 r' c] at e
      have g := h.at_ _ _ e
      rw [a2 r' c, upd_ne (fun z => by rw [z, hp] at g; cases g)]; exact g
  · by_cases c1 : r1 = r
    · by_cases c2 : r2 = r
      · rw [c1, c2]
      · rw [h2 r2 c2] at e2
        have g := h.at_ _ _ e2
        rw [c1, a1, a2 r2 c2] at z
        rw [← z, hp] at g; cases g
    · by_cases c2 : r2 = r
      · rw [h2 r1 c1] at e1
        have g := h.at_ _ _ e1
        rw [c2, a1, a2 r1 c1] at z
        rw [z, hp] at g; cases g
      · rw [h2 r1 c1] at e1
        rw [h2 r2 c2] at e2
        rw [a2 r1 c1, a2 r2 c2] at z
        exact h.inj _ _ _ _ e1 e2 z
  · rw [upd_ne (fun z => by rw [z, hp] at e; cases e)]; exact e
  · by_cases c : r' = r
    · rw [c, a1]; exact .inr hp
    · rw [h2 r' c] at e
      exact .inl ⟨r', u, e, (a2 r' c).symm⟩
/-- a new thing at one place, and a place that tells of it -/
theorem Rep.newset (h : Rep M ad H) (hp : H p = none) (r r0 : R) (hr : r0 ≠ r) (h0 : M r0 = some o0) (h1 : M' r = some o) (h3 : M' r0 = some o1) (h2 : ∀ r', r' ≠ r → r' ≠ r0 → M' r' = M r') (a1 : ad' r = p) (a2 : ∀ r', r' ≠ r → ad' r' = ad r') :
    Rep M' ad' (upd (upd H p o) (ad r0) o1) ∧ Mv M ad H M' ad' (upd (upd H p o) (ad r0) o1) := by
  classical
  obtain ⟨g1, g2⟩ := h.new (M' := fun r' => if r' = r then some o else M r') hp r (if_pos rfl) (fun r' c => if_neg c) a1 a2
  have e0 : (fun r' => if r' = r then some o else M r') r0 = some o0 := (if_neg hr).trans h0
  obtain ⟨g3, g4⟩ := g1.set (M' := M') r0 e0 h3 (fun r' c => by
    by_cases d : r' = r
    · rw [d, h1]; exact (if_pos rfl).symm
    · rw [h2 r' d c]; exact (if_neg d).symm)
  rw [a2 r0 hr] at g3 g4
  exact ⟨g3, g2.trans g4⟩
theorem Rep.old (h : Rep M ad H) (e : Old s l H H') (hs : Out M ad s) (hl : Out M ad l) : Rep M ad H' := ⟨fun r o q => e _ _ (fun z => hs r o q z) (fun z => hl r o q z) (h.at_ r o q), h.inj⟩
theorem Stm.mv {R S : Type} {M : R → Option HO} {ad : R → Addr} {M' : S → Option HO} {ad' : S → Addr} {n : Nat} (st : Stm H s l n) (a : Mv M ad H M' ad' H') (hs : Out M ad s) (hl : Out M ad l) : Stm H' s l n := by
  obtain ⟨ne, ns, x, c, d, g1, g2, g3⟩ := st
  exact ⟨ne, ns, x, c, d, a.keep _ _ hs g1, a.keep _ _ hl g2, g3⟩
end
end RR

set_option Elab.async false
set_option linter.all false
set_option maxRecDepth 100000
set_option maxHeartbeats 0
namespace K17
open PySem PySem.Spec PyProof.Rows L2 RC
section
variable {P : Program} {w : World} {K : PySem.W.Frag} {mg : Str → Option Value} {base : Heap}
/-! ### the model: two yards, what the law keeps of them -/
abbrev CS (K : PySem.W.Frag) : Addr := He.ga K "StreamHandler"
abbrev CH (K : PySem.W.Frag) : Addr := He.ga K "FileHandler"
def strK (ts : List (Str × Str)) : List (Key × V) := ts.map fun e => ((Sum.inr e.1 : Key), V.str e.2)
def txt (ts : List (Str × Str)) (s : Str) : Str := (ts.lookup s).getD ""
def putS (ts : List (Str × Str)) (s t : Str) : List (Str × Str) := if ts.any (fun e => decide (e.1 = s)) = true then ts.map (fun e => if e.1 = s then (e.1, t) else e) else ts ++ [(s, t)]
theorem valV_strK (s : Str) : ∀ ts : List (Str × Str), valV (strK ts) (Sum.inr s) = (ts.lookup s).map V.str
  | [] => rfl
  | e :: es => by
    by_cases h : e.1 = s
    · have h1 : valV (strK (e :: es)) (Sum.inr s) = some (V.str e.2) := valV_pos (p := ((Sum.inr e.1 : Key), V.str e.2)) (r := strK es) (congrArg Sum.inr h)
      rw [h1, List.lookup_cons, beq_iff_eq.mpr h.symm]; rfl
    · have h1 : valV (strK (e :: es)) (Sum.inr s) = valV (strK es) (Sum.inr s) := by
        show valV (((Sum.inr e.1 : Key), V.str e.2) :: strK es) (Sum.inr s) = _
        unfold valV
        rw [List.find?_cons, show decide ((Sum.inr e.1 : Key) = Sum.inr s) = false from decide_eq_false fun z => h (Sum.inr.inj z)]
      rw [h1, List.lookup_cons, show (s == e.1) = false from by simpa using fun z : s = e.1 => h z.symm, valV_strK s es]
theorem putK_strK (ts : List (Str × Str)) (s t : Str) : putK (strK ts) (Sum.inr s) (.str t) = strK (putS ts s t) := by
  unfold putK putS
  have e : (strK ts).any (fun p => decide (p.1 = (Sum.inr s : Key))) = ts.any (fun e => decide (e.1 = s)) := by
    unfold strK
    rw [List.any_map]
    congr 1
    funext e
    exact decide_eq_decide.mpr ⟨fun z => Sum.inr.inj z, fun z => congrArg Sum.inr z⟩
  rw [e]
  split
  · unfold strK
    rw [List.map_map, List.map_map]
    refine List.map_congr_left fun e _ => ?_
    show (if (Sum.inr e.1 : Key) = Sum.inr s then _ else _) = _
    by_cases c : e.1 = s
    · rw [if_pos (congrArg Sum.inr c)]
      show _ = ((Sum.inr (if e.1 = s then (e.1, t) else e).1 : Key), V.str (if e.1 = s then (e.1, t) else e).2)
      rw [if_pos c]
    · rw [if_neg (fun z => c (Sum.inr.inj z))]
      show _ = ((Sum.inr (if e.1 = s then (e.1, t) else e).1 : Key), V.str (if e.1 = s then (e.1, t) else e).2)
      rw [if_neg c]
  · unfold strK; rw [List.map_append]; rfl
theorem putS_length (ts : List (Str × Str)) (s t : Str) : (putS ts s t).length ≤ ts.length + 1 := by
  unfold putS
  split
  · rw [List.length_map]; omega
  · rw [List.length_append]; exact Nat.le_refl _
/-- no text is longer than n, nor are there more of them -/
def Cap (ts : List (Str × Str)) (n : Nat) : Prop := ts.length ≤ n ∧ ∀ e ∈ ts, e.2.length ≤ n
theorem txt_cap {ts : List (Str × Str)} {n : Nat} (c : Cap ts n) (s : Str) : (txt ts s).length ≤ n := by
  unfold txt
  cases e : ts.lookup s with
  | none => exact Nat.zero_le _
  | some t =>
    have hm : ∃ k, (k, t) ∈ ts := by
      clear c
      induction ts with
      | nil => cases e
      | cons a r ih =>
        rw [List.lookup_cons] at e
        split at e
        · cases e; exact ⟨a.1, List.mem_cons_self⟩
        · obtain ⟨k, hk⟩ := ih e; exact ⟨k, List.mem_cons_of_mem _ hk⟩
    obtain ⟨k, hk⟩ := hm
    exact c.2 _ hk
theorem len_app (x y : Str) : (x ++ y).length = x.length + y.length := by
  rw [TL.len_tl, TL.tl_append, List.length_append, ← TL.len_tl, ← TL.len_tl]
theorem app_assoc (x y z : Str) : x ++ y ++ z = x ++ (y ++ z) := by
  refine TL.ext_tl ?_
  rw [TL.tl_append, TL.tl_append, TL.tl_append, TL.tl_append, List.append_assoc]
theorem putS_cap {ts : List (Str × Str)} {n k : Nat} (c : Cap ts n) (s : Str) {t : Str} (ht : t.length ≤ n + k) (hk : 1 ≤ k) : Cap (putS ts s t) (n + k) := by
  refine ⟨Nat.le_trans (putS_length _ _ _) (by have := c.1; omega), fun e he => ?_⟩
  unfold putS at he
  split at he
  · obtain ⟨e', h1, rfl⟩ := List.mem_map.mp he
    split
    · exact ht
    · exact Nat.le_trans (c.2 _ h1) (by omega)
  · rcases List.mem_append.mp he with h | h
    · exact Nat.le_trans (c.2 _ h) (by omega)
    · cases List.mem_singleton.mp h; exact ht
/-- one yard and what the law keeps of it -/
structure YS where
  now : Int
  files : List (Str × Str)
  tim : Str → Int
  texts : List (Str × Str)
  tm : Nat → Str
  op : Bool
  lnow : Int
  lfiles : List (Str × Str)
  ltexts : List (Str × Str)
inductive Ro
  | y | st | fi | na | nu | r | lf | lt | hd | ly | lr | lh
  | row (k : Str)
  | h (j : Nat)
  | fl (j : Nat)
  | x (j : Nat)
  | hx (j : Nat)
abbrev RR2 := Bool × Ro
def yFs (s : YS) (ad : Ro → Addr) : List (Str × V) := yF s.now (ad .st) (ad .fi) (ad .na) (ad .nu) (ad (.x 1)) (ad (.x 2)) (ad (.x 3)) (ad (.x 4)) (ad (.x 5)) (ad (.x 6))
def hdF (fl y : Addr) (tm : Str) : List (Str × V) := [("filters", .ref fl), ("yard", .ref y), ("level", .int 0), ("formatter", .non), ("name", .non), ("terminator", .str tm), ("closed", .bl false)]
def hdS (fl y : Addr) (tm st : Str) : List (Str × V) := [("filters", .ref fl), ("yard", .ref y), ("level", .int 0), ("formatter", .non), ("name", .non), ("terminator", .str tm), ("closed", .bl false), ("stream", .str st)]
def hdL (fl y : Addr) (tm : Str) (op : Bool) : List (Str × V) := [("filters", .ref fl), ("yard", .ref y), ("level", .int 0), ("formatter", .non), ("name", .non), ("terminator", .str tm), ("closed", .bl false), ("filename", .str "f"), ("mode", .str "a"), ("delay", .bl true), ("is_open", .bl op), ("shut", .bl false)]
def stn : Nat → Str
  | 0 => "out"
  | 1 => ""
  | _ => "err"
def filK (fs : List (Str × Str)) (ad : Ro → Addr) : List (Key × V) := fs.map fun e => ((Sum.inr e.1 : Key), V.ref (ad (.row e.1)))
def hdO (K : PySem.W.Frag) (s : YS) (ad : Ro → Addr) (j : Nat) : Option HO :=
  if j < 3 then some (.ins (CS K) (ad (.hx j)) (hdS (ad (.fl j)) (ad .y) (s.tm j) (stn j)))
  else if j = 3 then some (.ins (CH K) (ad (.hx 3)) (hdL (ad (.fl 3)) (ad .y) (s.tm 3) s.op)) else none
def Y1 (K : PySem.W.Frag) (s : YS) (ad : Ro → Addr) : Ro → Option HO
  | .y => some (.ins (CY K) (ad (.x 0)) (yFs s ad))
  | .st => some (.dK (strK s.texts))
  | .fi => some (.dK (filK s.files ad))
  | .na => some (.dK (kv_FIRST_NAMES.map fun q => (q.1, q.2.v K)))
  | .nu => some (.dK (kv_FIRST_NUMBERS.map fun q => (q.1, q.2.v K)))
  | .r => some (.dK [(Sum.inr "now", .int s.lnow), (Sum.inr "files", .ref (ad .lf)), (Sum.inr "texts", .ref (ad .lt))])
  | .lf => some (.dK (strK s.lfiles))
  | .lt => some (.dK (strK s.ltexts))
  | .hd => some (.dK [(Sum.inr "out", .ref (ad (.h 0))), (Sum.inr "", .ref (ad (.h 1))), (Sum.inr "err", .ref (ad (.h 2))), (Sum.inr "f", .ref (ad (.h 3)))])
  | .row k => (s.files.lookup k).map fun t => .lst [.str t, .int (s.tim k)]
  | .h j => hdO K s ad j
  | .fl j => if j < 4 then some (.lst []) else none
  | _ => none
abbrev YR (K : PySem.W.Frag) (s : YS) (ad : Ro → Addr) (H : Hp) : Prop := RR.Rep (Y1 K s ad) ad H
abbrev YM (K : PySem.W.Frag) (s : YS) (ad : Ro → Addr) (H : Hp) (s' : YS) (ad' : Ro → Addr) (H' : Hp) : Prop := RR.Mv (Y1 K s ad) ad H (Y1 K s' ad') ad' H'
section
variable {s : YS} {ad : Ro → Addr} {H : Hp}
theorem _root_.RR.Rep.y_ (R : YR K s ad H) : H (ad .y) = some (.ins (CY K) (ad (.x 0)) (yFs s ad)) := R.at_ .y _ rfl
theorem _root_.RR.Rep.st_ (R : YR K s ad H) : H (ad .st) = some (.dK (strK s.texts)) := R.at_ .st _ rfl
theorem _root_.RR.Rep.fi_ (R : YR K s ad H) : H (ad .fi) = some (.dK (filK s.files ad)) := R.at_ .fi _ rfl
theorem _root_.RR.Rep.na_ (R : YR K s ad H) : H (ad .na) = some (.dK (kv_FIRST_NAMES.map fun q => (q.1, q.2.v K))) := R.at_ .na _ rfl
theorem _root_.RR.Rep.nu_ (R : YR K s ad H) : H (ad .nu) = some (.dK (kv_FIRST_NUMBERS.map fun q => (q.1, q.2.v K))) := R.at_ .nu _ rfl
theorem _root_.RR.Rep.lf_ (R : YR K s ad H) : H (ad .lf) = some (.dK (strK s.lfiles)) := R.at_ .lf _ rfl
theorem _root_.RR.Rep.lt_ (R : YR K s ad H) : H (ad .lt) = some (.dK (strK s.ltexts)) := R.at_ .lt _ rfl
theorem _root_.RR.Rep.r_ (R : YR K s ad H) : H (ad .r) = some (.dK [(Sum.inr "now", .int s.lnow), (Sum.inr "files", .ref (ad .lf)), (Sum.inr "texts", .ref (ad .lt))]) := R.at_ .r _ rfl
theorem _root_.RR.Rep.hd_ (R : YR K s ad H) : H (ad .hd) = some (.dK [(Sum.inr "out", .ref (ad (.h 0))), (Sum.inr "", .ref (ad (.h 1))), (Sum.inr "err", .ref (ad (.h 2))), (Sum.inr "f", .ref (ad (.h 3)))]) := R.at_ .hd _ rfl
theorem _root_.RR.Rep.row_ (R : YR K s ad H) {k t : Str} (h : s.files.lookup k = some t) : H (ad (.row k)) = some (.lst [.str t, .int (s.tim k)]) := R.at_ (.row k) _ (by show (s.files.lookup k).map _ = _; rw [h]; rfl)
theorem _root_.RR.Rep.hs_ (R : YR K s ad H) {j : Nat} (h : j < 3) : H (ad (.h j)) = some (.ins (CS K) (ad (.hx j)) (hdS (ad (.fl j)) (ad .y) (s.tm j) (stn j))) := R.at_ (.h j) _ (if_pos h)
theorem _root_.RR.Rep.hf_ (R : YR K s ad H) : H (ad (.h 3)) = some (.ins (CH K) (ad (.hx 3)) (hdL (ad (.fl 3)) (ad .y) (s.tm 3) s.op)) := R.at_ (.h 3) _ rfl
theorem _root_.RR.Rep.fl_ (R : YR K s ad H) {j : Nat} (h : j < 4) : H (ad (.fl j)) = some (.lst []) := R.at_ (.fl j) _ (if_pos h)
end
/-- all places but those of files' rows -/
def Fx (ad ad' : Ro → Addr) : Prop := ∀ r, (∀ k, r ≠ .row k) → ad' r = ad r
theorem Fx.refl (ad : Ro → Addr) : Fx ad ad := fun _ _ => rfl
theorem Fx.trans {a b c : Ro → Addr} (h : Fx a b) (k : Fx b c) : Fx a c := fun r hr => (k r hr).trans (h r hr)
def YS.put (s : YS) (k t : Str) : YS := { s with files := putS s.files k t, tim := fun x => if x = k then s.now else s.tim x }
def YS.rem (s : YS) (k : Str) : YS := { s with files := s.files.filter fun e => decide (e.1 ≠ k) }
def YS.say (s : YS) (k t : Str) : YS := { s with texts := putS s.texts k (txt s.texts k ++ t) }
def YS.adv (s : YS) (d : Int) : YS := { s with now := s.now + d }
theorem lkc (x : Str) (e : Str × Str) (r : List (Str × Str)) : (e :: r).lookup x = if x = e.1 then some e.2 else r.lookup x := by
  rw [List.lookup_cons]
  by_cases d : x = e.1
  · rw [show (x == e.1) = true from beq_iff_eq.mpr d, if_pos d]
  · rw [show (x == e.1) = false from beq_eq_false_iff_ne.mpr d, if_neg d]
theorem lk_map (k t x : Str) : ∀ ts : List (Str × Str), (ts.map fun e => if e.1 = k then (e.1, t) else e).lookup x = if x = k then (ts.lookup x).map (fun _ => t) else ts.lookup x
  | [] => by split <;> rfl
  | e :: r => by
    have ih := lk_map k t x r
    rw [List.map_cons, lkc, lkc, ih]
    by_cases c : e.1 = k
    · rw [if_pos c]
      by_cases d : x = k
      · have d2 : x = e.1 := d.trans c.symm
        rw [if_pos d2, if_pos d, if_pos d2]; rfl
      · have d2 : ¬ x = e.1 := fun z => d (z.trans c)
        rw [if_neg d2, if_neg d, if_neg d, if_neg d2]
    · rw [if_neg c]
      by_cases d : x = k
      · have d2 : ¬ x = e.1 := fun z => c (z.symm.trans d)
        rw [if_neg d2, if_pos d, if_pos d, if_neg d2]
      · rw [if_neg d, if_neg d]
theorem lk_any (k : Str) : ∀ ts : List (Str × Str), ts.any (fun e => decide (e.1 = k)) = (ts.lookup k).isSome
  | [] => rfl
  | e :: r => by
    rw [List.any_cons, lkc, lk_any k r]
    by_cases c : e.1 = k
    · rw [decide_eq_true c, if_pos c.symm]; rfl
    · rw [decide_eq_false c, if_neg (fun z => c z.symm)]; rfl
theorem lk_app (x : Str) (b : Str × Str) : ∀ ts : List (Str × Str), (ts ++ [b]).lookup x = (ts.lookup x).or (if x = b.1 then some b.2 else none)
  | [] => by
    rw [List.nil_append, lkc]; rfl
  | e :: r => by
    rw [List.cons_append, lkc, lkc, lk_app x b r]
    by_cases d : x = e.1
    · rw [if_pos d, if_pos d]; rfl
    · rw [if_neg d, if_neg d]
theorem lookup_putS (ts : List (Str × Str)) (k t x : Str) : (putS ts k t).lookup x = if x = k then some t else ts.lookup x := by
  unfold putS
  rw [lk_any]
  cases e : ts.lookup k with
  | some u =>
    rw [if_pos (show (some u).isSome = true from rfl), lk_map]
    by_cases d : x = k
    · rw [if_pos d, if_pos d, d, e]; rfl
    · rw [if_neg d, if_neg d]
  | none =>
    rw [if_neg (show ¬ (none : Option Str).isSome = true by decide), lk_app]
    by_cases d : x = k
    · rw [if_pos d, if_pos d, d, e]; rfl
    · rw [if_neg d, if_neg d]; cases ts.lookup x <;> rfl
theorem lookup_rem (k x : Str) : ∀ ts : List (Str × Str), (ts.filter fun e => decide (e.1 ≠ k)).lookup x = if x = k then none else ts.lookup x
  | [] => by split <;> rfl
  | e :: r => by
    have ih := lookup_rem k x r
    by_cases c : e.1 = k
    · rw [List.filter_cons_of_neg (by simp [c]), ih, lkc]
      by_cases d : x = k
      · rw [if_pos d, if_pos d]
      · rw [if_neg d, if_neg d, if_neg (fun z => d (z.trans c))]
    · rw [List.filter_cons_of_pos (by simp [c]), lkc, lkc, ih]
      by_cases d : x = k
      · have d2 : ¬ x = e.1 := fun z => c (z.symm.trans d)
        rw [if_neg d2, if_pos d, if_pos d]
      · rw [if_neg d, if_neg d]
/-- a file is put: a new row at p -/
def adR (ad : Ro → Addr) (k : Str) (p : Addr) : Ro → Addr
  | .row x => if x = k then p else ad (.row x)
  | r => ad r
theorem fx_adR (ad : Ro → Addr) (k : Str) (p : Addr) : Fx ad (adR ad k p) := fun r hr => by
  cases r with
  | row x => exact absurd rfl (hr x)
  | _ => rfl
section
variable {s : YS} {ad : Ro → Addr} {H : Hp}
theorem _root_.RR.Rep.adv (R : YR K s ad H) (d : Int) : YR K (s.adv d) ad (upd H (ad .y) (.ins (CY K) (ad (.x 0)) (yFs (s.adv d) ad))) ∧ YM K s ad H (s.adv d) ad (upd H (ad .y) (.ins (CY K) (ad (.x 0)) (yFs (s.adv d) ad))) :=
  RR.Rep.set R .y rfl rfl fun r hr => by cases r <;> first | rfl | exact absurd rfl hr
theorem _root_.RR.Rep.say (R : YR K s ad H) (k t : Str) : YR K (s.say k t) ad (upd H (ad .st) (.dK (strK (s.say k t).texts))) ∧ YM K s ad H (s.say k t) ad (upd H (ad .st) (.dK (strK (s.say k t).texts))) :=
  RR.Rep.set R .st rfl rfl fun r hr => by cases r <;> first | rfl | exact absurd rfl hr
theorem filK_put (fs : List (Str × Str)) (ad : Ro → Addr) (k t : Str) (p : Addr) : filK (putS fs k t) (adR ad k p) = putK (filK fs ad) (Sum.inr k) (.ref p) := by
  unfold putK putS
  have e : (filK fs ad).any (fun q => decide (q.1 = (Sum.inr k : Key))) = fs.any (fun e => decide (e.1 = k)) := by
    unfold filK
    rw [List.any_map]
    congr 1
    funext e
    exact decide_eq_decide.mpr ⟨fun z => Sum.inr.inj z, fun z => congrArg Sum.inr z⟩
  rw [e]
  split
  · unfold filK
    rw [List.map_map, List.map_map]
    refine List.map_congr_left fun e _ => ?_
    show ((Sum.inr (if e.1 = k then (e.1, t) else e).1 : Key), V.ref (adR ad k p (.row (if e.1 = k then (e.1, t) else e).1))) = (if (Sum.inr e.1 : Key) = Sum.inr k then _ else _)
    by_cases c : e.1 = k
    · rw [if_pos c, if_pos (congrArg Sum.inr c)]
      show ((Sum.inr e.1 : Key), V.ref (if e.1 = k then p else ad (.row e.1))) = _
      rw [if_pos c]
    · rw [if_neg c, if_neg (fun z => c (Sum.inr.inj z))]
      show ((Sum.inr e.1 : Key), V.ref (if e.1 = k then p else ad (.row e.1))) = _
      rw [if_neg c]
  · rename_i h
    unfold filK
    rw [List.map_append]
    congr 1
    · refine List.map_congr_left fun e he => ?_
      have c : e.1 ≠ k := fun z => h (List.any_eq_true.mpr ⟨e, he, decide_eq_true z⟩)
      show ((Sum.inr e.1 : Key), V.ref (if e.1 = k then p else ad (.row e.1))) = _
      rw [if_neg c]
    · show [((Sum.inr k : Key), V.ref (if k = k then p else ad (.row k)))] = _
      rw [if_pos rfl]
theorem filK_rem (fs : List (Str × Str)) (ad : Ro → Addr) (k : Str) : filK (fs.filter fun e => decide (e.1 ≠ k)) ad = dropK (filK fs ad) (Sum.inr k) := by
  unfold dropK filK
  rw [List.filter_map]
  congr 1
  refine List.filter_congr fun e _ => ?_
  exact decide_eq_decide.mpr ⟨fun h z => h (Sum.inr.inj z), fun h z => h (congrArg Sum.inr z)⟩
theorem strK_rem (fs : List (Str × Str)) (k : Str) : strK (fs.filter fun e => decide (e.1 ≠ k)) = dropK (strK fs) (Sum.inr k) := by
  unfold dropK strK
  rw [List.filter_map]
  congr 1
  refine List.filter_congr fun e _ => ?_
  exact decide_eq_decide.mpr ⟨fun h z => h (Sum.inr.inj z), fun h z => h (congrArg Sum.inr z)⟩
def Ydrop (K : PySem.W.Frag) (s : YS) (ad : Ro → Addr) (k : Str) : Ro → Option HO
  | .row x => ((s.files.filter fun e => decide (e.1 ≠ k)).lookup x).map fun t => .lst [.str t, .int (s.tim x)]
  | r => Y1 K s ad r
theorem rep_sub {R : Type} {M M' : R → Option HO} {ad : R → Addr} {H : Hp} (h : RR.Rep M ad H) (k : ∀ r o, M' r = some o → M r = some o) : RR.Rep M' ad H ∧ RR.Mv M ad H M' ad H :=
  ⟨⟨fun r o e => h.at_ r o (k r o e), fun r r' o o' e e' z => h.inj r r' o o' (k _ _ e) (k _ _ e') z⟩, ⟨fun _ _ _ e => e, fun r u e => .inl ⟨r, u, k r u e, rfl⟩⟩⟩
theorem _root_.RR.Rep.rem {s : YS} {ad : Ro → Addr} {H : Hp} (R : YR K s ad H) (k : Str) : YR K (s.rem k) ad (upd H (ad .fi) (.dK (dropK (filK s.files ad) (Sum.inr k)))) ∧ YM K s ad H (s.rem k) ad (upd H (ad .fi) (.dK (dropK (filK s.files ad) (Sum.inr k)))) := by
  obtain ⟨g1, g2⟩ := rep_sub (M' := Ydrop K s ad k) R fun r o e => by
    cases r with
    | row x =>
      have e : ((s.files.filter fun e => decide (e.1 ≠ k)).lookup x).map (fun t => HO.lst [.str t, .int (s.tim x)]) = some o := e
      rw [lookup_rem] at e
      by_cases c : x = k
      · rw [if_pos c] at e; cases e
      · rw [if_neg c] at e; exact e
    | _ => exact e
  obtain ⟨g3, g4⟩ := RR.Rep.set (M' := Y1 K (s.rem k) ad) (o := .dK (dropK (filK s.files ad) (Sum.inr k))) g1 .fi rfl (congrArg (fun z => some (HO.dK z)) (filK_rem s.files ad k)) (fun r hr => by cases r <;> first | rfl | exact absurd rfl hr)
  exact ⟨g3, g2.trans g4⟩
theorem _root_.RR.Rep.put {s : YS} {ad : Ro → Addr} {H : Hp} {p : Addr} (R : YR K s ad H) (k t : Str) (hp : H p = none) : YR K (s.put k t) (adR ad k p) (upd (upd H p (.lst [.str t, .int s.now])) (ad .fi) (.dK (putK (filK s.files ad) (Sum.inr k) (.ref p)))) ∧
    YM K s ad H (s.put k t) (adR ad k p) (upd (upd H p (.lst [.str t, .int s.now])) (ad .fi) (.dK (putK (filK s.files ad) (Sum.inr k) (.ref p)))) := by
  refine RR.Rep.newset (M' := Y1 K (s.put k t) (adR ad k p)) (ad' := adR ad k p) R hp (.row k) .fi (fun h => nomatch h) rfl ?_ ?_ (fun r h1 h2 => ?_) (if_pos rfl) (fun r hr => ?_)
  · show ((putS s.files k t).lookup k).map (fun u => HO.lst [.str u, .int (if k = k then s.now else s.tim k)]) = _
    rw [lookup_putS, if_pos rfl, if_pos rfl]; rfl
  · exact congrArg (fun z => some (HO.dK z)) (filK_put s.files ad k t p)
  · cases r with
    | row x =>
      have c : x ≠ k := fun z => h1 (by rw [z])
      show ((putS s.files k t).lookup x).map (fun u => HO.lst [.str u, .int (if x = k then s.now else s.tim x)]) = _
      rw [lookup_putS, if_neg c, if_neg c]; rfl
    | fi => exact absurd rfl h2
    | _ => rfl
  · cases r with
    | row x => exact if_neg fun z => hr (by rw [z])
    | _ => rfl
end
theorem yes_if {σ : L2.St} {H : Hp} {A B : Hp → Prop} (h : A H) : tYes σ H (fun b H3 => if b = true then A H3 else B H3) := by
  show if true = true then A H else B H
  rw [if_pos rfl]; exact h
theorem seq_of {a b : TS} {D : Ends} {σ : L2.St} {H : Hp} (Mid : L2.St → Hp → Prop) (hA : ∀ b' : TS, (∀ σ' H', Mid σ' H' → b' D σ' H') → tSeq a b' D σ H) (hB : ∀ σ' H', Mid σ' H' → b D σ' H') : tSeq a b D σ H := hA b hB
end
end K17

set_option Elab.async false
set_option linter.all false
set_option maxRecDepth 100000
set_option maxHeartbeats 0
set_option pp.maxSteps 1000
local macro_rules | `(tactic| walk_at "cls") => `(tactic| first
  | with_reducible exact K17.Txt.c_Logger (by assumption)
  | with_reducible exact K17.Txt.c_StreamHandler (by assumption)
  | with_reducible exact K17.Txt.c_FileHandler (by assumption)
  | with_reducible exact K17.Txt.c_LogRecord (by assumption)
  | with_reducible exact K17.Txt.c_Yard (by assumption))
local macro_rules | `(tactic| walk_at "noat") => `(tactic| first
  | with_reducible exact K17.Txt.n_Logger_filters (by assumption)
  | with_reducible exact K17.Txt.n_Logger_yard (by assumption)
  | with_reducible exact K17.Txt.n_Logger_name (by assumption)
  | with_reducible exact K17.Txt.n_Logger_level (by assumption)
  | with_reducible exact K17.Txt.n_Logger_propagate (by assumption)
  | with_reducible exact K17.Txt.n_Logger_disabled (by assumption)
  | with_reducible exact K17.Txt.n_Logger_handlers (by assumption)
  | with_reducible exact K17.Txt.n_Logger_parent (by assumption)
  | with_reducible exact K17.Txt.n_StreamHandler_filters (by assumption)
  | with_reducible exact K17.Txt.n_StreamHandler_yard (by assumption)
  | with_reducible exact K17.Txt.n_StreamHandler_level (by assumption)
  | with_reducible exact K17.Txt.n_StreamHandler_formatter (by assumption)
  | with_reducible exact K17.Txt.n_StreamHandler_name (by assumption)
  | with_reducible exact K17.Txt.n_StreamHandler_terminator (by assumption)
  | with_reducible exact K17.Txt.n_StreamHandler_closed (by assumption)
  | with_reducible exact K17.Txt.n_StreamHandler_stream (by assumption)
  | with_reducible exact K17.Txt.n_FileHandler_filters (by assumption)
  | with_reducible exact K17.Txt.n_FileHandler_yard (by assumption)
  | with_reducible exact K17.Txt.n_FileHandler_level (by assumption)
  | with_reducible exact K17.Txt.n_FileHandler_formatter (by assumption)
  | with_reducible exact K17.Txt.n_FileHandler_name (by assumption)
  | with_reducible exact K17.Txt.n_FileHandler_terminator (by assumption)
  | with_reducible exact K17.Txt.n_FileHandler_closed (by assumption)
  | with_reducible exact K17.Txt.n_FileHandler_filename (by assumption)
  | with_reducible exact K17.Txt.n_FileHandler_mode (by assumption)
  | with_reducible exact K17.Txt.n_FileHandler_delay (by assumption)
  | with_reducible exact K17.Txt.n_FileHandler_is_open (by assumption)
  | with_reducible exact K17.Txt.n_FileHandler_shut (by assumption)
  | with_reducible exact K17.Txt.n_LogRecord_name (by assumption)
  | with_reducible exact K17.Txt.n_LogRecord_levelno (by assumption)
  | with_reducible exact K17.Txt.n_LogRecord_levelname (by assumption)
  | with_reducible exact K17.Txt.n_LogRecord_msg (by assumption)
  | with_reducible exact K17.Txt.n_LogRecord_given (by assumption)
  | with_reducible exact K17.Txt.n_LogRecord_created (by assumption)
  | with_reducible exact K17.Txt.n_LogRecord_extra (by assumption)
  | with_reducible exact K17.Txt.n_Yard_clock (by assumption)
  | with_reducible exact K17.Txt.n_Yard_stream_texts (by assumption)
  | with_reducible exact K17.Txt.n_Yard_file_rows (by assumption)
  | with_reducible exact K17.Txt.n_Yard_names_of (by assumption)
  | with_reducible exact K17.Txt.n_Yard_numbers_of (by assumption)
  | with_reducible exact K17.Txt.n_Yard_bar_level (by assumption)
  | with_reducible exact K17.Txt.n_Yard_logger_map (by assumption)
  | with_reducible exact K17.Txt.n_Yard_made (by assumption)
  | with_reducible exact K17.Txt.n_Yard_handler_names (by assumption)
  | with_reducible exact K17.Txt.n_Yard_failure_rows (by assumption)
  | with_reducible exact K17.Txt.n_Yard_root (by assumption)
  | with_reducible exact K17.Txt.n_Yard_last_resort (by assumption))
local macro_rules | `(tactic| walk_at "hp") => `(tactic| first
  | with_reducible assumption
  | with_reducible exact L2.upd_same
  | ((with_reducible apply RW.at_upd); (focus (walk_at "ne"; done)); (focus (walk_at "hp"; done)))
  | ((with_reducible apply RW.at_same); (focus (with_reducible assumption; done)); (focus (walk_at "hp"; done)))
  | ((with_reducible apply RW.at_old); (focus (with_reducible assumption; done)); (focus (walk_at "ne"; done)); (focus (walk_at "ne"; done)); (focus (walk_at "hp"; done))))
local macro_rules | `(tactic| walk_at "ne") => `(tactic| first
  | with_reducible assumption
  | with_reducible exact Ne.symm (by with_reducible assumption)
  | with_reducible exact RW.ne_upd (by with_reducible assumption)
  | with_reducible exact Ne.symm (RW.ne_upd (by with_reducible assumption))
  | ((with_reducible apply RW.ne_new); (focus (with_reducible assumption; done)); (focus (walk_at "hp"; done)))
  | ((with_reducible apply RW.ne_new'); (focus (with_reducible assumption; done)); (focus (walk_at "hp"; done)))
  | ((with_reducible apply RW.ne_kind); (focus (walk_at "hp"; done)); (focus (walk_at "hp"; done)); (exact fun z => nomatch z)))
local macro_rules | `(tactic| walk_at "no") => `(tactic| first
  | with_reducible assumption
  | ((with_reducible apply RW.no_upd); (focus (walk_at "ne"; done)); (focus (walk_at "no"; done)))
  | ((with_reducible apply RW.free_same); (focus (with_reducible assumption; done)); (focus (with_reducible assumption; done))))
local macro_rules | `(tactic| walk_at "sm") => `(tactic| first
  | with_reducible assumption
  | with_reducible exact L2.Same.refl _
  | ((with_reducible apply RW.same_put_new); (focus (walk_at "sm"; done)); (focus (walk_at "no"; done)))
  | ((with_reducible apply RW.same_put); (focus (walk_at "sm"; done)); (focus (walk_at "no"; done)))
  | ((with_reducible apply RW.same_then); (focus (with_reducible assumption; done)); (focus (walk_at "sm"; done))))
local macro_rules | `(tactic| walk_at "sq") => `(tactic| first
  | with_reducible assumption
  | ((with_reducible apply L2.SqL.of); (focus (walk_at "hp"; done)))
  | ((with_reducible apply L2.SqT.of); (focus (walk_at "hp"; done)))
  | ((with_reducible apply RW.sql_same); (focus (with_reducible assumption; done)); (focus (walk_at "sm"; done)))
  | ((with_reducible apply RW.sqt_same); (focus (with_reducible assumption; done)); (focus (walk_at "sm"; done))))
local macro_rules | `(tactic| walk_at "pr") => `(tactic| first
  | with_reducible exact PySem.Paired.nil
  | ((with_reducible apply PySem.Paired.cons); (focus (first | exact L2.ClsV.ty _ | exact L2.ClsV.own _; done)); (focus (walk_at "pr"; done))))
local macro_rules | `(tactic| walk_at "stm") => `(tactic| first
  | with_reducible assumption
  | ((with_reducible apply RW.stm_upd); (focus (walk_at "ne"; done)); (focus (walk_at "ne"; done)); (focus (walk_at "stm"; done)))
  | ((with_reducible apply RW.stm_same); (focus (with_reducible assumption; done)); (focus (walk_at "sm"; done))))
local macro_rules | `(tactic| walk_at "od") => `(tactic| first
  | with_reducible assumption
  | with_reducible exact RC.Old.refl _
  | ((with_reducible apply RW.old_upd); (focus (walk_at "od"; done)); (focus (walk_at "no"; done)))
  | ((with_reducible apply RW.old_then); (focus (with_reducible assumption; done)); (focus (walk_at "od"; done)))
  | ((with_reducible apply RW.old_same); (focus (walk_at "od"; done)); (focus (with_reducible assumption; done))))
local macro_rules | `(tactic| walk_at "num") => `(tactic| first
  | exact Nat.le_of_ble_eq_true rfl
  | omega
  | (simp only [List.length_cons, List.length_nil, List.length_append, List.length_map, List.length_replicate, List.length_take, PySem.sizeLine_eq]; omega))
local macro_rules | `(tactic| walk_at "ki") => `(tactic| first
  | with_reducible exact RW.k_int_int
  | with_reducible exact RW.k_bool_int
  | with_reducible exact RW.k_str_int
  | with_reducible exact RW.k_NoneType_int
  | with_reducible exact RW.k_list_int
  | with_reducible exact RW.k_tuple_int
  | with_reducible exact RW.k_dict_int)
local macro_rules | `(tactic| walk_at "kb") => `(tactic| first
  | with_reducible exact RW.k_int_bool
  | with_reducible exact RW.k_bool_bool
  | with_reducible exact RW.k_str_bool
  | with_reducible exact RW.k_NoneType_bool
  | with_reducible exact RW.k_list_bool
  | with_reducible exact RW.k_tuple_bool
  | with_reducible exact RW.k_dict_bool)
local macro_rules | `(tactic| walk_at "ks") => `(tactic| first
  | with_reducible exact RW.k_int_str
  | with_reducible exact RW.k_bool_str
  | with_reducible exact RW.k_str_str
  | with_reducible exact RW.k_NoneType_str
  | with_reducible exact RW.k_list_str
  | with_reducible exact RW.k_tuple_str
  | with_reducible exact RW.k_dict_str)
local macro_rules | `(tactic| walk_at "kl") => `(tactic| first
  | with_reducible exact RW.k_int_list
  | with_reducible exact RW.k_bool_list
  | with_reducible exact RW.k_str_list
  | with_reducible exact RW.k_NoneType_list
  | with_reducible exact RW.k_list_list
  | with_reducible exact RW.k_tuple_list
  | with_reducible exact RW.k_dict_list)
local macro_rules | `(tactic| walk_at "kt") => `(tactic| first
  | with_reducible exact RW.k_int_tuple
  | with_reducible exact RW.k_bool_tuple
  | with_reducible exact RW.k_str_tuple
  | with_reducible exact RW.k_NoneType_tuple
  | with_reducible exact RW.k_list_tuple
  | with_reducible exact RW.k_tuple_tuple
  | with_reducible exact RW.k_dict_tuple)
local macro_rules | `(tactic| walk_at "kd") => `(tactic| first
  | with_reducible exact RW.k_int_dict
  | with_reducible exact RW.k_bool_dict
  | with_reducible exact RW.k_str_dict
  | with_reducible exact RW.k_NoneType_dict
  | with_reducible exact RW.k_list_dict
  | with_reducible exact RW.k_tuple_dict
  | with_reducible exact RW.k_dict_dict)
local macro_rules | `(tactic| walk_at "kit") => `(tactic| first
  | ((with_reducible apply RW.gKb); walk_at "kb")
  | ((with_reducible apply RW.gKi); walk_at "ki")
  | ((with_reducible apply RW.gKl); walk_at "kl")
  | ((with_reducible apply RW.gKs); walk_at "ks")
  | ((with_reducible apply RW.gKt); walk_at "kt")
  | ((with_reducible apply RW.gKd); walk_at "kd"))
local macro_rules | `(tactic| walk_at "kita") => `(tactic| first
  | ((with_reducible apply RW.ka2) <;> walk_at "kit")
  | ((with_reducible apply RW.ka3) <;> walk_at "kit")
  | ((with_reducible apply RW.ka4) <;> walk_at "kit")
  | ((with_reducible apply RW.ka5) <;> walk_at "kit"))
local macro_rules | `(tactic| walk_at "ty") => `(tactic| first
  | with_reducible exact L2.TyX.base (.int _)
  | with_reducible exact L2.TyX.base (.str _)
  | with_reducible exact L2.TyX.base (.bl _)
  | with_reducible exact L2.TyX.base .non
  | ((with_reducible apply L2.TyX.base); (with_reducible apply L2.TyOf.lst); (focus (walk_at "hp"; done)))
  | ((with_reducible apply L2.TyX.base); (with_reducible apply L2.TyOf.tup); (focus (walk_at "hp"; done)))
  | ((with_reducible apply L2.TyX.base); (with_reducible apply L2.TyOf.dK); (focus (walk_at "hp"; done)))
  | ((with_reducible apply RC.tyx_lst); (focus (walk_at "sq"; done)))
  | ((with_reducible apply RC.tyx_tup); (focus (walk_at "sq"; done))))
local macro_rules | `(tactic| walk_at "val") => `(tactic| first
  | with_reducible assumption
  | rfl)
local macro_rules | `(tactic| walk_at "dg") => `(tactic| first
  | (apply RW.dget_s; (focus (walk_at "hp"; done)); (focus (walk_at "val"; done)))
  | (apply RW.dget_i; (focus (walk_at "hp"; done)); (focus (walk_at "val"; done)))
  | (apply RW.dget_sF; (focus (walk_at "hp"; done)); (focus (walk_at "val"; done)))
  | (apply RW.dget_sR; (focus (assumption; done)); (focus (walk_at "val"; done)))
  | (apply RW.dput_s; (focus (walk_at "hp"; done)); (focus (walk_at "num"; done)))
  | (apply RW.dput_i; (focus (walk_at "hp"; done)); (focus (walk_at "num"; done)))
  | ((with_reducible apply RW.tyv_l); (focus (walk_at "hp"; done)))
  | ((with_reducible apply RW.tyv_s); (focus (walk_at "sq"; done)))
  | (apply RW.isd; (focus (walk_at "hp"; done)))
  | (apply RW.rd_of; (focus (walk_at "hp"; done)))
  | (apply RW.sql_of; (focus (walk_at "hp"; done)))
  | (apply RW.sqt_of; (focus (walk_at "hp"; done)))
  | (apply RW.len_l; (focus (walk_at "hp"; done)))
  | (apply RW.len_sl; (focus (walk_at "sq"; done)))
  | (apply RW.len_st; (focus (walk_at "sq"; done))))
local macro_rules | `(tactic| walk_at "side") => `(tactic| first
  | with_reducible rfl
  | ((with_reducible apply RW.gHp); walk_at "hp")
  | ((with_reducible apply RW.gSm); walk_at "sm")
  | ((with_reducible apply RW.gNe); walk_at "ne")
  | ((with_reducible apply RW.gStm); walk_at "stm")
  | ((with_reducible apply RW.gOld); walk_at "od")
  | ((with_reducible apply RW.gNo); walk_at "noat")
  | ((with_reducible apply RW.gCls); walk_at "cls")
  | ((with_reducible apply RW.gCv); (first | with_reducible exact L2.ClsV.ty _ | with_reducible exact L2.ClsV.own _))
  | ((with_reducible apply RW.gTy); walk_at "ty")
  | ((with_reducible apply RW.gKit); walk_at "kit")
  | ((with_reducible apply RW.gKita); walk_at "kita")
  | ((with_reducible apply RW.gSl); walk_at "sq")
  | ((with_reducible apply RW.gSt); walk_at "sq")
  | ((with_reducible apply RW.gPr); walk_at "pr")
  | with_reducible assumption
  | with_reducible exact RW.gCp ⟨by decide, by decide, by decide⟩
  | walk_at "dg"
  | rfl
  | walk_at "num")
local macro_rules | `(tactic| walk_at "nu") => `(tactic| (repeat (refine RW.fr ?_)))
local macro_rules | `(tactic| walk_at "tt") => `(tactic| first
  | with_reducible rfl
  | with_reducible assumption
  | rfl
  | with_reducible exact RW.cSsT (by with_reducible assumption)
  | with_reducible exact RW.cSsF (by with_reducible assumption)
  | with_reducible exact RW.cNsT (by with_reducible assumption)
  | with_reducible exact RW.cNsF (by with_reducible assumption)
  | with_reducible exact RW.cSiT (by with_reducible assumption)
  | with_reducible exact RW.cSiF (by with_reducible assumption)
  | with_reducible exact RW.cNiT (by with_reducible assumption)
  | with_reducible exact RW.cNiF (by with_reducible assumption)
  | with_reducible exact RW.someT (by with_reducible assumption)
  | with_reducible exact RW.someF (by with_reducible assumption)
  | with_reducible exact RW.nsomeT (by with_reducible assumption)
  | with_reducible exact RW.nsomeF (by with_reducible assumption))
local macro_rules | `(tactic| walk_at "disp") => `(tactic| first
  | with_reducible refine RW.disp1 ?_
  | with_reducible refine RW.disp2 ?_
  | with_reducible refine RW.disp3 ?_
  | with_reducible refine RW.disp4 ?_
  | with_reducible refine RW.disp5 ?_
  | with_reducible refine RW.disp6 ?_
  | with_reducible refine RW.disp7 ?_
  | with_reducible refine RW.disp8 ?_)
local macro_rules | `(tactic| walk_at "ex") => `(tactic| ((fail_if_success (apply @Exists.intro (Nat → Nat → _))); (fail_if_success (apply @Exists.intro (Nat → L2.St → L2.Hp → Prop))); (fail_if_success (apply @Exists.intro (L2.St → L2.Hp → Prop))); apply Exists.intro))
local macro_rules | `(tactic| walk_at "st") => `(tactic| first
  | ((fail_if_success (with_reducible apply RW.isMut)); (fail_if_success (with_reducible apply RW.isMut2)); (apply And.intro); (focus (walk_at "side"; done)))
  | walk_at "disp"
  | walk_at "ex"
  | refine RC.iteT' (by walk_at "tt") ?_
  | refine RC.iteF' (by walk_at "tt") ?_)
local macro_rules | `(tactic| walk_at "gi") => `(tactic| (repeat (first | walk_at "st" | ((walk_at "nu"); (intro _ h0; have h1 : _ = none := h0; clear h1); intros))))
local macro_rules | `(tactic| walk_at "in") => `(tactic| (try dsimp only [RW.cxK]))
local macro_rules | `(tactic| walk_at "go") => `(tactic| (repeat walk_at "st"))
namespace K17
open PySem PySem.Spec PyProof.Rows L2 RC
section
variable {P : Program} {w : World} {K : PySem.W.Frag} {mg : Str → Option Value} {base : Heap}
/-! ### clock and files -/
theorem vals_rev : ∀ {zs : List V} {ws : List Value}, Vals zs ws → Vals zs.reverse ws.reverse
  | _, _, .nil => .nil
  | _, _, .cons r t => by rw [List.reverse_cons, List.reverse_cons]; exact (vals_rev t).append (.cons r .nil)
theorem drop_none {kvs : List (Key × V)} {k : Key} (h : valV kvs k = none) : dropK kvs k = kvs := by
  unfold valV at h
  unfold dropK
  refine List.filter_eq_self.mpr fun a ha => decide_eq_true fun z => ?_
  have := List.find?_eq_none.mp (Option.map_eq_none_iff.mp h) a ha
  exact this (decide_eq_true z)
theorem upd_self {H : Hp} {a : Addr} {o : HO} (h : H a = some o) : upd H a o = H := by
  funext b
  by_cases c : b = a
  · rw [c, upd_same]; exact h.symm
  · rw [upd_ne c]
def spNow (K : PySem.W.Frag) : Sp := fun vs H Q _ => ∃ (s : YS) (ad : Ro → Addr), vs = [.ref (ad .y)] ∧ YR K s ad H ∧ Q (.int s.now) H
theorem ok_now {f : Addr} (T : Txt P w K mg) (F : Stands K "now" "Yard.now" s_Yard_now [] f) : Callable P w K mg base 1 f ["self"] [] (spNow K) := by
  refine F.call0 sc_Yard_now (fun vs H Q E h => ?_) (fun cdv A outer s0 H vs Q E hr h => ?_) (fun _ _ _ _ _ _ us hl => match us, hl with | [_], _ => rfl)
  · obtain ⟨s, ad, rfl, _⟩ := h; rfl
  obtain ⟨s, ad, rfl, R, hQ⟩ := h
  refine ⟨_, (pss_one (ps_ret (pe_fld (pv 0) rfl))), ?_⟩
  walk_at "in"
  have hy := R.y_
  walk_at "go"
  exact hQ
def spAdv (K : PySem.W.Frag) : Sp := fun vs H Q _ => ∃ (s : YS) (ad : Ro → Addr) (d : Int), vs = [.ref (ad .y), .int d] ∧ YR K s ad H ∧ ∀ H', YR K (s.adv d) ad H' → YM K s ad H (s.adv d) ad H' → Q .non H'
theorem body_adv {f : Addr} {cdv : Value} {A : Around} {outer : List Env} {st0 : Shared} {H : Hp} {vs : List V} {Q : VK} {E : XK} (T : Txt P w K mg) (h : spAdv K vs H Q E) :
    ∃ t, PSs (cxOf CX0 P w K mg base nm_Yard_advance "Yard.advance" (defScope s_Yard_advance) f cdv A outer st0 H E).nox (defBody s_Yard_advance) t ∧ t { nx := fun _ H' => Q .non H', rt := Q } (L2.start nm_Yard_advance vs) H := by
  obtain ⟨s, ad, d, rfl, R, hQ⟩ := h
  refine ⟨_, (pss_one (ps_fld (pv 0) (pe_op op_add (pe_fld (pv 0) rfl) (pv 1)) rfl)), ?_⟩
  walk_at "in"
  have hy := R.y_
  obtain ⟨R1, M1⟩ := R.adv d
  walk_at "go"
  exact hQ _ R1 M1
theorem len_adv : ∀ vs H Q E, spAdv K vs H Q E → vs.length = 2 := fun vs H Q E h => by
  obtain ⟨s, ad, d, rfl, _⟩ := h; rfl
theorem ok_adv {f : Addr} (T : Txt P w K mg) (F : Stands K "advance" "Yard.advance" s_Yard_advance [] f) : Callable P w K mg base 1 f ["self", "milliseconds"] [] (spAdv K) :=
  F.call0 sc_Yard_advance len_adv (fun cdv A outer s0 H vs Q E hr h => body_adv T h) (fun _ _ _ _ _ _ us hl => match us, hl with | [_, _], _ => rfl)
theorem ok_adv_kw {f : Addr} (T : Txt P w K mg) (F : Stands K "advance" "Yard.advance" s_Yard_advance [] f) : RK.CallKw P w K mg base 1 f ["self", "milliseconds"] 1 ["milliseconds"] (fun vs zs => vs ++ zs) (spAdv K) :=
  RK.stands_kw0 (fun us ws => us ++ ws) F sc_Yard_advance len_adv (fun cdv A outer s0 H vs Q E hr h => body_adv T h) (fun r1 r2 => r1.append r2) (fun _ _ _ _ _ _ us ws h1 h2 => match us, ws, h1, h2 with | [_], [_], _, _ => rfl)
def spPut (K : PySem.W.Frag) : Sp := fun vs H Q _ => ∃ (s : YS) (ad : Ro → Addr) (k t : Str), vs = [.ref (ad .y), .str k, .str t] ∧ YR K s ad H ∧ s.files.length ≤ 1000 ∧ ∀ ad' H', YR K (s.put k t) ad' H' → YM K s ad H (s.put k t) ad' H' → Fx ad ad' → Q .non H'
theorem body_put {f : Addr} {cdv : Value} {A : Around} {outer : List Env} {st0 : Shared} {H : Hp} {vs : List V} {Q : VK} {E : XK} (T : Txt P w K mg) (hr : Room 0 (A.deeper (envOfC "Yard.put_file" (defScope s_Yard_put_file) st0.heap.objs.size f cdv))) (h : spPut K vs H Q E) :
    ∃ t, PSs (cxOf CX0 P w K mg base nm_Yard_put_file "Yard.put_file" (defScope s_Yard_put_file) f cdv A outer st0 H E).nox (defBody s_Yard_put_file) t ∧ t { nx := fun _ H' => Q .non H', rt := Q } (L2.start nm_Yard_put_file vs) H := by
  obtain ⟨s, ad, k, t, rfl, R, hl, hQ⟩ := h
  refine ⟨_, (pss_one (ps_dput (hu_of hr) (pe_fld (pv 0) rfl) (pv 1) (pe_lst (pa_cons (pv 2) (pa_cons (pe_fld (pv 0) rfl) pa_nil))) rfl)), ?_⟩
  walk_at "in"
  have hy := R.y_
  have hf := R.fi_
  have hsz : (filK s.files ad).length < sizeLine := by unfold filK; rw [List.length_map, sizeLine_eq]; omega
  walk_at "go"
  intro p fp
  obtain ⟨R1, M1⟩ := R.put k t fp
  walk_at "go"
  exact hQ _ _ R1 M1 (fx_adR ad k p)
theorem len_put : ∀ vs H Q E, spPut K vs H Q E → vs.length = 3 := fun vs H Q E h => by
  obtain ⟨s, ad, k, t, rfl, _⟩ := h; rfl
theorem ok_put {f : Addr} (T : Txt P w K mg) (F : Stands K "put_file" "Yard.put_file" s_Yard_put_file [] f) : Callable P w K mg base 1 f ["self", "name", "text"] [] (spPut K) :=
  F.call0 sc_Yard_put_file len_put (fun cdv A outer s0 H vs Q E hr h => body_put T hr h) (fun _ _ _ _ _ _ us hl => match us, hl with | [_, _, _], _ => rfl)
theorem ok_put_kw {f : Addr} (T : Txt P w K mg) (F : Stands K "put_file" "Yard.put_file" s_Yard_put_file [] f) : RK.CallKw P w K mg base 1 f ["self", "name", "text"] 1 ["text", "name"] (fun vs zs => vs ++ zs.reverse) (spPut K) :=
  RK.stands_kw0 (fun us ws => us ++ ws.reverse) F sc_Yard_put_file len_put (fun cdv A outer s0 H vs Q E hr h => body_put T hr h) (fun r1 r2 => r1.append (vals_rev r2)) (fun _ _ _ _ _ _ us ws h1 h2 => match us, ws, h1, h2 with | [_], [_, _], _, _ => rfl)
def spRem (K : PySem.W.Frag) : Sp := fun vs H Q _ => ∃ (s : YS) (ad : Ro → Addr) (k : Str), vs = [.ref (ad .y), .str k] ∧ YR K s ad H ∧ ∀ H', YR K (s.rem k) ad H' → YM K s ad H (s.rem k) ad H' → Q .non H'
theorem body_rem {f : Addr} {cdv : Value} {A : Around} {outer : List Env} {st0 : Shared} {H : Hp} {vs : List V} {Q : VK} {E : XK} (T : Txt P w K mg) (hr : Room 0 (A.deeper (envOfC "Yard.remove_file" (defScope s_Yard_remove_file) st0.heap.objs.size f cdv))) (h : spRem K vs H Q E) :
    ∃ t, PSs (cxOf CX0 P w K mg base nm_Yard_remove_file "Yard.remove_file" (defScope s_Yard_remove_file) f cdv A outer st0 H E).nox (defBody s_Yard_remove_file) t ∧ t { nx := fun _ H' => Q .non H', rt := Q } (L2.start nm_Yard_remove_file vs) H := by
  obtain ⟨s, ad, k, rfl, R, hQ⟩ := h
  refine ⟨_, (pss_one (ps_expr (pe_dpop2 (pe_fld (pv 0) rfl) (pv 1) pe_non ⟨rfl, rfl, rfl, rfl⟩))), ?_⟩
  walk_at "in"
  have hy := R.y_
  have hf := R.fi_
  obtain ⟨R1, M1⟩ := R.rem k
  walk_at "go"
  refine ⟨(rfl : _ = kV (Sum.inr k)), fun v hv => hQ _ R1 M1, fun hv => ?_⟩
  rw [drop_none hv, upd_self hf] at R1 M1
  exact hQ _ R1 M1
theorem len_rem : ∀ vs H Q E, spRem K vs H Q E → vs.length = 2 := fun vs H Q E h => by
  obtain ⟨s, ad, k, rfl, _⟩ := h; rfl
theorem ok_rem {f : Addr} (T : Txt P w K mg) (F : Stands K "remove_file" "Yard.remove_file" s_Yard_remove_file [] f) : Callable P w K mg base 1 f ["self", "name"] [] (spRem K) :=
  F.call0 sc_Yard_remove_file len_rem (fun cdv A outer s0 H vs Q E hr h => body_rem T hr h) (fun _ _ _ _ _ _ us hl => match us, hl with | [_, _], _ => rfl)
theorem ok_rem_kw {f : Addr} (T : Txt P w K mg) (F : Stands K "remove_file" "Yard.remove_file" s_Yard_remove_file [] f) : RK.CallKw P w K mg base 1 f ["self", "name"] 1 ["name"] (fun vs zs => vs ++ zs) (spRem K) :=
  RK.stands_kw0 (fun us ws => us ++ ws) F sc_Yard_remove_file len_rem (fun cdv A outer s0 H vs Q E hr h => body_rem T hr h) (fun r1 r2 => r1.append r2) (fun _ _ _ _ _ _ us ws h1 h2 => match us, ws, h1, h2 with | [_], [_], _, _ => rfl)
theorem valV_filK (k : Str) (ad : Ro → Addr) : ∀ fs : List (Str × Str), valV (filK fs ad) (Sum.inr k) = (fs.lookup k).map fun _ => V.ref (ad (.row k))
  | [] => rfl
  | e :: r => by
    rw [lkc]
    by_cases c : k = e.1
    · rw [if_pos c]
      have h1 : valV (filK (e :: r) ad) (Sum.inr k) = some (V.ref (ad (.row e.1))) := valV_pos (p := ((Sum.inr e.1 : Key), V.ref (ad (.row e.1)))) (congrArg Sum.inr c.symm)
      rw [h1, c]; rfl
    · rw [if_neg c]
      have h1 : valV (filK (e :: r) ad) (Sum.inr k) = valV (filK r ad) (Sum.inr k) := valV_neg (p := ((Sum.inr e.1 : Key), V.ref (ad (.row e.1)))) (fun z => c (Sum.inr.inj z).symm)
      rw [h1]; exact valV_filK k ad r
def spHas (K : PySem.W.Frag) : Sp := fun vs H Q _ => ∃ (s : YS) (ad : Ro → Addr) (k : Str), vs = [.ref (ad .y), .str k] ∧ YR K s ad H ∧ Q (.bl (s.files.lookup k).isSome) H
theorem ok_has {f : Addr} (T : Txt P w K mg) (F : Stands K "has_file" "Yard.has_file" s_Yard_has_file [] f) : Callable P w K mg base 1 f ["self", "name"] [] (spHas K) := by
  refine F.call0 sc_Yard_has_file (fun vs H Q E h => ?_) (fun cdv A outer s0 H vs Q E hr h => ?_) (fun _ _ _ _ _ _ us hl => match us, hl with | [_, _], _ => rfl)
  · obtain ⟨s, ad, k, rfl, _⟩ := h; rfl
  obtain ⟨s, ad, k, rfl, R, hQ⟩ := h
  refine ⟨_, (pss_one (ps_ret (pe_cmp (pc_din (hu_of hr) (pv 1) (pe_fld (pv 0) rfl))))), ?_⟩
  walk_at "in"
  have hy := R.y_
  have hf := R.fi_
  have hv := valV_filK k ad s.files
  cases e : s.files.lookup k with
  | none =>
    rw [e] at hv hQ
    walk_at "go"
    exact hQ
  | some t =>
    rw [e] at hv hQ
    walk_at "go"
    exact hQ
/-- the text of a file; the table may be walked -/
def spFileText (K : PySem.W.Frag) : Sp := fun vs H Q _ => ∃ (y dy fi p : Addr) (fs : List (Str × V)) (kvs : List (Key × V)) (k t : Str) (n : Int), vs = [.ref y, .str k] ∧ H y = some (.ins (CY K) dy fs) ∧ fs.lookup ("file_rows" : Str) = some (.ref fi) ∧ Rd H fi (.dK kvs) ∧ valV kvs (Sum.inr k) = some (.ref p) ∧ H p = some (.lst [.str t, .int n]) ∧ Q (.str t) H
theorem ok_file_text {f : Addr} (T : Txt P w K mg) (F : Stands K "file_text" "Yard.file_text" s_Yard_file_text [] f) : Callable P w K mg base 1 f ["self", "name"] [] (spFileText K) := by
  refine F.call0 sc_Yard_file_text (fun vs H Q E h => ?_) (fun cdv A outer s0 H vs Q E hr h => ?_) (fun _ _ _ _ _ _ us hl => match us, hl with | [_, _], _ => rfl)
  · obtain ⟨y, dy, fi, p, fs, kvs, k, t, n, rfl, _⟩ := h; rfl
  obtain ⟨y, dy, fi, p, fs, kvs, k, t, n, rfl, hy, hl, hf, hv, hp, hQ⟩ := h
  refine ⟨_, (pss_one (ps_ret (pe_ix ix_list (pe_dget (hu_of hr) (pe_fld (pv 0) rfl) (pv 1) (fun _ _ => rfl)) pe_int (fun _ _ => rfl)))), ?_⟩
  walk_at "in"
  have g := RW.dget_sR hf hv
  walk_at "go"
  exact hQ
def spWriteF (K : PySem.W.Frag) : Sp := fun vs H Q _ => ∃ (s : YS) (ad : Ro → Addr) (k t : Str), vs = [.ref (ad .y), .str k, .str t] ∧ YR K s ad H ∧ s.files.length ≤ 1000 ∧ (txt s.files k).length ≤ 8000000 ∧ t.length ≤ 1000000 ∧ ∀ ad' H', YR K (s.put k (txt s.files k ++ t)) ad' H' → YM K s ad H (s.put k (txt s.files k ++ t)) ad' H' → Fx ad ad' → Q .non H'
theorem ok_writef {f : Addr} (T : Txt P w K mg) (F : Stands K "write_file" "Yard.write_file" s_Yard_write_file [] f) (c_Yard_put_file : Callable P w K mg base 1 (He.ma K (He.ga K "Yard") "put_file") ["self", "name", "text"] [] (spPut K))
    (c_Yard_has_file : Callable P w K mg base 1 (He.ma K (He.ga K "Yard") "has_file") ["self", "name"] [] (spHas K)) (c_Yard_file_text : Callable P w K mg base 1 (He.ma K (He.ga K "Yard") "file_text") ["self", "name"] [] (spFileText K)) : Callable P w K mg base 2 f ["self", "name", "text"] [] (spWriteF K) := by
  refine F.call0 sc_Yard_write_file (fun vs H Q E h => ?_) (fun cdv A outer s0 H vs Q E hr h => ?_) (fun _ _ _ _ _ _ us hl => match us, hl with | [_, _, _], _ => rfl)
  · obtain ⟨s, ad, k, t, rfl, _⟩ := h; rfl
  obtain ⟨s, ad, k, t, rfl, R, hl, hc, ht, hQ⟩ := h
  refine ⟨_, (pss_one (ps_expr (pe_mt T.c_Yard T.m_Yard_put_file c_Yard_put_file (hr.mono (by first | decide | exact Nat.le_refl _)) (pv 0) (pa_cons (pv 1) (pa_cons (pe_op op_add_str (pe_ifExp (pt_val (pe_mt T.c_Yard T.m_Yard_has_file c_Yard_has_file (hr.mono (by first | decide | exact Nat.le_refl _)) (pv 0) (pa_cons (pv 1) pa_nil))) (pe_mt T.c_Yard T.m_Yard_file_text c_Yard_file_text (hr.mono (by first | decide | exact Nat.le_refl _)) (pv 0) (pa_cons (pv 1) pa_nil)) pe_str) (pv 2)) pa_nil))))), ?_⟩
  walk_at "in"
  have hy := R.y_
  have hf := R.fi_
  unfold txt at hc hQ
  cases e : s.files.lookup k with
  | none =>
    rw [e] at hc hQ
    have l1 : (Str.ofString "").length + t.length ≤ sizeLine := by rw [sizeLine_eq]; show 0 + t.length ≤ _; omega
    walk_at "go"
    refine iteF' (by rw [e]; rfl) ?_
    walk_at "go"
    intro ad' H' R' M' X'
    exact hQ ad' H' R' M' X'
  | some u =>
    rw [e] at hc hQ
    have hrow := R.row_ e
    have hv := valV_filK k ad s.files
    rw [e] at hv
    have l1 : u.length + t.length ≤ sizeLine := by rw [sizeLine_eq]; have : u.length ≤ 8000000 := hc; omega
    walk_at "go"
    refine iteT' (by rw [e]; rfl) ?_
    refine ⟨_, rfl, ad .y, _, _, rfl, hy, rfl, _, rfl, ?_⟩
    refine ⟨ad .y, _, ad .fi, _, _, _, k, u, _, rfl, hy, rfl, .inl hf, hv, hrow, ?_⟩
    walk_at "go"
    intro ad' H' R' M' X'
    exact hQ ad' H' R' M' X'
def spMakeF (K : PySem.W.Frag) : Sp := fun vs H Q _ => ∃ (s : YS) (ad : Ro → Addr) (k : Str), vs = [.ref (ad .y), .str k] ∧ YR K s ad H ∧ s.files.length ≤ 1000 ∧ ∀ ad' H', YR K (s.put k "") ad' H' → YM K s ad H (s.put k "") ad' H' → Fx ad ad' → Q .non H'
theorem ok_makef {f : Addr} (T : Txt P w K mg) (F : Stands K "make_file" "Yard.make_file" s_Yard_make_file [] f) (c_Yard_put_file : Callable P w K mg base 1 (He.ma K (He.ga K "Yard") "put_file") ["self", "name", "text"] [] (spPut K)) : Callable P w K mg base 2 f ["self", "name"] [] (spMakeF K) := by
  refine F.call0 sc_Yard_make_file (fun vs H Q E h => ?_) (fun cdv A outer s0 H vs Q E hr h => ?_) (fun _ _ _ _ _ _ us hl => match us, hl with | [_, _], _ => rfl)
  · obtain ⟨s, ad, k, rfl, _⟩ := h; rfl
  obtain ⟨s, ad, k, rfl, R, hl, hQ⟩ := h
  refine ⟨_, (pss_one (ps_expr (pe_mt T.c_Yard T.m_Yard_put_file c_Yard_put_file (hr.mono (by first | decide | exact Nat.le_refl _)) (pv 0) (pa_cons (pv 1) (pa_cons pe_str pa_nil))))), ?_⟩
  walk_at "in"
  have hy := R.y_
  walk_at "go"
  intro ad' H' R' M' X'
  exact hQ ad' H' R' M' X'
theorem merge_nil : ∀ (more kvs : List (Key × V)), (∀ e ∈ more, ∀ g ∈ kvs, g.1 ≠ e.1) → (more.map (·.1)).Nodup → mergeK kvs more = kvs ++ more
  | [], kvs, _, _ => (List.append_nil _).symm
  | e :: r, kvs, h, nd => by
    have hp : putK kvs e.1 e.2 = kvs ++ [e] := by
      unfold putK
      have : kvs.any (fun p => decide (p.1 = e.1)) = false := by
        rw [List.any_eq_false]
        intro g hg
        rw [decide_eq_false (h e List.mem_cons_self g hg)]
        decide
      rw [this]; rfl
    show mergeK (putK kvs e.1 e.2) r = _
    obtain ⟨n1, n2⟩ := List.nodup_cons.mp nd
    rw [hp, merge_nil r (kvs ++ [e]) (fun g hg f hf => ?_) n2, List.append_assoc]; · rfl
    rcases List.mem_append.mp hf with k | k
    · exact h g (List.mem_cons_of_mem _ hg) f k
    · rw [List.mem_singleton.mp k]
      exact fun z => n1 (by show e.1 ∈ _; rw [z]; exact List.mem_map_of_mem hg)
theorem lk_nd : ∀ {ts : List (Str × Str)}, (ts.map (·.1)).Nodup → ∀ {e : Str × Str}, e ∈ ts → ts.lookup e.1 = some e.2
  | [], _, _, h => by cases h
  | a :: r, nd, e, h => by
    obtain ⟨n1, n2⟩ := List.nodup_cons.mp nd
    rw [lkc]
    rcases List.mem_cons.mp h with rfl | h
    · rw [if_pos rfl]
    · rw [if_neg (fun z => n1 (by show a.1 ∈ _; rw [← z]; exact List.mem_map_of_mem h))]; exact lk_nd n2 h
theorem pr_snoc {α β : Type} {F : α → β → Prop} {a : α} {b : β} (h : F a b) : ∀ {xs : List α} {ys : List β}, Paired F xs ys → Paired F (xs ++ [a]) (ys ++ [b])
  | _, _, .nil => .cons h .nil
  | _, _, .cons r t => .cons r (pr_snoc h t)
theorem strK_keys (ts : List (Str × Str)) (nd : (ts.map (·.1)).Nodup) : ((strK ts).map (·.1)).Nodup := by
  have e : (strK ts).map (·.1) = (ts.map (·.1)).map (Sum.inr : Str → Key) := by unfold strK; rw [List.map_map, List.map_map]; rfl
  rw [e]
  exact List.Pairwise.map _ (fun a b h z => h (Sum.inr.inj z)) nd
def spFiles (K : PySem.W.Frag) : Sp := fun vs H Q _ => ∃ (s : YS) (ad : Ro → Addr), vs = [.ref (ad .y)] ∧ YR K s ad H ∧ s.files.length ≤ 1000 ∧ (s.files.map (·.1)).Nodup ∧ ∀ (p : Addr) (H' : Hp), Same H H' → H p = none → H' p = some (.dK (strK s.files)) → Q (.ref p) H'
theorem ok_files {f : Addr} (T : Txt P w K mg) (F : Stands K "files" "Yard.files" s_Yard_files [] f) (c_Yard_file_text : Callable P w K mg base 1 (He.ma K (He.ga K "Yard") "file_text") ["self", "name"] [] (spFileText K)) : Callable P w K mg base 2 f ["self"] [] (spFiles K) := by
  refine F.call0 sc_Yard_files (fun vs H Q E h => ?_) (fun cdv A outer s0 H vs Q E hr h => ?_) (fun _ _ _ _ _ _ us hl => match us, hl with | [_], _ => rfl)
  · obtain ⟨s, ad, rfl, _⟩ := h; rfl
  obtain ⟨s, ad, rfl, R, hl, nd, hQ⟩ := h
  refine ⟨_, (pss_one (ps_ret (pe_callTy (call_dictP rfl) (by rfl) T.b_dict (by decide +kernel) (pa_cons (pe_lock (pe_lc (own := [("name", 1)]) (by rfl) sc_Yard_files.nd (pi_keys (pe_fld (pv 0) rfl)) (blkOk_by (own := [("name", 1)]) (N := nm_Yard_files) (sc := defScope s_Yard_files) (by decide +kernel)) (fun _ _ _ _ _ => (pg_name (i := 1) sc_Yard_files.nd rfl (by first | exact Or.inl rfl | exact Or.inr rfl))) (fun _ _ _ _ _ => pts_nil) (fun _ _ _ _ _ => (pe_tup (pa_cons (pv 1) (pa_cons (pe_mt T.c_Yard T.m_Yard_file_text c_Yard_file_text (hr.mono (by first | decide | exact Nat.le_refl _)) (pv 0) (pa_cons (pv 1) pa_nil)) pa_nil)))))) pa_nil)))), ?_⟩
  walk_at "in"
  have hy := R.y_
  have hf := R.fi_
  refine ⟨ad .fi, _, hf, trivial, fun od => ?_⟩
  have k0 : upd H (ad .fi) (.frz od (.dK (filK s.files ad))) (ad .fi) = some (.frz od (.dK (filK s.files ad))) := upd_same
  have nys : ad .y ≠ ad .fi := RW.ne_kind hy hf (fun z => nomatch z)
  have hy0 : upd H (ad .fi) (.frz od (.dK (filK s.files ad))) (ad .y) = some (.ins (CY K) (ad (.x 0)) (yFs s ad)) := by rw [upd_ne nys]; exact hy
  have hrow : ∀ k t, s.files.lookup k = some t → upd H (ad .fi) (.frz od (.dK (filK s.files ad))) (ad (.row k)) = some (.lst [.str t, .int (s.tim k)]) := fun k t e => by
    have h1 := R.row_ e
    rw [upd_ne (fun z => by rw [z, hf] at h1; cases h1)]; exact h1
  have fr0 : ∀ b, upd H (ad .fi) (.frz od (.dK (filK s.files ad))) b = none → H b = none := fun b h => (upd_none h).2
  have back : ∀ H', Same (upd H (ad .fi) (.frz od (.dK (filK s.files ad)))) H' → Same H (upd H' (ad .fi) (.dK (filK s.files ad))) := fun H' s2 b o e => by
    by_cases c : b = ad .fi
    · rw [c, upd_same]; rw [c, hf] at e; exact e
    · rw [upd_ne c]; exact s2 _ _ (by rw [upd_ne c]; exact e)
  generalize upd H (ad .fi) (.frz od (.dK (filK s.files ad))) = H0 at k0 hy0 hrow fr0 back ⊢
  walk_at "go"
  refine .inl ⟨_, k0, fun D hD => ?_⟩
  have nDf : D ≠ ad .fi := fun z => by rw [z, k0] at hD; cases hD
  refine lc_it walk_keys (fun i H' => Same H0 H' ∧ ∃ tps : List Addr, H' D = some (.lst (tps.map V.ref)) ∧ tps.length = i ∧ Paired (fun p kv => H' p = some (.tup [kV kv.1, kv.2])) tps (strK (s.files.take i))) ⟨same_new hD _, [], upd_same, rfl, .nil⟩ (fun i H' _ h => h.1 _ _ k0) (fun i x H9 H2 hi hP hx => ?_) (fun H2 hP => ?_)
  · obtain ⟨rfl, kx, vx, hx, rfl⟩ := hx
    obtain ⟨s2, tps, d2, tl, hpr⟩ := hP
    unfold filK at hx
    rw [List.getElem?_map] at hx
    obtain ⟨e, he0, hee⟩ := Option.map_eq_some_iff.mp hx
    cases hee
    have hi2 : i < s.files.length := (List.getElem?_eq_some_iff.mp he0).1
    have lke := lk_nd nd (List.mem_of_getElem? he0)
    have hv := valV_filK e.1 ad s.files
    rw [lke] at hv
    have etk := List.take_add_one (l := s.files) (i := i)
    rw [he0] at etk
    have etk2 : s.files.take (i + 1) = s.files.take i ++ [e] := etk
    have hll : (tps.map V.ref).length < sizeLine := by rw [List.length_map, tl, sizeLine_eq]; omega
    refine ⟨rfl, yes_if ?_⟩
    refine ⟨_, rfl, _, rfl, ad .y, _, _, rfl, s2 _ _ hy0, rfl, _, rfl, ?_⟩
    refine ⟨ad .y, _, ad .fi, _, _, _, e.1, e.2, _, rfl, s2 _ _ hy0, rfl, .inr ⟨od, s2 _ _ k0⟩, hv, s2 _ _ (hrow _ _ lke), ?_⟩
    refine ⟨by show 2 ≤ sizeLine; decide, fun q fq => ?_⟩
    have d3 := same_new fq (.tup [.str e.1, .str e.2]) _ _ d2
    refine ⟨_, d3, hll, ?_, tps ++ [q], ?_, by rw [List.length_append, tl]; rfl, ?_⟩
    · intro b o hb
      rw [upd_ne (ne_of_none hb hD)]; exact same_new fq _ _ _ (s2 _ _ hb)
    · rw [upd_same, List.map_append]; rfl
    · have nqD : q ≠ D := fun z => by rw [z, d2] at fq; cases fq
      rw [etk2]
      unfold strK
      rw [List.map_append]
      refine pr_snoc ?_ (Paired.mapP hpr fun p kv h => ?_)
      · rw [upd_ne nqD]; exact upd_same
      · rw [upd_ne (fun z => by rw [z, d2] at h; cases h)]; exact same_new fq _ _ _ h
  · obtain ⟨s2, tps, d2, tl, hpr⟩ := hP
    refine ⟨s2 _ _ k0, ?_⟩
    have b2 := back _ s2
    rw [show (filK s.files ad).length = s.files.length from List.length_map _, List.take_length] at hpr
    have d3 : upd H2 (ad .fi) (.dK (filK s.files ad)) D = some (.lst (tps.map V.ref)) := by rw [upd_ne nDf]; exact d2
    refine ⟨D, tps, strK s.files, rfl, SqL.of d3, Paired.mapP hpr fun p kv h => SqT.of (by rw [upd_ne (fun z => by rw [z, s2 _ _ k0] at h; cases h)]; exact h), fun p fp => ?_⟩
    rw [merge_nil _ [] (fun _ _ _ h => by cases h) (strK_keys _ nd), List.nil_append]
    exact hQ p _ (b2.trans (same_new fp _)) (b2.free fp) upd_same
end
end K17

set_option Elab.async false
set_option linter.all false
set_option maxRecDepth 100000
set_option maxHeartbeats 0

namespace K17
open PySem PySem.Spec PyProof.Rows L2 RC
section
variable {P : Program} {w : World} {K : PySem.W.Frag} {mg : Str → Option Value} {base : Heap}
/-! ### streams -/
def spText (K : PySem.W.Frag) : Sp := fun vs H Q _ => ∃ (m : YS) (ad : Ro → Addr) (s : Str), vs = [.ref (ad .y), .str s] ∧ YR K m ad H ∧ Q (.str (txt m.texts s)) H
theorem ok_text {f : Addr} (T : Txt P w K mg) (F : Stands K "text" "Yard.text" s_Yard_text [] f) : Callable P w K mg base 1 f ["self", "stream"] [] (spText K) := by
  refine F.call0 sc_Yard_text (fun vs H Q E h => ?_) (fun cdv A outer s H vs Q E hr h => ?_) (fun _ _ _ _ _ _ us hl => match us, hl with | [_, _], _ => rfl)
  · obtain ⟨m, ad, s, rfl, _⟩ := h; rfl
  obtain ⟨m, ad, s, rfl, R, hQ⟩ := h
  refine ⟨_, (pss_one (ps_ret (pe_dget2 (hu_of hr) (pe_fld (pv 0) rfl) (pv 1) pe_str ⟨rfl, rfl, rfl, rfl⟩))), ?_⟩
  walk_at "in"
  have hy := R.y_
  have hst := R.st_
  have hv := valV_strK s m.texts
  unfold txt at hQ
  cases e : m.texts.lookup s with
  | none =>
    rw [e] at hv hQ
    walk_at "go"
    exact hQ
  | some t =>
    rw [e] at hv hQ
    walk_at "go"
    exact hQ
def spWrite (K : PySem.W.Frag) : Sp := fun vs H Q _ => ∃ (m : YS) (ad : Ro → Addr) (s t : Str), vs = [.ref (ad .y), .str s, .str t] ∧ YR K m ad H ∧ Cap m.texts 8000000 ∧ t.length ≤ 8000000 ∧ ∀ H', YR K (m.say s t) ad H' → YM K m ad H (m.say s t) ad H' → Q .non H'
theorem ok_write {f : Addr} (T : Txt P w K mg) (F : Stands K "write_stream" "Yard.write_stream" s_Yard_write_stream [] f) (c_Yard_text : Callable P w K mg base 1 (He.ma K (He.ga K "Yard") "text") ["self", "stream"] [] (spText K)) : Callable P w K mg base 2 f ["self", "name", "text"] [] (spWrite K) := by
  refine F.call0 sc_Yard_write_stream (fun vs H Q E h => ?_) (fun cdv A outer s H vs Q E hr h => ?_) (fun _ _ _ _ _ _ us hl => match us, hl with | [_, _, _], _ => rfl)
  · obtain ⟨m, ad, s, t, rfl, _⟩ := h; rfl
  obtain ⟨m, ad, s, t, rfl, R, hc, ht, hQ⟩ := h
  refine ⟨_, (pss_one (ps_dput (hu_of hr) (pe_fld (pv 0) rfl) (pv 1) (pe_op op_add_str (pe_mt T.c_Yard T.m_Yard_text c_Yard_text (hr.mono (by first | decide | exact Nat.le_refl _)) (pv 0) (pa_cons (pv 1) pa_nil)) (pv 2)) rfl)), ?_⟩
  walk_at "in"
  have hy := R.y_
  have hst := R.st_
  have h1 := txt_cap hc s
  have h2 : (strK m.texts).length < sizeLine := by unfold strK; rw [List.length_map, sizeLine_eq]; have := hc.1; omega
  obtain ⟨R', M'⟩ := R.say s t
  walk_at "go"
  rw [putK_strK]
  exact hQ _ R' M'
def liveS (ts : List (Str × Str)) : List Str := (ts.filter fun e => !decide (e.2 = ("" : Str))).map (·.1)
def spStreams (K : PySem.W.Frag) : Sp := fun vs H Q _ => ∃ (m : YS) (ad : Ro → Addr), vs = [.ref (ad .y)] ∧ YR K m ad H ∧ m.texts.length < 64 ∧ (m.texts.map (·.1)).Nodup ∧ ∀ (H' : Hp) (p : Addr) (ys : List Str), Same H H' → H p = none → H' p = some (.lst (ys.map V.str)) → ys.Perm (liveS m.texts) → sortedS ys = true → Q (.ref p) H'
theorem lookup_ts : ∀ {ts : List (Str × Str)} {e : Str × Str}, e ∈ ts → (ts.map (·.1)).Nodup → ts.lookup e.1 = some e.2
  | [], _, h, _ => nomatch h
  | a :: es, e, h, nd => by
    rw [List.lookup_cons]
    rcases List.mem_cons.mp h with rfl | h
    · rw [beq_self_eq_true]
    · rw [List.map_cons, List.nodup_cons] at nd
      have hne : e.1 ≠ a.1 := fun z => nd.1 (by rw [← z]; exact List.mem_map_of_mem h)
      rw [show (e.1 == a.1) = false from by simpa using hne, lookup_ts h nd.2]
theorem ok_streams {f : Addr} (T : Txt P w K mg) (F : Stands K "streams" "Yard.streams" s_Yard_streams [] f) : Callable P w K mg base 1 f ["self"] [] (spStreams K) := by
  refine F.call0 sc_Yard_streams (fun vs H Q E h => ?_) (fun cdv A outer s H vs Q E hr h => ?_) (fun _ _ _ _ _ _ us hl => match us, hl with | [_], _ => rfl)
  · obtain ⟨m, ad, rfl, _⟩ := h; rfl
  obtain ⟨m, ad, rfl, R, h64, nd, hQ⟩ := h
  refine ⟨_, (pss_one (ps_ret (pe_callB cr_sortedS (by rfl) T.b_sorted (by decide +kernel) (pa_cons (pe_lock (pe_lc (own := [("name", 1)]) (by rfl) sc_Yard_streams.nd (pi_keys (pe_fld (pv 0) rfl)) (blkOk_by (own := [("name", 1)]) (N := nm_Yard_streams) (sc := defScope s_Yard_streams) (by decide +kernel)) (fun _ _ _ _ _ => (pg_name (i := 1) sc_Yard_streams.nd rfl (by first | exact Or.inl rfl | exact Or.inr rfl))) (fun _ _ _ _ _ => (pts_one (pt_cmpR op_ne (pe_dget (hu_of hr) (pe_fldK (K := K) (pv 0) rfl) (pv 1) (fun _ _ => rfl)) pe_str (nomark _)))) (fun _ _ _ _ _ => (pv 1)))) pa_nil)))), ?_⟩
  walk_at "in"
  have hy := R.y_
  have hst := R.st_
  walk_at "go"
  refine ⟨hst, trivial, fun od => ?_⟩
  have k0 : upd H (ad .st) (.frz od (.dK (strK m.texts))) (ad .st) = some (.frz od (.dK (strK m.texts))) := upd_same
  have nys : ad .y ≠ ad .st := RW.ne_kind hy hst (fun z => nomatch z)
  have hy0 : upd H (ad .st) (.frz od (.dK (strK m.texts))) (ad .y) = some (.ins (CY K) (ad (.x 0)) (yFs m ad)) := by rw [upd_ne nys]; exact hy
  have fr0 : ∀ b, upd H (ad .st) (.frz od (.dK (strK m.texts))) b = none → H b = none := fun b h => (upd_none h).2
  have back : ∀ H', Same (upd H (ad .st) (.frz od (.dK (strK m.texts)))) H' → Same H (upd H' (ad .st) (.dK (strK m.texts))) := fun H' s b o e => by
    by_cases c : b = ad .st
    · rw [c, upd_same]; rw [c, hst] at e; exact e
    · rw [upd_ne c]; exact s _ _ (by rw [upd_ne c]; exact e)
  generalize upd H (ad .st) (.frz od (.dK (strK m.texts))) = H0 at k0 hy0 fr0 back
  walk_at "go"
  refine .inl ⟨_, k0, fun D hD => ?_⟩
  have hD0 : H0 D = none := hD
  have nD : D ≠ ad .st := fun z => by rw [z, k0] at hD0; cases hD0
  refine lc_it walk_keys (fun i H' => Same H0 H' ∧ H' D = some (.lst ((liveS (m.texts.take i)).map V.str))) ⟨same_new hD _, upd_same⟩ (fun i H' _ h => h.1 _ _ k0) (fun i x H9 H2 hi hP hx => ?_) (fun H2 hP => ?_)
  · obtain ⟨rfl, kx, vx, hx, rfl⟩ := hx
    obtain ⟨s2, d2⟩ := hP
    unfold strK at hx
    rw [List.getElem?_map] at hx
    obtain ⟨e, he0, hee⟩ := Option.map_eq_some_iff.mp hx
    cases hee
    have he : e ∈ m.texts := List.mem_of_getElem? he0
    have hy2 := s2 _ _ hy0
    have k2 := s2 _ _ k0
    have rd2 : Rd H2 (ad .st) (.dK (strK m.texts)) := .inr ⟨od, k2⟩
    have vv : valV (strK m.texts) (Sum.inr e.1) = some (.str e.2) := (valV_strK e.1 m.texts).trans (congrArg (Option.map V.str) (lookup_ts he nd))
    have etk := List.take_add_one (l := m.texts) (i := i)
    rw [he0] at etk
    have ln : ((liveS (m.texts.take i)).map V.str).length < sizeLine := by
      have h1 := List.length_filter_le (fun e => !decide (e.2 = ("" : Str))) (m.texts.take i)
      have h2 : (m.texts.take i).length ≤ m.texts.length := by rw [List.length_take]; exact Nat.min_le_right _ _
      unfold liveS
      rw [List.length_map, List.length_map, sizeLine_eq]; omega
    have el : liveS (m.texts.take (i + 1)) = liveS (m.texts.take i) ++ if e.2 = "" then [] else [e.1] := by
      unfold liveS
      rw [etk, List.filter_append, List.map_append]
      congr 1
      by_cases c : e.2 = ""
      · simp [c]
      · rw [if_neg c]; simp [c]
    by_cases c : e.2 = ""
    · rw [if_pos c, List.append_nil] at el
      rw [el]
      walk_at "go"
      exact d2
    · rw [if_neg c] at el
      rw [el]
      walk_at "go"
      rw [upd_same, List.map_append]; rfl
  · obtain ⟨s2, d2⟩ := hP
    refine ⟨s2 _ _ k0, ?_⟩
    have b2 := back _ s2
    have d3 : upd H2 (ad .st) (.dK (strK m.texts)) D = some (.lst ((liveS (m.texts.take (strK m.texts).length)).map V.str)) := by rw [upd_ne nD]; exact d2
    rw [show (strK m.texts).length = m.texts.length from List.length_map _, List.take_length] at d3
    refine ⟨D, liveS m.texts, rfl, SqL.of d3, ?_, fun ys p hp hs hn => ?_⟩
    · have h1 := List.length_filter_le (fun e => !decide (e.2 = ("" : Str))) m.texts
      unfold liveS
      rw [List.length_map]; omega
    · exact hQ _ p ys (b2.trans (same_new hn _)) (b2.free hn) upd_same hp hs
end
end K17

set_option Elab.async false
set_option linter.all false
set_option maxRecDepth 100000
set_option maxHeartbeats 0
namespace K17
open PySem PySem.Spec PyProof.Rows L2 RC
section
variable {P : Program} {w : World} {K : PySem.W.Frag} {mg : Str → Option Value} {base : Heap}
abbrev CR (K : PySem.W.Frag) : Addr := He.ga K "LogRecord"
/-- a record of the name rn stands at r -/
def RecName (K : PySem.W.Frag) (H : Hp) (r : Addr) (rn : Str) : Prop := ∃ dx fs, H r = some (.ins (CR K) dx fs) ∧ fs.lookup ("name" : Str) = some (.str rn)
/-! ### records -/
theorem bl_true {b : Bool} (h : b = true) : V.bl b = V.bl true := by rw [h]
/-- copies of what is empty: () and {} -/
def spCopied (K : PySem.W.Frag) : Sp := fun vs H Q _ => ∃ a : Addr, vs = [.ref a] ∧ ((SqT K H a [] ∧ ∀ (H' : Hp) (t : Addr), Same H H' → H t = none → H' t = some (.tup []) → Q (.ref t) H') ∨ (H a = some (.dK []) ∧ ∀ (H' : Hp) (t : Addr), Same H H' → H t = none → H' t = some (.dK []) → Q (.ref t) H'))
theorem ok_copied {f : Addr} (T : Txt P w K mg) (F : Stands K "copied_value" "copied_value" s_copied_value [] f) : Callable P w K mg base 1 f ["thing"] [] (spCopied K) := by
  refine F.call0 sc_copied_value (fun vs H Q E h => ?_) (fun cdv A outer s H vs Q E hr h => ?_) (fun _ _ _ _ _ _ us hl => match us, hl with | [_], _ => rfl)
  · obtain ⟨a, rfl, _⟩ := h; rfl
  obtain ⟨a, rfl, h⟩ := h
  refine ⟨_, (pss_cons (ps_if (pt_val (pe_callB call_isi (by rfl) T.b_isinstance (by decide +kernel) (pa_cons (pv 0) (pa_cons (pe_bltn (v := .ty "list") (u := .type "list") (by rfl) T.b_list (by decide +kernel) rfl) pa_nil)))) (pss_one ps_never) pss_nil)
      (pss_cons (ps_if (pt_val (pe_callB call_isi (by rfl) T.b_isinstance (by decide +kernel) (pa_cons (pv 0) (pa_cons (pe_bltn (v := .ty "tuple") (u := .type "tuple") (by rfl) T.b_tuple (by decide +kernel) rfl) pa_nil)))) (pss_one (ps_ret (pe_callTy call_tuple_of (by rfl) T.b_tuple (by decide +kernel) (pa_cons (pe_lc (own := [("part", 1)]) (by rfl) sc_copied_value.nd (pi_tup (pv 0)) (blkOk_by (own := [("part", 1)]) (N := nm_copied_value) (sc := defScope s_copied_value) (by decide +kernel)) (fun _ _ _ _ _ => (pg_name (i := 1) sc_copied_value.nd rfl (by first | exact Or.inl rfl | exact Or.inr rfl))) (fun _ _ _ _ _ => pts_nil) (fun _ _ _ _ _ => pe_never)) pa_nil)))) pss_nil)
      (pss_cons (ps_if (pt_val (pe_callB call_isi (by rfl) T.b_isinstance (by decide +kernel) (pa_cons (pv 0) (pa_cons (pe_bltn (v := .ty "dict") (u := .type "dict") (by rfl) T.b_dict (by decide +kernel) rfl) pa_nil)))) (pss_one (ps_ret (pe_callTy (call_dictP rfl) (by rfl) T.b_dict (by decide +kernel) (pa_cons (pe_lock (pe_lc (own := [("name", 2)]) (by rfl) sc_copied_value.nd (pi_keys (pv 0)) (blkOk_by (own := [("name", 2)]) (N := nm_copied_value) (sc := defScope s_copied_value) (by decide +kernel)) (fun _ _ _ _ _ => (pg_name (i := 2) sc_copied_value.nd rfl (by first | exact Or.inl rfl | exact Or.inr rfl))) (fun _ _ _ _ _ => pts_nil) (fun _ _ _ _ _ => pe_never))) pa_nil)))) pss_nil)
      (pss_one (ps_ret (pv 0)))))), ?_⟩
  rcases h with ⟨hT, hQ⟩ | ⟨hD, hQ⟩
  · refine ⟨_, rfl, _, _, _, _, _, rfl, .ty _, tyx_tup hT, kit_ty (b := "list") (by decide +kernel), _, rfl, iteF ?_⟩
    refine ⟨_, rfl, _, _, _, _, _, rfl, .ty _, tyx_tup hT, kit_ty (b := "tuple") (by decide +kernel), _, rfl, iteT ?_⟩
    refine ⟨_, rfl, a, rfl, ⟨_, hT⟩, fun D hD => ?_⟩
    refine lc_tup (xs := []) (fun i H' => H' = upd H D (.lst [])) rfl (fun i H' _ h => ?_) (fun i x H' hx h => nomatch hx) (fun H' h => ?_)
    · subst h; rcases hT with (z | ⟨o, z⟩) | z
      · exact .inl (.inl (by rw [upd_ne (ne_of_none z hD)]; exact z))
      · exact .inl (.inr ⟨o, by rw [upd_ne (ne_of_none z hD)]; exact z⟩)
      · exact .inr z
    · subst h
      refine ⟨D, [], rfl, .inl ⟨SqL.of upd_same, fun t ht => ?_⟩⟩
      exact hQ _ t ((same_new hD _).trans (same_new ht _)) (upd_none ht).2 upd_same
  · refine ⟨_, rfl, _, _, _, _, _, rfl, .ty _, .base (.dK hD), kit_ty (b := "list") (by decide +kernel), _, rfl, iteF ?_⟩
    refine ⟨_, rfl, _, _, _, _, _, rfl, .ty _, .base (.dK hD), kit_ty (b := "tuple") (by decide +kernel), _, rfl, iteF ?_⟩
    refine ⟨_, rfl, _, _, _, _, _, rfl, .ty _, .base (.dK hD), kit_ty (b := "dict") (by decide +kernel), _, rfl, iteT ?_⟩
    refine ⟨a, _, hD, trivial, fun od => ?_⟩
    refine ⟨_, rfl, a, od, rfl, .inl ⟨[], upd_same, fun D hD2 => ?_⟩⟩
    refine lc_it walk_keys (fun i H' => H' = upd (upd H a (.frz od (.dK []))) D (.lst [])) rfl (fun i H' _ h => ?_) (fun i x H' H'' hi => nomatch hi) (fun H' h => ?_)
    · subst h; rw [upd_ne (Ne.symm (upd_none hD2).1)]; exact upd_same
    · subst h
      refine ⟨by rw [upd_ne (Ne.symm (upd_none hD2).1)]; exact upd_same, ?_⟩
      rw [unlock hD hD2]
      have hD3 := (upd_none hD2).2
      refine ⟨D, [], [], rfl, SqL.of upd_same, .nil, fun t ht => ?_⟩
      exact hQ _ t ((same_new hD3 _).trans (same_new ht _)) (upd_none ht).2 upd_same
def recF (name : Str) (lv : Int) (ln msg : Str) (g : Addr) (clk : Int) (e : Addr) : List (Str × V) := [("name", .str name), ("levelno", .int lv), ("levelname", .str ln), ("msg", .str msg), ("given", .ref g), ("created", .int clk), ("extra", .ref e)]
def spRecInit (K : PySem.W.Frag) : Sp := fun vs H Q _ => ∃ (p dx a d : Addr) (name ln msg : Str) (lv clk : Int), vs = [.ref p, .str name, .int lv, .str ln, .str msg, .ref a, .int clk, .ref d] ∧ H p = some (.ins (CR K) dx []) ∧ SqT K H a [] ∧ H d = some (.dK []) ∧
  ∀ (H' : Hp) (g e : Addr), SameBut p H H' → H' p = some (.ins (CR K) dx (recF name lv ln msg g clk e)) → H' g = some (.tup []) → H' e = some (.dK []) → H g = none → H e = none → Q .non H'
theorem SqT.but {K : PySem.W.Frag} {H H' : Hp} {a p : Addr} {xs : List V} {C dx : Addr} {fs : List (Str × V)} (e : SameBut p H H') (hp : H p = some (.ins C dx fs)) (h : SqT K H a xs) : SqT K H' a xs := by
  rcases h with (h | ⟨o, h⟩) | h
  · exact .inl (.inl (e _ _ (fun z => by rw [z, hp] at h; cases h) h))
  · exact .inl (.inr ⟨o, e _ _ (fun z => by rw [z, hp] at h; cases h) h⟩)
  · exact .inr h
theorem ok_rec_init {f : Addr} (T : Txt P w K mg) (F : Stands K "__init__" "LogRecord.__init__" s_LogRecord_init [] f) (c_copied_value : Callable P w K mg base 1 (He.ga K "copied_value") ["thing"] [] (spCopied K)) :
    Callable P w K mg base 2 f ["self", "name", "levelno", "levelname", "msg", "args", "created", "extra"] [] (spRecInit K) := by
  refine F.call0 sc_LogRecord_init (fun vs H Q E h => ?_) (fun cdv A outer s H vs Q E hr h => ?_) (fun _ _ _ _ _ _ us hl => match us, hl with | [_, _, _, _, _, _, _, _], _ => rfl)
  · obtain ⟨p, dx, a, d, name, ln, msg, lv, clk, rfl, _⟩ := h; rfl
  obtain ⟨p, dx, a, d, name, ln, msg, lv, clk, rfl, hp, hT, hD, hQ⟩ := h
  refine ⟨_, (pss_cons (ps_fld (pv 0) (pv 1) rfl)
      (pss_cons (ps_fld (pv 0) (pv 2) rfl)
      (pss_cons (ps_fld (pv 0) (pv 3) rfl)
      (pss_cons (ps_fld (pv 0) (pv 4) rfl)
      (pss_cons (ps_fld (pv 0) (pe_fn T.g_copied_value c_copied_value (hr.mono (by first | decide | exact Nat.le_refl _)) (by rfl) (pa_cons (pe_callTy call_tuple_of (by rfl) T.b_tuple (by decide +kernel) (pa_cons (pv 5) pa_nil)) pa_nil)) rfl)
      (pss_cons (ps_fld (pv 0) (pv 6) rfl)
      (pss_one (ps_fld (pv 0) (pe_fn T.g_copied_value c_copied_value (hr.mono (by first | decide | exact Nat.le_refl _)) (by rfl) (pa_cons (pv 7) pa_nil)) rfl)))))))), ?_⟩
  refine ⟨_, rfl, _, rfl, p, _, dx, _, rfl, hp, T.c_LogRecord, T.n_LogRecord_name, (by show 0 < 1000; decide), ?_⟩
  refine ⟨_, rfl, _, rfl, p, _, dx, _, rfl, upd_same, T.c_LogRecord, T.n_LogRecord_levelno, (by show 1 < 1000; decide), ?_⟩
  rw [upd_upd]
  refine ⟨_, rfl, _, rfl, p, _, dx, _, rfl, upd_same, T.c_LogRecord, T.n_LogRecord_levelname, (by show 2 < 1000; decide), ?_⟩
  rw [upd_upd]
  refine ⟨_, rfl, _, rfl, p, _, dx, _, rfl, upd_same, T.c_LogRecord, T.n_LogRecord_msg, (by show 3 < 1000; decide), ?_⟩
  rw [upd_upd]
  generalize e1 : upd H p _ = H1
  have b1 : SameBut p H H1 := by rw [← e1]; exact SameBut.put
  have p1 : H1 p = some (.ins (CR K) dx [("name", .str name), ("levelno", .int lv), ("levelname", .str ln), ("msg", .str msg)]) := by rw [← e1]; exact upd_same
  clear e1
  refine ⟨_, rfl, a, [], rfl, .inr ⟨SqT.but b1 hp hT, a, rfl, .inl ⟨SqT.but b1 hp hT, fun H2 t s2 n2 t2 => ?_⟩⟩⟩
  refine ⟨_, rfl, p, _, dx, _, rfl, s2 _ _ p1, T.c_LogRecord, T.n_LogRecord_given, (by show 4 < 1000; decide), ?_⟩
  refine ⟨_, rfl, _, rfl, p, _, dx, _, rfl, upd_same, T.c_LogRecord, T.n_LogRecord_created, (by show 5 < 1000; decide), ?_⟩
  rw [upd_upd]
  have ntp : t ≠ p := fun z => by rw [z, p1] at n2; cases n2
  have ndp : d ≠ p := fun z => by rw [z, hp] at hD; cases hD
  generalize e3 : upd H2 p _ = H3
  have b3 : SameBut p H2 H3 := by rw [← e3]; exact SameBut.put
  have p3 : H3 p = some (.ins (CR K) dx [("name", .str name), ("levelno", .int lv), ("levelname", .str ln), ("msg", .str msg), ("given", .ref t), ("created", .int clk)]) := by rw [← e3]; exact upd_same
  clear e3
  have d3 : H3 d = some (.dK []) := b3 _ _ ndp (s2 _ _ (b1 _ _ ndp hD))
  refine ⟨_, rfl, d, rfl, .inr ⟨d3, fun H4 e s4 n4 e4 => ?_⟩⟩
  refine ⟨_, rfl, p, _, dx, _, rfl, s4 _ _ p3, T.c_LogRecord, T.n_LogRecord_extra, (by show 6 < 1000; decide), ?_⟩
  have nep : e ≠ p := fun z => by rw [z, p3] at n4; cases n4
  refine hQ _ t e ?_ upd_same ?_ ?_ ?_ ?_
  · exact ((b1.trans (SameBut.of s2)).trans (b3.trans (SameBut.of s4))).trans SameBut.put
  · rw [upd_ne ntp]; exact s4 _ _ (b3 _ _ ntp t2)
  · rw [upd_ne nep]; exact e4
  · have h1 := n2
    cases z : H t with
    | none => rfl
    | some o => rw [b1 _ _ ntp z] at h1; cases h1
  · cases z : H e with
    | none => rfl
    | some o => rw [b3 _ _ nep (s2 _ _ (b1 _ _ nep z))] at n4; cases n4
end
end K17

set_option Elab.async false
set_option linter.all false
set_option maxRecDepth 100000
set_option maxHeartbeats 0
namespace K17
open PySem PySem.Spec PyProof.Rows L2 RC
section
variable {P : Program} {w : World} {K : PySem.W.Frag} {mg : Str → Option Value} {base : Heap}
/-! ### levels -/
/-- what a level may be here -/
inductive LvIn where
  | int (i : Int)
  | nm (x : Str)
def LvIn.v : LvIn → V
  | .int i => .int i
  | .nm x => .str x
def spIsInt : Sp := fun vs H Q _ => ∃ v : LvIn, vs = [v.v] ∧ Q (.bl (match v with | .int _ => true | .nm _ => false)) H
theorem ok_is_integer {f : Addr} (T : Txt P w K mg) (F : Stands K "is_integer" "is_integer" s_is_integer [] f) : Callable P w K mg base 1 f ["thing"] [] spIsInt := by
  refine F.call0 sc_is_integer (fun vs H Q E h => ?_) (fun cdv A outer s H vs Q E hr h => ?_) (fun _ _ _ _ _ _ us hl => match us, hl with | [_], _ => rfl)
  · obtain ⟨v, rfl, _⟩ := h; rfl
  obtain ⟨v, rfl, hQ⟩ := h
  refine ⟨_, (pss_one (ps_ret (pe_and (pe_callB call_isi (by rfl) T.b_isinstance (by decide +kernel) (pa_cons (pv 0) (pa_cons (pe_bltn (v := .ty "int") (u := .type "int") (by rfl) T.b_int (by decide +kernel) rfl) pa_nil))) (pe_one (pe_not (pe_callB call_isi (by rfl) T.b_isinstance (by decide +kernel) (pa_cons (pv 0) (pa_cons (pe_bltn (v := .ty "bool") (u := .type "bool") (by rfl) T.b_bool (by decide +kernel) rfl) pa_nil)))))))), ?_⟩
  cases v with
  | int i =>
    refine ⟨_, rfl, _, _, _, _, true, rfl, .ty _, .base (.int i), kit_ty (b := "int") (by decide +kernel), _, rfl, iteT ?_⟩
    exact ⟨_, rfl, _, _, _, _, false, rfl, .ty _, .base (.int i), kit_ty (b := "bool") (by decide +kernel), _, rfl, hQ⟩
  | nm x =>
    exact ⟨_, rfl, _, _, _, _, false, rfl, .ty _, .base (.str x), kit_ty (b := "int") (by decide +kernel), _, rfl, iteF hQ⟩
/-- the number of a level by the yard's table -/
def lvNum (nums : List (Key × V)) : LvIn → Option V
  | .int i => some (.int i)
  | .nm x => valV nums (Sum.inr x)
def spLevelOf (K : PySem.W.Frag) : Sp := fun vs H Q _ => ∃ (y dy nu : Addr) (fs : List (Str × V)) (nums : List (Key × V)) (v : LvIn) (r : V), vs = [.ref y, v.v] ∧ H y = some (.ins (CY K) dy fs) ∧ fs.lookup ("numbers_of" : Str) = some (.ref nu) ∧ H nu = some (.dK nums) ∧ lvNum nums v = some r ∧ Q r H
theorem ok_level_of {f : Addr} (T : Txt P w K mg) (F : Stands K "level_of" "Yard.level_of" s_Yard_level_of [] f) (c_is_integer : Callable P w K mg base 1 (He.ga K "is_integer") ["thing"] [] spIsInt) : Callable P w K mg base 2 f ["self", "level"] [] (spLevelOf K) := by
  refine F.call0 sc_Yard_level_of (fun vs H Q E h => ?_) (fun cdv A outer s H vs Q E hr h => ?_) (fun _ _ _ _ _ _ us hl => match us, hl with | [_, _], _ => rfl)
  · obtain ⟨y, dy, nu, fs, nums, v, r, rfl, _⟩ := h; rfl
  obtain ⟨y, dy, nu, fs, nums, v, r, rfl, hy, hnu, hnums, hr2, hQ⟩ := h
  refine ⟨_, (pss_cons (ps_if (pt_val (pe_fn T.g_is_integer c_is_integer (hr.mono (by first | decide | exact Nat.le_refl _)) (by rfl) (pa_cons (pv 1) pa_nil))) (pss_one (ps_ret (pv 1))) pss_nil)
      (pss_cons (ps_if (PW.pt (pw_and (pt_val (pe_callB call_isi (by rfl) T.b_isinstance (by decide +kernel) (pa_cons (pv 1) (pa_cons (pe_bltn (v := .ty "str") (u := .type "str") (by rfl) T.b_str (by decide +kernel) rfl) pa_nil)))) (pw_and1 (pt_cmp (pc_din (hu_of hr) (pv 1) (pe_fld (pv 0) rfl)))))) (pss_one (ps_ret (pe_dget (hu_of hr) (pe_fld (pv 0) rfl) (pv 1) (fun _ _ => rfl)))) pss_nil)
      (pss_one ps_never))), ?_⟩
  cases v with
  | int i =>
    cases hr2
    exact ⟨_, rfl, .int i, rfl, _, rfl, iteT ⟨_, rfl, hQ⟩⟩
  | nm x =>
    have g := DGet.k (k := Sum.inr x) hnums
    rw [show valV nums (Sum.inr x) = some r from hr2] at g
    refine ⟨_, rfl, .nm x, rfl, _, rfl, iteF ?_⟩
    refine ⟨_, rfl, _, _, _, _, true, rfl, .ty _, .base (.str x), kit_ty (b := "str") (by decide +kernel), _, rfl, iteT ?_⟩
    refine ⟨_, rfl, _, rfl, y, _, dy, fs, _, rfl, hy, T.c_Yard, T.n_Yard_numbers_of, hnu, nu, _, rfl, g, _, rfl, iteT' (by rfl) ?_⟩
    exact ⟨_, rfl, y, _, dy, fs, _, rfl, hy, T.c_Yard, T.n_Yard_numbers_of, hnu, _, rfl, nu, _, rfl, g, hQ⟩
end
end K17

set_option Elab.async false
set_option linter.all false
set_option maxRecDepth 100000
set_option maxHeartbeats 0

namespace K17
open PySem PySem.Spec PyProof.Rows L2 RC
section
variable {P : Program} {w : World} {K : PySem.W.Frag} {mg : Str → Option Value} {base : Heap}
/-! ### make_record, of a number and no args -/
def NmsOk (nms : List (Key × V)) : Prop := ∀ k v, valV nms k = some v → ∃ z : Str, v = .str z
def lvName (nms : List (Key × V)) (i : Int) : Str := match valV nms (Sum.inl i) with
  | some (.str z) => z
  | _ => ("Level " : Str) ++ (toString i : Str)
def spLevelName (K : PySem.W.Frag) : Sp := fun vs H Q _ => ∃ (y dy na : Addr) (fs : List (Str × V)) (nms : List (Key × V)) (i : Int), vs = [.ref y, .int i] ∧ H y = some (.ins (CY K) dy fs) ∧ fs.lookup ("names_of" : Str) = some (.ref na) ∧ H na = some (.dK nms) ∧ NmsOk nms ∧ i.natAbs < 2 ^ 63 ∧ Q (.str (lvName nms i)) H
theorem ok_level_name {f : Addr} (T : Txt P w K mg) (F : Stands K "level_name" "Yard.level_name" s_Yard_level_name [] f) : Callable P w K mg base 1 f ["self", "level"] [] (spLevelName K) := by
  refine F.call0 sc_Yard_level_name (fun vs H Q E h => ?_) (fun cdv A outer s H vs Q E hr h => ?_) (fun _ _ _ _ _ _ us hl => match us, hl with | [_, _], _ => rfl)
  · obtain ⟨y, dy, na, fs, nms, i, rfl, _⟩ := h; rfl
  obtain ⟨y, dy, na, fs, nms, i, rfl, hy, hn, hna, hz, hi, hQ⟩ := h
  refine ⟨_, (pss_one (ps_ret (pe_ifExp (pt_cmp (pc_din (hu_of hr) (pv 1) (pe_fld (pv 0) rfl))) (pe_dget (hu_of hr) (pe_fld (pv 0) rfl) (pv 1) (fun _ _ => rfl)) (pe_op op_add_str pe_str (pe_callTy call_str_int (by rfl) T.b_str (by decide +kernel) (pa_cons (pv 1) pa_nil)))))), ?_⟩
  walk_at "in"
  unfold lvName at hQ
  cases e : valV nms (Sum.inl i) with
  | some v =>
    obtain ⟨z, rfl⟩ := hz _ _ e
    rw [e] at hQ
    walk_at "go"
    exact hQ
  | none =>
    rw [e] at hQ
    walk_at "go"
    have hl := RN.len_toString i
    have hl2 : i.natAbs.log2 < 63 := by
      by_cases c : i.natAbs = 0
      · rw [c]; decide
      · exact (Nat.log2_lt c).mpr hi
    refine ⟨by omega, _, _, rfl, rfl, ?_, hQ⟩
    show 6 + (Str.ofString (toString i)).length ≤ sizeLine
    rw [sizeLine_eq]; omega
/-- a record as the yard makes it, without args and extra -/
def RecAt (K : PySem.W.Frag) (H : Hp) (r : Addr) (name : Str) (lv : Int) (ln msg : Str) (clk : Int) : Prop := ∃ dx g e, H r = some (.ins (CR K) dx (recF name lv ln msg g clk e)) ∧ H g = some (.tup []) ∧ H e = some (.dK [])
theorem RecAt.same {H H' : Hp} {r : Addr} {name : Str} {lv : Int} {ln msg : Str} {clk : Int} (h : RecAt K H r name lv ln msg clk) (s : Same H H') : RecAt K H' r name lv ln msg clk := by
  obtain ⟨dx, g, e, h1, h2, h3⟩ := h
  exact ⟨dx, g, e, s _ _ h1, s _ _ h2, s _ _ h3⟩
theorem RecAt.name {H : Hp} {r : Addr} {name : Str} {lv : Int} {ln msg : Str} {clk : Int} (h : RecAt K H r name lv ln msg clk) : RecName K H r name := by
  obtain ⟨dx, g, e, h1, _⟩ := h
  exact ⟨dx, _, h1, rfl⟩
def spMakeRecord (K : PySem.W.Frag) : Sp := fun vs H Q _ => ∃ (y dy na nu a : Addr) (fs : List (Str × V)) (nms nums : List (Key × V)) (name msg : Str) (lv clk : Int), vs = [.ref y, .str name, .int lv, .str msg, .ref a, .non] ∧ SqT K H a [] ∧ H y = some (.ins (CY K) dy fs) ∧
  fs.lookup ("names_of" : Str) = some (.ref na) ∧ fs.lookup ("numbers_of" : Str) = some (.ref nu) ∧ fs.lookup ("clock" : Str) = some (.int clk) ∧ fs.lookup ("level_of" : Str) = none ∧ fs.lookup ("level_name" : Str) = none ∧ H na = some (.dK nms) ∧ H nu = some (.dK nums) ∧ NmsOk nms ∧ lv.natAbs < 2 ^ 63 ∧
  ∀ (H' : Hp) (r g e : Addr), Same H H' → H r = none → H g = none → H e = none → (∃ dx, H' r = some (.ins (CR K) dx (recF name lv (lvName nms lv) msg g clk e))) → H' g = some (.tup []) → H' e = some (.dK []) → Q (.ref r) H'
theorem body_make_record {f : Addr} (T : Txt P w K mg) {cdv : Value} {A : Around} {outer : List Env} {st0 : Shared} {E : XK} {vs : List V} {H : Hp} {Q : VK} (hr : Room 3 (A.deeper (envOfC "Yard.make_record" (defScope s_Yard_make_record) st0.heap.objs.size f cdv))) (h : spMakeRecord K vs H Q E)
    (c_Yard_level_of : Callable P w K mg base 2 (He.ma K (He.ga K "Yard") "level_of") ["self", "level"] [] (spLevelOf K)) (c_Yard_level_name : Callable P w K mg base 1 (He.ma K (He.ga K "Yard") "level_name") ["self", "level"] [] (spLevelName K))
    (c_LogRecord_init : Callable P w K mg base 2 (He.ma K (He.ga K "LogRecord") "__init__") ["self", "name", "levelno", "levelname", "msg", "args", "created", "extra"] [] (spRecInit K)) :
    ∃ t, PSs (cxOf CX0 P w K mg base nm_Yard_make_record "Yard.make_record" (defScope s_Yard_make_record) f cdv A outer st0 H E).nox (defBody s_Yard_make_record) t ∧ t { nx := fun _ H' => Q .non H', rt := Q } (start nm_Yard_make_record vs) H := by
  obtain ⟨y, dy, na, nu, a, fs, nms, nums, name, msg, lv, clk, rfl, hT, hy, hna, hnu, hck, hlo, hln, gna, gnu, hz, hlv, hQ⟩ := h
  refine ⟨_, (pss_cons (ps_set (i := 6) sc_Yard_make_record.nd rfl (by first | exact Or.inl rfl | exact Or.inr rfl) (pe_mt T.c_Yard T.m_Yard_level_of c_Yard_level_of (hr.mono (by first | decide | exact Nat.le_refl _)) (pv 0) (pa_cons (pv 2) pa_nil)))
      (pss_cons (ps_set (i := 7) sc_Yard_make_record.nd rfl (by first | exact Or.inl rfl | exact Or.inr rfl) (pe_ifExp (pt_cmpR op_isN (pv 5) pe_non (nomark _)) pe_dnewK (pv 5)))
      (pss_cons (ps_set (i := 8) sc_Yard_make_record.nd rfl (by first | exact Or.inl rfl | exact Or.inr rfl) (pe_callB cr_sortedS (by rfl) T.b_sorted (by decide +kernel) (pa_cons (pe_lock (pe_lc (own := [("key", 9)]) (by rfl) sc_Yard_make_record.nd (pi_keys (pv 7)) (blkOk_by (own := [("key", 9)]) (N := nm_Yard_make_record) (sc := defScope s_Yard_make_record) (by decide +kernel)) (fun _ _ _ _ _ => (pg_name (i := 9) sc_Yard_make_record.nd rfl (by first | exact Or.inl rfl | exact Or.inr rfl))) (fun _ _ _ _ _ => (pts_one pt_never)) (fun _ _ _ _ _ => (pv 9)))) pa_nil)))
      (pss_cons (ps_if (pt_cmpR (op_neD hr.units) (pv 8) (pe_lst pa_nil) (nomark _)) (pss_one ps_never) pss_nil)
      (pss_one (ps_ret (pe_mk T.k_LogRecord T.g_LogRecord c_LogRecord_init (hr.mono (by first | decide | exact Nat.le_refl _)) (by rfl) (pa_cons (pv 1) (pa_cons (pv 6) (pa_cons (pe_mt T.c_Yard T.m_Yard_level_name c_Yard_level_name (hr.mono (by first | decide | exact Nat.le_refl _)) (pv 0) (pa_cons (pv 6) pa_nil)) (pa_cons (pv 3) (pa_cons (pv 4) (pa_cons (pe_fld (pv 0) rfl) (pa_cons (pv 7) pa_nil)))))))))))))), ?_⟩
  -- number = self.level_of(level)
  refine ⟨_, rfl, y, dy, fs, rfl, hy, hlo, _, rfl, y, dy, nu, fs, nums, .int lv, .int lv, rfl, hy, hnu, gnu, rfl, ?_⟩
  -- more = {}
  refine ⟨_, rfl, rfl, _, rfl, iteT' (by rfl) fun m hm => ?_⟩
  have s1 : Same H (upd H m (.dK [])) := same_new hm _
  -- bad = sorted([..])
  refine ⟨m, _, upd_same, trivial, fun od => ?_⟩
  refine ⟨_, rfl, m, od, rfl, .inl ⟨[], upd_same, fun D hD => ?_⟩⟩
  have hD' : upd H m (.dK []) D = none := (upd_none hD).2
  refine lc_it walk_keys (fun i H' => H' = upd (upd (upd H m (.dK [])) m (.frz od (.dK []))) D (.lst [])) rfl (fun i H' _ h => ?_) (fun i x H' H'' hi => nomatch hi) (fun H' h => ?_)
  · subst h; rw [upd_ne (Ne.symm (upd_none hD).1)]; exact upd_same
  subst h
  refine ⟨by rw [upd_ne (Ne.symm (upd_none hD).1)]; exact upd_same, ?_⟩
  rw [unlock upd_same hD]
  have s2 := s1.trans (same_new hD' (.lst []))
  refine ⟨D, [], rfl, SqL.of upd_same, (by decide), fun ys q hp _ hq => ?_⟩
  have e0 : ys = [] := hp.eq_nil
  subst e0
  have s3 := s2.trans (same_new hq (.lst ([].map V.str)))
  -- if bad != []
  refine ⟨_, rfl, (by show 0 ≤ sizeLine; decide), fun q2 hq2 => ?_⟩
  have s4 := s3.trans (same_new hq2 (.lst []))
  refine ⟨_, _, Dp.lst (SqL.of (by rw [upd_ne (ne_of_none upd_same hq2)]; exact upd_same)) .nil, Dp.lst (SqL.of upd_same) .nil, by decide +kernel, by decide +kernel, _, rfl, iteF' (by decide +kernel) ?_⟩
  have m4 : (upd (upd (upd (upd H m (.dK [])) D (.lst [])) q (.lst ([].map V.str))) q2 (.lst [])) m = some (.dK []) := by
    have k1 : upd H m (.dK []) m = some (.dK []) := upd_same
    exact (same_new hq2 _) _ _ ((same_new hq _) _ _ ((same_new hD' _) _ _ k1))
  generalize upd (upd (upd (upd H m (.dK [])) D (.lst [])) q (.lst ([].map V.str))) q2 (.lst []) = H4 at s4 m4
  have hT4 := s4.seqT hT
  have g1 := s4 _ _ hy
  have g2 := s4 _ _ gna
  refine ⟨_, rfl, _, rfl, _, rfl, y, dy, fs, rfl, g1, hln, _, rfl, y, dy, na, fs, nms, lv, rfl, g1, hna, g2, hz, hlv, _, rfl, _, rfl, _, rfl, y, _, dy, fs, _, rfl, g1, T.c_Yard, T.n_Yard_clock, hck, _, rfl, fun x dx hx hdx hne => ?_⟩
  have ea : ∀ o, SqT K (upd (upd H4 dx (.own x)) x o) a [] := fun o => by
    rcases hT4 with (u | ⟨ob, u⟩) | u
    · exact .inl (.inl (by rw [upd_ne (ne_of_none u hx), upd_ne (ne_of_none u hdx)]; exact u))
    · exact .inl (.inr ⟨ob, by rw [upd_ne (ne_of_none u hx), upd_ne (ne_of_none u hdx)]; exact u⟩)
    · exact .inr u
  refine ⟨x, dx, a, m, name, _, msg, lv, clk, rfl, upd_same, ea _, (by rw [upd_ne (ne_of_none m4 hx), upd_ne (ne_of_none m4 hdx)]; exact m4), fun H' g e b5 h5' hg he g0 e0 => ⟨rfl, ?_⟩⟩
  have f0 : ∀ b, upd (upd H4 dx (.own x)) x (.ins (CR K) dx []) b = none → H b = none := fun b hb => s4.free (upd_none (upd_none hb).2).2
  exact hQ H' x g e (s4.trans (made_same hx hdx b5)) (s4.free hx) (f0 _ g0) (f0 _ e0) ⟨dx, h5'⟩ hg he
theorem ok_make_record {f : Addr} (T : Txt P w K mg) (F : Stands K "make_record" "Yard.make_record" s_Yard_make_record [.ref (He.dflAt ("Yard", some "make_record") 0 K), .non] f)
    (c_Yard_level_of : Callable P w K mg base 2 (He.ma K (He.ga K "Yard") "level_of") ["self", "level"] [] (spLevelOf K)) (c_Yard_level_name : Callable P w K mg base 1 (He.ma K (He.ga K "Yard") "level_name") ["self", "level"] [] (spLevelName K))
    (c_LogRecord_init : Callable P w K mg base 2 (He.ma K (He.ga K "LogRecord") "__init__") ["self", "name", "levelno", "levelname", "msg", "args", "created", "extra"] [] (spRecInit K)) :
    Callable P w K mg base 4 f ["self", "name", "level", "msg", "args", "extra"] [] (spMakeRecord K) ∧ Callable P w K mg base 4 f ["self", "name", "level", "msg", "args", "extra"] [.ref (He.dflAt ("Yard", some "make_record") 0 K), .non] (spMakeRecord K) := by
  have len : ∀ vs H Q E, spMakeRecord K vs H Q E → vs.length = 6 := fun vs H Q E h => by
    obtain ⟨y, dy, na, nu, a, fs, nms, nums, name, msg, lv, clk, rfl, _⟩ := h; rfl
  exact ⟨F.call sc_Yard_make_record 6 2 len (fun cdv A outer s H vs Q E hr h => body_make_record T hr h c_Yard_level_of c_Yard_level_name c_LogRecord_init) (fun z => nomatch z) fun _ => ⟨rfl, fun _ _ _ _ _ _ _ us its hl hi => match us, hl, its, hi with | [_, _, _, _, _, _], _, [_, _], _ => ⟨_, rfl, rfl⟩⟩,
   F.call sc_Yard_make_record 4 0 len (fun cdv A outer s H vs Q E hr h => body_make_record T hr h c_Yard_level_of c_Yard_level_name c_LogRecord_init) (fun z => nomatch z) fun _ => ⟨rfl, fun _ _ _ _ _ _ _ us its hl hi => match us, hl, its, hi with | [_, _, _, _], _, [_, _], _ => ⟨_, rfl, rfl⟩⟩⟩
end
end K17

set_option Elab.async false
set_option linter.all false
set_option maxRecDepth 100000
set_option maxHeartbeats 0

namespace K17
open PySem PySem.Spec PyProof.Rows L2 RC
section
variable {P : Program} {w : World} {K : PySem.W.Frag} {mg : Str → Option Value} {base : Heap}
/-! ### a record's message -/
def spMessage (K : PySem.W.Frag) : Sp := fun vs H Q _ => ∃ (r : Addr) (name ln msg : Str) (lv clk : Int), vs = [.ref r] ∧ RecAt K H r name lv ln msg clk ∧ ∀ H', Same H H' → Q (.str msg) H'
theorem ok_message {f : Addr} (T : Txt P w K mg) (F : Stands K "message" "LogRecord.message" s_LogRecord_message [] f) : Callable P w K mg base 1 f ["self"] [] (spMessage K) := by
  refine F.call0 sc_LogRecord_message (fun vs H Q E h => ?_) (fun cdv A outer s H vs Q E hr h => ?_) (fun _ _ _ _ _ _ us hl => match us, hl with | [_], _ => rfl)
  · obtain ⟨r, name, ln, msg, lv, clk, rfl, _⟩ := h; rfl
  obtain ⟨r, name, ln, msg, lv, clk, rfl, ⟨dx, g, e, hr1, hg, he⟩, hQ⟩ := h
  refine ⟨_, (pss_one (ps_ret (pe_ifExp (pt_cmpR (op_eqD hr.units) (pe_fld (pv 0) rfl) (pe_tup pa_nil) (nomark _)) (pe_fld (pv 0) rfl) pe_never))), ?_⟩
  walk_at "in"
  walk_at "go"
  intro p fp
  have hg2 := same_new fp (.tup []) _ _ hg
  have hr2 := same_new fp (.tup []) _ _ hr1
  refine ⟨_, _, Dp.tup (SqT.of hg2) .nil, Dp.tup (SqT.of upd_same) .nil, by decide +kernel, by decide +kernel, true, rfl, iteT ?_⟩
  walk_at "go"
  exact hQ _ (same_new fp _)
def spFormattedS (K : PySem.W.Frag) : Sp := fun vs H Q _ => ∃ (h dh r : Addr) (fs : List (Str × V)) (name ln msg : Str) (lv clk : Int), vs = [.ref h, .ref r] ∧ H h = some (.ins (CS K) dh fs) ∧ fs.lookup ("formatter" : Str) = some .non ∧ RecAt K H r name lv ln msg clk ∧ ∀ H', Same H H' → Q (.str msg) H'
theorem ok_formattedS {f : Addr} (T : Txt P w K mg) (F : Stands K "formatted" "Handler.formatted" s_Handler_formatted [] f) (c_LogRecord_message : Callable P w K mg base 1 (He.ma K (He.ga K "LogRecord") "message") ["self"] [] (spMessage K)) : Callable P w K mg base 2 f ["self", "record"] [] (spFormattedS K) := by
  refine F.call0 sc_Handler_formatted (fun vs H Q E h => ?_) (fun cdv A outer s H vs Q E hr h => ?_) (fun _ _ _ _ _ _ us hl => match us, hl with | [_, _], _ => rfl)
  · obtain ⟨h, dh, r, fs, name, ln, msg, lv, clk, rfl, _⟩ := h; rfl
  obtain ⟨h, dh, r, fs, name, ln, msg, lv, clk, rfl, hh, hf, hR, hQ⟩ := h
  obtain ⟨dx, g, e, hr1, hg, he⟩ := id hR
  refine ⟨_, (pss_one (ps_ret (pe_ifExp (pt_cmpR op_isN (pe_fld (pv 0) rfl) pe_non (nomark _)) (pe_mt0 T.c_LogRecord T.m_LogRecord_message c_LogRecord_message (hr.mono (by first | decide | exact Nat.le_refl _)) (pv 1)) pe_never))), ?_⟩
  walk_at "in"
  walk_at "go"
  exact hQ
def spTextOfS (K : PySem.W.Frag) : Sp := fun vs H Q _ => ∃ (h dh r : Addr) (fs : List (Str × V)) (name ln msg : Str) (lv clk : Int), vs = [.ref h, .ref r] ∧ H h = some (.ins (CS K) dh fs) ∧ fs.lookup ("formatter" : Str) = some .non ∧ fs.lookup ("formatted" : Str) = none ∧ RecAt K H r name lv ln msg clk ∧ ∀ H', Same H H' → Q (.str msg) H'
theorem ok_text_ofS {f : Addr} (T : Txt P w K mg) (F : Stands K "text_of" "Handler.text_of" s_Handler_text_of [] f) (c_StreamHandler_formatted : Callable P w K mg base 2 (He.ma K (He.ga K "StreamHandler") "formatted") ["self", "record"] [] (spFormattedS K)) : Callable P w K mg base 3 f ["self", "record"] [] (spTextOfS K) := by
  refine F.call0 sc_Handler_text_of (fun vs H Q E h => ?_) (fun cdv A outer s H vs Q E hr h => ?_) (fun _ _ _ _ _ _ us hl => match us, hl with | [_, _], _ => rfl)
  · obtain ⟨h, dh, r, fs, name, ln, msg, lv, clk, rfl, _⟩ := h; rfl
  obtain ⟨h, dh, r, fs, name, ln, msg, lv, clk, rfl, hh, hf, hf2, hR, hQ⟩ := h
  refine ⟨_, (pss_cons (ps_set (i := 2) sc_Handler_text_of.nd rfl (by first | exact Or.inl rfl | exact Or.inr rfl) pe_non)
      (pss_cons (ps_try_many rfl rfl takes_none5 (fun W pn xe tk _ => (pss_one (ps_set (i := 2) sc_Handler_text_of.nd rfl (by first | exact Or.inl rfl | exact Or.inr rfl) (pe_mt T.c_StreamHandler T.m_StreamHandler_formatted c_StreamHandler_formatted (hr.mono (by first | decide | exact Nat.le_refl _)) (pv 0) (pa_cons (pv 1) pa_nil))))) (HdsOk.cons ⟨by rfl, by decide, .inl T.g_BadMessage⟩ (fun a oe cls d pn _ _ => (pss_one ps_never)) (HdsOk.cons ⟨by rfl, by decide, .inl T.g_BadField⟩ (fun a oe cls d pn _ _ => (pss_one ps_never)) HdsOk.nil)))
      (pss_one (ps_ret (pv 2))))), ?_⟩
  walk_at "in"
  walk_at "go"
  intro H1 s1
  walk_at "go"
  exact hQ _ s1
def spFormattedF (K : PySem.W.Frag) : Sp := fun vs H Q _ => ∃ (h dh r : Addr) (fs : List (Str × V)) (name ln msg : Str) (lv clk : Int), vs = [.ref h, .ref r] ∧ H h = some (.ins (CH K) dh fs) ∧ fs.lookup ("formatter" : Str) = some .non ∧ RecAt K H r name lv ln msg clk ∧ ∀ H', Same H H' → Q (.str msg) H'
theorem ok_formattedF {f : Addr} (T : Txt P w K mg) (F : Stands K "formatted" "Handler.formatted" s_Handler_formatted [] f) (c_LogRecord_message : Callable P w K mg base 1 (He.ma K (He.ga K "LogRecord") "message") ["self"] [] (spMessage K)) : Callable P w K mg base 2 f ["self", "record"] [] (spFormattedF K) := by
  refine F.call0 sc_Handler_formatted (fun vs H Q E h => ?_) (fun cdv A outer s H vs Q E hr h => ?_) (fun _ _ _ _ _ _ us hl => match us, hl with | [_, _], _ => rfl)
  · obtain ⟨h, dh, r, fs, name, ln, msg, lv, clk, rfl, _⟩ := h; rfl
  obtain ⟨h, dh, r, fs, name, ln, msg, lv, clk, rfl, hh, hf, hR, hQ⟩ := h
  obtain ⟨dx, g, e, hr1, hg, he⟩ := id hR
  refine ⟨_, (pss_one (ps_ret (pe_ifExp (pt_cmpR op_isN (pe_fld (pv 0) rfl) pe_non (nomark _)) (pe_mt0 T.c_LogRecord T.m_LogRecord_message c_LogRecord_message (hr.mono (by first | decide | exact Nat.le_refl _)) (pv 1)) pe_never))), ?_⟩
  walk_at "in"
  walk_at "go"
  exact hQ
def spTextOfF (K : PySem.W.Frag) : Sp := fun vs H Q _ => ∃ (h dh r : Addr) (fs : List (Str × V)) (name ln msg : Str) (lv clk : Int), vs = [.ref h, .ref r] ∧ H h = some (.ins (CH K) dh fs) ∧ fs.lookup ("formatter" : Str) = some .non ∧ fs.lookup ("formatted" : Str) = none ∧ RecAt K H r name lv ln msg clk ∧ ∀ H', Same H H' → Q (.str msg) H'
theorem ok_text_ofF {f : Addr} (T : Txt P w K mg) (F : Stands K "text_of" "Handler.text_of" s_Handler_text_of [] f) (c_FileHandler_formatted : Callable P w K mg base 2 (He.ma K (He.ga K "FileHandler") "formatted") ["self", "record"] [] (spFormattedF K)) : Callable P w K mg base 3 f ["self", "record"] [] (spTextOfF K) := by
  refine F.call0 sc_Handler_text_of (fun vs H Q E h => ?_) (fun cdv A outer s H vs Q E hr h => ?_) (fun _ _ _ _ _ _ us hl => match us, hl with | [_, _], _ => rfl)
  · obtain ⟨h, dh, r, fs, name, ln, msg, lv, clk, rfl, _⟩ := h; rfl
  obtain ⟨h, dh, r, fs, name, ln, msg, lv, clk, rfl, hh, hf, hf2, hR, hQ⟩ := h
  refine ⟨_, (pss_cons (ps_set (i := 2) sc_Handler_text_of.nd rfl (by first | exact Or.inl rfl | exact Or.inr rfl) pe_non)
      (pss_cons (ps_try_many rfl rfl takes_none5 (fun W pn xe tk _ => (pss_one (ps_set (i := 2) sc_Handler_text_of.nd rfl (by first | exact Or.inl rfl | exact Or.inr rfl) (pe_mt T.c_FileHandler T.m_FileHandler_formatted c_FileHandler_formatted (hr.mono (by first | decide | exact Nat.le_refl _)) (pv 0) (pa_cons (pv 1) pa_nil))))) (HdsOk.cons ⟨by rfl, by decide, .inl T.g_BadMessage⟩ (fun a oe cls d pn _ _ => (pss_one ps_never)) (HdsOk.cons ⟨by rfl, by decide, .inl T.g_BadField⟩ (fun a oe cls d pn _ _ => (pss_one ps_never)) HdsOk.nil)))
      (pss_one (ps_ret (pv 2))))), ?_⟩
  walk_at "in"
  walk_at "go"
  intro H1 s1
  walk_at "go"
  exact hQ _ s1
end
end K17

set_option Elab.async false
set_option linter.all false
set_option maxRecDepth 100000
set_option maxHeartbeats 0

namespace K17
open PySem PySem.Spec PyProof.Rows L2 RC
section
variable {P : Program} {w : World} {K : PySem.W.Frag} {mg : Str → Option Value} {base : Heap}
/-! ### handlers at work -/
section
variable {s : YS} {ad : Ro → Addr} {H : Hp}
def YS.setTm (s : YS) (j : Nat) (z : Str) : YS := { s with tm := fun i => if i = j then z else s.tm i }
def YS.open_ (s : YS) : YS := { s with op := true }
theorem _root_.RR.Rep.setTm (R : YR K s ad H) {j : Nat} (hj : j < 4) (z : Str) {o : HO} (ho : hdO K (s.setTm j z) ad j = some o) : YR K (s.setTm j z) ad (upd H (ad (.h j)) o) ∧ YM K s ad H (s.setTm j z) ad (upd H (ad (.h j)) o) := by
  have h0 : ∃ o0, hdO K s ad j = some o0 := by
    unfold hdO
    by_cases c : j < 3
    · rw [if_pos c]; exact ⟨_, rfl⟩
    · rw [if_neg c, if_pos (by omega)]; exact ⟨_, rfl⟩
  obtain ⟨o0, h0⟩ := h0
  refine RR.Rep.set (M' := Y1 K (s.setTm j z) ad) R (.h j) h0 ho fun r hr => ?_
  cases r with
  | h i =>
    have c : i ≠ j := fun e => hr (by rw [e])
    show hdO K (s.setTm j z) ad i = hdO K s ad i
    unfold hdO
    have e1 : (s.setTm j z).tm i = s.tm i := if_neg c
    by_cases d : i < 3
    · rw [if_pos d, if_pos d, e1]
    · rw [if_neg d, if_neg d]
      by_cases d2 : i = 3
      · subst d2
        rw [if_pos rfl, if_pos rfl, e1]; rfl
      · rw [if_neg d2, if_neg d2]
  | _ => rfl
theorem _root_.RR.Rep.open_ (R : YR K s ad H) {o : HO} (ho : o = .ins (CH K) (ad (.hx 3)) (hdL (ad (.fl 3)) (ad .y) (s.tm 3) true)) : YR K s.open_ ad (upd H (ad (.h 3)) o) ∧ YM K s ad H s.open_ ad (upd H (ad (.h 3)) o) := by
  subst ho
  refine RR.Rep.set (M' := Y1 K s.open_ ad) R (.h 3) rfl rfl fun r hr => ?_
  cases r with
  | h i =>
    have c : i ≠ 3 := fun e => hr (by rw [e])
    show hdO K s.open_ ad i = hdO K s ad i
    unfold hdO
    by_cases d : i < 3
    · rw [if_pos d, if_pos d]; rfl
    · rw [if_neg d, if_neg d, if_neg c, if_neg c]
  | _ => rfl
end
theorem put_put (k a b : Str) (fs : List (Str × Str)) : putS (putS fs k a) k b = putS fs k b := by
  have h1 : (putS fs k a).any (fun e => decide (e.1 = k)) = true := by
    rw [lk_any, lookup_putS, if_pos rfl]; rfl
  unfold putS at h1 ⊢
  rw [if_pos h1]
  by_cases c : fs.any (fun e => decide (e.1 = k)) = true
  · rw [if_pos c, if_pos c, List.map_map]
    refine List.map_congr_left fun e _ => ?_
    show (if (if e.1 = k then (e.1, a) else e).1 = k then ((if e.1 = k then (e.1, a) else e).1, b) else (if e.1 = k then (e.1, a) else e)) = _
    by_cases d : e.1 = k
    · rw [if_pos d, if_pos d, if_pos d]
    · rw [if_neg d, if_neg d]
  · rw [if_neg c, if_neg c, List.map_append]
    congr 1
    · conv => rhs; rw [← List.map_id fs]
      refine List.map_congr_left fun e he => ?_
      rw [if_neg (fun z => c (List.any_eq_true.mpr ⟨e, he, decide_eq_true z⟩))]; rfl
    · show [if k = k then (k, b) else (k, a)] = [(k, b)]
      rw [if_pos rfl]
/-- a record came to the file -/
structure Wrote (s : YS) (t : Str) (s' : YS) : Prop where
  now : s'.now = s.now
  files : s'.files = putS s.files "f" (txt s.files "f" ++ t)
  texts : s'.texts = s.texts
  tm : s'.tm = s.tm
  lnow : s'.lnow = s.lnow
  lfiles : s'.lfiles = s.lfiles
  ltexts : s'.ltexts = s.ltexts
def spSetTerm (K : PySem.W.Frag) (file : Bool) : Sp := fun vs H Q _ => ∃ (s : YS) (ad : Ro → Addr) (j : Nat) (z : Str), vs = [.ref (ad (.h j)), .str z] ∧ YR K s ad H ∧ (file = true → j = 3) ∧ (file = false → j < 3) ∧ ∀ H', YR K (s.setTm j z) ad H' → YM K s ad H (s.setTm j z) ad H' → Q .non H'
theorem ok_set_termS {f : Addr} (T : Txt P w K mg) (F : Stands K "setTerminator" "Handler.setTerminator" s_Handler_setTerminator [] f) : Callable P w K mg base 1 f ["self", "text"] [] (spSetTerm K false) := by
  refine F.call0 sc_Handler_setTerminator (fun vs H Q E h => ?_) (fun cdv A outer s0 H vs Q E hr h => ?_) (fun _ _ _ _ _ _ us hl => match us, hl with | [_, _], _ => rfl)
  · obtain ⟨s, ad, j, z, rfl, _⟩ := h; rfl
  obtain ⟨s, ad, j, z, rfl, R, _, hj, hQ⟩ := h
  refine ⟨_, (pss_one (ps_fld (pv 0) (pv 1) rfl)), ?_⟩
  walk_at "in"
  have hh := R.hs_ (hj rfl)
  have j3 := hj rfl
  obtain ⟨R1, M1⟩ := R.setTm (j := j) (by omega) z (o := .ins (CS K) (ad (.hx j)) (hdS (ad (.fl j)) (ad .y) z (stn j))) (by
    show (if j < 3 then some (HO.ins (CS K) (ad (.hx j)) (hdS (ad (.fl j)) (ad .y) (if j = j then z else s.tm j) (stn j))) else _) = _
    rw [if_pos j3, if_pos rfl])
  walk_at "go"
  exact hQ _ R1 M1
theorem ok_set_termF {f : Addr} (T : Txt P w K mg) (F : Stands K "setTerminator" "Handler.setTerminator" s_Handler_setTerminator [] f) : Callable P w K mg base 1 f ["self", "text"] [] (spSetTerm K true) := by
  refine F.call0 sc_Handler_setTerminator (fun vs H Q E h => ?_) (fun cdv A outer s0 H vs Q E hr h => ?_) (fun _ _ _ _ _ _ us hl => match us, hl with | [_, _], _ => rfl)
  · obtain ⟨s, ad, j, z, rfl, _⟩ := h; rfl
  obtain ⟨s, ad, j, z, rfl, R, hj, _, hQ⟩ := h
  obtain rfl := hj rfl
  refine ⟨_, (pss_one (ps_fld (pv 0) (pv 1) rfl)), ?_⟩
  walk_at "in"
  have hh := R.hf_
  obtain ⟨R1, M1⟩ := R.setTm (j := 3) (by omega) z (o := .ins (CH K) (ad (.hx 3)) (hdL (ad (.fl 3)) (ad .y) z s.op)) rfl
  walk_at "go"
  exact hQ _ R1 M1
def spEmitS (K : PySem.W.Frag) : Sp := fun vs H Q _ => ∃ (s : YS) (ad : Ro → Addr) (j : Nat) (r : Addr) (rl clk : Int) (name ln msg : Str), vs = [.ref (ad (.h j)), .ref r] ∧ YR K s ad H ∧ j < 3 ∧ RecAt K H r name rl ln msg clk ∧ Cap s.texts 7000000 ∧ msg.length ≤ 1000 ∧ (s.tm j).length ≤ 100 ∧
  ∀ H', YR K (s.say (stn j) (msg ++ s.tm j)) ad H' → YM K s ad H (s.say (stn j) (msg ++ s.tm j)) ad H' → Q .non H'
theorem ok_emitS {f : Addr} (T : Txt P w K mg) (F : Stands K "emit" "StreamHandler.emit" s_StreamHandler_emit [] f) (c_StreamHandler_text_of : Callable P w K mg base 3 (He.ma K (He.ga K "StreamHandler") "text_of") ["self", "record"] [] (spTextOfS K))
    (c_Yard_write_stream : Callable P w K mg base 2 (He.ma K (He.ga K "Yard") "write_stream") ["self", "name", "text"] [] (spWrite K)) : Callable P w K mg base 4 f ["self", "record"] [] (spEmitS K) := by
  refine F.call0 sc_StreamHandler_emit (fun vs H Q E h => ?_) (fun cdv A outer s0 H vs Q E hr h => ?_) (fun _ _ _ _ _ _ us hl => match us, hl with | [_, _], _ => rfl)
  · obtain ⟨s, ad, j, r, rl, clk, name, ln, msg, rfl, _⟩ := h; rfl
  obtain ⟨s, ad, j, r, rl, clk, name, ln, msg, rfl, R, hj, hR, hc, hm, ht, hQ⟩ := h
  refine ⟨_, (pss_cons (ps_set (i := 2) sc_StreamHandler_emit.nd rfl (by first | exact Or.inl rfl | exact Or.inr rfl) (pe_mt T.c_StreamHandler T.m_StreamHandler_text_of c_StreamHandler_text_of (hr.mono (by first | decide | exact Nat.le_refl _)) (pv 0) (pa_cons (pv 1) pa_nil)))
      (pss_one (ps_if (pt_cmpR op_notN (pv 2) pe_non (nomark _)) (pss_one (ps_expr (pe_mt T.c_Yard T.m_Yard_write_stream c_Yard_write_stream (hr.mono (by first | decide | exact Nat.le_refl _)) (pe_fld (pv 0) rfl) (pa_cons (pe_fld (pv 0) rfl) (pa_cons (pe_op op_add_str (pv 2) (pe_fld (pv 0) rfl)) pa_nil))))) pss_nil))), ?_⟩
  walk_at "in"
  have ha := R.hs_ hj
  walk_at "go"
  intro H1 s1
  have R1 := R.same s1
  have hy := R1.y_
  have ha1 := s1 _ _ ha
  have hc2 : Cap s.texts 8000000 := ⟨Nat.le_trans hc.1 (by decide), fun e he => Nat.le_trans (hc.2 e he) (by decide)⟩
  have hl : (msg ++ s.tm j).length ≤ 8000000 := by rw [len_app]; omega
  have hl2 : msg.length + (s.tm j).length ≤ sizeLine := by rw [sizeLine_eq]; omega
  walk_at "go"
  intro H2 R2 M2
  exact hQ _ R2 (M2.sameL s1)
def spOpen (K : PySem.W.Frag) : Sp := fun vs H Q _ => ∃ (s : YS) (ad : Ro → Addr), vs = [.ref (ad (.h 3))] ∧ YR K s ad H ∧ s.files.length ≤ 1000 ∧
  (∀ ad' H' s', YR K s' ad' H' → YM K s ad H s' ad' H' → Fx ad ad' → (s' = s.open_ ∧ (s.files.lookup ("f" : Str)).isSome = true ∨ s' = (s.put "f" "").open_ ∧ s.files.lookup ("f" : Str) = none) → Q .non H')
theorem ok_open {f : Addr} (T : Txt P w K mg) (F : Stands K "open_file" "FileHandler.open_file" s_FileHandler_open_file [] f) (c_Yard_has_file : Callable P w K mg base 1 (He.ma K (He.ga K "Yard") "has_file") ["self", "name"] [] (spHas K))
    (c_Yard_make_file : Callable P w K mg base 2 (He.ma K (He.ga K "Yard") "make_file") ["self", "name"] [] (spMakeF K)) : Callable P w K mg base 3 f ["self"] [] (spOpen K) := by
  refine F.call0 sc_FileHandler_open_file (fun vs H Q E h => ?_) (fun cdv A outer s0 H vs Q E hr h => ?_) (fun _ _ _ _ _ _ us hl => match us, hl with | [_], _ => rfl)
  · obtain ⟨s, ad, rfl, _⟩ := h; rfl
  obtain ⟨s, ad, rfl, R, hl, hQ⟩ := h
  refine ⟨_, (pss_cons (ps_if (PW.pt (pw_or (pt_cmpR op_eq (pe_fld (pv 0) rfl) pe_str (nomark _)) (pw_or1 (pt_not (pt_val (pe_mt T.c_Yard T.m_Yard_has_file c_Yard_has_file (hr.mono (by first | decide | exact Nat.le_refl _)) (pe_fld (pv 0) rfl) (pa_cons (pe_fld (pv 0) rfl) pa_nil))))))) (pss_one (ps_expr (pe_mt T.c_Yard T.m_Yard_make_file c_Yard_make_file (hr.mono (by first | decide | exact Nat.le_refl _)) (pe_fld (pv 0) rfl) (pa_cons (pe_fld (pv 0) rfl) pa_nil)))) pss_nil)
      (pss_one (ps_fld (pv 0) pe_bl rfl))), ?_⟩
  walk_at "in"
  have ha := R.hf_
  have hy := R.y_
  walk_at "go"
  cases e : s.files.lookup ("f" : Str) with
  | some u =>
    refine iteF' rfl ?_
    obtain ⟨R1, M1⟩ := R.open_ rfl
    walk_at "go"
    exact hQ ad _ _ R1 M1 (Fx.refl _) (.inl ⟨rfl, by first | rfl | (rw [e]; rfl)⟩)
  | none =>
    refine iteT' rfl ?_
    walk_at "go"
    intro ad' H' R' M' X'
    have e3 : ad' (.h 3) = ad (.h 3) := X' _ fun _ h => nomatch h
    have ha' := R'.hf_
    obtain ⟨R1, M1⟩ := R'.open_ rfl
    rw [e3] at ha' R1 M1
    walk_at "go"
    exact hQ ad' _ _ R1 (M'.trans M1) X' (.inr ⟨rfl, e⟩)
/-- a record apart from the yard -/
def RecW (K : PySem.W.Frag) (s : YS) (ad : Ro → Addr) (H : Hp) (r : Addr) (name : Str) (lv : Int) (ln msg : Str) (clk : Int) : Prop :=
  ∃ dx g e, H r = some (.ins (CR K) dx (recF name lv ln msg g clk e)) ∧ H g = some (.tup []) ∧ H e = some (.dK []) ∧ RR.Out (Y1 K s ad) ad r ∧ RR.Out (Y1 K s ad) ad g ∧ RR.Out (Y1 K s ad) ad e
theorem RecW.at {s : YS} {ad : Ro → Addr} {H : Hp} {r : Addr} {name ln msg : Str} {lv clk : Int} (h : RecW K s ad H r name lv ln msg clk) : RecAt K H r name lv ln msg clk := by
  obtain ⟨dx, g, e, h1, h2, h3, _⟩ := h
  exact ⟨dx, g, e, h1, h2, h3⟩
theorem RecW.mv {s s' : YS} {ad ad' : Ro → Addr} {H H' : Hp} {r : Addr} {name ln msg : Str} {lv clk : Int} (h : RecW K s ad H r name lv ln msg clk) (M : YM K s ad H s' ad' H') : RecW K s' ad' H' r name lv ln msg clk := by
  obtain ⟨dx, g, e, h1, h2, h3, h4, h5, h6⟩ := h
  exact ⟨dx, g, e, M.keep _ _ h4 h1, M.keep _ _ h5 h2, M.keep _ _ h6 h3, M.out h4 h1, M.out h5 h2, M.out h6 h3⟩
def spEmitF (K : PySem.W.Frag) : Sp := fun vs H Q _ => ∃ (s : YS) (ad : Ro → Addr) (r : Addr) (rl clk : Int) (name ln msg : Str), vs = [.ref (ad (.h 3)), .ref r] ∧ YR K s ad H ∧ RecW K s ad H r name rl ln msg clk ∧ Cap s.files 900 ∧ msg.length ≤ 1000 ∧ (s.tm 3).length ≤ 100 ∧
  ∀ ad' H' s', YR K s' ad' H' → YM K s ad H s' ad' H' → Fx ad ad' → Wrote s (msg ++ s.tm 3) s' → Q .non H'
theorem ok_emitF {f : Addr} (T : Txt P w K mg) (F : Stands K "emit" "FileHandler.emit" s_FileHandler_emit [] f) (c_FileHandler_text_of : Callable P w K mg base 3 (He.ma K (He.ga K "FileHandler") "text_of") ["self", "record"] [] (spTextOfF K))
    (c_FileHandler_open_file : Callable P w K mg base 3 (He.ma K (He.ga K "FileHandler") "open_file") ["self"] [] (spOpen K)) (c_Yard_write_file : Callable P w K mg base 2 (He.ma K (He.ga K "Yard") "write_file") ["self", "name", "text"] [] (spWriteF K)) : Callable P w K mg base 4 f ["self", "record"] [] (spEmitF K) := by
  refine F.call0 sc_FileHandler_emit (fun vs H Q E h => ?_) (fun cdv A outer s0 H vs Q E hr h => ?_) (fun _ _ _ _ _ _ us hl => match us, hl with | [_, _], _ => rfl)
  · obtain ⟨s, ad, r, rl, clk, name, ln, msg, rfl, _⟩ := h; rfl
  obtain ⟨s, ad, r, rl, clk, name, ln, msg, rfl, R, hRw, hc, hm, ht, hQ⟩ := h
  refine ⟨_, (pss_cons (ps_if (PW.pt (pw_and (pt_not (pt_val (pe_fld (pv 0) rfl))) (pw_and1 (pt_val (pe_fld (pv 0) rfl))))) (pss_one ps_retN) pss_nil)
      (pss_cons (ps_if (pt_not (pt_val (pe_fld (pv 0) rfl))) (pss_one (ps_expr (pe_mt0 T.c_FileHandler T.m_FileHandler_open_file c_FileHandler_open_file (hr.mono (by first | decide | exact Nat.le_refl _)) (pv 0)))) pss_nil)
      (pss_cons (ps_set (i := 2) sc_FileHandler_emit.nd rfl (by first | exact Or.inl rfl | exact Or.inr rfl) (pe_mt T.c_FileHandler T.m_FileHandler_text_of c_FileHandler_text_of (hr.mono (by first | decide | exact Nat.le_refl _)) (pv 0) (pa_cons (pv 1) pa_nil)))
      (pss_one (ps_if (pt_cmpR op_notN (pv 2) pe_non (nomark _)) (pss_one (ps_expr (pe_mt T.c_Yard T.m_Yard_write_file c_Yard_write_file (hr.mono (by first | decide | exact Nat.le_refl _)) (pe_fld (pv 0) rfl) (pa_cons (pe_fld (pv 0) rfl) (pa_cons (pe_op op_add_str (pv 2) (pe_fld (pv 0) rfl)) pa_nil))))) pss_nil))))), ?_⟩
  walk_at "in"
  have ha := R.hf_
  have hl2 : msg.length + (s.tm 3).length ≤ sizeLine := by rw [sizeLine_eq]; omega
  -- the file is open
  refine seq_of (fun σ' H1 => σ' = L2.start nm_FileHandler_emit [.ref (ad (.h 3)), .ref r] ∧ H = H1) (fun b' kb => ?_) (fun σ' H1 hm => ?_)
  · cases e : s.op with
    | true =>
      rw [e] at ha
      walk_at "go"
      exact kb _ _ ⟨rfl, rfl⟩
    | false =>
      rw [e] at ha
      walk_at "go"
      exact kb _ _ ⟨rfl, rfl⟩
  obtain ⟨rfl, rfl⟩ := hm
  refine seq_of (fun σ' H1 => σ' = L2.start nm_FileHandler_emit [.ref (ad (.h 3)), .ref r] ∧ ∃ ad' s', YR K s' ad' H1 ∧ YM K s ad H s' ad' H1 ∧ Fx ad ad' ∧ (s' = s ∨ (s' = s.open_ ∧ (s.files.lookup ("f" : Str)).isSome = true ∨ s' = (s.put "f" "").open_ ∧ s.files.lookup ("f" : Str) = none))) (fun b' kb => ?_) (fun σ' H1 hm => ?_)
  · cases e : s.op with
    | true =>
      rw [e] at ha
      walk_at "go"
      exact kb _ _ ⟨rfl, ad, s, R, RR.Mv.refl _, Fx.refl _, .inl rfl⟩
    | false =>
      rw [e] at ha
      have hfl : s.files.length ≤ 1000 := Nat.le_trans hc.1 (by decide)
      walk_at "go"
      intro ad' H' s' R' M' X' h'
      exact kb _ _ ⟨rfl, ad', s', R', M', X', .inr h'⟩
  obtain ⟨rfl, ad1, s1, R1, M1, X1, h1⟩ := hm
  have hp : s1.now = s.now ∧ s1.texts = s.texts ∧ s1.tm = s.tm ∧ s1.lnow = s.lnow ∧ s1.lfiles = s.lfiles ∧ s1.ltexts = s.ltexts ∧ txt s1.files "f" = txt s.files "f" ∧ s1.files.length ≤ 901 ∧ ∀ x, putS s1.files "f" x = putS s.files "f" x := by
    rcases h1 with rfl | ⟨rfl, _⟩ | ⟨rfl, h⟩
    · exact ⟨rfl, rfl, rfl, rfl, rfl, rfl, rfl, Nat.le_succ_of_le hc.1, fun _ => rfl⟩
    · exact ⟨rfl, rfl, rfl, rfl, rfl, rfl, rfl, Nat.le_succ_of_le hc.1, fun _ => rfl⟩
    · refine ⟨rfl, rfl, rfl, rfl, rfl, rfl, ?_, ?_, fun x => put_put _ _ _ _⟩
      · show ((putS s.files "f" "").lookup ("f" : Str)).getD "" = ((s.files.lookup ("f" : Str)).getD "")
        rw [lookup_putS, if_pos rfl, h]; rfl
      · exact Nat.le_trans (putS_length _ _ _) (Nat.succ_le_succ hc.1)
  obtain ⟨p1, p2, p3, p4, p5, p6, p7, p8, p9⟩ := hp
  have hR1 : RecAt K H1 r name rl ln msg clk := (hRw.mv M1).at
  have e3 : ad1 (.h 3) = ad (.h 3) := X1 _ fun _ h => nomatch h
  have ha1 := R1.hf_
  rw [e3, p3] at ha1
  clear h1 ha
  have l1 : (txt s1.files "f").length ≤ 8000000 := by rw [p7]; exact Nat.le_trans (txt_cap hc "f") (by decide)
  have l2 : (msg ++ s.tm 3).length ≤ 1000000 := by rw [len_app]; omega
  have l3 : s1.files.length ≤ 1000 := by omega
  walk_at "go"
  intro H2 s2
  have R2 := R1.same s2
  have hy2 := R2.y_
  have ha2 := s2 _ _ ha1
  clear R1 ha1 hR1
  walk_at "go"
  intro ad2 H3 R3 M3 X3
  exact hQ ad2 H3 _ R3 (M1.trans (M3.sameL s2)) (X1.trans X3) ⟨p1, by rw [← p7]; exact p9 _, p2, p3, p4, p5, p6⟩
def spFiltered0 (K : PySem.W.Frag) : Sp := fun vs H Q _ => ∃ (p C dx l r : Addr) (fs : List (Str × V)), vs = [.ref p, .ref r] ∧ H p = some (.ins C dx fs) ∧ Cls K C ∧ NoAttr K C "filters" ∧ fs.lookup ("filters" : Str) = some (.ref l) ∧ H l = some (.lst []) ∧ Q (.ref r) H
theorem ok_filtered0 {f : Addr} (T : Txt P w K mg) (F : Stands K "filtered" "Filterer.filtered" s_Filterer_filtered [] f) : Callable P w K mg base 1 f ["self", "record"] [] (spFiltered0 K) := by
  refine F.call0 sc_Filterer_filtered (fun vs H Q E h => ?_) (fun cdv A outer s0 H vs Q E hr h => ?_) (fun _ _ _ _ _ _ us hl => match us, hl with | [_, _], _ => rfl)
  · obtain ⟨p, C, dx, l, r, fs, rfl, _⟩ := h; rfl
  obtain ⟨p, C, dx, l, r, fs, rfl, hp, c, n, hf, hl, hQ⟩ := h
  refine ⟨_, (pss_cons (ps_set (i := 2) sc_Filterer_filtered.nd rfl (by first | exact Or.inl rfl | exact Or.inr rfl) (pv 1))
      (pss_cons (ps_for PassesOwn.never rfl (pi_list (pe_fld (pv 0) rfl)) (pg_name (i := 3) sc_Filterer_filtered.nd rfl (by first | exact Or.inl rfl | exact Or.inr rfl)) (pss_cons (ps_set (i := 2) sc_Filterer_filtered.nd rfl (by first | exact Or.inl rfl | exact Or.inr rfl) pe_never)
      (pss_one (ps_if (pt_cmpR op_isN (pv 2) pe_non (nomark _)) (pss_one (ps_ret pe_non)) pss_nil))))
      (pss_one (ps_ret (pv 2))))), ?_⟩
  walk_at "in"
  walk_at "go"
  refine for_list (xs := []) (fun i σ H' => H' = H ∧ σ = [some (.ref p), some (.ref r), some (.ref r), none]) ⟨rfl, rfl⟩ (fun i σ H' _ h => by rw [h.1]; exact SqL.of hl) (fun i x σ H' hx h => nomatch hx) (fun σ H' h => ?_)
  obtain ⟨rfl, rfl⟩ := h
  walk_at "go"
  exact hQ
def spHandleS (K : PySem.W.Frag) : Sp := fun vs H Q _ => ∃ (s : YS) (ad : Ro → Addr) (j : Nat) (r : Addr) (rl clk : Int) (name ln msg : Str), vs = [.ref (ad (.h j)), .ref r] ∧ YR K s ad H ∧ j < 3 ∧ RecAt K H r name rl ln msg clk ∧ Cap s.texts 7000000 ∧ msg.length ≤ 1000 ∧ (s.tm j).length ≤ 100 ∧
  ∀ H', YR K (s.say (stn j) (msg ++ s.tm j)) ad H' → YM K s ad H (s.say (stn j) (msg ++ s.tm j)) ad H' → Q (.bl true) H'
theorem ok_handleS {f : Addr} (T : Txt P w K mg) (F : Stands K "handle" "Handler.handle" s_Handler_handle [] f) (c_StreamHandler_filtered : Callable P w K mg base 1 (He.ma K (He.ga K "StreamHandler") "filtered") ["self", "record"] [] (spFiltered0 K))
    (c_StreamHandler_emit : Callable P w K mg base 4 (He.ma K (He.ga K "StreamHandler") "emit") ["self", "record"] [] (spEmitS K)) : Callable P w K mg base 5 f ["self", "record"] [] (spHandleS K) := by
  refine F.call0 sc_Handler_handle (fun vs H Q E h => ?_) (fun cdv A outer s0 H vs Q E hr h => ?_) (fun _ _ _ _ _ _ us hl => match us, hl with | [_, _], _ => rfl)
  · obtain ⟨s, ad, j, r, rl, clk, name, ln, msg, rfl, _⟩ := h; rfl
  obtain ⟨s, ad, j, r, rl, clk, name, ln, msg, rfl, R, hj, hR, hc, hm, ht, hQ⟩ := h
  refine ⟨_, (pss_cons (ps_set (i := 2) sc_Handler_handle.nd rfl (by first | exact Or.inl rfl | exact Or.inr rfl) (pe_mt T.c_StreamHandler T.m_StreamHandler_filtered c_StreamHandler_filtered (hr.mono (by first | decide | exact Nat.le_refl _)) (pv 0) (pa_cons (pv 1) pa_nil)))
      (pss_cons (ps_if (pt_cmpR op_isN (pv 2) pe_non (nomark _)) (pss_one (ps_ret pe_bl)) pss_nil)
      (pss_cons (ps_expr (pe_mt T.c_StreamHandler T.m_StreamHandler_emit c_StreamHandler_emit (hr.mono (by first | decide | exact Nat.le_refl _)) (pv 0) (pa_cons (pv 2) pa_nil)))
      (pss_one (ps_ret pe_bl))))), ?_⟩
  walk_at "in"
  have ha := R.hs_ hj
  have hfl := R.fl_ (j := j) (by omega)
  refine ⟨_, rfl, _, _, _, rfl, ha, rfl, _, rfl, ?_⟩
  refine ⟨_, _, _, _, r, _, rfl, ha, T.c_StreamHandler, T.n_StreamHandler_filters, rfl, hfl, ?_⟩
  walk_at "go"
  intro H2 R2 M2
  walk_at "go"
  exact hQ _ R2 M2
def spHandleF (K : PySem.W.Frag) : Sp := fun vs H Q _ => ∃ (s : YS) (ad : Ro → Addr) (r : Addr) (rl clk : Int) (name ln msg : Str), vs = [.ref (ad (.h 3)), .ref r] ∧ YR K s ad H ∧ RecW K s ad H r name rl ln msg clk ∧ Cap s.files 900 ∧ msg.length ≤ 1000 ∧ (s.tm 3).length ≤ 100 ∧
  ∀ ad' H' s', YR K s' ad' H' → YM K s ad H s' ad' H' → Fx ad ad' → Wrote s (msg ++ s.tm 3) s' → Q (.bl true) H'
theorem ok_handleF {f : Addr} (T : Txt P w K mg) (F : Stands K "handle" "Handler.handle" s_Handler_handle [] f) (c_FileHandler_filtered : Callable P w K mg base 1 (He.ma K (He.ga K "FileHandler") "filtered") ["self", "record"] [] (spFiltered0 K))
    (c_FileHandler_emit : Callable P w K mg base 4 (He.ma K (He.ga K "FileHandler") "emit") ["self", "record"] [] (spEmitF K)) : Callable P w K mg base 5 f ["self", "record"] [] (spHandleF K) := by
  refine F.call0 sc_Handler_handle (fun vs H Q E h => ?_) (fun cdv A outer s0 H vs Q E hr h => ?_) (fun _ _ _ _ _ _ us hl => match us, hl with | [_, _], _ => rfl)
  · obtain ⟨s, ad, r, rl, clk, name, ln, msg, rfl, _⟩ := h; rfl
  obtain ⟨s, ad, r, rl, clk, name, ln, msg, rfl, R, hR, hc, hm, ht, hQ⟩ := h
  refine ⟨_, (pss_cons (ps_set (i := 2) sc_Handler_handle.nd rfl (by first | exact Or.inl rfl | exact Or.inr rfl) (pe_mt T.c_FileHandler T.m_FileHandler_filtered c_FileHandler_filtered (hr.mono (by first | decide | exact Nat.le_refl _)) (pv 0) (pa_cons (pv 1) pa_nil)))
      (pss_cons (ps_if (pt_cmpR op_isN (pv 2) pe_non (nomark _)) (pss_one (ps_ret pe_bl)) pss_nil)
      (pss_cons (ps_expr (pe_mt T.c_FileHandler T.m_FileHandler_emit c_FileHandler_emit (hr.mono (by first | decide | exact Nat.le_refl _)) (pv 0) (pa_cons (pv 2) pa_nil)))
      (pss_one (ps_ret pe_bl))))), ?_⟩
  walk_at "in"
  have ha := R.hf_
  have hfl := R.fl_ (j := 3) (by omega)
  refine ⟨_, rfl, _, _, _, rfl, ha, rfl, _, rfl, ?_⟩
  refine ⟨_, _, _, _, r, _, rfl, ha, T.c_FileHandler, T.n_FileHandler_filters, rfl, hfl, ?_⟩
  walk_at "go"
  intro ad2 H2 s2 R2 M2 X2 W2
  walk_at "go"
  exact hQ _ _ _ R2 M2 X2 W2
end
end K17

set_option Elab.async false
set_option linter.all false
set_option maxRecDepth 100000
set_option maxHeartbeats 0

namespace K17
open PySem PySem.Spec PyProof.Rows L2 RC
section
variable {P : Program} {w : World} {K : PySem.W.Frag} {mg : Str → Option Value} {base : Heap}
/-! ### a file's handler is made -/
def spFileInit (K : PySem.W.Frag) : Sp := fun vs H Q _ => ∃ (p dx y dy m : Addr) (fs : List (Str × V)) (xs : List V), vs = [.ref p, .ref y, .str "f", .str "a", .bl true] ∧ H p = some (.ins (CH K) dx []) ∧ p ≠ y ∧ H y = some (.ins (CY K) dy fs) ∧ fs.lookup ("made" : Str) = some (.ref m) ∧ fs.lookup ("enrol" : Str) = none ∧ H m = some (.lst xs) ∧ xs.length ≤ 1000 ∧
  ∀ (H' : Hp) (l : Addr), (∀ b o, b ≠ p → b ≠ m → H b = some o → H' b = some o) → H l = none → H' p = some (.ins (CH K) dx (hdL l y "\n" false)) → H' l = some (.lst []) → H' m = some (.lst (xs ++ [.ref p])) → Q .non H'
theorem ok_file_init {f : Addr} (T : Txt P w K mg) (F : Stands K "__init__" "FileHandler.__init__" s_FileHandler_init [.str "a", .bl false] f) (c_Handler_init : Callable P w K mg base 2 (He.ma K (He.ga K "Handler") "__init__") ["self", "yard"] [] (spHandlerInit K)) :
    Callable P w K mg base 3 f ["self", "yard", "filename", "mode", "delay"] [] (spFileInit K) := by
  refine F.call sc_FileHandler_init 5 2 (fun vs H Q E h => ?_) (fun cdv A outer s H vs Q E hr h => ?_) (fun z => nomatch z) fun _ => ⟨rfl, fun _ _ _ _ _ _ _ us its hl hi => match us, hl, its, hi with | [_, _, _, _, _], _, [_, _], _ => ⟨_, rfl, rfl⟩⟩
  · obtain ⟨p, dx, y, dy, m, fs, xs, rfl, _⟩ := h; rfl
  obtain ⟨p, dx, y, dy, m, fs, xs, rfl, hp, npy, hy, hm, he, hmm, hxs, hQ⟩ := h
  refine ⟨_, (pss_cons (ps_if (pt_cmpR op_notIn_seq (pv 3) (pe_tup (pa_cons pe_str (pa_cons pe_str pa_nil))) (by rfl)) (pss_one ps_never) pss_nil)
      (pss_cons (ps_expr (pe_cf T.cf_Handler_init c_Handler_init (hr.mono (by first | decide | exact Nat.le_refl _)) (pe_glob (v := .ref _) (by rfl) T.g_Handler rfl) (pa_cons (pv 0) (pa_cons (pv 1) pa_nil))))
      (pss_cons (ps_fld (pv 0) (pv 2) rfl)
      (pss_cons (ps_fld (pv 0) (pv 3) rfl)
      (pss_cons (ps_fld (pv 0) (pv 4) rfl)
      (pss_cons (ps_fld (pv 0) pe_bl rfl)
      (pss_cons (ps_fld (pv 0) pe_bl rfl)
      (pss_one (ps_if (pt_not (pt_val (pv 4))) (pss_one (ps_expr pe_never)) pss_nil))))))))), ?_⟩
  walk_at "in"
  have c : HCls K (He.ga K "FileHandler") := ⟨T.c_FileHandler, T.n_FileHandler_filters, T.n_FileHandler_yard, T.n_FileHandler_level, T.n_FileHandler_formatter, T.n_FileHandler_name, T.n_FileHandler_terminator, T.n_FileHandler_closed⟩
  walk_at "go"
  intro q fq
  have s1 := same_new fq (.tup [.str "a", .str "w"])
  have hq : upd H q (.tup [.str "a", .str "w"]) q = some (.tup [.str "a", .str "w"]) := upd_same
  generalize upd H q (.tup [.str "a", .str "w"]) = H1 at s1 hq ⊢
  have hp1 := s1 _ _ hp
  have hy1 := s1 _ _ hy
  have hm1 := s1 _ _ hmm
  refine ⟨q, _, rfl, .inr (SqT.of hq), rfl, rfl, _, rfl, ?_⟩
  refine iteF' (by decide +kernel) ?_
  refine ⟨rfl, _, rfl, _, rfl, p, _, dx, y, dy, m, fs, xs, rfl, hp1, c, npy, hy1, hm, he, hm1, hxs, fun H2 hM => ?_⟩
  obtain ⟨l, k1, k2, k3, k4, k5⟩ := hM
  have nlp : l ≠ p := fun z => by rw [z, hp1] at k2; cases k2
  have npm : m ≠ p := fun z => by rw [z, hp] at hmm; cases hmm
  walk_at "go"
  simp only [upd_upd]
  exact hQ _ l (fun b o h1 h2 h3 => by rw [upd_ne h1]; exact k1 b o h1 h2 (s1 _ _ h3)) (s1.free k2) upd_same (by rw [upd_ne nlp]; exact k4) (by rw [upd_ne npm]; exact k5)
end
end K17

set_option Elab.async false
set_option linter.all false
set_option maxRecDepth 100000
set_option maxHeartbeats 0

namespace K17
open PySem PySem.Spec PyProof.Rows L2 RC
section
variable {P : Program} {w : World} {K : PySem.W.Frag} {mg : Str → Option Value} {base : Heap}
/-! ### what the law draws -/
theorem stm_new {H : Hp} {s l D : Addr} {n : Nat} (h : Stm H s l n) (hD : H D = none) : D ≠ s ∧ D ≠ l :=
  ⟨fun z => (by obtain ⟨_, _, _, _, _, z1, _⟩ := h; rw [z, z1] at hD; cases hD), fun z => (by obtain ⟨_, _, _, _, _, _, z1, _⟩ := h; rw [z, z1] at hD; cases hD)⟩
theorem old_new {s l D : Addr} {H H' : Hp} {o : HO} (h : Old s l H H') (hD : H D = none) : Old s l H (upd H' D o) := fun b u h1 h2 e => by rw [upd_ne (ne_of_none e hD)]; exact h b u h1 h2 e
theorem _root_.RC.Stm.put {H : Hp} {s l D : Addr} {n : Nat} {o : HO} (h : Stm H s l n) (h1 : D ≠ s) (h2 : D ≠ l) : Stm (upd H D o) s l n := by
  obtain ⟨ne, ns, x, c, d, g1, g2, g3⟩ := h
  exact ⟨ne, ns, x, c, d, by rw [upd_ne (Ne.symm h1)]; exact g1, by rw [upd_ne (Ne.symm h2)]; exact g2, g3⟩
def spPick (K : PySem.W.Frag) : Sp := fun vs H Q _ => ∃ (s l p : Addr) (n : Nat) (xs : List V), vs = [.ref s, .ref p] ∧ Stm H s l n ∧ n ≤ 1000000 ∧ p ≠ s ∧ p ≠ l ∧ H p = some (.lst xs) ∧ 1 ≤ xs.length ∧ xs.length ≤ 1000 ∧ ∀ (H' : Hp) (x : V), Old s l H H' → Stm H' s l (n + 1) → x ∈ xs → Q x H'
theorem ok_pick {f : Addr} (T : Txt P w K mg) (F : Stands K "_law_pick" "_law_pick" s__law_pick [] f) (c__law_draw : Callable P w K mg base 1 (He.ga K "_law_draw") ["_law_stream", "_law_many"] [] spDraw) : Callable P w K mg base 2 f ["_law_stream", "_law_some"] [] (spPick K) := by
  refine F.call0 sc__law_pick (fun vs H Q E h => ?_) (fun cdv A outer s H vs Q E hr h => ?_) (fun _ _ _ _ _ _ us hl => match us, hl with | [_, _], _ => rfl)
  · obtain ⟨s, l, p, n, xs, rfl, _⟩ := h; rfl
  obtain ⟨s, l, p, n, xs, rfl, hs, hn, nps, npl, hp, hx1, hx2, hQ⟩ := h
  refine ⟨_, (pss_one (ps_ret (pe_ix ix_list (pv 1) (pe_fn T.g__law_draw c__law_draw (hr.mono (by first | decide | exact Nat.le_refl _)) (by rfl) (pa_cons (pv 0) (pa_cons (pe_callB call_len (by rfl) T.b_len (by decide +kernel) (pa_cons (pv 1) pa_nil)) pa_nil))) (fun _ _ => rfl)))), ?_⟩
  refine ⟨_, rfl, _, rfl, _, rfl, _, xs.length, rfl, .inl ⟨xs, SqL.of hp, rfl⟩, s, l, n, xs.length, rfl, hs, hn, by omega, by omega, fun H' d h1 h2 h3 h4 => ?_⟩
  obtain ⟨j, rfl⟩ := Int.eq_ofNat_of_zero_le h3
  have hj : j < xs.length := by omega
  refine ⟨p, xs, j, xs[j], rfl, rfl, SqL.of (h1 _ _ nps npl hp), atI_nat (by simp [hj]), ?_⟩
  exact hQ H' _ h1 h2 (List.getElem_mem hj)
/-! ### same, of texts and tuples -/
theorem walkZT {K : PySem.W.Frag} {a b : Addr} {xs ys : List V} (e : xs.length = ys.length) : Walk (RZ.ItzT K a b) xs.length (fun H => SqT K H a xs ∧ SqT K H b ys) (YPair (fun i => xs[i]?) (fun i => ys[i]?)) := by
  constructor
  · intro j _ hj ⟨ea, eb⟩
    have hj2 : j < ys.length := e ▸ hj
    exact ⟨xs, ys, _, _, ea, eb, List.getElem?_eq_getElem hj, List.getElem?_eq_getElem hj2⟩
  · intro _ ⟨ea, eb⟩
    exact ⟨xs, ys, ea, eb, Or.inl (Nat.le_refl _)⟩
  · intro j _ _ _ _ ⟨ea, eb⟩ ⟨T, x, z, k1, k2, k3, k4, k5⟩
    exact ⟨T, x, z, k1, k2, k3, k4 _ ea, k5 _ eb⟩
theorem walkZL {K : PySem.W.Frag} {a b : Addr} {xs ys : List V} (e : xs.length = ys.length) : Walk (Itz K a b) xs.length (fun H => SqL K H a xs ∧ SqL K H b ys) (YPair (fun i => xs[i]?) (fun i => ys[i]?)) := by
  constructor
  · intro j _ hj ⟨ea, eb⟩
    have hj2 : j < ys.length := e ▸ hj
    exact ⟨xs, ys, _, _, ea, eb, List.getElem?_eq_getElem hj, List.getElem?_eq_getElem hj2⟩
  · intro _ ⟨ea, eb⟩
    exact ⟨xs, ys, ea, eb, Or.inl (Nat.le_refl _)⟩
  · intro j _ _ _ _ ⟨ea, eb⟩ ⟨T, x, z, k1, k2, k3, k4, k5⟩
    exact ⟨T, x, z, k1, k2, k3, k4 _ ea, k5 _ eb⟩
/-- what is the same, up to n deep -/
inductive SameD (H : Hp) : Nat → V → V → Prop where
  | str (n : Nat) (x : Str) : SameD H (n + 1) (.str x) (.str x)
  | non (n : Nat) : SameD H (n + 1) .non .non
  | int (n : Nat) (i : Int) : SameD H (n + 1) (.int i) (.int i)
  | bl (n : Nat) (b : Bool) : SameD H (n + 1) (.bl b) (.bl b)
  | tup {n : Nat} {a b : Addr} {xs ys : List V} (ha : H a = some (.tup xs)) (hb : H b = some (.tup ys)) (hl : xs.length = ys.length) (hs : xs.length ≤ 1000000) (h : ∀ (i : Nat) (x y : V), xs[i]? = some x → ys[i]? = some y → SameD H n x y) : SameD H (n + 1) (.ref a) (.ref b)
  | lst {n : Nat} {a b : Addr} {xs ys : List V} (ha : H a = some (.lst xs)) (hb : H b = some (.lst ys)) (hl : xs.length = ys.length) (hs : xs.length ≤ 1000000) (h : ∀ (i : Nat) (x y : V), xs[i]? = some x → ys[i]? = some y → SameD H n x y) : SameD H (n + 1) (.ref a) (.ref b)
  | dct {n : Nat} {a b : Addr} {ts : List (Str × Str)} (ha : H a = some (.dK (strK ts))) (hb : H b = some (.dK (strK ts))) (ne : a ≠ b) (nd : (ts.map (·.1)).Nodup) (hl : ts.length < 64) : SameD H (n + 2) (.ref a) (.ref b)
theorem SameD.same {H H' : Hp} (s : Same H H') : ∀ {n : Nat} {x y : V}, SameD H n x y → SameD H' n x y
  | _, _, _, .str n x => .str n x
  | _, _, _, .non n => .non n
  | _, _, _, .int n i => .int n i
  | _, _, _, .bl n b => .bl n b
  | _, _, _, .tup ha hb hl hs h => .tup (s _ _ ha) (s _ _ hb) hl hs fun i x y hx hy => (h i x y hx hy).same s
  | _, _, _, .lst ha hb hl hs h => .lst (s _ _ ha) (s _ _ hb) hl hs fun i x y hx hy => (h i x y hx hy).same s
  | _, _, _, .dct ha hb ne nd hl => .dct (s _ _ ha) (s _ _ hb) ne nd hl
def spSame (n : Nat) : Sp := fun vs H Q _ => ∃ x y : V, vs = [x, y] ∧ SameD H n x y ∧ ∀ H', Same H H' → Q (.bl true) H'
theorem ok_same {f : Addr} (T : Txt P w K mg) (F : Stands K "_law_same" "_law_same" s__law_same [] f) (e : f = He.ga K "_law_same") : ∀ n : Nat, Callable P w K mg base (n + 1) f ["_law_found", "_law_due"] [] (spSame n)
  | 0 => by
    refine F.call0 sc__law_same (fun vs H Q E h => ?_) (fun cdv A outer s H vs Q E hr h => ?_) (fun _ _ _ _ _ _ us hl => match us, hl with | [_, _], _ => rfl)
    · obtain ⟨x, y, rfl, _⟩ := h; rfl
    · obtain ⟨x, y, rfl, h, _⟩ := h; cases h
  | n + 1 => by
    have c__law_same := ok_same T F e n
    rw [e] at c__law_same
    refine F.call0 sc__law_same (fun vs H Q E h => ?_) (fun cdv A outer s H vs Q E hr h => ?_) (fun _ _ _ _ _ _ us hl => match us, hl with | [_, _], _ => rfl)
    · obtain ⟨x, y, rfl, _⟩ := h; rfl
    obtain ⟨x, y, rfl, h, hQ⟩ := h
    refine ⟨_, (pss_cons (ps_if (pt_val (pe_callB call_isi (by rfl) T.b_isinstance (by decide +kernel) (pa_cons (pv 1) (pa_cons (pe_bltn (v := .ty "dict") (u := .type "dict") (by rfl) T.b_dict (by decide +kernel) rfl) pa_nil)))) (pss_cons (ps_if (PW.pt (pw_or (pt_not (pt_val (pe_callB call_isi (by rfl) T.b_isinstance (by decide +kernel) (pa_cons (pv 0) (pa_cons (pe_bltn (v := .ty "dict") (u := .type "dict") (by rfl) T.b_dict (by decide +kernel) rfl) pa_nil))))) (pw_or1 (pt_cmpR (RY.op_neV (Nat.lt_of_succ_lt (hu_of hr))) (pe_callB cr_sortedS (by rfl) T.b_sorted (by decide +kernel) (pa_cons (pe_callTy (call_list_dK rfl) (by rfl) T.b_list (by decide +kernel) (pa_cons (pv 0) pa_nil)) pa_nil)) (pe_callB cr_sortedS (by rfl) T.b_sorted (by decide +kernel) (pa_cons (pe_callTy (call_list_dK rfl) (by rfl) T.b_list (by decide +kernel) (pa_cons (pv 1) pa_nil)) pa_nil)) (nomark _))))) (pss_one (ps_ret pe_bl)) pss_nil)
      (pss_one (ps_ret (pe_callB (cr_all rfl) (by rfl) T.b_all (by decide +kernel) (pa_cons (pe_lock (pe_lc (own := [("_law_key", 2)]) (by rfl) sc__law_same.nd (pi_keys (pv 1)) (blkOk_by (own := [("_law_key", 2)]) (N := nm__law_same) (sc := defScope s__law_same) (by decide +kernel)) (fun _ _ _ _ _ => (pg_name (i := 2) sc__law_same.nd rfl (by first | exact Or.inl rfl | exact Or.inr rfl))) (fun _ _ _ _ _ => pts_nil) (fun _ _ _ _ _ => (pe_fn T.g__law_same c__law_same (hr.mono (by first | decide | exact Nat.le_refl _)) (by rfl) (pa_cons (pe_dget (hu_of hr) (pv 0) (pv 2) (fun _ _ => rfl)) (pa_cons (pe_dget (hu_of hr) (pv 1) (pv 2) (fun _ _ => rfl)) pa_nil)))))) pa_nil))))) pss_nil)
      (pss_cons (ps_if (pt_val (pe_callB call_isiT (by rfl) T.b_isinstance (by decide +kernel) (pa_cons (pv 1) (pa_cons (pe_tup (pa_cons (pe_bltn (v := .ty "list") (u := .type "list") (by rfl) T.b_list (by decide +kernel) rfl) (pa_cons (pe_bltn (v := .ty "tuple") (u := .type "tuple") (by rfl) T.b_tuple (by decide +kernel) rfl) pa_nil))) pa_nil)))) (pss_cons (ps_if (PW.pt (pw_or (pt_cmpR op_ne (pe_callB call_isi (by rfl) T.b_isinstance (by decide +kernel) (pa_cons (pv 0) (pa_cons (pe_bltn (v := .ty "list") (u := .type "list") (by rfl) T.b_list (by decide +kernel) rfl) pa_nil))) (pe_callB call_isi (by rfl) T.b_isinstance (by decide +kernel) (pa_cons (pv 1) (pa_cons (pe_bltn (v := .ty "list") (u := .type "list") (by rfl) T.b_list (by decide +kernel) rfl) pa_nil))) (nomark _)) (pw_or1 (pt_cmpR op_ne (pe_callB call_isi (by rfl) T.b_isinstance (by decide +kernel) (pa_cons (pv 0) (pa_cons (pe_bltn (v := .ty "tuple") (u := .type "tuple") (by rfl) T.b_tuple (by decide +kernel) rfl) pa_nil))) (pe_callB call_isi (by rfl) T.b_isinstance (by decide +kernel) (pa_cons (pv 1) (pa_cons (pe_bltn (v := .ty "tuple") (u := .type "tuple") (by rfl) T.b_tuple (by decide +kernel) rfl) pa_nil))) (nomark _))))) (pss_one (ps_ret pe_bl)) pss_nil)
      (pss_one (ps_ret (pe_and (pe_cmpR op_eq (pe_callB call_len (by rfl) T.b_len (by decide +kernel) (pa_cons (pv 0) pa_nil)) (pe_callB call_len (by rfl) T.b_len (by decide +kernel) (pa_cons (pv 1) pa_nil)) (nomark _)) (pe_one (pe_callB (cr_all rfl) (by rfl) T.b_all (by decide +kernel) (pa_cons (pe_lc (own := [("_law_one", 3), ("_law_other", 4)]) (by rfl) sc__law_same.nd (RZ.pi_zipA (by rfl) T.b_zip (pa_cons (pv 0) (pa_cons (pv 1) pa_nil))) (blkOk_by (own := [("_law_one", 3), ("_law_other", 4)]) (N := nm__law_same) (sc := defScope s__law_same) (by decide +kernel)) (fun _ _ _ _ _ => (RG.pg_tupK (K := K) (n := 2) (by rfl) (pgs_cons (pg_name (i := 3) sc__law_same.nd rfl (by first | exact Or.inl rfl | exact Or.inr rfl)) (pgs_cons (pg_name (i := 4) sc__law_same.nd rfl (by first | exact Or.inl rfl | exact Or.inr rfl)) pgs_nil)))) (fun _ _ _ _ _ => pts_nil) (fun _ _ _ _ _ => (pe_fn T.g__law_same c__law_same (hr.mono (by first | decide | exact Nat.le_refl _)) (by rfl) (pa_cons (pv 3) (pa_cons (pv 4) pa_nil))))) pa_nil))))))) pss_nil)
      (pss_cons (ps_if (pt_val (pe_callB call_isi (by rfl) T.b_isinstance (by decide +kernel) (pa_cons (pv 1) (pa_cons (pe_bltn (v := .ty "int") (u := .type "int") (by rfl) T.b_int (by decide +kernel) rfl) pa_nil)))) (pss_one (ps_ret (pe_and (pe_callB call_isi (by rfl) T.b_isinstance (by decide +kernel) (pa_cons (pv 0) (pa_cons (pe_bltn (v := .ty "int") (u := .type "int") (by rfl) T.b_int (by decide +kernel) rfl) pa_nil))) (pe_and (pe_cmpR op_eq (pe_callB call_isi (by rfl) T.b_isinstance (by decide +kernel) (pa_cons (pv 0) (pa_cons (pe_bltn (v := .ty "bool") (u := .type "bool") (by rfl) T.b_bool (by decide +kernel) rfl) pa_nil))) (pe_callB call_isi (by rfl) T.b_isinstance (by decide +kernel) (pa_cons (pv 1) (pa_cons (pe_bltn (v := .ty "bool") (u := .type "bool") (by rfl) T.b_bool (by decide +kernel) rfl) pa_nil))) (nomark _)) (pe_one (pe_cmpR op_eq (pv 0) (pv 1) (nomark _))))))) pss_nil)
      (pss_one (ps_ret (pe_and (pe_cmpR op_eq (pv 0) (pv 1) (nomark _)) (pe_one (pe_not (pe_callB call_isiT (by rfl) T.b_isinstance (by decide +kernel) (pa_cons (pv 0) (pa_cons (pe_tup (pa_cons (pe_bltn (v := .ty "int") (u := .type "int") (by rfl) T.b_int (by decide +kernel) rfl) (pa_cons (pe_bltn (v := .ty "list") (u := .type "list") (by rfl) T.b_list (by decide +kernel) rfl) (pa_cons (pe_bltn (v := .ty "tuple") (u := .type "tuple") (by rfl) T.b_tuple (by decide +kernel) rfl) (pa_cons (pe_bltn (v := .ty "dict") (u := .type "dict") (by rfl) T.b_dict (by decide +kernel) rfl) pa_nil))))) pa_nil))))))))))), ?_⟩
    walk_at "in"
    cases h with
    | str _ x =>
      walk_at "gi"
      refine iteT' (decide_eq_true rfl) ?_
      walk_at "gi"
      exact hQ _ (by walk_at "sm")
    | non =>
      walk_at "gi"
      exact hQ _ (by walk_at "sm")
    | int _ i =>
      walk_at "gi"
      rw [show decide (V.int i = V.int i) = true from decide_eq_true rfl]
      exact hQ _ (by walk_at "sm")
    | bl _ i =>
      walk_at "gi"
      rw [show decide (V.bl i = V.bl i) = true from decide_eq_true rfl]
      exact hQ _ (by walk_at "sm")
    | @tup _ a b xs ys ha hb hl hs h =>
      walk_at "gi"
      have el : decide (V.int xs.length = V.int ys.length) = true := by rw [hl]; exact decide_eq_true rfl
      walk_at "gi"
      rename_i T0 fT0
      have s0 : Same H (upd H T0 (.tup [.ty "list", .ty "tuple"])) := same_new fT0 _
      generalize upd H T0 (.tup [.ty "list", .ty "tuple"]) = H1 at s0 ⊢
      refine .inr ⟨SqT.of (s0 _ _ ha), SqT.of (s0 _ _ hb), fun D fD' => ?_⟩
      refine lc_it (walkZT (xs := xs) (ys := ys) hl) (fun i H' => Same H1 H' ∧ H' D = some (.lst ((List.replicate i true).map V.bl))) ⟨same_new fD' _, upd_same⟩ (fun i H' _ h => ⟨SqT.of (h.1 _ _ (s0 _ _ ha)), SqT.of (h.1 _ _ (s0 _ _ hb))⟩) (fun i v H2 H3 hi hP hv => ?_) (fun H2 hP => ?_)
      · obtain ⟨T, x, y, rfl, fT, rfl, hx, hy⟩ := hv
        obtain ⟨s2, d2⟩ := hP
        have s23 : Same H1 (upd H2 T (.tup [x, y])) := s2.trans (same_new fT _)
        have hd := (h i x y hx hy).same (s0.trans s23)
        have d3 : upd H2 T (.tup [x, y]) D = some (.lst ((List.replicate i true).map V.bl)) := same_new fT _ _ _ d2
        have q3 : upd H2 T (.tup [x, y]) T = some (.tup [x, y]) := upd_same
        clear fT
        generalize upd H2 T (.tup [x, y]) = H3 at hd d3 q3 s23
        walk_at "go"
        intro H4 s4
        walk_at "go"
        rw [upd_same, List.replicate_succ', List.map_append]; rfl
      · obtain ⟨s2, d2⟩ := hP
        refine ⟨D, List.replicate xs.length true, rfl, SqL.of d2, ?_⟩
        rw [show (List.replicate xs.length true).all id = true from by simp]
        exact hQ _ (s0.trans s2)
    | @lst _ a b xs ys ha hb hl hs h =>
      walk_at "gi"
      have el : decide (V.int xs.length = V.int ys.length) = true := by rw [hl]; exact decide_eq_true rfl
      walk_at "gi"
      rename_i T0 fT0
      have s0 : Same H (upd H T0 (.tup [.ty "list", .ty "tuple"])) := same_new fT0 _
      generalize upd H T0 (.tup [.ty "list", .ty "tuple"]) = H1 at s0 ⊢
      refine .inl ⟨SqL.of (s0 _ _ ha), SqL.of (s0 _ _ hb), fun D fD' => ?_⟩
      refine lc_it (walkZL (xs := xs) (ys := ys) hl) (fun i H' => Same H1 H' ∧ H' D = some (.lst ((List.replicate i true).map V.bl))) ⟨same_new fD' _, upd_same⟩ (fun i H' _ h => ⟨SqL.of (h.1 _ _ (s0 _ _ ha)), SqL.of (h.1 _ _ (s0 _ _ hb))⟩) (fun i v H2 H3 hi hP hv => ?_) (fun H2 hP => ?_)
      · obtain ⟨T, x, y, rfl, fT, rfl, hx, hy⟩ := hv
        obtain ⟨s2, d2⟩ := hP
        have s23 : Same H1 (upd H2 T (.tup [x, y])) := s2.trans (same_new fT _)
        have hd := (h i x y hx hy).same (s0.trans s23)
        have d3 : upd H2 T (.tup [x, y]) D = some (.lst ((List.replicate i true).map V.bl)) := same_new fT _ _ _ d2
        have q3 : upd H2 T (.tup [x, y]) T = some (.tup [x, y]) := upd_same
        clear fT
        generalize upd H2 T (.tup [x, y]) = H3 at hd d3 q3 s23
        walk_at "go"
        intro H4 s4
        walk_at "go"
        rw [upd_same, List.replicate_succ', List.map_append]; rfl
      · obtain ⟨s2, d2⟩ := hP
        refine ⟨D, List.replicate xs.length true, rfl, SqL.of d2, ?_⟩
        rw [show (List.replicate xs.length true).all id = true from by simp]
        exact hQ _ (s0.trans s2)
    | @dct n2 a b ts ha hb ne nd hl =>
      have ek : ∀ ts : List (Str × Str), (strK ts).map (fun kv => kV kv.1) = (ts.map (·.1)).map V.str := fun ts => by unfold strK; rw [List.map_map, List.map_map]; rfl
      walk_at "gi"
      rotate_left
      · exact ts.map (·.1)
      rename_i q fq
      rw [ek]
      refine ⟨SqL.of upd_same, by rw [List.length_map]; exact hl, fun ys p1 hp1 so1 fp1 => ?_⟩
      have s1 := (same_new fq (.lst ((ts.map (·.1)).map V.str))).trans (same_new fp1 (.lst (ys.map V.str)))
      have hp1' := upd_same (H := upd H q (.lst ((ts.map (·.1)).map V.str))) (a := p1) (o := .lst (ys.map V.str))
      generalize upd (upd H q (.lst ((ts.map (·.1)).map V.str))) p1 (.lst (ys.map V.str)) = H1 at s1 hp1' ⊢
      have hb1 := s1 _ _ hb
      clear fq fp1
      walk_at "gi"
      rotate_left
      · exact ts.map (·.1)
      rename_i q2 fq2
      rw [ek]
      refine ⟨SqL.of upd_same, by rw [List.length_map]; exact hl, fun zs p2 hp2 so2 fp2 => ?_⟩
      obtain rfl : ys = zs := RE.uniq (hp1.trans hp2.symm) (RE.sorted_pw so1) (RE.sorted_pw so2)
      have s2 := (same_new fq2 (.lst ((ts.map (·.1)).map V.str))).trans (same_new fp2 (.lst (ys.map V.str)))
      have hp2' := upd_same (H := upd H1 q2 (.lst ((ts.map (·.1)).map V.str))) (a := p2) (o := .lst (ys.map V.str))
      generalize upd (upd H1 q2 (.lst ((ts.map (·.1)).map V.str))) p2 (.lst (ys.map V.str)) = H2 at s2 hp2' ⊢
      have hp12 := s2 _ _ hp1'
      have s02 := s1.trans s2
      have ha2 := s02 _ _ ha
      have hb2 := s02 _ _ hb
      clear fq2 fp2 hb1
      have fl : (ys.map V.str).all RY.flatW = true := by rw [List.all_map]; exact List.all_eq_true.mpr fun _ _ => rfl
      refine ⟨p1, p2, ys.map V.str, rfl, rfl, SqL.of hp12, SqL.of hp2', fl, ?_⟩
      refine ⟨_, rfl, ?_⟩
      refine iteF' rfl ?_
      refine ⟨b, _, hb2, trivial, fun od => ?_⟩
      have hF := upd_same (H := H2) (a := b) (o := .frz od (.dK (strK ts)))
      have haF : upd H2 b (.frz od (.dK (strK ts))) a = some (.dK (strK ts)) := by rw [upd_ne ne]; exact ha2
      refine ⟨_, rfl, b, od, rfl, .inl ⟨_, hF, fun D hD => ?_⟩⟩
      refine lc_it walk_keys (fun i H' => Same (upd H2 b (.frz od (.dK (strK ts)))) H' ∧ H' D = some (.lst ((List.replicate i true).map V.bl))) ⟨same_new hD _, upd_same⟩ (fun i H' _ h => h.1 _ _ hF) (fun i x H3 H4 hi hP hx => ?_) (fun H3 hP => ?_)
      · obtain ⟨rfl, kx, vx, hx, rfl⟩ := hx
        obtain ⟨s4, d4⟩ := hP
        have hF4 := s4 _ _ hF
        have haF4 := s4 _ _ haF
        unfold strK at hx
        rw [List.getElem?_map] at hx
        obtain ⟨e, he0, hee⟩ := Option.map_eq_some_iff.mp hx
        cases hee
        have hi2 : i < ts.length := (List.getElem?_eq_some_iff.mp he0).1
        have lke := lk_nd nd (List.mem_of_getElem? he0)
        have hv := valV_strK e.1 ts
        rw [lke] at hv
        have g1 : DGet H4 a (.str e.1) (some (.str e.2)) := RW.dget_s haF4 hv
        have g2 : DGet H4 b (.str e.1) (some (.str e.2)) := RW.dget_sF hF4 hv
        have hll : ((List.replicate i true).map V.bl).length < sizeLine := by rw [List.length_map, List.length_replicate, sizeLine_eq]; omega
        refine ⟨rfl, yes_if ?_⟩
        refine ⟨_, rfl, _, rfl, a, _, rfl, g1, _, rfl, _, rfl, b, _, rfl, g2, ?_⟩
        refine ⟨_, _, rfl, .str n2 e.2, fun H5 s5 => ?_⟩
        refine ⟨_, s5 _ _ d4, hll, fun c o hc => ?_, by rw [upd_same, List.replicate_succ', List.map_append]; rfl⟩
        rw [upd_ne (ne_of_none hc hD)]; exact (s4.trans s5) _ _ hc
      · obtain ⟨s4, d4⟩ := hP
        have nDb : D ≠ b := (upd_none hD).1
        refine ⟨s4 _ _ hF, D, List.replicate (strK ts).length true, rfl, SqL.of (by rw [upd_ne nDb]; exact d4), ?_⟩
        rw [show (List.replicate (strK ts).length true).all id = true from by simp]
        refine hQ _ fun c o hc => ?_
        by_cases z : c = b
        · subst z; rw [upd_same, ← hc]; exact hb.symm
        · rw [upd_ne z]; exact s4 _ _ (by rw [upd_ne z]; exact s02 _ _ hc)
end
end K17

set_option Elab.async false
set_option linter.all false
set_option maxRecDepth 100000
set_option maxHeartbeats 0

namespace K17
open PySem PySem.Spec PyProof.Rows L2 RC
section
variable {P : Program} {w : World} {K : PySem.W.Frag} {mg : Str → Option Value} {base : Heap}
/-! ### a yard told right -/
/-- the law's record is the yard's state -/
structure Even (s : YS) : Prop where
  now : s.lnow = s.now
  files : s.lfiles = s.files
  texts : s.ltexts = s.texts
  nf : (s.files.map (·.1)).Nodup
  nt : (s.texts.map (·.1)).Nodup
  lf : s.files.length < 64
  lt : s.texts.length < 64
def spRight (K : PySem.W.Frag) : Sp := fun vs H Q _ => ∃ (s : YS) (ad : Ro → Addr), vs = [.ref (ad .y), .ref (ad .r)] ∧ YR K s ad H ∧ Even s ∧ ∀ H', Same H H' → Q (.bl true) H'
theorem ok_right {f : Addr} (T : Txt P w K mg) (F : Stands K "_law_yard_right" "_law_yard_right" s__law_yard_right [] f) (c_Yard_files : Callable P w K mg base 2 (He.ma K (He.ga K "Yard") "files") ["self"] [] (spFiles K))
    (c_Yard_streams : Callable P w K mg base 1 (He.ma K (He.ga K "Yard") "streams") ["self"] [] (spStreams K)) (c_Yard_now : Callable P w K mg base 1 (He.ma K (He.ga K "Yard") "now") ["self"] [] (spNow K))
    (c_Yard_text : Callable P w K mg base 1 (He.ma K (He.ga K "Yard") "text") ["self", "stream"] [] (spText K)) (c__law_same : Callable P w K mg base 5 (He.ga K "_law_same") ["_law_found", "_law_due"] [] (spSame 4)) : Callable P w K mg base 6 f ["_law_yard", "_law_row"] [] (spRight K) := by
  refine F.call0 sc__law_yard_right (fun vs H Q E h => ?_) (fun cdv A outer s0 H vs Q E hr h => ?_) (fun _ _ _ _ _ _ us hl => match us, hl with | [_, _], _ => rfl)
  · obtain ⟨s, ad, rfl, _⟩ := h; rfl
  obtain ⟨s, ad, rfl, R, Ev, hQ⟩ := h
  refine ⟨_, (pss_cons (ps_asg (pe_tup (pa_cons (pe_dget (hu_of hr) (pv 1) pe_str (fun _ _ => rfl)) (pa_cons (pe_lst (pa_cons pe_str (pa_cons pe_str (pa_cons pe_str (pa_cons pe_str pa_nil))))) pa_nil))) (RG.pg_tupK (K := K) (n := 2) (by rfl) (pgs_cons (pg_name (i := 2) sc__law_yard_right.nd rfl (by first | exact Or.inl rfl | exact Or.inr rfl)) (pgs_cons (pg_name (i := 3) sc__law_yard_right.nd rfl (by first | exact Or.inl rfl | exact Or.inr rfl)) pgs_nil))))
      (pss_cons (ps_for PassesOwn.never rfl (pi_range1 (by rfl) T.b_range (pa_cons pe_int pa_nil)) (pg_name (i := 4) sc__law_yard_right.nd rfl (by first | exact Or.inl rfl | exact Or.inr rfl)) (pss_cons (ps_par (by rfl) sc__law_yard_right.nd (i := 5) (j := 6) rfl rfl (by decide) rfl rfl (pa_cons (pe_mt0 T.c_Yard T.m_Yard_files c_Yard_files (hr.mono (by first | decide | exact Nat.le_refl _)) (pv 0)) (pa_cons (pe_mt0 T.c_Yard T.m_Yard_streams c_Yard_streams (hr.mono (by first | decide | exact Nat.le_refl _)) (pv 0)) pa_nil)) (by rfl))
      (pss_cons (ps_if (pt_not (pt_val (pe_fn T.g__law_same c__law_same (hr.mono (by first | decide | exact Nat.le_refl _)) (by rfl) (pa_cons (pe_lst (pa_cons (pv 5) (pa_cons (pv 6) pa_nil))) (pa_cons (pe_lst (pa_cons (pe_dget (hu_of hr) (pv 1) pe_str (fun _ _ => rfl)) (pa_cons (pe_callB cr_sortedS (by rfl) T.b_sorted (by decide +kernel) (pa_cons (pe_lock (pe_lc (own := [("_law_key", 7)]) (by rfl) sc__law_yard_right.nd (pi_keys (pv 2)) (blkOk_by (own := [("_law_key", 7)]) (N := nm__law_yard_right) (sc := defScope s__law_yard_right) (by decide +kernel)) (fun _ _ _ _ _ => (pg_name (i := 7) sc__law_yard_right.nd rfl (by first | exact Or.inl rfl | exact Or.inr rfl))) (fun _ _ _ _ _ => (pts_one (pt_cmpR op_ne (pe_dget (hu_of hr) (pv 2) (pv 7) (fun _ _ => rfl)) pe_str (nomark _)))) (fun _ _ _ _ _ => (pv 7)))) pa_nil)) pa_nil))) pa_nil))))) (pss_one (ps_ret pe_bl)) pss_nil)
      (pss_cons (ps_expr (pe_dclear (pv 5)))
      (pss_one (ps_expr (pe_bm PySem.F.plainAttrs_list PySem.F.slot_list_append PySem.F.type_list_append mt_append (pv 6) (pa_cons pe_str pa_nil))))))))
      (pss_cons (ps_set (i := 8) sc__law_yard_right.nd rfl (by first | exact Or.inl rfl | exact Or.inr rfl) (pe_op op_cat (pe_lst (pa_cons (pe_mt0 T.c_Yard T.m_Yard_now c_Yard_now (hr.mono (by first | decide | exact Nat.le_refl _)) (pv 0)) pa_nil)) (pe_lc (own := [("_law_key", 7)]) (by rfl) sc__law_yard_right.nd (pi_list (pv 3)) (blkOk_by (own := [("_law_key", 7)]) (N := nm__law_yard_right) (sc := defScope s__law_yard_right) (by decide +kernel)) (fun _ _ _ _ _ => (pg_name (i := 7) sc__law_yard_right.nd rfl (by first | exact Or.inl rfl | exact Or.inr rfl))) (fun _ _ _ _ _ => pts_nil) (fun _ _ _ _ _ => (pe_mt T.c_Yard T.m_Yard_text c_Yard_text (hr.mono (by first | decide | exact Nat.le_refl _)) (pv 0) (pa_cons (pv 7) pa_nil))))))
      (pss_one (ps_ret (pe_fn T.g__law_same c__law_same (hr.mono (by first | decide | exact Nat.le_refl _)) (by rfl) (pa_cons (pv 8) (pa_cons (pe_op op_cat (pe_lst (pa_cons (pe_dget (hu_of hr) (pv 1) pe_str (fun _ _ => rfl)) pa_nil)) (pe_lc (own := [("_law_key", 7)]) (by rfl) sc__law_yard_right.nd (pi_list (pv 3)) (blkOk_by (own := [("_law_key", 7)]) (N := nm__law_yard_right) (sc := defScope s__law_yard_right) (by decide +kernel)) (fun _ _ _ _ _ => (pg_name (i := 7) sc__law_yard_right.nd rfl (by first | exact Or.inl rfl | exact Or.inr rfl))) (fun _ _ _ _ _ => pts_nil) (fun _ _ _ _ _ => (pe_dget2 (hu_of hr) (pv 2) (pv 7) pe_str ⟨rfl, rfl, rfl, rfl⟩)))) pa_nil)))))))), ?_⟩
  walk_at "in"
  have hr0 := R.r_
  walk_at "gi"
  rename_i pS fS tp ft nt
  have s0 : Same H (upd (upd H pS (.lst [.str "out", .str "", .str "err", .str "none"])) tp (.tup [.ref (ad .lt), .ref pS])) := by walk_at "sm"
  have q0 : (upd (upd H pS (.lst [.str "out", .str "", .str "err", .str "none"])) tp (.tup [.ref (ad .lt), .ref pS])) pS = some (.lst [.str "out", .str "", .str "err", .str "none"]) := by rw [upd_ne (Ne.symm nt)]; exact upd_same
  generalize upd (upd H pS (.lst [.str "out", .str "", .str "err", .str "none"])) tp (.tup [.ref (ad .lt), .ref pS]) = H1 at s0 q0 ⊢
  have R1 := R.same s0
  clear ft fS nt hr0 R
  refine for_it walk_range (fun i σ H' => Same H1 H' ∧ ∃ o4 o5 o6 o7, σ = [some (.ref (ad .y)), some (.ref (ad .r)), some (.ref (ad .lt)), some (.ref pS), o4, o5, o6, o7, none]) ⟨Same.refl _, _, _, _, _, rfl⟩ (fun _ _ _ _ _ => trivial) (fun i x σ H9 H2 hi hP hx => ?_) (fun σ H2 hP => ?_)
  · obtain ⟨rfl, rfl⟩ := hx
    obtain ⟨s2, o4, o5, o6, o7, rfl⟩ := hP
    have R2 := R1.same s2
    have hy2 := R2.y_
    have nf := Ev.nf
    have l1 : s.files.length ≤ 1000 := Nat.le_of_lt (Nat.lt_trans Ev.lf (by decide))
    walk_at "go"
    intro p1 H3 s3 f1 d1
    have R3 := R2.same s3
    have hy3 := R3.y_
    have nt3 := Ev.nt
    have l3 : s.texts.length < 64 := Ev.lt
    walk_at "go"
    intro H4 p2 ys s4 f2 d2 pm2 so2
    have R4 := R3.same s4
    have f2a := s3.free f2
    have d1a := s4 _ _ d1
    have n12 : p1 ≠ p2 := fun z => by rw [z, f2] at d1; cases d1
    have s24 := s3.trans s4
    have hr4 := R4.r_
    clear R2 R3 hy2 hy3 s3 s4 f2 d1
    walk_at "go"
    intro q1 fq1
    have R5 := R4.same (same_new fq1 (.lst [.ref p1, .ref p2]))
    have s25 := s24.trans (same_new fq1 (.lst [.ref p1, .ref p2]))
    have e5 : upd H4 q1 (.lst [.ref p1, .ref p2]) q1 = some (.lst [.ref p1, .ref p2]) := upd_same
    have d1b := same_new fq1 (.lst [.ref p1, .ref p2]) _ _ d1a
    have d2b := same_new fq1 (.lst [.ref p1, .ref p2]) _ _ d2
    clear R4 hr4 s24 d1a d2 fq1
    generalize upd H4 q1 (.lst [.ref p1, .ref p2]) = H5 at R5 s25 e5 d1b d2b ⊢
    have hr5 := R5.r_
    have lt5 := R5.lt_
    walk_at "go"
    refine ⟨lt5, trivial, fun od => ?_⟩
    rw [Ev.texts] at lt5 ⊢
    have k0 : upd H5 (ad .lt) (.frz od (.dK (strK s.texts))) (ad .lt) = some (.frz od (.dK (strK s.texts))) := upd_same
    have back : ∀ H', Same (upd H5 (ad .lt) (.frz od (.dK (strK s.texts)))) H' → Same H5 (upd H' (ad .lt) (.dK (strK s.texts))) := fun H' s b o e => by
      by_cases c : b = ad .lt
      · rw [c, upd_same]; rw [c, lt5] at e; exact e
      · rw [upd_ne c]; exact s _ _ (by rw [upd_ne c]; exact e)
    generalize upd H5 (ad .lt) (.frz od (.dK (strK s.texts))) = H0 at k0 back ⊢
    walk_at "go"
    refine .inl ⟨_, k0, fun D hD => ?_⟩
    have hD0 : H0 D = none := hD
    have nD : D ≠ ad .lt := fun z => by rw [z, k0] at hD0; cases hD0
    refine lc_it walk_keys (fun i H' => Same H0 H' ∧ H' D = some (.lst ((liveS (s.texts.take i)).map V.str))) ⟨same_new hD _, upd_same⟩ (fun i H' _ h => h.1 _ _ k0) (fun i x H9 H2 hi hP hx => ?_) (fun H6 hP => ?_)
    · obtain ⟨rfl, kx, vx, hx, rfl⟩ := hx
      obtain ⟨s2, d2⟩ := hP
      unfold strK at hx
      rw [List.getElem?_map] at hx
      obtain ⟨e, he0, hee⟩ := Option.map_eq_some_iff.mp hx
      cases hee
      have he : e ∈ s.texts := List.mem_of_getElem? he0
      have k2 := s2 _ _ k0
      have rd2 : Rd H2 (ad .lt) (.dK (strK s.texts)) := .inr ⟨od, k2⟩
      have vv : valV (strK s.texts) (Sum.inr e.1) = some (.str e.2) := (valV_strK e.1 s.texts).trans (congrArg (Option.map V.str) (lookup_ts he nt3))
      have etk := List.take_add_one (l := s.texts) (i := i)
      rw [he0] at etk
      have ln : ((liveS (s.texts.take i)).map V.str).length < sizeLine := by
        have h1 := List.length_filter_le (fun e => !decide (e.2 = ("" : Str))) (s.texts.take i)
        have h2 : (s.texts.take i).length ≤ s.texts.length := by rw [List.length_take]; exact Nat.min_le_right _ _
        unfold liveS
        rw [List.length_map, List.length_map, sizeLine_eq]; omega
      have el : liveS (s.texts.take (i + 1)) = liveS (s.texts.take i) ++ if e.2 = "" then [] else [e.1] := by
        unfold liveS
        rw [etk, List.filter_append, List.map_append]
        congr 1
        by_cases c : e.2 = ""
        · simp [c]
        · rw [if_neg c]; simp [c]
      by_cases c : e.2 = ""
      · rw [if_pos c, List.append_nil] at el
        rw [el]
        walk_at "go"
        exact d2
      · rw [if_neg c] at el
        rw [el]
        walk_at "go"
        rw [upd_same, List.map_append]; rfl
    obtain ⟨s6, d6⟩ := hP
    refine ⟨s6 _ _ k0, ?_⟩
    have b6 := back _ s6
    have d6a : upd H6 (ad .lt) (.dK (strK s.texts)) D = some (.lst ((liveS (s.texts.take (strK s.texts).length)).map V.str)) := by rw [upd_ne nD]; exact d6
    rw [show (strK s.texts).length = s.texts.length from List.length_map _, List.take_length] at d6a
    clear s6 d6 back k0 hr5 lt5
    have R7 := R5.same b6
    have s7 := s25.trans b6
    have e7 := b6 _ _ e5
    have d1c := b6 _ _ d1b
    have d2c := b6 _ _ d2b
    generalize upd H6 (ad .lt) (.dK (strK s.texts)) = H7 at R7 s7 e7 d1c d2c d6a ⊢
    refine ⟨D, liveS s.texts, rfl, SqL.of d6a, ?_, fun zs p3 hp3 so3 fp3 => ?_⟩
    · have h1 := List.length_filter_le (fun e => !decide (e.2 = ("" : Str))) s.texts
      unfold liveS
      rw [List.length_map]; omega
    obtain rfl : ys = zs := RE.uniq (pm2.trans hp3.symm) (RE.sorted_pw so2) (RE.sorted_pw so3)
    have b8 := same_new fp3 (.lst (ys.map V.str))
    have R8 := R7.same b8
    have s8 := s7.trans b8
    have e8 := b8 _ _ e7
    have d1d := b8 _ _ d1c
    have d2d := b8 _ _ d2c
    have p3d : upd H7 p3 (.lst (ys.map V.str)) p3 = some (.lst (ys.map V.str)) := upd_same
    clear e7 d1c d2c d6a R7 s7 b6 fp3
    generalize upd H7 p3 (.lst (ys.map V.str)) = H8 at R8 s8 e8 d1d d2d p3d b8 ⊢
    walk_at "go"
    intro q2 fq2
    have b9 := same_new fq2 (.lst [.ref (ad .lf), .ref p3])
    have s9 := s8.trans b9
    have R9 := R8.same b9
    have e9 := b9 _ _ e8
    have d1e := b9 _ _ d1d
    have d2e := b9 _ _ d2d
    have p3e := b9 _ _ p3d
    have q2e : upd H8 q2 (.lst [.ref (ad .lf), .ref p3]) q2 = some (.lst [.ref (ad .lf), .ref p3]) := upd_same
    have n1f : p1 ≠ ad .lf := fun z => by have h1 := (R1.same s2).lf_; rw [← z, f1] at h1; cases h1
    have lf9 := R9.lf_
    rw [Ev.files] at lf9
    generalize upd H8 q2 (.lst [.ref (ad .lf), .ref p3]) = H9 at R9 s9 e9 d1e d2e p3e q2e lf9 ⊢
    have hsm : SameD H9 4 (.ref q1) (.ref q2) := by
      refine .lst e9 q2e rfl (by show 2 ≤ 1000000; decide) fun i x y hx hy => ?_
      match i, hx, hy with
      | 0, hx, hy => cases hx; cases hy; exact .dct d1e lf9 n1f Ev.nf Ev.lf
      | 1, hx, hy =>
        cases hx; cases hy
        refine .lst d2e p3e rfl ?_ fun i x y hx hy => ?_
        · rw [List.length_map, pm2.length_eq]
          have h1 := List.length_filter_le (fun e => !decide (e.2 = ("" : Str))) s.texts
          unfold liveS
          rw [List.length_map]; omega
        · rw [hx] at hy; cases hy
          rw [List.getElem?_map] at hx
          obtain ⟨z, _, rfl⟩ := Option.map_eq_some_iff.mp hx
          exact .str _ _
      | (_ + 2), hx, hy => cases hx
    have hyl : (ys.map V.str).length < sizeLine := by
      rw [List.length_map, pm2.length_eq]
      have h1 := List.length_filter_le (fun e => !decide (e.2 = ("" : Str))) s.texts
      unfold liveS
      rw [List.length_map, sizeLine_eq]; omega
    clear e8 d1d d2d p3d b8 R8 s8 b9 fq2 R9 e9 p3e q2e lf9 R5 s25 e5 d1b d2b
    refine ⟨_, _, rfl, hsm, fun H10 b10 => ?_⟩
    have s10 := s9.trans b10
    have d1f := b10 _ _ d1e
    have d2f := b10 _ _ d2e
    clear hsm s9 d1e d2e b10
    walk_at "go"
    have tyd : tyV K "dict" (.ref p1) H10 := by
      exact .inr (.inr (.inl ⟨rfl, .inl ⟨_, d1f⟩⟩))
    refine ⟨tyd, p1, _, rfl, rfl, d1f, ?_⟩
    have d2g : upd H10 p1 (.dK []) p2 = some (.lst (ys.map V.str)) := by rw [upd_ne (Ne.symm n12)]; exact d2f
    walk_at "go"
    exact rfl
  · obtain ⟨s2, o4, o5, o6, o7, rfl⟩ := hP
    have R2 := R1.same s2
    have q2 := s2 _ _ q0
    have s02 := s0.trans s2
    have hy2 := R2.y_
    clear R1 s2 q0
    walk_at "go"
    intro a1 fa1
    have b3 := same_new fa1 (.lst [.int s.now])
    have R3 := R2.same b3
    have q3 := b3 _ _ q2
    have s3 := s02.trans b3
    have e3 : upd H2 a1 (.lst [.int s.now]) a1 = some (.lst [.int s.now]) := upd_same
    clear R2 q2 s02 hy2 fa1
    generalize upd H2 a1 (.lst [.int s.now]) = H3 at b3 R3 q3 s3 e3 ⊢
    refine ⟨_, rfl, pS, rfl, ⟨_, SqL.of q3⟩, fun D fD => ?_⟩
    have hw : ∀ (i : Nat) (v : V), ([.str "out", .str "", .str "err", .str "none"] : List V)[i]? = some v → ∃ z : Str, v = .str z ∧ (["out", "", "err", "none"] : List Str)[i]? = some z := fun i v h => by
      have e : ([.str "out", .str "", .str "err", .str "none"] : List V) = (["out", "", "err", "none"] : List Str).map V.str := rfl
      rw [e, List.getElem?_map] at h
      obtain ⟨z, h1, rfl⟩ := Option.map_eq_some_iff.mp h
      exact ⟨z, rfl, h1⟩
    refine lc_it (walk_list (xs := [.str "out", .str "", .str "err", .str "none"])) (fun i H' => Same H3 H' ∧ H' D = some (.lst ((["out", "", "err", "none"] : List Str).take i |>.map fun z => .str (txt s.texts z)))) ⟨same_new fD _, upd_same⟩ (fun i H' _ h => SqL.of (h.1 _ _ q3)) (fun i v H9 H4 hi hP hv => ?_) (fun H4 hP => ?_)
    · obtain ⟨rfl, hv⟩ := hv
      obtain ⟨s4, d4⟩ := hP
      obtain ⟨z, rfl, hz⟩ := hw i v hv
      have R4 := R3.same s4
      have hy4 := R4.y_
      have etk := List.take_add_one (l := (["out", "", "err", "none"] : List Str)) (i := i)
      rw [hz] at etk
      have hi4 : i < 4 := hi
      have ln : (((["out", "", "err", "none"] : List Str).take i).map fun z => V.str (txt s.texts z)).length < sizeLine := by
        rw [List.length_map, List.length_take, sizeLine_eq]; omega
      clear R3 q3 e3 hw hv hz s3 b3
      rw [etk]
      walk_at "go"
      rw [upd_same, List.map_append]; rfl
    obtain ⟨s4, d4⟩ := hP
    have q4 := s4 _ _ q3
    have e4 := s4 _ _ e3
    have s04 := s3.trans s4
    have R4 := R3.same s4
    clear R3 q3 e3 s3 b3 s4
    replace d4 : H4 D = some (.lst [.str (txt s.texts "out"), .str (txt s.texts ""), .str (txt s.texts "err"), .str (txt s.texts "none")]) := d4
    refine ⟨a1, D, _, _, rfl, rfl, e4, d4, by rw [sizeLine_eq]; show 1 + 4 ≤ _; omega, fun a2 f2 => ?_⟩
    have R5 := R4.same (same_new f2 (.lst ([V.int s.now] ++ [.str (txt s.texts "out"), .str (txt s.texts ""), .str (txt s.texts "err"), .str (txt s.texts "none")])))
    have q5 := same_new f2 (.lst ([V.int s.now] ++ [.str (txt s.texts "out"), .str (txt s.texts ""), .str (txt s.texts "err"), .str (txt s.texts "none")])) _ _ q4
    have s05 := s04.trans (same_new f2 (.lst ([V.int s.now] ++ [.str (txt s.texts "out"), .str (txt s.texts ""), .str (txt s.texts "err"), .str (txt s.texts "none")])))
    have e5 : upd H4 a2 (.lst ([V.int s.now] ++ [.str (txt s.texts "out"), .str (txt s.texts ""), .str (txt s.texts "err"), .str (txt s.texts "none")])) a2 = some (.lst [.int s.now, .str (txt s.texts "out"), .str (txt s.texts ""), .str (txt s.texts "err"), .str (txt s.texts "none")]) := upd_same
    generalize upd H4 a2 (.lst ([V.int s.now] ++ [.str (txt s.texts "out"), .str (txt s.texts ""), .str (txt s.texts "err"), .str (txt s.texts "none")])) = H5 at R5 q5 s05 e5 ⊢
    have hr5 := R5.r_
    rw [Ev.now] at hr5
    clear R4 q4 d4 s04 f2 e4 fD
    walk_at "go"
    intro a3 f3
    have b6 := same_new f3 (.lst [.int s.now])
    have R6 := R5.same b6
    have q6 := b6 _ _ q5
    have s06 := s05.trans b6
    have e6 := b6 _ _ e5
    have c6 : upd H5 a3 (.lst [.int s.now]) a3 = some (.lst [.int s.now]) := upd_same
    generalize upd H5 a3 (.lst [.int s.now]) = H6 at R6 q6 s06 e6 c6 ⊢
    clear R5 q5 s05 e5 hr5 f3 b6
    refine ⟨_, rfl, pS, rfl, ⟨_, SqL.of q6⟩, fun D fD => ?_⟩
    refine lc_it (walk_list (xs := [.str "out", .str "", .str "err", .str "none"])) (fun i H' => Same H6 H' ∧ H' D = some (.lst ((["out", "", "err", "none"] : List Str).take i |>.map fun z => .str (txt s.texts z)))) ⟨same_new fD _, upd_same⟩ (fun i H' _ h => SqL.of (h.1 _ _ q6)) (fun i v H9 H7 hi hP hv => ?_) (fun H7 hP => ?_)
    · obtain ⟨rfl, hv⟩ := hv
      obtain ⟨s7, d7⟩ := hP
      obtain ⟨z, rfl, hz⟩ := hw i v hv
      have R7 := R6.same s7
      have lt7 := R7.lt_
      rw [Ev.texts] at lt7
      have etk := List.take_add_one (l := (["out", "", "err", "none"] : List Str)) (i := i)
      rw [hz] at etk
      have hi4 : i < 4 := hi
      have ln : (((["out", "", "err", "none"] : List Str).take i).map fun z => V.str (txt s.texts z)).length < sizeLine := by
        rw [List.length_map, List.length_take, sizeLine_eq]; omega
      have hv7 := valV_strK z s.texts
      clear R6 q6 e6 hw hv hz s06 c6 R7
      rw [etk]
      cases e : s.texts.lookup z with
      | none =>
        rw [e] at hv7
        have et : txt s.texts z = "" := by unfold txt; rw [e]; rfl
        walk_at "go"
        rw [upd_same, List.map_append, ← et]; rfl
      | some t =>
        rw [e] at hv7
        have et : txt s.texts z = t := by unfold txt; rw [e]; rfl
        walk_at "go"
        rw [upd_same, List.map_append, ← et]; rfl
    obtain ⟨s7, d7⟩ := hP
    replace d7 : H7 D = some (.lst [.str (txt s.texts "out"), .str (txt s.texts ""), .str (txt s.texts "err"), .str (txt s.texts "none")]) := d7
    refine ⟨a3, D, _, _, rfl, rfl, s7 _ _ c6, d7, by rw [sizeLine_eq]; show 1 + 4 ≤ _; omega, fun a4 f4 => ?_⟩
    have b8 := s7.trans (same_new f4 (.lst ([V.int s.now] ++ [.str (txt s.texts "out"), .str (txt s.texts ""), .str (txt s.texts "err"), .str (txt s.texts "none")])))
    have s08 := s06.trans b8
    have e8 := b8 _ _ e6
    have c8 : upd H7 a4 (.lst ([V.int s.now] ++ [.str (txt s.texts "out"), .str (txt s.texts ""), .str (txt s.texts "err"), .str (txt s.texts "none")])) a4 = some (.lst [.int s.now, .str (txt s.texts "out"), .str (txt s.texts ""), .str (txt s.texts "err"), .str (txt s.texts "none")]) := upd_same
    generalize upd H7 a4 (.lst ([V.int s.now] ++ [.str (txt s.texts "out"), .str (txt s.texts ""), .str (txt s.texts "err"), .str (txt s.texts "none")])) = H8 at s08 e8 c8 ⊢
    refine ⟨_, _, rfl, .lst e8 c8 rfl (by show 5 ≤ 1000000; decide) fun i x y hx hy => ?_, fun H9 s9 => ?_⟩
    · rw [hx] at hy; cases hy
      match i, hx with
      | 0, hx => cases hx; exact .int _ _
      | 1, hx => cases hx; exact .str _ _
      | 2, hx => cases hx; exact .str _ _
      | 3, hx => cases hx; exact .str _ _
      | 4, hx => cases hx; exact .str _ _
      | (_ + 5), hx => cases hx
    exact hQ _ (s08.trans s9)
end
end K17

set_option Elab.async false
set_option linter.all false
set_option maxRecDepth 100000
set_option maxHeartbeats 4000000
/-! A world: a stream of draws and several models apart from one another; what is done at one leaves the others. -/
namespace RS
open PySem PySem.Spec PyProof.Rows L2 RC RR
structure Comp where
  R : Type
  M : R → Option HO
  ad : R → Addr
def cell (p : Addr) (o : HO) : Comp := ⟨Unit, fun _ => some o, fun _ => p⟩
abbrev Comp.rep (c : Comp) (H : Hp) : Prop := Rep c.M c.ad H
abbrev Comp.out (c : Comp) (b : Addr) : Prop := Out c.M c.ad b
abbrev Comp.dj (a b : Comp) : Prop := Dj a.M a.ad b.M b.ad
abbrev CMv (c : Comp) (H : Hp) (c' : Comp) (H' : Hp) : Prop := Mv c.M c.ad H c'.M c'.ad H'
structure Wd (H : Hp) (s l : Addr) (n : Nat) (cs : List Comp) : Prop where
  stm : Stm H s l n
  rep : ∀ c ∈ cs, c.rep H
  pw : cs.Pairwise Comp.dj
  os : ∀ c ∈ cs, c.out s ∧ c.out l
section
variable {H H' : Hp} {s l p b : Addr} {n k : Nat} {cs ds : List Comp} {c c' d e f g : Comp} {o o' : HO}
theorem Wd.same (W : Wd H s l n cs) (e : Same H H') : Wd H' s l n cs := ⟨W.stm.same e, fun c h => (W.rep c h).same e, W.pw, W.os⟩
theorem Wd.old (W : Wd H s l n cs) (e : Old s l H H') (st : Stm H' s l k) : Wd H' s l k cs := ⟨st, fun c h => (W.rep c h).old e (W.os c h).1 (W.os c h).2, W.pw, W.os⟩
theorem Wd.mono (W : Wd H s l n cs) (h : n ≤ k) : Wd H s l k cs := ⟨W.stm.mono h, W.rep, W.pw, W.os⟩
theorem Wd.perm (W : Wd H s l n cs) (h : ds.Perm cs) : Wd H s l n ds :=
  ⟨W.stm, fun c hc => W.rep c (h.mem_iff.mp hc), (h.pairwise_iff (fun {a b} hab => Dj.symm hab)).mpr W.pw, fun c hc => W.os c (h.mem_iff.mp hc)⟩
theorem Wd.hd (W : Wd H s l n (c :: cs)) : c.rep H := W.rep c List.mem_cons_self
theorem Wd.tl (W : Wd H s l n (c :: cs)) : Wd H s l n cs := ⟨W.stm, fun d h => W.rep d (List.mem_cons_of_mem _ h), (List.pairwise_cons.mp W.pw).2, fun d h => W.os d (List.mem_cons_of_mem _ h)⟩
theorem Wd.mv (W : Wd H s l n (c :: cs)) (R : c'.rep H') (m : CMv c H c' H') : Wd H' s l n (c' :: cs) := by
  have hp := List.pairwise_cons.mp W.pw
  have hs := W.os c List.mem_cons_self
  obtain ⟨ne, ns, x, cc, dd, g1, g2, g3⟩ := id W.stm
  refine ⟨Stm.mv W.stm m hs.1 hs.2, fun d hd => ?_, List.pairwise_cons.mpr ⟨fun d hd => ?_, hp.2⟩, fun d hd => ?_⟩
  · rcases List.mem_cons.mp hd with rfl | hd
    · exact R
    · exact m.rep (hp.1 d hd) (W.rep d (List.mem_cons_of_mem _ hd))
  · exact m.dj (hp.1 d hd) (W.rep d (List.mem_cons_of_mem _ hd))
  · rcases List.mem_cons.mp hd with rfl | hd
    · exact ⟨m.out hs.1 g1, m.out hs.2 g2⟩
    · exact W.os d (List.mem_cons_of_mem _ hd)
theorem cell_rep (h : H p = some o) : (cell p o).rep H := ⟨fun _ u e => by cases e; exact h, fun _ _ _ _ _ _ _ => rfl⟩
theorem cell_out (h : b ≠ p) : (cell p o).out b := fun _ _ _ z => h z.symm
theorem Wd.new (W : Wd H s l n cs) (hp : H p = none) : Wd (upd H p o) s l n (cell p o :: cs) := by
  have W' := W.same (same_new hp o)
  obtain ⟨ne, ns, x, cc, dd, g1, g2, g3⟩ := W.stm
  refine ⟨W'.stm, fun d hd => ?_, List.pairwise_cons.mpr ⟨fun d hd => ?_, W'.pw⟩, fun d hd => ?_⟩
  · rcases List.mem_cons.mp hd with rfl | hd
    · exact cell_rep upd_same
    · exact W'.rep d hd
  · intro r u er _ _ _ z
    have z : p = d.ad r := z
    exact (W.rep d hd).out hp r u er z.symm
  · rcases List.mem_cons.mp hd with rfl | hd
    · exact ⟨cell_out (fun z => (by rw [← z, g1] at hp; cases hp)), cell_out (fun z => (by rw [← z, g2] at hp; cases hp))⟩
    · exact W'.os d hd
/-- what was laid since -/
theorem Wd.fresh (W : Wd H s l n cs) (e : Same H H') (hp : H p = none) (h : H' p = some o) : Wd H' s l n (cell p o :: cs) := by
  have W' := W.same e
  obtain ⟨ne, ns, x, cc, dd, g1, g2, g3⟩ := W.stm
  refine ⟨W'.stm, fun d hd => ?_, List.pairwise_cons.mpr ⟨fun d hd => ?_, W'.pw⟩, fun d hd => ?_⟩
  · rcases List.mem_cons.mp hd with rfl | hd
    · exact cell_rep h
    · exact W'.rep d hd
  · intro r u er _ _ _ z
    have z : p = d.ad r := z
    exact (W.rep d hd).out hp r u er z.symm
  · rcases List.mem_cons.mp hd with rfl | hd
    · exact ⟨cell_out (fun z => (by rw [← z, g1] at hp; cases hp)), cell_out (fun z => (by rw [← z, g2] at hp; cases hp))⟩
    · exact W'.os d hd
/-- a model was laid since, at places that were free -/
theorem Wd.add (W : Wd H s l n cs) (e : Same H H') (R : c.rep H') (hf : ∀ r u, c.M r = some u → H (c.ad r) = none) : Wd H' s l n (c :: cs) := by
  have W' := W.same e
  obtain ⟨ne, ns, x, cc, dd, g1, g2, g3⟩ := W.stm
  refine ⟨W'.stm, fun d hd => ?_, List.pairwise_cons.mpr ⟨fun d hd => ?_, W'.pw⟩, fun d hd => ?_⟩
  · rcases List.mem_cons.mp hd with rfl | hd
    · exact R
    · exact W'.rep d hd
  · intro r u er r' u' er' z
    have h := (W.rep d hd).at_ r u er
    rw [← z, hf r' u' er'] at h; cases h
  · rcases List.mem_cons.mp hd with rfl | hd
    · exact ⟨fun r u er z => (by rw [← z, hf r u er] at g1; cases g1), fun r u er z => (by rw [← z, hf r u er] at g2; cases g2)⟩
    · exact W'.os d hd
theorem Wd.c0 (W : Wd H s l n (cell p o :: cs)) : H p = some o := W.hd.at_ () o rfl
theorem cell_mv : CMv (cell p o) H (cell p o') (upd H p o') := ⟨fun b u hb e => (upd_ne (show b ≠ p from fun z => hb () o rfl z.symm)).trans e, fun _ _ _ => .inl ⟨(), _, rfl, rfl⟩⟩
theorem Wd.set (W : Wd H s l n (cell p o :: cs)) : Wd (upd H p o') s l n (cell p o' :: cs) := W.mv (cell_rep upd_same) cell_mv
theorem Wd.up1 (W : Wd H s l n (c :: d :: cs)) : Wd H s l n (d :: c :: cs) := W.perm (.swap _ _ _)
theorem Wd.up2 (W : Wd H s l n (c :: d :: e :: cs)) : Wd H s l n (e :: c :: d :: cs) := W.perm ((List.Perm.swap _ _ _).trans (.cons _ (.swap _ _ _)))
theorem Wd.dn2 (W : Wd H s l n (e :: c :: d :: cs)) : Wd H s l n (c :: d :: e :: cs) := W.perm (((List.Perm.swap _ _ _).trans (.cons _ (.swap _ _ _))).symm)
theorem Wd.up3 (W : Wd H s l n (c :: d :: e :: f :: cs)) : Wd H s l n (f :: c :: d :: e :: cs) := W.perm ((List.Perm.swap _ _ _).trans (.cons _ ((List.Perm.swap _ _ _).trans (.cons _ (.swap _ _ _)))))
theorem Wd.dn3 (W : Wd H s l n (f :: c :: d :: e :: cs)) : Wd H s l n (c :: d :: e :: f :: cs) := W.perm (((List.Perm.swap _ _ _).trans (.cons _ ((List.Perm.swap _ _ _).trans (.cons _ (.swap _ _ _))))).symm)
theorem Wd.up4 (W : Wd H s l n (c :: d :: e :: f :: g :: cs)) : Wd H s l n (g :: c :: d :: e :: f :: cs) := W.perm ((List.Perm.swap _ _ _).trans (.cons _ ((List.Perm.swap _ _ _).trans (.cons _ ((List.Perm.swap _ _ _).trans (.cons _ (.swap _ _ _)))))))
theorem Wd.dn4 (W : Wd H s l n (g :: c :: d :: e :: f :: cs)) : Wd H s l n (c :: d :: e :: f :: g :: cs) := W.perm (((List.Perm.swap _ _ _).trans (.cons _ ((List.Perm.swap _ _ _).trans (.cons _ ((List.Perm.swap _ _ _).trans (.cons _ (.swap _ _ _))))))).symm)
theorem Wd.sw1 (W : Wd H s l n (c :: d :: e :: cs)) : Wd H s l n (c :: e :: d :: cs) := W.perm (.cons _ (.swap _ _ _))
theorem Wd.dj (W : Wd H s l n (c :: d :: cs)) : c.dj d := (List.pairwise_cons.mp W.pw).1 d List.mem_cons_self
theorem Wd.stmNe (W : Wd H s l n (cell p o :: cs)) : p ≠ s ∧ p ≠ l := ⟨fun z => (W.os _ List.mem_cons_self).1 () o rfl z, fun z => (W.os _ List.mem_cons_self).2 () o rfl z⟩
/-- a place outside of a model -/
theorem rep_out {R : Type} {M : R → Option HO} {ad : R → Addr} (h : Rep M ad H) (ho : Out M ad b) : Rep M ad (upd H b o) := ⟨fun r u e => by rw [upd_ne (ho r u e)]; exact h.at_ r u e, h.inj⟩
end
theorem mv_put {R S : Type} {M : R → Option HO} {M' : S → Option HO} {ad : R → Addr} {ad' : S → Addr} {H H' : Hp} {p : Addr} {o : HO} (a : Mv M ad H M' ad' H') (hp : H p = none) : Mv M ad H M' ad' (upd H' p o) :=
  ⟨fun b u hb e => by rw [upd_ne (ne_of_none e hp)]; exact a.keep b u hb e, a.img⟩
/-- a model becomes another one: what is new lies at places that were free -/
theorem rep_extS {R S : Type} {M : R → Option HO} {M' : S → Option HO} {ad : R → Addr} {ad' : S → Addr} {H H' : Hp} (φ : S → R) (φi : ∀ r r', φ r = φ r' → r = r') (N : List S) (h : Rep M ad H) (at' : ∀ r o, M' r = some o → H' (ad' r) = some o)
    (cls : ∀ r o, M' r = some o → ((∃ o', M (φ r) = some o') ∧ ad' r = ad (φ r)) ∨ (r ∈ N ∧ H (ad' r) = none)) (nj : ∀ r ∈ N, ∀ r' ∈ N, ad' r = ad' r' → r = r') (keep : ∀ b o, Out M ad b → H b = some o → H' b = some o) : Rep M' ad' H' ∧ Mv M ad H M' ad' H' := by
  refine ⟨⟨at', fun r r' o o' e e' z => ?_⟩, keep, fun r u e => ?_⟩
  · rcases cls r o e with ⟨⟨u, g⟩, a⟩ | ⟨n, a⟩
    · rcases cls r' o' e' with ⟨⟨u', g'⟩, a'⟩ | ⟨n', a'⟩
      · rw [a, a'] at z; exact φi _ _ (h.inj _ _ _ _ g g' z)
      · rw [← z, a, h.at_ _ _ g] at a'; cases a'
    · rcases cls r' o' e' with ⟨⟨u', g'⟩, a'⟩ | ⟨n', a'⟩
      · rw [z, a', h.at_ _ _ g'] at a; cases a
      · exact nj r n r' n' z
  · rcases cls r u e with ⟨⟨u', g⟩, a⟩ | ⟨n, a⟩
    · exact .inl ⟨φ r, u', g, a.symm⟩
    · exact .inr a
theorem rep_ext {R : Type} {M M' : R → Option HO} {ad ad' : R → Addr} {H H' : Hp} (N : List R) (h : Rep M ad H) (at' : ∀ r o, M' r = some o → H' (ad' r) = some o)
    (cls : ∀ r o, M' r = some o → ((∃ o', M r = some o') ∧ ad' r = ad r) ∨ (r ∈ N ∧ H (ad' r) = none)) (nj : ∀ r ∈ N, ∀ r' ∈ N, ad' r = ad' r' → r = r') (keep : ∀ b o, Out M ad b → H b = some o → H' b = some o) : Rep M' ad' H' ∧ Mv M ad H M' ad' H' :=
  rep_extS id (fun _ _ z => z) N h at' cls nj keep
/-- two models as one -/
def Comp.sum (c d : Comp) : Comp := ⟨Sum c.R d.R, Sum.elim c.M d.M, Sum.elim c.ad d.ad⟩
theorem rep_sum {c d : Comp} {H : Hp} (hc : c.rep H) (hd : d.rep H) (dj : c.dj d) : (c.sum d).rep H := by
  refine ⟨fun r o e => ?_, fun r r' o o' e e' z => ?_⟩
  · cases r with
    | inl r => exact hc.at_ r o e
    | inr r => exact hd.at_ r o e
  · cases r with
    | inl r =>
      cases r' with
      | inl r' => exact congrArg Sum.inl (hc.inj _ _ _ _ e e' z)
      | inr r' => exact absurd z (dj r' o' e' r o e)
    | inr r =>
      cases r' with
      | inl r' => exact absurd z.symm (dj r o e r' o' e')
      | inr r' => exact congrArg Sum.inr (hd.inj _ _ _ _ e e' z)
theorem sum_out {c d : Comp} {b : Addr} (h : c.out b) (k : d.out b) : (c.sum d).out b := fun r u e => by
  cases r with
  | inl r => exact h r u e
  | inr r => exact k r u e
theorem Wd.join {H : Hp} {s l : Addr} {n : Nat} {c d : Comp} {cs : List Comp} (W : Wd H s l n (c :: d :: cs)) : Wd H s l n (c.sum d :: cs) := by
  have h1 := List.pairwise_cons.mp W.pw
  have h2 := List.pairwise_cons.mp h1.2
  refine ⟨W.stm, fun e he => ?_, List.pairwise_cons.mpr ⟨fun e he => ?_, h2.2⟩, fun e he => ?_⟩
  · rcases List.mem_cons.mp he with rfl | he
    · exact rep_sum W.hd W.tl.hd W.dj
    · exact W.rep e (List.mem_cons_of_mem _ (List.mem_cons_of_mem _ he))
  · intro r u er
    exact sum_out (h1.1 e (List.mem_cons_of_mem _ he) r u er) (h2.1 e he r u er)
  · rcases List.mem_cons.mp he with rfl | he
    · have a := W.os c List.mem_cons_self
      have b := W.os d (List.mem_cons_of_mem _ List.mem_cons_self)
      exact ⟨sum_out a.1 b.1, sum_out a.2 b.2⟩
    · exact W.os e (List.mem_cons_of_mem _ (List.mem_cons_of_mem _ he))
/-- a model out of a list of what lies where -/
theorem rep_list {R : Type} {M : R → Option HO} {ad : R → Addr} {H0 H : Hp} (L : List (R × Addr × HO)) (hM : ∀ r o, M r = some o → (r, ad r, o) ∈ L) (nd : (L.map (·.2.1)).Nodup) (hh : ∀ x ∈ L, H0 x.2.1 = none ∧ H x.2.1 = some x.2.2) :
    Rep M ad H ∧ ∀ r u, M r = some u → H0 (ad r) = none := by
  refine ⟨⟨fun r o e => (hh _ (hM r o e)).2, fun r r' o o' e e' z => ?_⟩, fun r u e => (hh _ (hM r u e)).1⟩
  obtain ⟨i, hi⟩ := List.getElem?_of_mem (hM r o e)
  obtain ⟨j, hj⟩ := List.getElem?_of_mem (hM r' o' e')
  have n1 : (L.map (·.2.1))[i]? = some (ad r) := by rw [List.getElem?_map, hi]; rfl
  have n2 : (L.map (·.2.1))[j]? = some (ad r) := by rw [List.getElem?_map, hj, z]; rfl
  have l := (List.getElem?_eq_some_iff.mp n1).1
  have ij := (List.getElem?_inj l nd).mp (n1.trans n2.symm)
  rw [ij, hj] at hi
  exact (congrArg Prod.fst (Option.some.inj hi)).symm
end RS

set_option Elab.async false
set_option linter.all false
set_option maxRecDepth 100000
set_option maxHeartbeats 0
namespace K17
open PySem PySem.Spec PyProof.Rows L2 RC
section
variable {P : Program} {w : World} {K : PySem.W.Frag} {mg : Str → Option Value} {base : Heap}
/-! ### the law's own record of a yard -/
section
variable {s : YS} {ad : Ro → Addr} {H : Hp}
theorem _root_.RR.Rep.lnow (R : YR K s ad H) (x : Int) : YR K { s with lnow := x } ad (upd H (ad .r) (.dK [(Sum.inr "now", .int x), (Sum.inr "files", .ref (ad .lf)), (Sum.inr "texts", .ref (ad .lt))])) ∧ YM K s ad H { s with lnow := x } ad (upd H (ad .r) (.dK [(Sum.inr "now", .int x), (Sum.inr "files", .ref (ad .lf)), (Sum.inr "texts", .ref (ad .lt))])) :=
  RR.Rep.set R .r rfl rfl fun r hr => by cases r <;> first | rfl | exact absurd rfl hr
theorem _root_.RR.Rep.lfil (R : YR K s ad H) (ts : List (Str × Str)) : YR K { s with lfiles := ts } ad (upd H (ad .lf) (.dK (strK ts))) ∧ YM K s ad H { s with lfiles := ts } ad (upd H (ad .lf) (.dK (strK ts))) :=
  RR.Rep.set R .lf rfl rfl fun r hr => by cases r <;> first | rfl | exact absurd rfl hr
theorem _root_.RR.Rep.ltex (R : YR K s ad H) (ts : List (Str × Str)) : YR K { s with ltexts := ts } ad (upd H (ad .lt) (.dK (strK ts))) ∧ YM K s ad H { s with ltexts := ts } ad (upd H (ad .lt) (.dK (strK ts))) :=
  RR.Rep.set R .lt rfl rfl fun r hr => by cases r <;> first | rfl | exact absurd rfl hr
end
theorem putS_keys (ts : List (Str × Str)) (k t : Str) : (putS ts k t).map (·.1) = ts.map (·.1) ∨ (k ∉ ts.map (·.1) ∧ (putS ts k t).map (·.1) = ts.map (·.1) ++ [k]) := by
  unfold putS
  by_cases c : ts.any (fun e => decide (e.1 = k)) = true
  · rw [if_pos c, List.map_map]
    refine .inl (List.map_congr_left fun e _ => ?_)
    show (if e.1 = k then (e.1, t) else e).1 = e.1
    split <;> rfl
  · rw [if_neg c]
    refine .inr ⟨fun h => c ?_, by rw [List.map_append]; rfl⟩
    obtain ⟨e, he, rfl⟩ := List.mem_map.mp h
    exact List.any_eq_true.mpr ⟨e, he, decide_eq_true rfl⟩
theorem putS_nd {ts : List (Str × Str)} (nd : (ts.map (·.1)).Nodup) (k t : Str) : ((putS ts k t).map (·.1)).Nodup := by
  rcases putS_keys ts k t with h | ⟨h1, h2⟩
  · rw [h]; exact nd
  · rw [h2]
    refine List.nodup_append.mpr ⟨nd, List.nodup_cons.mpr ⟨List.not_mem_nil, List.nodup_nil⟩, fun a ha b hb z => h1 ?_⟩
    cases List.mem_singleton.mp hb
    rw [← z]; exact ha
theorem rem_nd {ts : List (Str × Str)} (nd : (ts.map (·.1)).Nodup) (k : Str) : ((ts.filter fun e => decide (e.1 ≠ k)).map (·.1)).Nodup :=
  List.Sublist.nodup (List.filter_sublist.map _) nd
theorem putS_mem {ts : List (Str × Str)} {k t : Str} {e : Str × Str} (h : e ∈ putS ts k t) : e ∈ ts ∨ e.2 = t := by
  unfold putS at h
  split at h
  · obtain ⟨e', h1, rfl⟩ := List.mem_map.mp h
    split
    · exact .inr rfl
    · exact .inl h1
  · rcases List.mem_append.mp h with h | h
    · exact .inl h
    · cases List.mem_singleton.mp h; exact .inr rfl
/-- how much there is after k deeds -/
structure Bnd (k : Nat) (s : YS) : Prop where
  fs : s.files.length ≤ k
  ts : s.texts.length ≤ k
  fl : ∀ e ∈ s.files, e.2.length ≤ 20 * k
  tl : ∀ e ∈ s.texts, e.2.length ≤ 20 * k
  tm : ∀ j, j < 4 → (s.tm j).length ≤ 1
theorem Bnd.mono {k m : Nat} {s : YS} (b : Bnd k s) (h : k ≤ m) : Bnd m s :=
  ⟨Nat.le_trans b.fs h, Nat.le_trans b.ts h, fun e he => Nat.le_trans (b.fl e he) (Nat.mul_le_mul_left _ h), fun e he => Nat.le_trans (b.tl e he) (Nat.mul_le_mul_left _ h), b.tm⟩
theorem putS_bnd {ts : List (Str × Str)} {k : Nat} (h1 : ts.length ≤ k) (h2 : ∀ e ∈ ts, e.2.length ≤ 20 * k) (x : Str) {t : Str} (ht : t.length ≤ 20 * k + 20) : (putS ts x t).length ≤ k + 1 ∧ ∀ e ∈ putS ts x t, e.2.length ≤ 20 * (k + 1) :=
  ⟨Nat.le_trans (putS_length _ _ _) (Nat.succ_le_succ h1), fun e he => by
    rcases putS_mem he with h | h
    · exact Nat.le_trans (h2 e h) (Nat.mul_le_mul_left _ (Nat.le_succ _))
    · rw [h]; exact ht⟩
theorem txt_bnd {ts : List (Str × Str)} {n : Nat} (h : ∀ e ∈ ts, e.2.length ≤ n) (x : Str) : (txt ts x).length ≤ n := by
  unfold txt
  cases e : ts.lookup x with
  | none => exact Nat.zero_le _
  | some t =>
    have hm : ∃ k, (k, t) ∈ ts := by
      clear h
      induction ts with
      | nil => cases e
      | cons a r ih =>
        rw [List.lookup_cons] at e
        split at e
        · cases e; exact ⟨a.1, List.mem_cons_self⟩
        · obtain ⟨k, hk⟩ := ih e; exact ⟨k, List.mem_cons_of_mem _ hk⟩
    obtain ⟨k, hk⟩ := hm
    exact h _ hk
theorem len_filt (ts : List (Str × Str)) (k : Str) : (ts.filter fun e => decide (e.1 ≠ k)).length ≤ ts.length := List.length_filter_le _ _
abbrev cY (K : PySem.W.Frag) (s : YS) (ad : Ro → Addr) : RS.Comp := ⟨Ro, Y1 K s ad, ad⟩
/-- what a deed makes of a yard -/
def Dd (k : Nat) (s s' : YS) : Prop := Bnd k s → k ≤ 40 → Even s → Bnd (k + 1) s' ∧ Even s'
theorem dd_adv (k : Nat) (s : YS) (d : Int) : Dd k s (YS.adv { s with lnow := s.lnow + d } d) := fun b _ e =>
  ⟨⟨Nat.le_succ_of_le b.fs, Nat.le_succ_of_le b.ts, (b.mono (Nat.le_succ k)).fl, (b.mono (Nat.le_succ k)).tl, b.tm⟩, ⟨congrArg (· + d) e.now, e.files, e.texts, e.nf, e.nt, e.lf, e.lt⟩⟩
theorem dd_put (k : Nat) (s : YS) (x t : Str) (ht : t.length ≤ 20) : Dd k s (YS.put { s with lfiles := putS s.lfiles x t } x t) := fun b hk e => by
  obtain ⟨h1, h2⟩ := putS_bnd b.fs b.fl x (t := t) (by omega)
  exact ⟨⟨h1, Nat.le_succ_of_le b.ts, h2, (b.mono (Nat.le_succ k)).tl, b.tm⟩, ⟨e.now, congrArg (putS · x t) e.files, e.texts, putS_nd e.nf x t, e.nt, Nat.lt_of_le_of_lt h1 (by omega), e.lt⟩⟩
theorem dd_rem (k : Nat) (s : YS) (x : Str) : Dd k s (YS.rem { s with lfiles := s.lfiles.filter fun e => decide (e.1 ≠ x) } x) := fun b hk e => by
  have h1 : (s.files.filter fun e => decide (e.1 ≠ x)).length ≤ k := Nat.le_trans (len_filt _ _) b.fs
  exact ⟨⟨Nat.le_succ_of_le h1, Nat.le_succ_of_le b.ts, fun f hf => (b.mono (Nat.le_succ k)).fl f (List.mem_filter.mp hf).1, (b.mono (Nat.le_succ k)).tl, b.tm⟩, ⟨e.now, congrArg (List.filter fun f : Str × Str => decide (f.1 ≠ x)) e.files, e.texts, rem_nd e.nf x, e.nt, Nat.lt_of_le_of_lt h1 (by omega), e.lt⟩⟩
theorem dd_say (k : Nat) (s : YS) (j : Nat) (z w : Str) (hz : z.length ≤ 1) (hw : w.length ≤ 10) : Dd k s { (s.setTm j z).say (stn j) (w ++ z) with ltexts := putS s.ltexts (stn j) (txt s.ltexts (stn j) ++ w ++ z) } := fun b hk e => by
  have ht := txt_bnd b.tl (stn j)
  have hl : (txt s.texts (stn j) ++ (w ++ z)).length ≤ 20 * k + 20 := by rw [len_app, len_app]; omega
  obtain ⟨h1, h2⟩ := putS_bnd b.ts b.tl (stn j) hl
  refine ⟨⟨Nat.le_succ_of_le b.fs, h1, (b.mono (Nat.le_succ k)).fl, h2, fun i hi => ?_⟩, ⟨e.now, e.files, ?_, e.nf, putS_nd e.nt _ _, e.lf, Nat.lt_of_le_of_lt h1 (by omega)⟩⟩
  · show (if i = j then z else s.tm i).length ≤ 1
    split
    · exact hz
    · exact b.tm i hi
  · show putS s.ltexts (stn j) (txt s.ltexts (stn j) ++ w ++ z) = putS s.texts (stn j) (txt s.texts (stn j) ++ (w ++ z))
    rw [e.texts, app_assoc]
theorem dd_file (k : Nat) (s s1 : YS) (z w : Str) (hz : z.length ≤ 1) (hw : w.length ≤ 10) (W : Wrote (s.setTm 3 z) (w ++ z) s1) : Dd k s { s1 with lfiles := putS s.lfiles "f" (txt s.lfiles "f" ++ w ++ z) } := fun b hk e => by
  have ht := txt_bnd b.fl "f"
  have hl : (txt s.files "f" ++ (w ++ z)).length ≤ 20 * k + 20 := by rw [len_app, len_app]; omega
  obtain ⟨h1, h2⟩ := putS_bnd b.fs b.fl "f" hl
  have ef : s1.files = putS s.files "f" (txt s.files "f" ++ (w ++ z)) := W.files
  have et : s1.texts = s.texts := W.texts
  refine ⟨⟨?_, ?_, ?_, ?_, fun i hi => ?_⟩, ⟨W.lnow.trans (e.now.trans W.now.symm), ?_, W.ltexts.trans (e.texts.trans W.texts.symm), ?_, ?_, ?_, ?_⟩⟩
  · show s1.files.length ≤ _; rw [ef]; exact h1
  · show s1.texts.length ≤ _; rw [et]; exact Nat.le_succ_of_le b.ts
  · show ∀ e ∈ s1.files, _; rw [ef]; exact h2
  · show ∀ e ∈ s1.texts, _; rw [et]; exact (b.mono (Nat.le_succ k)).tl
  · show (s1.tm i).length ≤ 1
    rw [W.tm]
    show (if i = 3 then z else s.tm i).length ≤ 1
    split
    · exact hz
    · exact b.tm i hi
  · show putS s.lfiles "f" (txt s.lfiles "f" ++ w ++ z) = s1.files
    rw [ef, e.files, app_assoc]
  · show (s1.files.map (·.1)).Nodup; rw [ef]; exact putS_nd e.nf _ _
  · show (s1.texts.map (·.1)).Nodup; rw [et]; exact e.nt
  · show s1.files.length < _; rw [ef]; exact Nat.lt_of_le_of_lt h1 (by omega)
  · show s1.texts.length < _; rw [et]; exact e.lt
end
end K17

set_option Elab.async false
set_option linter.all false
set_option maxRecDepth 100000
set_option maxHeartbeats 0

namespace K17
open PySem PySem.Spec PyProof.Rows L2 RC
section
variable {P : Program} {w : World} {K : PySem.W.Frag} {mg : Str → Option Value} {base : Heap}
/-! ### a deed -/
def spDeed (K : PySem.W.Frag) : Sp := fun vs H Q _ => ∃ (s : YS) (ad : Ro → Addr) (sd l : Addr) (n k : Nat) (cs : List RS.Comp), vs = [.ref sd, .ref (ad .y), .ref (ad .r), .ref (ad .hd)] ∧ RS.Wd H sd l n (cY K s ad :: cs) ∧ n ≤ 900000 ∧ Even s ∧ Bnd k s ∧ k ≤ 40 ∧
  ∀ (ad' : Ro → Addr) (H' : Hp) (s' : YS), RS.Wd H' sd l (n + 8) (cY K s' ad' :: cs) → Even s' → Bnd (k + 1) s' → Fx ad ad' → Q .non H'
theorem mem_str {xs : List Str} {x : V} (h : x ∈ xs.map V.str) : ∃ z ∈ xs, x = .str z := by
  obtain ⟨z, hz, rfl⟩ := List.mem_map.mp h
  exact ⟨z, hz, rfl⟩
theorem mem_int {xs : List Int} {x : V} (h : x ∈ xs.map V.int) : ∃ z ∈ xs, x = .int z := by
  obtain ⟨z, hz, rfl⟩ := List.mem_map.mp h
  exact ⟨z, hz, rfl⟩
theorem nms_first : NmsOk (kv_FIRST_NAMES.map fun q => (q.1, q.2.v K)) := fun k v h => by
  unfold valV at h
  obtain ⟨p, hp, rfl⟩ := Option.map_eq_some_iff.mp h
  have hm := List.mem_of_find?_eq_some hp
  simp only [kv_FIRST_NAMES, List.map_cons, List.map_nil, List.mem_cons, List.not_mem_nil, or_false] at hm
  rcases hm with rfl | rfl | rfl | rfl | rfl | rfl <;> exact ⟨_, rfl⟩
theorem ok_deed {f : Addr} (T : Txt P w K mg) (F : Stands K "_law_yard_deed" "_law_yard_deed" s__law_yard_deed [] f)
    (c__law_draw : Callable P w K mg base 1 (He.ga K "_law_draw") ["_law_stream", "_law_many"] [] spDraw) (c__law_pick : Callable P w K mg base 2 (He.ga K "_law_pick") ["_law_stream", "_law_some"] [] (spPick K))
    (c_Yard_advance : Callable P w K mg base 1 (He.ma K (He.ga K "Yard") "advance") ["self", "milliseconds"] [] (spAdv K)) (c_Yard_advance_kw_milliseconds : RK.CallKw P w K mg base 1 (He.ma K (He.ga K "Yard") "advance") ["self", "milliseconds"] 1 ["milliseconds"] (fun vs zs => vs ++ zs) (spAdv K))
    (c_Yard_put_file : Callable P w K mg base 1 (He.ma K (He.ga K "Yard") "put_file") ["self", "name", "text"] [] (spPut K)) (c_Yard_put_file_kw_text_name : RK.CallKw P w K mg base 1 (He.ma K (He.ga K "Yard") "put_file") ["self", "name", "text"] 1 ["text", "name"] (fun vs zs => vs ++ zs.reverse) (spPut K))
    (c_Yard_remove_file : Callable P w K mg base 1 (He.ma K (He.ga K "Yard") "remove_file") ["self", "name"] [] (spRem K)) (c_Yard_remove_file_kw_name : RK.CallKw P w K mg base 1 (He.ma K (He.ga K "Yard") "remove_file") ["self", "name"] 1 ["name"] (fun vs zs => vs ++ zs) (spRem K))
    (c_StreamHandler_setTerminator : Callable P w K mg base 1 (He.ma K (He.ga K "StreamHandler") "setTerminator") ["self", "text"] [] (spSetTerm K false)) (c_FileHandler_setTerminator : Callable P w K mg base 1 (He.ma K (He.ga K "FileHandler") "setTerminator") ["self", "text"] [] (spSetTerm K true))
    (c_StreamHandler_handle : Callable P w K mg base 5 (He.ma K (He.ga K "StreamHandler") "handle") ["self", "record"] [] (spHandleS K)) (c_FileHandler_handle : Callable P w K mg base 5 (He.ma K (He.ga K "FileHandler") "handle") ["self", "record"] [] (spHandleF K))
    (c_Yard_make_record_d2 : Callable P w K mg base 4 (He.ma K (He.ga K "Yard") "make_record") ["self", "name", "level", "msg", "args", "extra"] [.ref (He.dflAt ("Yard", some "make_record") 0 K), .non] (spMakeRecord K)) :
    Callable P w K mg base 6 f ["_law_stream", "_law_yard", "_law_row", "_law_handlers"] [] (spDeed K) := by
  refine F.call0 sc__law_yard_deed (fun vs H Q E h => ?_) (fun cdv A outer s0 H vs Q E hr h => ?_) (fun _ _ _ _ _ _ us hl => match us, hl with | [_, _, _, _], _ => rfl)
  · obtain ⟨s, ad, sd, l, n, k, cs, rfl, _⟩ := h; rfl
  obtain ⟨s, ad, sd, l, n, k, cs, rfl, W, hn, Ev, Bn, hk, hQ⟩ := h
  refine ⟨_, (pss_cons (ps_par (by rfl) sc__law_yard_deed.nd (i := 4) (j := 5) rfl rfl (by decide) rfl rfl (pa_cons (pe_fn T.g__law_draw c__law_draw (hr.mono (by first | decide | exact Nat.le_refl _)) (by rfl) (pa_cons (pv 0) (pa_cons pe_int pa_nil))) (pa_cons (pe_fn T.g__law_pick c__law_pick (hr.mono (by first | decide | exact Nat.le_refl _)) (by rfl) (pa_cons (pv 0) (pa_cons (pe_lst (pa_cons pe_str (pa_cons pe_str (pa_cons pe_str (pa_cons pe_str (pa_cons pe_str pa_nil)))))) pa_nil))) pa_nil)) (by rfl))
      (pss_cons (ps_set (i := 6) sc__law_yard_deed.nd rfl (by first | exact Or.inl rfl | exact Or.inr rfl) (pe_fn T.g__law_pick c__law_pick (hr.mono (by first | decide | exact Nat.le_refl _)) (by rfl) (pa_cons (pv 0) (pa_cons (pe_lst (pa_cons pe_str (pa_cons pe_str (pa_cons pe_str (pa_cons pe_str pa_nil))))) pa_nil))))
      (pss_cons (ps_if (pt_cmpR op_eq (pv 4) pe_int (nomark _)) (pss_cons (ps_set (i := 7) sc__law_yard_deed.nd rfl (by first | exact Or.inl rfl | exact Or.inr rfl) (pe_fn T.g__law_pick c__law_pick (hr.mono (by first | decide | exact Nat.le_refl _)) (by rfl) (pa_cons (pv 0) (pa_cons (pe_lst (pa_cons pe_int (pa_cons pe_int (pa_cons pe_int (pa_cons pe_int (pa_cons (pe_op op_pow pe_int pe_int) pa_nil)))))) pa_nil))))
      (pss_cons (ps_dput (hu_of hr) (pv 2) pe_str (pe_op op_add (pe_dget (hu_of hr) (pv 2) pe_str (fun _ _ => rfl)) (pv 7)) rfl)
      (pss_one (ps_ret (pe_ifExp (pt_cmpR op_eq (pe_fn T.g__law_draw c__law_draw (hr.mono (by first | decide | exact Nat.le_refl _)) (by rfl) (pa_cons (pv 0) (pa_cons pe_int pa_nil))) pe_int (nomark _)) (pe_mt T.c_Yard T.m_Yard_advance c_Yard_advance (hr.mono (by first | decide | exact Nat.le_refl _)) (pv 1) (pa_cons (pv 7) pa_nil)) (RK.pe_mtK T.c_Yard T.m_Yard_advance c_Yard_advance_kw_milliseconds (hr.mono (by first | decide | exact Nat.le_refl _)) (pv 1) (pk_cons (pv 7) pk_nil))))))) pss_nil)
      (pss_cons (ps_if (pt_cmpR op_eq (pv 4) pe_int (nomark _)) (pss_cons (ps_dput (hu_of hr) (pe_dget (hu_of hr) (pv 2) pe_str (fun _ _ => rfl)) (pv 5) (pv 6) rfl)
      (pss_one (ps_ret (pe_ifExp (pt_cmpR op_eq (pe_fn T.g__law_draw c__law_draw (hr.mono (by first | decide | exact Nat.le_refl _)) (by rfl) (pa_cons (pv 0) (pa_cons pe_int pa_nil))) pe_int (nomark _)) (pe_mt T.c_Yard T.m_Yard_put_file c_Yard_put_file (hr.mono (by first | decide | exact Nat.le_refl _)) (pv 1) (pa_cons (pv 5) (pa_cons (pv 6) pa_nil))) (RK.pe_mtK T.c_Yard T.m_Yard_put_file c_Yard_put_file_kw_text_name (hr.mono (by first | decide | exact Nat.le_refl _)) (pv 1) (pk_cons (pv 6) (pk_cons (pv 5) pk_nil))))))) pss_nil)
      (pss_cons (ps_if (pt_cmpR op_eq (pv 4) pe_int (nomark _)) (pss_cons (ps_expr (pe_dpop2 (pe_dget (hu_of hr) (pv 2) pe_str (fun _ _ => rfl)) (pv 5) pe_non ⟨rfl, rfl, rfl, rfl⟩))
      (pss_one (ps_ret (pe_ifExp (pt_cmpR op_eq (pe_fn T.g__law_draw c__law_draw (hr.mono (by first | decide | exact Nat.le_refl _)) (by rfl) (pa_cons (pv 0) (pa_cons pe_int pa_nil))) pe_int (nomark _)) (pe_mt T.c_Yard T.m_Yard_remove_file c_Yard_remove_file (hr.mono (by first | decide | exact Nat.le_refl _)) (pv 1) (pa_cons (pv 5) pa_nil)) (RK.pe_mtK T.c_Yard T.m_Yard_remove_file c_Yard_remove_file_kw_name (hr.mono (by first | decide | exact Nat.le_refl _)) (pv 1) (pk_cons (pv 5) pk_nil)))))) pss_nil)
      (pss_cons (ps_set (i := 8) sc__law_yard_deed.nd rfl (by first | exact Or.inl rfl | exact Or.inr rfl) (pe_fn T.g__law_pick c__law_pick (hr.mono (by first | decide | exact Nat.le_refl _)) (by rfl) (pa_cons (pv 0) (pa_cons (pe_callB cr_sortedS (by rfl) T.b_sorted (by decide +kernel) (pa_cons (pe_callTy (call_list_dK rfl) (by rfl) T.b_list (by decide +kernel) (pa_cons (pv 3) pa_nil)) pa_nil)) pa_nil))))
      (pss_cons (ps_expr (RA.PE.or (pe_mt T.c_StreamHandler T.m_StreamHandler_setTerminator c_StreamHandler_setTerminator (hr.mono (by first | decide | exact Nat.le_refl _)) (pe_dget (hu_of hr) (pv 3) (pv 8) (fun _ _ => rfl)) (pa_cons (pe_fn T.g__law_pick c__law_pick (hr.mono (by first | decide | exact Nat.le_refl _)) (by rfl) (pa_cons (pv 0) (pa_cons (pe_lst (pa_cons pe_str (pa_cons pe_str (pa_cons pe_str (pa_cons pe_str pa_nil))))) pa_nil))) pa_nil)) (pe_mt T.c_FileHandler T.m_FileHandler_setTerminator c_FileHandler_setTerminator (hr.mono (by first | decide | exact Nat.le_refl _)) (pe_dget (hu_of hr) (pv 3) (pv 8) (fun _ _ => rfl)) (pa_cons (pe_fn T.g__law_pick c__law_pick (hr.mono (by first | decide | exact Nat.le_refl _)) (by rfl) (pa_cons (pv 0) (pa_cons (pe_lst (pa_cons pe_str (pa_cons pe_str (pa_cons pe_str (pa_cons pe_str pa_nil))))) pa_nil))) pa_nil))))
      (pss_cons (ps_expr (RA.PE.or (pe_mt T.c_StreamHandler T.m_StreamHandler_handle c_StreamHandler_handle (hr.mono (by first | decide | exact Nat.le_refl _)) (pe_dget (hu_of hr) (pv 3) (pv 8) (fun _ _ => rfl)) (pa_cons (pe_mt T.c_Yard T.m_Yard_make_record c_Yard_make_record_d2 (hr.mono (by first | decide | exact Nat.le_refl _)) (pv 1) (pa_cons pe_str (pa_cons pe_int (pa_cons (pv 6) pa_nil)))) pa_nil)) (pe_mt T.c_FileHandler T.m_FileHandler_handle c_FileHandler_handle (hr.mono (by first | decide | exact Nat.le_refl _)) (pe_dget (hu_of hr) (pv 3) (pv 8) (fun _ _ => rfl)) (pa_cons (pe_mt T.c_Yard T.m_Yard_make_record c_Yard_make_record_d2 (hr.mono (by first | decide | exact Nat.le_refl _)) (pv 1) (pa_cons pe_str (pa_cons pe_int (pa_cons (pv 6) pa_nil)))) pa_nil))))
      (pss_cons (ps_set (i := 9) sc__law_yard_deed.nd rfl (by first | exact Or.inl rfl | exact Or.inr rfl) (pe_ifExp (pt_cmpR op_eq (pv 8) pe_str (nomark _)) pe_str pe_str))
      (pss_cons (ps_dput (hu_of hr) (pe_dget (hu_of hr) (pv 2) (pv 9) (fun _ _ => rfl)) (pv 8) (pe_op op_add_str (pe_op op_add_str (pe_dget2 (hu_of hr) (pe_dget (hu_of hr) (pv 2) (pv 9) (fun _ _ => rfl)) (pv 8) pe_str ⟨rfl, rfl, rfl, rfl⟩) (pv 6)) (pe_fld (pe_dget (hu_of hr) (pv 3) (pv 8) (fun _ _ => rfl)) rfl)) rfl)
      (pss_one (ps_ret pe_non)))))))))))), ?_⟩
  walk_at "in"
  have st := W.stm
  walk_at "go"
  intro H1 d o1 st1 d0 d1
  have W1 := W.old o1 st1
  clear W st o1
  walk_at "go"
  intro p1 f1
  obtain ⟨n1, n2⟩ := stm_new st1 f1
  have W2 := W1.new (o := .lst [.str "f", .str "g", .str "f.1", .str "a b", .str "F"]) f1
  have st2 := W2.stm
  have c2 := W2.c0
  clear W1 st1 f1
  generalize upd H1 p1 (.lst [.str "f", .str "g", .str "f.1", .str "a b", .str "F"]) = H2 at W2 st2 c2 ⊢
  walk_at "go"
  intro H3 x o3 st3 hx
  obtain ⟨key, _, rfl⟩ := mem_str (xs := ["f", "g", "f.1", "a b", "F"]) hx
  have W3 := (W2.old o3 st3).tl
  clear W2 st2 c2 o3 hx
  walk_at "go"
  intro p2 f2
  obtain ⟨n3, n4⟩ := stm_new st3 f2
  have W4 := W3.new (o := .lst [.str "", .str "x", .str "one\n", .str "two\nthree"]) f2
  have st4 := W4.stm
  have c4 := W4.c0
  clear W3 st3 f2
  generalize upd H3 p2 (.lst [.str "", .str "x", .str "one\n", .str "two\nthree"]) = H4 at W4 st4 c4 ⊢
  walk_at "go"
  intro H5 x o5 st5 hx
  obtain ⟨wd, hwd, rfl⟩ := mem_str (xs := ["", "x", "one\n", "two\nthree"]) hx
  have hwl : wd.length ≤ 10 := by
    simp only [List.mem_cons, List.not_mem_nil, or_false] at hwd
    rcases hwd with rfl | rfl | rfl | rfl <;> decide
  have W5 := (W4.old o5 st5).tl
  clear W4 st4 c4 o5 hx hwd
  walk_at "go"
  -- the clock
  by_cases e0 : d = 0
  · subst e0
    refine iteT' rfl ?_
    walk_at "go"
    intro p3 f3
    obtain ⟨n5, n6⟩ := stm_new st5 f3
    have W6 := W5.new (o := .lst [.int 0, .int 1, .int 999, .int 86400000, .int ((10 : Int) ^ (12 : Int).toNat)]) f3
    have st6 := W6.stm
    have c6 := W6.c0
    clear W5 st5 f3
    change tNil _ (upd H5 p3 (.lst [.int 0, .int 1, .int 999, .int 86400000, .int ((10 : Int) ^ (12 : Int).toNat)])) _
    generalize upd H5 p3 (.lst [.int 0, .int 1, .int 999, .int 86400000, .int ((10 : Int) ^ (12 : Int).toNat)]) = H6 at W6 st6 c6 ⊢
    walk_at "go"
    intro H7 x o7 st7 hx
    obtain ⟨dd, _, rfl⟩ := mem_int (xs := [0, 1, 999, 86400000, ((10 : Int) ^ (12 : Int).toNat)]) hx
    have W7 := (W6.old o7 st7).tl
    clear W6 st6 c6 o7 hx
    have hr7 := W7.hd.r_
    obtain ⟨R8, M8⟩ := W7.hd.lnow (s.lnow + dd)
    have W8 : RS.Wd (upd H7 (ad .r) (.dK (putK [(Sum.inr "now", .int s.lnow), (Sum.inr "files", .ref (ad .lf)), (Sum.inr "texts", .ref (ad .lt))] (Sum.inr "now") (.int (s.lnow + dd))))) sd l (n + 1 + 1 + 1 + 1) (cY K { s with lnow := s.lnow + dd } ad :: cs) := W7.mv R8 M8
    have st8 := W8.stm
    clear st7 W7
    walk_at "go"
    intro H9 d2 o9 st9 d20 d21
    have W9 := W8.old o9 st9
    have R9 := W9.hd
    clear W8 R8 M8 st8 o9
    have fin : ∀ H', YR K (YS.adv { s with lnow := s.lnow + dd } dd) ad H' → YM K { s with lnow := s.lnow + dd } ad H9 (YS.adv { s with lnow := s.lnow + dd } dd) ad H' → Q .non H' := fun H' R' M' => by
      have W' : RS.Wd H' sd l _ (cY K _ ad :: cs) := W9.mv R' M'
      obtain ⟨b', e'⟩ := dd_adv k s dd Bn hk Ev
      exact hQ _ _ _ (W'.mono (by omega)) e' b' (Fx.refl ad)
    have hy9 := R9.y_
    by_cases e1 : d2 = 0
    · subst e1
      walk_at "go"
      exact fin
    · have e1' : decide (V.int d2 = V.int 0) = false := decide_eq_false fun z => e1 (by injection z)
      walk_at "go"
      exact fin
  -- a file is put
  have e0' : decide (V.int d = V.int 0) = false := decide_eq_false fun z => e0 (by injection z)
  refine iteF' e0' ?_
  walk_at "go"
  by_cases e1 : d = 1
  · subst e1
    refine iteT' rfl ?_
    have hr5 := W5.hd.r_
    have lf5 := W5.hd.lf_
    have l5 : s.lfiles.length < 64 := by rw [Ev.files]; exact Ev.lf
    have l5a : (strK s.lfiles).length < sizeLine := by unfold strK; rw [List.length_map, sizeLine_eq]; omega
    obtain ⟨R8, M8⟩ := W5.hd.lfil (putS s.lfiles key wd)
    rw [← putK_strK] at R8 M8
    have W8 : RS.Wd (upd H5 (ad .lf) (.dK (putK (strK s.lfiles) (Sum.inr key) (.str wd)))) sd l (n + 1 + 1 + 1) (cY K { s with lfiles := putS s.lfiles key wd } ad :: cs) := W5.mv R8 M8
    have st8 := W8.stm
    clear W5 st5
    walk_at "go"
    intro H9 d2 o9 st9 d20 d21
    have W9 := W8.old o9 st9
    have R9 := W9.hd
    clear W8 R8 M8 st8 o9 hr5 lf5
    have fin : ∀ ad' H', YR K (YS.put { s with lfiles := putS s.lfiles key wd } key wd) ad' H' → YM K { s with lfiles := putS s.lfiles key wd } ad H9 (YS.put { s with lfiles := putS s.lfiles key wd } key wd) ad' H' → Fx ad ad' → Q .non H' := fun ad' H' R' M' X' => by
      have W' : RS.Wd H' sd l _ (cY K _ ad' :: cs) := W9.mv R' M'
      obtain ⟨b', e'⟩ := dd_put k s key wd (Nat.le_trans hwl (by decide)) Bn hk Ev
      exact hQ _ _ _ (W'.mono (by omega)) e' b' X'
    have hy9 := R9.y_
    have hl9 : s.files.length ≤ 1000 := Nat.le_trans Bn.fs (by omega)
    by_cases e1 : d2 = 0
    · subst e1
      walk_at "go"
      exact fin
    · have e1' : decide (V.int d2 = V.int 0) = false := decide_eq_false fun z => e1 (by injection z)
      walk_at "go"
      exact fin
  have e1' : decide (V.int d = V.int 1) = false := decide_eq_false fun z => e1 (by injection z)
  refine iteF' e1' ?_
  walk_at "go"
  by_cases e2 : d = 2
  · subst e2
    refine iteT' rfl ?_
    have hr5 := W5.hd.r_
    have lf5 := W5.hd.lf_
    obtain ⟨R8, M8⟩ := W5.hd.lfil (s.lfiles.filter fun e => decide (e.1 ≠ key))
    rw [strK_rem] at R8 M8
    have W8 : RS.Wd (upd H5 (ad .lf) (.dK (dropK (strK s.lfiles) (Sum.inr key)))) sd l (n + 1 + 1 + 1) (cY K { s with lfiles := s.lfiles.filter fun e => decide (e.1 ≠ key) } ad :: cs) := W5.mv R8 M8
    clear R8 M8
    walk_at "go"
    refine ⟨(rfl : _ = kV (Sum.inr key)), fun v hv => ?_, fun hv => ?_⟩
    rotate_left
    · rw [drop_none hv, upd_self lf5] at W8
      have st8 := W8.stm
      clear W5 st5 hr5 lf5
      walk_at "go"
      intro H9 d2 o9 st9 d20 d21
      have W9 := W8.old o9 st9
      have R9 := W9.hd
      clear W8 st8 o9
      have fin : ∀ H', YR K (YS.rem { s with lfiles := s.lfiles.filter fun e => decide (e.1 ≠ key) } key) ad H' → YM K { s with lfiles := s.lfiles.filter fun e => decide (e.1 ≠ key) } ad H9 (YS.rem { s with lfiles := s.lfiles.filter fun e => decide (e.1 ≠ key) } key) ad H' → Q .non H' := fun H' R' M' => by
        have W' : RS.Wd H' sd l _ (cY K _ ad :: cs) := W9.mv R' M'
        obtain ⟨b', e'⟩ := dd_rem k s key Bn hk Ev
        exact hQ _ _ _ (W'.mono (by omega)) e' b' (Fx.refl ad)
      have hy9 := R9.y_
      by_cases e1 : d2 = 0
      · subst e1
        walk_at "go"
        exact fin
      · have e1' : decide (V.int d2 = V.int 0) = false := decide_eq_false fun z => e1 (by injection z)
        walk_at "go"
        exact fin
    · have st8 := W8.stm
      clear W5 st5 hr5 lf5
      walk_at "go"
      intro H9 d2 o9 st9 d20 d21
      have W9 := W8.old o9 st9
      have R9 := W9.hd
      clear W8 st8 o9
      have fin : ∀ H', YR K (YS.rem { s with lfiles := s.lfiles.filter fun e => decide (e.1 ≠ key) } key) ad H' → YM K { s with lfiles := s.lfiles.filter fun e => decide (e.1 ≠ key) } ad H9 (YS.rem { s with lfiles := s.lfiles.filter fun e => decide (e.1 ≠ key) } key) ad H' → Q .non H' := fun H' R' M' => by
        have W' : RS.Wd H' sd l _ (cY K _ ad :: cs) := W9.mv R' M'
        obtain ⟨b', e'⟩ := dd_rem k s key Bn hk Ev
        exact hQ _ _ _ (W'.mono (by omega)) e' b' (Fx.refl ad)
      have hy9 := R9.y_
      by_cases e1 : d2 = 0
      · subst e1
        walk_at "go"
        exact fin
      · have e1' : decide (V.int d2 = V.int 0) = false := decide_eq_false fun z => e1 (by injection z)
        walk_at "go"
        exact fin
  have e2' : decide (V.int d = V.int 2) = false := decide_eq_false fun z => e2 (by injection z)
  refine iteF' e2' ?_
  clear e0 e0' e1 e1' e2 e2' d0 d1
  have hd5 := W5.hd.hd_
  walk_at "go"
  intro q fq
  have W6 := W5.new (o := .lst ([.str "out", .str "", .str "err", .str "f"])) fq
  have c6 := W6.c0
  refine ⟨q, ["out", "", "err", "f"], rfl, SqL.of c6, by decide, fun ys p3 hp3 _ f3 => ?_⟩
  have W7 := W6.new (o := .lst (ys.map V.str)) f3
  have st7 := W7.stm
  have c7 := W7.c0
  obtain ⟨n5, n6⟩ := W7.stmNe
  have W7' := W7.up1.tl
  clear W5 W6 W7 c6 f3 fq st5 hd5
  change tNil _ (upd (upd H5 q (.lst [.str "out", .str "", .str "err", .str "f"])) p3 (.lst (ys.map V.str))) _
  generalize upd (upd H5 q (.lst [.str "out", .str "", .str "err", .str "f"])) p3 (.lst (ys.map V.str)) = H7 at W7' st7 c7 ⊢
  have l7 : (ys.map V.str).length = 4 := by rw [List.length_map, hp3.length_eq]; rfl
  have l7a : 1 ≤ (ys.map V.str).length := by omega
  have l7b : (ys.map V.str).length ≤ 1000 := by omega
  walk_at "go"
  intro H8 x o8 st8 hx
  obtain ⟨z, hz, rfl⟩ := mem_str hx
  have hz := hp3.mem_iff.mp hz
  have W8 := (W7'.old o8 st8).tl
  clear W7' st7 c7 o8 hx hp3 l7 l7a l7b
  have hd8 := W8.hd.hd_
  have hc : (∃ j, j < 3 ∧ z = stn j) ∨ z = "f" := by
    simp only [List.mem_cons, List.not_mem_nil, or_false] at hz
    rcases hz with rfl | rfl | rfl | rfl
    · exact .inl ⟨0, by decide, rfl⟩
    · exact .inl ⟨1, by decide, rfl⟩
    · exact .inl ⟨2, by decide, rfl⟩
    · exact .inr rfl
  clear hz
  rcases hc with ⟨j, hj, rfl⟩ | rfl
  · walk_at "go"
    refine .inl ?_
    have vj : valV [((Sum.inr "out" : Key), V.ref (ad (.h 0))), (Sum.inr "", .ref (ad (.h 1))), (Sum.inr "err", .ref (ad (.h 2))), (Sum.inr "f", .ref (ad (.h 3)))] (Sum.inr (stn j)) = some (.ref (ad (.h j))) := by
      match j, hj with
      | 0, _ => rfl
      | 1, _ => rfl
      | 2, _ => rfl
    have hs8 := W8.hd.hs_ hj
    walk_at "go"
    intro p4 f4
    obtain ⟨n7, n8⟩ := stm_new st8 f4
    have W9 := W8.new (o := .lst [.str "", .str "", .str "\n", .str ";"]) f4
    have st9 := W9.stm
    have c9 := W9.c0
    clear W8 st8 f4 hd8 hs8
    generalize upd H8 p4 (.lst [.str "", .str "", .str "\n", .str ";"]) = H9 at W9 st9 c9 ⊢
    walk_at "go"
    intro H10 x o10 st10 hx
    obtain ⟨tz, htz, rfl⟩ := mem_str (xs := ["", "", "\n", ";"]) hx
    have htl : tz.length ≤ 1 := by
      simp only [List.mem_cons, List.not_mem_nil, or_false] at htz
      rcases htz with rfl | rfl | rfl | rfl <;> decide
    have W10 := (W9.old o10 st10).tl
    clear W9 st9 c9 o10 hx htz st10
    have R10 := W10.hd
    walk_at "go"
    refine ⟨(fun h => nomatch h), fun _ => hj, fun H11 R11 M11 => ?_⟩
    clear R10
    have W11 : RS.Wd H11 sd l _ (cY K _ ad :: cs) := W10.mv R11 M11
    clear W10 M11
    have hd11 := R11.hd_
    have hs11 := R11.hs_ hj
    have hy11 := R11.y_
    have na11 := R11.na_
    have nu11 := R11.nu_
    have hT := T.dt_Yard_make_record_0 H11
    have hN := nms_first (K := K)
    walk_at "go"
    refine .inl ?_
    walk_at "go"
    intro H12 r g e s12 fr fg fe hr12 hg12 he12
    obtain ⟨dx, hr12⟩ := hr12
    have W12 := W11.same s12
    have R12 := W12.hd
    have hA : RecAt K H12 r "a" 20 (lvName (kv_FIRST_NAMES.map fun q => (q.1, q.2.v K)) 20) wd (s.setTm j tz).now := ⟨dx, g, e, hr12, hg12, he12⟩
    have tmj : (s.setTm j tz).tm j = tz := if_pos rfl
    have tml : ((s.setTm j tz).tm j).length ≤ 100 := by rw [tmj]; omega
    have wl : wd.length ≤ 1000 := by omega
    have cp : Cap (s.setTm j tz).texts 7000000 := ⟨Nat.le_trans Bn.ts (by omega), fun e he => Nat.le_trans (Bn.tl e he) (by omega)⟩
    clear W11 s12 fr fg fe hr12 hg12 he12 hd11 hs11 hy11 na11 nu11 hT hN R11
    walk_at "go"
    intro H13 R13 M13
    have W13 : RS.Wd H13 sd l _ (cY K _ ad :: cs) := W12.mv R13 M13
    rw [tmj] at W13
    clear R12 W12 hA R13 M13 tml cp
    have R13 := W13.hd
    have hr13 := R13.r_
    have lt13 := R13.lt_
    have hd13 := R13.hd_
    have hs13 := R13.hs_ hj
    have hlt : strK ((s.setTm j tz).say (stn j) (wd ++ tz)).ltexts = strK s.ltexts := rfl
    rw [hlt] at lt13
    have htm : ((s.setTm j tz).say (stn j) (wd ++ tz)).tm j = tz := tmj
    rw [htm] at hs13
    have nf : decide (V.str (stn j) = V.str "f") = false := decide_eq_false fun z => by
      injection z with z
      match j, hj, z with
      | 0, _, z => revert z; decide
      | 1, _, z => revert z; decide
      | 2, _, z => revert z; decide
    have vt := valV_strK (stn j) s.ltexts
    have tl : (txt s.ltexts (stn j)).length ≤ 20 * k := txt_bnd (by rw [Ev.texts]; exact Bn.tl) _
    have l1 : (txt s.ltexts (stn j)).length + wd.length ≤ sizeLine := by rw [sizeLine_eq]; omega
    have l2 : (txt s.ltexts (stn j) ++ wd).length + tz.length ≤ sizeLine := by rw [len_app, sizeLine_eq]; omega
    have l3 : (strK s.ltexts).length < sizeLine := by unfold strK; rw [List.length_map, sizeLine_eq, Ev.texts]; have := Ev.lt; omega
    obtain ⟨R14, M14⟩ := R13.ltex (putS s.ltexts (stn j) (txt s.ltexts (stn j) ++ wd ++ tz))
    have W14 : RS.Wd _ sd l _ (cY K _ ad :: cs) := W13.mv R14 M14
    rw [← putK_strK] at W14
    obtain ⟨b', e'⟩ := dd_say k s j tz wd htl hwl Bn hk Ev
    have fin := hQ ad _ _ (W14.mono (by omega)) e' b' (Fx.refl ad)
    clear R13 W13 R14 M14 W14 b' e' hQ
    cases ek : s.ltexts.lookup (stn j) with
    | none =>
      have et : txt s.ltexts (stn j) = "" := by unfold txt; rw [ek]; rfl
      rw [ek] at vt
      rw [et] at l1 l2 fin
      walk_at "go"
      exact fin
    | some t =>
      have et : txt s.ltexts (stn j) = t := by unfold txt; rw [ek]; rfl
      rw [ek] at vt
      rw [et] at l1 l2 fin
      walk_at "go"
      exact fin
  · walk_at "go"
    refine .inr ?_
    have hs8 := W8.hd.hf_
    walk_at "go"
    intro p4 f4
    obtain ⟨n7, n8⟩ := stm_new st8 f4
    have W9 := W8.new (o := .lst [.str "", .str "", .str "\n", .str ";"]) f4
    have st9 := W9.stm
    have c9 := W9.c0
    clear W8 st8 f4 hd8 hs8
    generalize upd H8 p4 (.lst [.str "", .str "", .str "\n", .str ";"]) = H9 at W9 st9 c9 ⊢
    walk_at "go"
    intro H10 x o10 st10 hx
    obtain ⟨tz, htz, rfl⟩ := mem_str (xs := ["", "", "\n", ";"]) hx
    have htl : tz.length ≤ 1 := by
      simp only [List.mem_cons, List.not_mem_nil, or_false] at htz
      rcases htz with rfl | rfl | rfl | rfl <;> decide
    have W10 := (W9.old o10 st10).tl
    clear W9 st9 c9 o10 hx htz st10
    have R10 := W10.hd
    walk_at "go"
    refine ⟨(fun h => nomatch h), fun H11 R11 M11 => ?_⟩
    clear R10
    have W11 : RS.Wd H11 sd l _ (cY K _ ad :: cs) := W10.mv R11 M11
    clear W10 M11
    have hd11 := R11.hd_
    have hs11 := R11.hf_
    have hy11 := R11.y_
    have na11 := R11.na_
    have nu11 := R11.nu_
    have hT := T.dt_Yard_make_record_0 H11
    have hN := nms_first (K := K)
    walk_at "go"
    refine .inr ?_
    walk_at "go"
    intro H12 r g e s12 fr fg fe hr12 hg12 he12
    obtain ⟨dx, hr12⟩ := hr12
    have W12 := W11.same s12
    have R12 := W12.hd
    have hA : RecW K (s.setTm 3 tz) ad H12 r "a" 20 (lvName (kv_FIRST_NAMES.map fun q => (q.1, q.2.v K)) 20) wd (s.setTm 3 tz).now := ⟨dx, g, e, hr12, hg12, he12, R11.out fr, R11.out fg, R11.out fe⟩
    have tmj : (s.setTm 3 tz).tm 3 = tz := rfl
    have tml : ((s.setTm 3 tz).tm 3).length ≤ 100 := by rw [tmj]; omega
    have wl : wd.length ≤ 1000 := by omega
    have cp : Cap (s.setTm 3 tz).files 900 := ⟨Nat.le_trans Bn.fs (by omega), fun e he => Nat.le_trans (Bn.fl e he) (by omega)⟩
    clear W11 s12 fr fg fe hr12 hg12 he12 hd11 hs11 hy11 na11 nu11 hT hN R11
    walk_at "go"
    intro ad13 H13 s13 R13 M13 X13 Wr
    have W13 : RS.Wd H13 sd l _ (cY K _ ad13 :: cs) := W12.mv R13 M13
    rw [tmj] at Wr
    clear R12 W12 hA R13 M13 tml cp
    have R13 := W13.hd
    have er : ad13 .r = ad .r := X13 _ fun _ h => nomatch h
    have elf : ad13 .lf = ad .lf := X13 _ fun _ h => nomatch h
    have ehd : ad13 .hd = ad .hd := X13 _ fun _ h => nomatch h
    have eh3 : ad13 (.h 3) = ad (.h 3) := X13 _ fun _ h => nomatch h
    have hr13 := R13.r_
    have lf13 := R13.lf_
    have hd13 := R13.hd_
    have hs13 := R13.hf_
    have hlf : s13.lfiles = s.lfiles := Wr.lfiles
    have htm : s13.tm 3 = tz := by rw [Wr.tm]; exact tmj
    rw [hlf, elf] at lf13
    rw [er, elf] at hr13
    rw [ehd, eh3] at hd13
    rw [htm, eh3] at hs13
    have vt := valV_strK "f" s.lfiles
    have tl : (txt s.lfiles "f").length ≤ 20 * k := txt_bnd (by rw [Ev.files]; exact Bn.fl) _
    have l1 : (txt s.lfiles "f").length + wd.length ≤ sizeLine := by rw [sizeLine_eq]; omega
    have l2 : (txt s.lfiles "f" ++ wd).length + tz.length ≤ sizeLine := by rw [len_app, sizeLine_eq]; omega
    have l3 : (strK s.lfiles).length < sizeLine := by unfold strK; rw [List.length_map, sizeLine_eq, Ev.files]; have := Ev.lf; omega
    obtain ⟨R14, M14⟩ := R13.lfil (putS s.lfiles "f" (txt s.lfiles "f" ++ wd ++ tz))
    have W14 : RS.Wd _ sd l _ (cY K _ ad13 :: cs) := W13.mv R14 M14
    rw [← putK_strK, elf] at W14
    obtain ⟨b', e'⟩ := dd_file k s s13 tz wd htl hwl Wr Bn hk Ev
    have fin := hQ ad13 _ _ (W14.mono (by omega)) e' b' X13
    clear R13 W13 R14 M14 W14 b' e' hQ
    cases ek : s.lfiles.lookup ("f" : Str) with
    | none =>
      have et : txt s.lfiles "f" = "" := by unfold txt; rw [ek]; rfl
      rw [ek] at vt
      rw [et] at l1 l2 fin
      walk_at "go"
      exact fin
    | some t =>
      have et : txt s.lfiles "f" = t := by unfold txt; rw [ek]; rfl
      rw [ek] at vt
      rw [et] at l1 l2 fin
      walk_at "go"
      exact fin
end
end K17

set_option Elab.async false
set_option linter.all false
set_option maxRecDepth 100000
set_option maxHeartbeats 0

namespace K17
open PySem PySem.Spec PyProof.Rows L2 RC
section
variable {P : Program} {w : World} {K : PySem.W.Frag} {mg : Str → Option Value} {base : Heap}
/-! ### a turn -/
def bodyFor : Stmt → List Stmt
  | .For _ _ b _ _ => b
  | _ => []
abbrev b_turn : List Stmt := bodyFor ((defBody s_law).getD 4 (.Pass ⟨0, 0, 0, 0⟩))
abbrev sides (K : PySem.W.Frag) (s0 s1 : YS) (a0 a1 : Ro → Addr) (y0 y1 r0 r1 h0 h1 Y Rw Hd : Addr) : List RS.Comp :=
  [cY K s0 a0, cY K s1 a1, RS.cell Y (.lst [.ref y0, .ref y1]), RS.cell Rw (.lst [.ref r0, .ref r1]), RS.cell Hd (.lst [.ref h0, .ref h1])]
structure Nm (ad : Ro → Addr) (y r h : Addr) : Prop where
  y : ad .y = y
  r : ad .r = r
  h : ad .hd = h
theorem Nm.fx {ad ad' : Ro → Addr} {y r h : Addr} (n : Nm ad y r h) (X : Fx ad ad') : Nm ad' y r h := ⟨(X .y fun _ h => nomatch h).trans n.y, (X .r fun _ h => nomatch h).trans n.r, (X .hd fun _ h => nomatch h).trans n.h⟩
def TurnI (K : PySem.W.Frag) (s l y0 y1 r0 r1 h0 h1 Y Rw Hd : Addr) (i : Nat) (H : Hp) : Prop := ∃ s0 s1 a0 a1, RS.Wd H s l (100 + 20 * i) (sides K s0 s1 a0 a1 y0 y1 r0 r1 h0 h1 Y Rw Hd) ∧ Even s0 ∧ Even s1 ∧ Bnd i s0 ∧ Bnd i s1 ∧ Nm a0 y0 r0 h0 ∧ Nm a1 y1 r1 h1
abbrev sgT (a s Y Rw Hd : Addr) (o2 o6 o7 o8 o9 o10 : Option V) : L2.St := [some (.ref a), some (.ref s), o2, some (.ref Y), some (.ref Rw), some (.ref Hd), o6, o7, o8, o9, o10]
theorem turn (T : Txt P w K mg) {f : Addr} {cdv : Value} {A : Around} {outer : List Env} {st0 : Shared} {E : XK} {H : Hp} (hr : Room 7 (A.deeper (envOfC "law" (defScope s_law) st0.heap.objs.size f cdv)))
    (c__law_draw : Callable P w K mg base 1 (He.ga K "_law_draw") ["_law_stream", "_law_many"] [] spDraw)
    (c__law_yard_deed : Callable P w K mg base 6 (He.ga K "_law_yard_deed") ["_law_stream", "_law_yard", "_law_row", "_law_handlers"] [] (spDeed K))
    (c__law_yard_right : Callable P w K mg base 6 (He.ga K "_law_yard_right") ["_law_yard", "_law_row"] [] (spRight K)) :
    ∃ t, PSs (cxOf CX0 P w K mg base nm_law "law" (defScope s_law) f cdv A outer st0 H E).nox b_turn t ∧ ∀ {a s l y0 y1 r0 r1 h0 h1 Y Rw Hd : Addr} (i : Nat) (H5 : Hp) (D' : Ends), TurnI K s l y0 y1 r0 r1 h0 h1 Y Rw Hd i H5 → i < 30 → ∀ o2 o6 o7 o8 o10,
      (∀ σ H', TurnI K s l y0 y1 r0 r1 h0 h1 Y Rw Hd (i + 1) H' → (∃ o6 o7 o8 o9 o10, σ = sgT a s Y Rw Hd o2 o6 o7 o8 o9 o10) → D'.nx σ H') → t D' (sgT a s Y Rw Hd o2 o6 o7 o8 (some (.int (0 + (i : Nat)))) o10) H5 := by
  refine ⟨_, (pss_cons (ps_set (i := 6) sc_law.nd rfl (by first | exact Or.inl rfl | exact Or.inr rfl) (pe_fn T.g__law_draw c__law_draw (hr.mono (by first | decide | exact Nat.le_refl _)) (by rfl) (pa_cons (pv 1) (pa_cons pe_int pa_nil))))
      (pss_cons (ps_if (pt_cmpR op_notN (pe_fn T.g__law_yard_deed c__law_yard_deed (hr.mono (by first | decide | exact Nat.le_refl _)) (by rfl) (pa_cons (pv 1) (pa_cons (pe_ix ix_list (pv 3) (pv 6) (fun _ _ => rfl)) (pa_cons (pe_ix ix_list (pv 4) (pv 6) (fun _ _ => rfl)) (pa_cons (pe_ix ix_list (pv 5) (pv 6) (fun _ _ => rfl)) pa_nil))))) pe_non (nomark _)) (pss_one (ps_ret pe_bl)) pss_nil)
      (pss_one (ps_if (pt_not (pt_val (pe_callB (cr_all rfl) (by rfl) T.b_all (by decide +kernel) (pa_cons (pe_lc (own := [("_law_k", 10)]) (by rfl) sc_law.nd (pi_range1 (by rfl) T.b_range (pa_cons pe_int pa_nil)) (blkOk_by (own := [("_law_k", 10)]) (N := nm_law) (sc := defScope s_law) (by decide +kernel)) (fun _ _ _ _ _ => (pg_name (i := 10) sc_law.nd rfl (by first | exact Or.inl rfl | exact Or.inr rfl))) (fun _ _ _ _ _ => pts_nil) (fun _ _ _ _ _ => (pe_fn T.g__law_yard_right c__law_yard_right (hr.mono (by first | decide | exact Nat.le_refl _)) (by rfl) (pa_cons (pe_ix (ixK (K := K) rIxL ix_list) (pv 3) (pv 10) (fun _ _ => rfl)) (pa_cons (pe_ix (ixK (K := K) rIxL ix_list) (pv 4) (pv 10) (fun _ _ => rfl)) pa_nil))))) pa_nil)))) (pss_one (ps_ret pe_bl)) pss_nil)))), ?_⟩
  walk_at "in"
  intro a s l y0 y1 r0 r1 h0 h1 Y Rw Hd i H5 D' ⟨s0, s1, a0, a1, W5, e0, e1, b0, b1, g0, g1⟩ hi o2 o6 o7 o8 o10 k'
  have st5 := W5.stm
  walk_at "go"
  intro H6 d q6 st6 d1 d2
  have W6 := W5.old q6 st6
  clear q6 W5 st5
  have hY : H6 Y = some (.lst [.ref y0, .ref y1]) := (W6.rep (RS.cell Y (.lst [.ref y0, .ref y1])) (by simp)).at_ () _ rfl
  have hR : H6 Rw = some (.lst [.ref r0, .ref r1]) := (W6.rep (RS.cell Rw (.lst [.ref r0, .ref r1])) (by simp)).at_ () _ rfl
  have hH : H6 Hd = some (.lst [.ref h0, .ref h1]) := (W6.rep (RS.cell Hd (.lst [.ref h0, .ref h1])) (by simp)).at_ () _ rfl
  dsimp only [gName]
  refine seq_of (fun σ H' => (∃ s0 s1 a0 a1, RS.Wd H' s l (100 + 20 * (i + 1)) (sides K s0 s1 a0 a1 y0 y1 r0 r1 h0 h1 Y Rw Hd) ∧ Even s0 ∧ Even s1 ∧ Bnd (i + 1) s0 ∧ Bnd (i + 1) s1 ∧ Nm a0 y0 r0 h0 ∧ Nm a1 y1 r1 h1) ∧ ∃ o6 o7 o8 o9 o10, σ = sgT a s Y Rw Hd o2 o6 o7 o8 o9 o10) (fun b' kb => ?_) (fun σ' H' hm => ?_)
  · have cs : d = 0 ∨ d = 1 := by omega
    rcases cs with rfl | rfl
    · have q0 : atI [V.ref y0, .ref y1] 0 = some (.ref y0) := rfl
      have q1 : atI [V.ref r0, .ref r1] 0 = some (.ref r0) := rfl
      have q2 : atI [V.ref h0, .ref h1] 0 = some (.ref h0) := rfl
      walk_at "go"
      refine ⟨(show [V.ref s, V.ref y0, V.ref r0, V.ref h0] ++ [] = [V.ref s, .ref (a0 .y), .ref (a0 .r), .ref (a0 .hd)] from by rw [g0.y, g0.r, g0.h]; rfl), W6, by omega, e0, b0, by omega, fun ad' H' s' W' e' b2 X' => ?_⟩
      walk_at "go"
      exact kb _ _ ⟨⟨s', s1, ad', a1, W'.mono (by omega), e', e1, b2, b1.mono (Nat.le_succ i), g0.fx X', g1⟩, _, _, _, _, _, rfl⟩
    · have q0 : atI [V.ref y0, .ref y1] 1 = some (.ref y1) := rfl
      have q1 : atI [V.ref r0, .ref r1] 1 = some (.ref r1) := rfl
      have q2 : atI [V.ref h0, .ref h1] 1 = some (.ref h1) := rfl
      walk_at "go"
      refine ⟨(show [V.ref s, V.ref y1, V.ref r1, V.ref h1] ++ [] = [V.ref s, .ref (a1 .y), .ref (a1 .r), .ref (a1 .hd)] from by rw [g1.y, g1.r, g1.h]; rfl), W6.up1, by omega, e1, b1, by omega, fun ad' H' s' W' e' b2 X' => ?_⟩
      walk_at "go"
      exact kb _ _ ⟨⟨s0, s', a0, ad', W'.up1.mono (by omega), e0, e', b0.mono (Nat.le_succ i), b2, g0, g1.fx X'⟩, _, _, _, _, _, rfl⟩
  · obtain ⟨⟨s0, s1, a0, a1, W7, e0, e1, b0, b1, g0, g1⟩, o6, o7, o8, o9, o10, rfl⟩ := hm
    clear W6 hY hR hH
    have hY : H' Y = some (.lst [.ref y0, .ref y1]) := (W7.rep (RS.cell Y (.lst [.ref y0, .ref y1])) (by simp)).at_ () _ rfl
    have hR : H' Rw = some (.lst [.ref r0, .ref r1]) := (W7.rep (RS.cell Rw (.lst [.ref r0, .ref r1])) (by simp)).at_ () _ rfl
    walk_at "go"
    intro D hD
    refine lc_it walk_range (fun i H2 => Same H' H2 ∧ H2 D = some (.lst ((List.replicate i true).map V.bl))) ⟨same_new hD _, upd_same⟩ (fun _ _ _ _ => trivial) (fun j x H2 H3 hj hP hx => ?_) (fun H3 hP => ?_)
    · obtain ⟨rfl, rfl⟩ := hx
      obtain ⟨s2, d2⟩ := hP
      have etk : (List.replicate j true).map V.bl ++ [.bl true] = (List.replicate (j + 1) true).map V.bl := by rw [List.replicate_succ', List.map_append]; rfl
      have hj2 : j < 2 := hj
      have ln : ((List.replicate j true).map V.bl).length < sizeLine := by rw [List.length_map, List.length_replicate, sizeLine_eq]; omega
      have hYL2 := s2 _ _ hY
      have hTL2 := s2 _ _ hR
      have cj : j = 0 ∨ j = 1 := by omega
      have fin : ∀ H5, Same H3 H5 → ∃ acc, H5 D = some (.lst acc) ∧ acc.length < sizeLine ∧ Same H' (upd H5 D (.lst (acc ++ [.bl true]))) ∧ upd H5 D (.lst (acc ++ [.bl true])) D = some (.lst ((List.replicate (j + 1) true).map V.bl)) := fun H5 s5 =>
        ⟨_, s5 _ _ d2, ln, fun b u e => by rw [upd_ne (ne_of_none e hD)]; exact s5 _ _ (s2 _ _ e), by rw [upd_same, etk]⟩
      rcases cj with rfl | rfl
      · have q0 : atI [V.ref y0, .ref y1] (0 + (0 : Nat)) = some (.ref y0) := rfl
        have q1 : atI [V.ref r0, .ref r1] (0 + (0 : Nat)) = some (.ref r0) := rfl
        walk_at "go"
        refine ⟨(show [V.ref y0, V.ref r0] ++ [] = [V.ref (a0 .y), V.ref (a0 .r)] from by rw [g0.y, g0.r]; rfl), ?_⟩
        exact ⟨(W7.same s2).hd, e0, fun H5 s5 => fin H5 s5⟩
      · have q0 : atI [V.ref y0, .ref y1] (0 + (1 : Nat)) = some (.ref y1) := rfl
        have q1 : atI [V.ref r0, .ref r1] (0 + (1 : Nat)) = some (.ref r1) := rfl
        walk_at "go"
        refine ⟨(show [V.ref y1, V.ref r1] ++ [] = [V.ref (a1 .y), V.ref (a1 .r)] from by rw [g1.y, g1.r]; rfl), ?_⟩
        exact ⟨(W7.same s2).up1.hd, e1, fun H5 s5 => fin H5 s5⟩
    · obtain ⟨s2, d2⟩ := hP
      refine ⟨D, List.replicate 2 true, rfl, SqL.of d2, ?_⟩
      walk_at "go"
      exact k' _ _ ⟨s0, s1, a0, a1, W7.same s2, e0, e1, b0, b1, g0, g1⟩ ⟨_, _, _, _, _, rfl⟩
end
end K17

set_option Elab.async false
set_option linter.all false
set_option maxRecDepth 100000
set_option linter.all false
set_option maxRecDepth 100000
set_option maxHeartbeats 4000000
/-! Worlds of single cells: cells laid, cells set, a model gathered out of cells. -/
namespace RS
open PySem PySem.Spec PyProof.Rows L2 RC RR
section
variable {H H' : Hp} {s l p m q b : Addr} {n k : Nat} {cs xs ys : List Comp} {c : Comp} {o o' o1 o1' o2 : HO}
abbrev cl (x : Addr × HO) : Comp := cell x.1 x.2
theorem cell_dj (h : p ≠ q) : (cell p o).dj (cell q o1) := fun _ _ _ _ _ _ z => h z
theorem Wd.addL (W : Wd H s l n cs) (e : Same H H') : ∀ L : List (Addr × HO), (L.map (·.1)).Nodup → (∀ x ∈ L, H x.1 = none ∧ H' x.1 = some x.2) → Wd H' s l n (L.map cl ++ cs)
  | [], _, _ => W.same e
  | x :: L, nd, h => by
    obtain ⟨n1, n2⟩ := List.nodup_cons.mp nd
    have W' := Wd.addL W e L n2 fun y hy => h y (List.mem_cons_of_mem _ hy)
    obtain ⟨h1, h2⟩ := h x List.mem_cons_self
    obtain ⟨ne, ns, y, cc, dd, g1, g2, g3⟩ := W.stm
    refine ⟨W'.stm, fun d hd => ?_, List.pairwise_cons.mpr ⟨fun d hd => ?_, W'.pw⟩, fun d hd => ?_⟩
    · rcases List.mem_cons.mp hd with rfl | hd
      · exact cell_rep h2
      · exact W'.rep d hd
    · rcases List.mem_append.mp hd with hd | hd
      · obtain ⟨y, hy, rfl⟩ := List.mem_map.mp hd
        exact cell_dj fun z => n1 (by show x.1 ∈ _; rw [z]; exact List.mem_map_of_mem hy)
      · intro r u er _ _ _ z
        have z : x.1 = d.ad r := z
        exact (W.rep d hd).out h1 r u er z.symm
    · rcases List.mem_cons.mp hd with rfl | hd
      · exact ⟨cell_out (fun z => (by rw [← z, g1] at h1; cases h1)), cell_out (fun z => (by rw [← z, g2] at h1; cases h1))⟩
      · exact W'.os d hd
theorem Wd.mid (W : Wd H s l n (xs ++ c :: ys)) : Wd H s l n (c :: (xs ++ ys)) := W.perm List.perm_middle.symm
theorem Wd.unmid (W : Wd H s l n (c :: (xs ++ ys))) : Wd H s l n (xs ++ c :: ys) := W.perm List.perm_middle
theorem Wd.at_ (W : Wd H s l n (xs ++ cell p o :: ys)) : H p = some o := W.mid.c0
theorem Wd.setM (W : Wd H s l n (xs ++ cell p o :: ys)) : Wd (upd H p o') s l n (xs ++ cell p o' :: ys) := Wd.unmid (Wd.set W.mid)
theorem Wd.neM (W : Wd H s l n (cell p o :: (xs ++ cell m o1 :: ys))) : p ≠ m := fun z => by
  have h := (List.pairwise_cons.mp W.pw).1 (cell m o1) (by simp)
  exact h () o1 rfl () o rfl z
/-- a call that writes the cells p and m and lays q -/
theorem Wd.hand (W : Wd H s l n (cell p o :: (xs ++ cell m o1 :: ys))) (kp : ∀ b u, b ≠ p → b ≠ m → H b = some u → H' b = some u) (hq : H q = none) (hp : H' p = some o') (hm : H' m = some o1') (hq' : H' q = some o2) : Wd H' s l n (cell q o2 :: cell p o' :: (xs ++ cell m o1' :: ys)) := by
  have npm : p ≠ m := W.neM
  have W1 : Wd (upd H p o') s l n (cell p o' :: (xs ++ cell m o1 :: ys)) := W.set
  have W2 : Wd (upd (upd H p o') m o1') s l n ((cell p o' :: xs) ++ cell m o1' :: ys) := Wd.setM (xs := cell p o' :: xs) W1
  have hp0 : H p = some o := W.c0
  have hm0 : H m = some o1 := Wd.at_ (xs := cell p o :: xs) W
  have nqp : q ≠ p := fun z => by rw [z, hp0] at hq; cases hq
  have nqm : q ≠ m := fun z => by rw [z, hm0] at hq; cases hq
  refine Wd.fresh W2 (fun b u e => ?_) (by rw [upd_ne nqm, upd_ne nqp]; exact hq) hq'
  by_cases c1 : b = m
  · subst c1; rw [upd_same] at e; cases e; exact hm
  · rw [upd_ne c1] at e
    by_cases c2 : b = p
    · subst c2; rw [upd_same] at e; cases e; exact hp
    · rw [upd_ne c2] at e; exact kp b u c2 c1 e
/-- a model out of cells -/
theorem Wd.gather {R : Type} {M : R → Option HO} {ad : R → Addr} (L : List (R × Addr × HO)) (W : Wd H s l n (L.map (fun x => cell x.2.1 x.2.2) ++ cs)) (hM : ∀ r o, M r = some o → (r, ad r, o) ∈ L) : Wd H s l n (⟨R, M, ad⟩ :: cs) := by
  have mem : ∀ x ∈ L, cell x.2.1 x.2.2 ∈ L.map (fun x => cell x.2.1 x.2.2) ++ cs := fun x hx => List.mem_append_left _ (List.mem_map_of_mem hx)
  have pw := List.pairwise_append.mp W.pw
  have nd : (L.map (·.2.1)).Nodup := by
    have h1 := List.pairwise_map.mp pw.1
    refine List.pairwise_map.mpr (h1.imp fun {a b} h z => ?_)
    exact h () b.2.2 rfl () a.2.2 rfl z
  have hh : ∀ x ∈ L, (fun _ : Addr => (none : Option HO)) x.2.1 = none ∧ H x.2.1 = some x.2.2 := fun x hx => ⟨rfl, (W.rep _ (mem x hx)).at_ () _ rfl⟩
  have rp := (RS.rep_list (H0 := fun _ => none) L hM nd hh).1
  refine ⟨W.stm, fun d hd => ?_, List.pairwise_cons.mpr ⟨fun d hd => ?_, pw.2.1⟩, fun d hd => ?_⟩
  · rcases List.mem_cons.mp hd with rfl | hd
    · exact rp
    · exact W.rep d (List.mem_append_right _ hd)
  · intro r u er r' u' er' z
    exact pw.2.2 _ (List.mem_map_of_mem (hM r' u' er')) d hd r u er () u' rfl z
  · rcases List.mem_cons.mp hd with rfl | hd
    · exact ⟨fun r u er z => (W.os _ (mem _ (hM r u er))).1 () u rfl z, fun r u er z => (W.os _ (mem _ (hM r u er))).2 () u rfl z⟩
    · exact W.os d (List.mem_append_right _ hd)
theorem pw_at {ds : List Comp} (pw : ds.Pairwise Comp.dj) {i j : Nat} {a b : Comp} (hij : i ≠ j) (ha : ds[i]? = some a) (hb : ds[j]? = some b) : a.dj b := by
  obtain ⟨li, rfl⟩ := List.getElem?_eq_some_iff.mp ha
  obtain ⟨lj, rfl⟩ := List.getElem?_eq_some_iff.mp hb
  rcases Nat.lt_or_ge i j with h | h
  · exact List.pairwise_iff_getElem.mp pw i j li lj h
  · exact Dj.symm (List.pairwise_iff_getElem.mp pw j i lj li (by omega))
/-- some of the models, in another order -/
theorem Wd.pickL (is : List Nat) {ds : List Comp} (W : Wd H s l n (ds ++ cs)) (nd : is.Nodup) : Wd H s l n (is.filterMap (fun i => ds[i]?) ++ cs) := by
  have pw := List.pairwise_append.mp W.pw
  have mem : ∀ c ∈ is.filterMap (fun i => ds[i]?), c ∈ ds := fun c hc => by
    obtain ⟨i, _, hi⟩ := List.mem_filterMap.mp hc
    exact List.mem_of_getElem? hi
  have mm : ∀ c ∈ is.filterMap (fun i => ds[i]?) ++ cs, c ∈ ds ++ cs := fun c hc => by
    rcases List.mem_append.mp hc with h | h
    · exact List.mem_append_left _ (mem c h)
    · exact List.mem_append_right _ h
  refine ⟨W.stm, fun c hc => W.rep c (mm c hc), List.pairwise_append.mpr ⟨?_, pw.2.1, fun a ha b hb => pw.2.2 a (mem a ha) b hb⟩, fun c hc => W.os c (mm c hc)⟩
  refine List.pairwise_filterMap.mpr (nd.imp fun {i j} hij a ha b hb => ?_)
  exact pw_at pw.1 hij ha hb
end
end RS

set_option Elab.async false
set_option linter.all false
set_option maxRecDepth 100000
set_option maxHeartbeats 0

namespace K17
open PySem PySem.Spec PyProof.Rows L2 RC
section
variable {P : Program} {w : World} {K : PySem.W.Frag} {mg : Str → Option Value} {base : Heap}
/-! ### two yards are made -/
abbrev b_make : List Stmt := bodyFor ((defBody s_law).getD 3 (.Pass ⟨0, 0, 0, 0⟩))
def ybL (K : PySem.W.Frag) (clk : Int) (y dy : Addr) (q : YParts) : List (Addr × HO) := [(y, .ins (CY K) dy (yF clk q.st q.fi q.na q.nu q.lm q.md q.hn q.fr q.rt q.lr)), (q.st, .dK []), (q.fi, .dK []), (q.na, .dK (kv_FIRST_NAMES.map fun q => (q.1, q.2.v K))), (q.nu, .dK (kv_FIRST_NUMBERS.map fun q => (q.1, q.2.v K))), (q.md, .lst [])]
theorem YNew.cells {H H2 : Hp} {y dy : Addr} {clk : Int} {q : YParts} (hy : H y = none) (hd : H dy = none) (N : YNew K (upd (upd H dy (.own y)) y (.ins (CY K) dy [])) H2 y dy clk q) : Same H H2 ∧ ((ybL K clk y dy q).map (·.1)).Nodup ∧ ∀ x ∈ ybL K clk y dy q, H x.1 = none ∧ H2 x.1 = some x.2 := by
  obtain ⟨rd, ld, F⟩ := N.fr
  have S : Same H H2 := made_same hy hd F.kp
  have gy := N.y
  have gm := N.md
  have hm0 : H q.md = none := by
    rcases F.old q.md List.mem_cons_self with c | c
    · rw [c, gy] at gm; cases gm
    · exact (upd_none (upd_none c).2).2
  have nym : y ≠ q.md := fun z => by rw [← z, gy] at gm; cases gm
  have k0 : ∀ e ∈ q.L K y rd ld, H e.1 = none ∧ H2 e.1 = some e.2 := fun e he => ⟨(upd_none (upd_none (F.has e he).2.1).2).2, (F.has e he).2.2⟩
  have nL : ∀ e ∈ q.L K y rd ld, e.1 ≠ y ∧ e.1 ≠ q.md := fun e he => by
    have := (F.has e he).1
    simp only [List.mem_cons, List.not_mem_nil, or_false, not_or] at this
    exact ⟨this.2, this.1⟩
  have nd := F.nd
  refine ⟨S, ?_, fun x hx => ?_⟩
  · have a1 := nL (q.st, .dK []) (by simp [YParts.L])
    have a2 := nL (q.fi, .dK []) (by simp [YParts.L])
    have a3 := nL (q.na, .dK (kv_FIRST_NAMES.map fun q => (q.1, q.2.v K))) (by simp [YParts.L])
    have a4 := nL (q.nu, .dK (kv_FIRST_NUMBERS.map fun q => (q.1, q.2.v K))) (by simp [YParts.L])
    have nd' : [q.nu, q.na, q.fi, q.st].Nodup := by
      refine List.Sublist.nodup ?_ nd
      show [q.nu, q.na, q.fi, q.st].Sublist [q.ll, q.lr, q.rh, q.rl, q.rt, q.fr, q.hn, q.lm, q.nu, q.na, q.fi, q.st]
      exact (((((((List.Sublist.refl _).cons _).cons _).cons _).cons _).cons _).cons _ |>.cons _ |>.cons _)
    show [y, q.st, q.fi, q.na, q.nu, q.md].Nodup
    simp only [List.nodup_cons, List.mem_cons, List.not_mem_nil, or_false, not_or, not_false_eq_true, List.nodup_nil, and_true] at nd' ⊢
    obtain ⟨⟨b1, b2, b3⟩, ⟨b4, b5⟩, b6⟩ := nd'
    exact ⟨⟨Ne.symm a1.1, Ne.symm a2.1, Ne.symm a3.1, Ne.symm a4.1, nym⟩, ⟨Ne.symm b6, Ne.symm b5, Ne.symm b3, a1.2⟩, ⟨Ne.symm b4, Ne.symm b2, a2.2⟩, ⟨Ne.symm b1, a3.2⟩, a4.2⟩
  · rcases List.mem_cons.mp hx with rfl | hx
    · exact ⟨hy, gy⟩
    simp only [List.mem_cons, List.not_mem_nil, or_false] at hx
    rcases hx with rfl | rfl | rfl | rfl | rfl
    · exact k0 _ (by simp [YParts.L])
    · exact k0 _ (by simp [YParts.L])
    · exact k0 _ (by simp [YParts.L])
    · exact k0 _ (by simp [YParts.L])
    · exact ⟨hm0, gm⟩
/-- the handlers made so far, the last first -/
def hcL (K : PySem.W.Frag) (y : Addr) : List (Addr × Addr × Addr × Addr) → List RS.Comp
  | [] => []
  | (p, x, f, t) :: qs => RS.cell t (.tup [.str (stn qs.length), .ref p]) :: RS.cell f (.lst []) :: RS.cell p (.ins (CS K) x (hdS f y "\n" (stn qs.length))) :: hcL K y qs
/-- a yard at first -/
def ys0 (clk : Int) : YS := ⟨clk, [], fun _ => 0, [], fun _ => "\n", false, clk, [], []⟩
def adN (y dy : Addr) (q : YParts) (r lf lt hd : Addr) (h0 x0 f0 h1 x1 f1 h2 x2 f2 h3 x3 f3 : Addr) : Ro → Addr
  | .y => y | .st => q.st | .fi => q.fi | .na => q.na | .nu => q.nu | .r => r | .lf => lf | .lt => lt | .hd => hd
  | .ly => 0 | .lr => 0 | .lh => 0 | .row _ => 0
  | .h 0 => h0 | .h 1 => h1 | .h 2 => h2 | .h _ => h3
  | .fl 0 => f0 | .fl 1 => f1 | .fl 2 => f2 | .fl _ => f3
  | .hx 0 => x0 | .hx 1 => x1 | .hx 2 => x2 | .hx _ => x3
  | .x 0 => dy | .x 1 => q.lm | .x 2 => q.md | .x 3 => q.hn | .x 4 => q.fr | .x 5 => q.rt | .x _ => q.lr
theorem atI_last (xs : List V) (x : V) {i : Nat} (h : xs.length = i) : atI (xs ++ [x]) (0 + (i : Nat)) = some x := by
  have e : (0 : Int) + (i : Nat) = (i : Nat) := by omega
  rw [e]
  exact atI_nat (by rw [← h, List.getElem?_append_right (Nat.le_refl _), Nat.sub_self]; rfl)
abbrev sgM (a s Y Rw Hd : Addr) (beg : Int) (o6 o7 o8 o9 o10 : Option V) : L2.St := [some (.ref a), some (.ref s), some (.int beg), some (.ref Y), some (.ref Rw), some (.ref Hd), o6, o7, o8, o9, o10]
theorem make (T : Txt P w K mg) {f : Addr} {cdv : Value} {A : Around} {outer : List Env} {st0 : Shared} {E : XK} {H : Hp} (hr : Room 7 (A.deeper (envOfC "law" (defScope s_law) st0.heap.objs.size f cdv)))
    (c_StreamHandler_init : Callable P w K mg base 3 (He.ma K (He.ga K "StreamHandler") "__init__") ["self", "yard", "stream"] [] (spStreamInit K))
    (c_FileHandler_init : Callable P w K mg base 3 (He.ma K (He.ga K "FileHandler") "__init__") ["self", "yard", "filename", "mode", "delay"] [] (spFileInit K)) :
    ∃ t, PSs (cxOf CX0 P w K mg base nm_law "law" (defScope s_law) f cdv A outer st0 H E).nox b_make t ∧ ∀ {a s l y dy Y Rw Hd : Addr} {q : YParts} {n : Nat} {beg clk : Int} {ys rs hs : List V} {cs : List RS.Comp} (i : Nat) (H5 : Hp) (D' : Ends),
      RS.Wd H5 s l n (RS.cell Y (.lst ys) :: RS.cell Rw (.lst rs) :: RS.cell Hd (.lst hs) :: ((ybL K clk y dy q).map RS.cl ++ cs)) → atI ys (0 + (i : Nat)) = some (.ref y) → rs.length = i → hs.length = i → i < 2 → beg * (0 + (i : Nat)) = clk → ∀ o7 o8 o9 o10,
      (∀ σ H' ad, RS.Wd H' s l n (cY K (ys0 clk) ad :: RS.cell Y (.lst ys) :: RS.cell Rw (.lst (rs ++ [.ref (ad .r)])) :: RS.cell Hd (.lst (hs ++ [.ref (ad .hd)])) :: cs) → ad .y = y → (∃ o6 o7 o8 o9 o10, σ = sgM a s Y Rw Hd beg o6 o7 o8 o9 o10) → D'.nx σ H') → t D' (sgM a s Y Rw Hd beg (some (.int (0 + (i : Nat)))) o7 o8 o9 o10) H5 := by
  refine ⟨_, (pss_cons (ps_set (i := 7) sc_law.nd rfl (by first | exact Or.inl rfl | exact Or.inr rfl) (pe_ix ix_list (pv 3) (pv 6) (fun _ _ => rfl)))
      (pss_cons (ps_expr (pe_bm PySem.F.plainAttrs_list PySem.F.slot_list_append PySem.F.type_list_append mt_append (pv 4) (pa_cons (pe_disp (pps_cons pe_str (pe_op op_mul (pv 2) (pv 6)) (pps_cons pe_str pe_dnewK (pps_cons pe_str pe_dnewK pps_nil))) (by rfl) (by rfl) (fun z => by cases z) (by decide)) pa_nil)))
      (pss_cons (ps_expr (pe_bm PySem.F.plainAttrs_list PySem.F.slot_list_append PySem.F.type_list_append mt_append (pv 5) (pa_cons (pe_callTy (call_dictP rfl) (by rfl) T.b_dict (by decide +kernel) (pa_cons (pe_lc (own := [("_law_key", 8)]) (by rfl) sc_law.nd (pi_list (pe_lst (pa_cons pe_str (pa_cons pe_str (pa_cons pe_str pa_nil))))) (blkOk_by (own := [("_law_key", 8)]) (N := nm_law) (sc := defScope s_law) (by decide +kernel)) (fun _ _ _ _ _ => (pg_name (i := 8) sc_law.nd rfl (by first | exact Or.inl rfl | exact Or.inr rfl))) (fun _ _ _ _ _ => pts_nil) (fun _ _ _ _ _ => (pe_tup (pa_cons (pv 8) (pa_cons (pe_mk T.k_StreamHandler T.g_StreamHandler c_StreamHandler_init (hr.mono (by first | decide | exact Nat.le_refl _)) (by rfl) (pa_cons (pv 7) (pa_cons (pv 8) pa_nil))) pa_nil))))) pa_nil)) pa_nil)))
      (pss_one (ps_dput (hu_of hr) (pe_ix ix_list (pv 5) (pv 6) (fun _ _ => rfl)) pe_str (pe_mk T.k_FileHandler T.g_FileHandler c_FileHandler_init (hr.mono (by first | decide | exact Nat.le_refl _)) (by rfl) (pa_cons (pv 7) (pa_cons pe_str (pa_cons pe_str (pa_cons pe_bl pa_nil))))) rfl))))), ?_⟩
  walk_at "in"
  intro a s l y dy Y Rw Hd q n beg clk ys rs hs cs i H5 D' W5 hys hrs hhs hi hbeg o7 o8 o9 o10 k'
  subst hbeg
  have hY : H5 Y = some (.lst ys) := W5.c0
  have hlr : rs.length < sizeLine := by rw [sizeLine_eq]; omega
  have hlh : hs.length < sizeLine := by rw [sizeLine_eq]; omega
  have hRw : H5 Rw = some (.lst rs) := RS.Wd.at_ (xs := [RS.cell Y (.lst ys)]) W5
  have hHd : H5 Hd = some (.lst hs) := RS.Wd.at_ (xs := [RS.cell Y (.lst ys), RS.cell Rw (.lst rs)]) W5
  have nYR : Y ≠ Rw := RS.Wd.neM (xs := []) W5
  have nYH : Y ≠ Hd := RS.Wd.neM (xs := [RS.cell Rw (.lst rs)]) W5
  have nRH : Rw ≠ Hd := RS.Wd.neM (xs := []) W5.tl
  walk_at "gi"
  rename_i r fr
  have hcm : CMul beg (0 + (i : Nat)) := .inr ⟨by omega, by omega⟩
  refine ⟨hcm, ?_⟩
  walk_at "gi"
  rename_i lf flf nA lt flt nB nC P fP nD nE nF nG nH D fD nI nJ nK nL nM nN
  have V1 := W5.new (o := .dK []) fr
  have V2 := V1.new (p := lf) (o := .dK []) (by rw [upd_ne nA]; exact flf)
  have V3 := V2.new (p := lt) (o := .dK []) (by rw [upd_ne nC, upd_ne nB]; exact flt)
  have V4 := RS.Wd.setM (xs := [RS.cell lt (.dK []), RS.cell lf (.dK [])]) (o' := .dK (mergeK [] [(Sum.inr "now", .int (beg * (0 + (i : Nat)))), (Sum.inr "files", .ref lf), (Sum.inr "texts", .ref lt)])) V3
  have V5 := RS.Wd.setM (xs := [RS.cell lt (.dK []), RS.cell lf (.dK []), RS.cell r (.dK (mergeK [] [(Sum.inr "now", .int (beg * (0 + (i : Nat)))), (Sum.inr "files", .ref lf), (Sum.inr "texts", .ref lt)])), RS.cell Y (.lst ys)]) (o' := .lst (rs ++ [.ref r])) V4
  have V6 := V5.new (p := P) (o := .lst [.str "out", .str "", .str "err"]) (by rw [upd_ne nH, upd_ne nG, upd_ne nF, upd_ne nE, upd_ne nD]; exact fP)
  have V7 := V6.new (p := D) (o := .lst []) (by rw [upd_ne nN, upd_ne nM, upd_ne nL, upd_ne nK, upd_ne nJ, upd_ne nI]; exact fD)
  clear V1 V2 V3 V4 V5 V6 flf flt fP fD fr W5 hY hRw hHd nA nB nC nD nE nF nG nH nI nJ nK nL nM nN
  refine lc_it (walk_list (xs := [.str "out", .str "", .str "err"])) (fun j H' => ∃ qs : List (Addr × Addr × Addr × Addr), qs.length = j ∧ RS.Wd H' s l n (RS.cell D (.lst (qs.reverse.map fun q => .ref q.2.2.2)) :: ((hcL K y qs ++ [RS.cell P (.lst [.str "out", .str "", .str "err"]), RS.cell lt (.dK []), RS.cell lf (.dK []), RS.cell r (.dK (mergeK [] [(Sum.inr "now", .int (beg * (0 + (i : Nat)))), (Sum.inr "files", .ref lf), (Sum.inr "texts", .ref lt)])), RS.cell Y (.lst ys), RS.cell Rw (.lst (rs ++ [V.ref r])), RS.cell Hd (.lst hs),
      RS.cell y (.ins (CY K) dy (yF (beg * (0 + (i : Nat))) q.st q.fi q.na q.nu q.lm q.md q.hn q.fr q.rt q.lr)), RS.cell q.st (.dK []), RS.cell q.fi (.dK []), RS.cell q.na (.dK (kv_FIRST_NAMES.map fun q => (q.1, q.2.v K))), RS.cell q.nu (.dK (kv_FIRST_NUMBERS.map fun q => (q.1, q.2.v K)))]) ++ RS.cell q.md (.lst (qs.reverse.map fun q => .ref q.1)) :: cs)))
    ⟨[], rfl, V7⟩ (fun j H' _ h => ?_) (fun j v H9 H6 hj hP hv => ?_) (fun H6 hP => ?_)
  · obtain ⟨qs, _, W⟩ := h
    exact SqL.of (RS.Wd.at_ (xs := []) (by have := W.tl; rw [List.append_assoc] at this; exact this.mid))
  · obtain ⟨rfl, hv⟩ := hv
    obtain ⟨qs, ql, W⟩ := hP
    obtain ⟨z, rfl, hz⟩ : ∃ z : Str, v = .str z ∧ z = stn j := by
      match j, hj, hv with
      | 0, _, hv => cases hv; exact ⟨_, rfl, rfl⟩
      | 1, _, hv => cases hv; exact ⟨_, rfl, rfl⟩
      | 2, _, hv => cases hv; exact ⟨_, rfl, rfl⟩
    have hj3 : j < 3 := hj
    clear V7 hv hys hj k' hlr hlh
    generalize eB : ([RS.cell P (.lst [.str "out", .str "", .str "err"]), RS.cell lt (.dK []), RS.cell lf (.dK []), RS.cell r (.dK (mergeK [] [(Sum.inr "now", .int (beg * (0 + (i : Nat)))), (Sum.inr "files", .ref lf), (Sum.inr "texts", .ref lt)])), RS.cell Y (.lst ys), RS.cell Rw (.lst (rs ++ [V.ref r])), RS.cell Hd (.lst hs),
      RS.cell y (.ins (CY K) dy (yF (beg * (0 + (i : Nat))) q.st q.fi q.na q.nu q.lm q.md q.hn q.fr q.rt q.lr)), RS.cell q.st (.dK []), RS.cell q.fi (.dK []), RS.cell q.na (.dK (kv_FIRST_NAMES.map fun q => (q.1, q.2.v K))), RS.cell q.nu (.dK (kv_FIRST_NUMBERS.map fun q => (q.1, q.2.v K)))] : List RS.Comp) = B at W ⊢
    have hyB : H6 y = some (.ins (CY K) dy (yF (beg * (0 + (i : Nat))) q.st q.fi q.na q.nu q.lm q.md q.hn q.fr q.rt q.lr)) :=
      (W.rep (RS.cell y (.ins (CY K) dy (yF (beg * (0 + (i : Nat))) q.st q.fi q.na q.nu q.lm q.md q.hn q.fr q.rt q.lr))) (by rw [← eB]; simp)).at_ () _ rfl
    have hmd : H6 q.md = some (.lst (qs.reverse.map fun q => .ref q.1)) := RS.Wd.at_ (xs := RS.cell D (.lst (qs.reverse.map fun q => .ref q.2.2.2)) :: (hcL K y qs ++ B)) W
    have hD : H6 D = some (.lst (qs.reverse.map fun q => .ref q.2.2.2)) := W.c0
    have l1 : (qs.reverse.map fun q => V.ref q.1).length ≤ 1000 := by rw [List.length_map, List.length_reverse]; omega
    have l2 : (qs.reverse.map fun q => V.ref q.2.2.2).length < sizeLine := by rw [List.length_map, List.length_reverse, sizeLine_eq]; omega
    walk_at "go"
    intro p dx hp hdx hne
    have W1 := (W.same (same_new hdx (.own p))).new (p := p) (o := .ins (He.ga K "StreamHandler") dx []) (by rw [upd_ne (Ne.symm hne)]; exact hp)
    have npy : p ≠ y := fun z => by rw [z, hyB] at hp; cases hp
    clear hp hdx hne W hmd hD
    generalize upd (upd H6 dx (.own p)) p (.ins (He.ga K "StreamHandler") dx []) = H7 at W1 ⊢
    have hy7 : H7 y = some (.ins (CY K) dy (yF (beg * (0 + (i : Nat))) q.st q.fi q.na q.nu q.lm q.md q.hn q.fr q.rt q.lr)) :=
      (W1.rep (RS.cell y (.ins (CY K) dy (yF (beg * (0 + (i : Nat))) q.st q.fi q.na q.nu q.lm q.md q.hn q.fr q.rt q.lr))) (by rw [← eB]; simp)).at_ () _ rfl
    have hm7 : H7 q.md = some (.lst (qs.reverse.map fun q => .ref q.1)) := RS.Wd.at_ (xs := RS.cell p (.ins (He.ga K "StreamHandler") dx []) :: RS.cell D (.lst (qs.reverse.map fun q => .ref q.2.2.2)) :: (hcL K y qs ++ B)) W1
    refine ⟨p, dx, y, dy, q.md, z, _, _, rfl, W1.c0, npy, hy7, rfl, rfl, hm7, l1, fun H8 l k1 k2 k3 k4 k5 => ⟨rfl, ?_⟩⟩
    have W2 := RS.Wd.hand (xs := RS.cell D (.lst (qs.reverse.map fun q => .ref q.2.2.2)) :: (hcL K y qs ++ B)) W1 k1 k2 k3 k5 k4
    clear W1 k1 k2 k3 k4 k5 hy7 hm7 hyB
    walk_at "go"
    intro t ft
    have W3 := W2.new (o := .tup [.str z, .ref p]) ft
    have hD3 : upd H8 t (.tup [.str z, .ref p]) D = some (.lst (qs.reverse.map fun q => .ref q.2.2.2)) :=
      RS.Wd.at_ (xs := [RS.cell t (.tup [.str z, .ref p]), RS.cell l (.lst []), RS.cell p (.ins (He.ga K "StreamHandler") dx (hF l y ++ ([("stream", .str z)] : List (Str × V))))]) W3
    refine ⟨_, hD3, l2, (p, dx, l, t) :: qs, by rw [List.length_cons, ql], ?_⟩
    have W4 := (RS.Wd.setM (xs := [RS.cell t (.tup [.str z, .ref p]), RS.cell l (.lst []), RS.cell p (.ins (He.ga K "StreamHandler") dx (hF l y ++ ([("stream", .str z)] : List (Str × V))))]) (o' := .lst ((qs.reverse.map fun q => .ref q.2.2.2) ++ [.ref t])) W3).mid
    subst ql hz
    have e1 : ∀ (f : Addr × Addr × Addr × Addr → V), ((p, dx, l, t) :: qs).reverse.map f = qs.reverse.map f ++ [f (p, dx, l, t)] := fun f => by rw [List.reverse_cons, List.map_append]; rfl
    rw [e1, e1]
    exact W4
  · obtain ⟨qs, ql, W⟩ := hP
    obtain ⟨p2, x2, f2, t2, p1, x1, f1, t1, p0, x0, f0, t0, rfl⟩ : ∃ p2 x2 f2 t2 p1 x1 f1 t1 p0 x0 f0 t0, qs = [(p2, x2, f2, t2), (p1, x1, f1, t1), (p0, x0, f0, t0)] := by
      match qs, ql with
      | [(p2, x2, f2, t2), (p1, x1, f1, t1), (p0, x0, f0, t0)], _ => exact ⟨_, _, _, _, _, _, _, _, _, _, _, _, rfl⟩
    clear ql V7
    have hD : H6 D = some (.lst ([t0, t1, t2].map V.ref)) := W.c0
    have a2 : H6 t2 = some (.tup [.str "err", .ref p2]) := (W.rep (RS.cell t2 (.tup [.str "err", .ref p2])) (by simp [hcL, stn])).at_ () _ rfl
    have a1 : H6 t1 = some (.tup [.str "", .ref p1]) := (W.rep (RS.cell t1 (.tup [.str "", .ref p1])) (by simp [hcL, stn])).at_ () _ rfl
    have a0 : H6 t0 = some (.tup [.str "out", .ref p0]) := (W.rep (RS.cell t0 (.tup [.str "out", .ref p0])) (by simp [hcL, stn])).at_ () _ rfl
    refine ⟨D, [t0, t1, t2], [(Sum.inr "out", .ref p0), (Sum.inr "", .ref p1), (Sum.inr "err", .ref p2)], rfl, SqL.of hD, .cons (SqT.of a0) (.cons (SqT.of a1) (.cons (SqT.of a2) .nil)), fun hd fhd => ?_⟩
    have W1 := W.new (p := hd) (o := .dK (mergeK [] [(Sum.inr "out", .ref p0), (Sum.inr "", .ref p1), (Sum.inr "err", .ref p2)])) fhd
    clear W hD a0 a1 a2 fhd
    change tNil _ (upd H6 hd (.dK (mergeK [] [(Sum.inr "out", .ref p0), (Sum.inr "", .ref p1), (Sum.inr "err", .ref p2)]))) _
    generalize upd H6 hd (.dK (mergeK [] [(Sum.inr "out", .ref p0), (Sum.inr "", .ref p1), (Sum.inr "err", .ref p2)])) = H7 at W1 ⊢
    have W2 : RS.Wd H7 s l n ([RS.cell hd (.dK [(Sum.inr "out", .ref p0), (Sum.inr "", .ref p1), (Sum.inr "err", .ref p2)]), RS.cell D (.lst [.ref t0, .ref t1, .ref t2]),
      RS.cell t2 (.tup [.str "err", .ref p2]), RS.cell f2 (.lst []), RS.cell p2 (.ins (CS K) x2 (hdS f2 y "\n" "err")),
      RS.cell t1 (.tup [.str "", .ref p1]), RS.cell f1 (.lst []), RS.cell p1 (.ins (CS K) x1 (hdS f1 y "\n" "")),
      RS.cell t0 (.tup [.str "out", .ref p0]), RS.cell f0 (.lst []), RS.cell p0 (.ins (CS K) x0 (hdS f0 y "\n" "out")),
      RS.cell P (.lst [.str "out", .str "", .str "err"]), RS.cell lt (.dK []), RS.cell lf (.dK []), RS.cell r (.dK [(Sum.inr "now", .int (beg * (0 + (i : Nat)))), (Sum.inr "files", .ref lf), (Sum.inr "texts", .ref lt)]), RS.cell Y (.lst ys), RS.cell Rw (.lst (rs ++ [V.ref r]))] ++ RS.cell Hd (.lst hs) ::
      ([RS.cell y (.ins (CY K) dy (yF (beg * (0 + (i : Nat))) q.st q.fi q.na q.nu q.lm q.md q.hn q.fr q.rt q.lr)), RS.cell q.st (.dK []), RS.cell q.fi (.dK []), RS.cell q.na (.dK (kv_FIRST_NAMES.map fun q => (q.1, q.2.v K))), RS.cell q.nu (.dK (kv_FIRST_NUMBERS.map fun q => (q.1, q.2.v K)))] ++ RS.cell q.md (.lst [.ref p0, .ref p1, .ref p2]) :: cs)) := W1
    clear W1
    have hHd := W2.at_
    walk_at "go"
    intro p3 x3 hp hdx hne
    have W3 := RS.Wd.setM (o' := .lst (hs ++ [.ref hd])) W2
    have W4 := (W3.same (same_new hdx (.own p3))).new (p := p3) (o := .ins (He.ga K "FileHandler") x3 []) (by rw [upd_ne (Ne.symm hne)]; exact hp)
    clear W2 W3 hHd hdx hne hp
    generalize upd (upd (upd H7 Hd (.lst (hs ++ [.ref hd]))) x3 (.own p3)) p3 (.ins (He.ga K "FileHandler") x3 []) = H8 at W4 ⊢
    replace W4 : RS.Wd H8 s l n (RS.cell p3 (.ins (He.ga K "FileHandler") x3 []) :: ([RS.cell hd (.dK [(Sum.inr "out", .ref p0), (Sum.inr "", .ref p1), (Sum.inr "err", .ref p2)]), RS.cell D (.lst [.ref t0, .ref t1, .ref t2]),
      RS.cell t2 (.tup [.str "err", .ref p2]), RS.cell f2 (.lst []), RS.cell p2 (.ins (CS K) x2 (hdS f2 y "\n" "err")),
      RS.cell t1 (.tup [.str "", .ref p1]), RS.cell f1 (.lst []), RS.cell p1 (.ins (CS K) x1 (hdS f1 y "\n" "")),
      RS.cell t0 (.tup [.str "out", .ref p0]), RS.cell f0 (.lst []), RS.cell p0 (.ins (CS K) x0 (hdS f0 y "\n" "out")),
      RS.cell P (.lst [.str "out", .str "", .str "err"]), RS.cell lt (.dK []), RS.cell lf (.dK []), RS.cell r (.dK [(Sum.inr "now", .int (beg * (0 + (i : Nat)))), (Sum.inr "files", .ref lf), (Sum.inr "texts", .ref lt)]), RS.cell Y (.lst ys), RS.cell Rw (.lst (rs ++ [V.ref r])), RS.cell Hd (.lst (hs ++ [V.ref hd])),
      RS.cell y (.ins (CY K) dy (yF (beg * (0 + (i : Nat))) q.st q.fi q.na q.nu q.lm q.md q.hn q.fr q.rt q.lr)), RS.cell q.st (.dK []), RS.cell q.fi (.dK []), RS.cell q.na (.dK (kv_FIRST_NAMES.map fun q => (q.1, q.2.v K))), RS.cell q.nu (.dK (kv_FIRST_NUMBERS.map fun q => (q.1, q.2.v K)))] ++ RS.cell q.md (.lst [.ref p0, .ref p1, .ref p2]) :: cs)) := W4
    have hy8 : H8 y = some (.ins (CY K) dy (yF (beg * (0 + (i : Nat))) q.st q.fi q.na q.nu q.lm q.md q.hn q.fr q.rt q.lr)) :=
      (W4.rep (RS.cell y (.ins (CY K) dy (yF (beg * (0 + (i : Nat))) q.st q.fi q.na q.nu q.lm q.md q.hn q.fr q.rt q.lr))) (by simp)).at_ () _ rfl
    have npy : p3 ≠ y := fun z => by have := W4.c0; rw [z, hy8] at this; injection this with this; injection this with _ _ this; cases this
    have hm8 : H8 q.md = some (.lst [.ref p0, .ref p1, .ref p2]) := (W4.rep (RS.cell q.md (.lst [.ref p0, .ref p1, .ref p2])) (by simp)).at_ () _ rfl
    refine ⟨p3, x3, y, dy, q.md, _, _, rfl, W4.c0, npy, hy8, rfl, rfl, hm8, by show 3 ≤ 1000; decide, fun H9 f3 k1 k2 k3 k4 k5 => ⟨rfl, ?_⟩⟩
    have W5 := RS.Wd.hand W4 k1 k2 k3 k5 k4
    clear W4 k1 k2 k3 k4 k5 hy8 hm8 npy
    have hHd9 : H9 Hd = some (.lst (hs ++ [.ref hd])) := (W5.rep (RS.cell Hd (.lst (hs ++ [.ref hd]))) (by simp)).at_ () _ rfl
    have hhd9 : H9 hd = some (.dK [(Sum.inr "out", .ref p0), (Sum.inr "", .ref p1), (Sum.inr "err", .ref p2)]) := (W5.rep (RS.cell hd (.dK [(Sum.inr "out", .ref p0), (Sum.inr "", .ref p1), (Sum.inr "err", .ref p2)])) (by simp)).at_ () _ rfl
    have hat := atI_last hs (V.ref hd) hhs
    walk_at "go"
    have W6 := RS.Wd.setM (xs := [RS.cell f3 (.lst []), RS.cell p3 (.ins (CH K) x3 (hdL f3 y "\n" false))]) (o' := .dK [(Sum.inr "out", .ref p0), (Sum.inr "", .ref p1), (Sum.inr "err", .ref p2), (Sum.inr "f", .ref p3)]) W5
    clear W5 hHd9 hhd9 hat
    change D'.nx _ (upd H9 hd (.dK [(Sum.inr "out", .ref p0), (Sum.inr "", .ref p1), (Sum.inr "err", .ref p2), (Sum.inr "f", .ref p3)]))
    generalize upd H9 hd (.dK [(Sum.inr "out", .ref p0), (Sum.inr "", .ref p1), (Sum.inr "err", .ref p2), (Sum.inr "f", .ref p3)]) = H10 at W6 ⊢
    have W7 := RS.Wd.pickL [20, 21, 22, 23, 24, 16, 15, 14, 2, 12, 11, 9, 8, 6, 5, 1, 0, 17, 18, 19] (ds := [RS.cell f3 (.lst []), RS.cell p3 (.ins (CH K) x3 (hdL f3 y "\n" false)), RS.cell hd (.dK [(Sum.inr "out", .ref p0), (Sum.inr "", .ref p1), (Sum.inr "err", .ref p2), (Sum.inr "f", .ref p3)]), RS.cell D (.lst [.ref t0, .ref t1, .ref t2]),
      RS.cell t2 (.tup [.str "err", .ref p2]), RS.cell f2 (.lst []), RS.cell p2 (.ins (CS K) x2 (hdS f2 y "\n" "err")),
      RS.cell t1 (.tup [.str "", .ref p1]), RS.cell f1 (.lst []), RS.cell p1 (.ins (CS K) x1 (hdS f1 y "\n" "")),
      RS.cell t0 (.tup [.str "out", .ref p0]), RS.cell f0 (.lst []), RS.cell p0 (.ins (CS K) x0 (hdS f0 y "\n" "out")),
      RS.cell P (.lst [.str "out", .str "", .str "err"]), RS.cell lt (.dK []), RS.cell lf (.dK []), RS.cell r (.dK [(Sum.inr "now", .int (beg * (0 + (i : Nat)))), (Sum.inr "files", .ref lf), (Sum.inr "texts", .ref lt)]), RS.cell Y (.lst ys), RS.cell Rw (.lst (rs ++ [V.ref r])), RS.cell Hd (.lst (hs ++ [V.ref hd])),
      RS.cell y (.ins (CY K) dy (yF (beg * (0 + (i : Nat))) q.st q.fi q.na q.nu q.lm q.md q.hn q.fr q.rt q.lr)), RS.cell q.st (.dK []), RS.cell q.fi (.dK []), RS.cell q.na (.dK (kv_FIRST_NAMES.map fun q => (q.1, q.2.v K))), RS.cell q.nu (.dK (kv_FIRST_NUMBERS.map fun q => (q.1, q.2.v K))), RS.cell q.md (.lst [.ref p0, .ref p1, .ref p2, .ref p3])]) W6 (by decide)
    have W8 := RS.Wd.gather (M := Y1 K (ys0 (beg * (0 + (i : Nat)))) (adN y dy q r lf lt hd p0 x0 f0 p1 x1 f1 p2 x2 f2 p3 x3 f3)) (ad := adN y dy q r lf lt hd p0 x0 f0 p1 x1 f1 p2 x2 f2 p3 x3 f3) (cs := RS.cell Y (.lst ys) :: RS.cell Rw (.lst (rs ++ [V.ref r])) :: RS.cell Hd (.lst (hs ++ [V.ref hd])) :: cs)
      [(.y, y, .ins (CY K) dy (yF (beg * (0 + (i : Nat))) q.st q.fi q.na q.nu q.lm q.md q.hn q.fr q.rt q.lr)), (.st, q.st, .dK []), (.fi, q.fi, .dK []), (.na, q.na, .dK (kv_FIRST_NAMES.map fun q => (q.1, q.2.v K))), (.nu, q.nu, .dK (kv_FIRST_NUMBERS.map fun q => (q.1, q.2.v K))),
       (.r, r, .dK [(Sum.inr "now", .int (beg * (0 + (i : Nat)))), (Sum.inr "files", .ref lf), (Sum.inr "texts", .ref lt)]), (.lf, lf, .dK []), (.lt, lt, .dK []), (.hd, hd, .dK [(Sum.inr "out", .ref p0), (Sum.inr "", .ref p1), (Sum.inr "err", .ref p2), (Sum.inr "f", .ref p3)]),
       (.h 0, p0, .ins (CS K) x0 (hdS f0 y "\n" "out")), (.fl 0, f0, .lst []), (.h 1, p1, .ins (CS K) x1 (hdS f1 y "\n" "")), (.fl 1, f1, .lst []), (.h 2, p2, .ins (CS K) x2 (hdS f2 y "\n" "err")), (.fl 2, f2, .lst []), (.h 3, p3, .ins (CH K) x3 (hdL f3 y "\n" false)), (.fl 3, f3, .lst [])] W7 (fun ro o e => by
        cases ro with
        | y => cases e; exact .head _
        | st => cases e; exact .tail _ (.head _)
        | fi => cases e; exact .tail _ (.tail _ (.head _))
        | na => cases e; exact .tail _ (.tail _ (.tail _ (.head _)))
        | nu => cases e; exact .tail _ (.tail _ (.tail _ (.tail _ (.head _))))
        | r => cases e; exact .tail _ (.tail _ (.tail _ (.tail _ (.tail _ (.head _)))))
        | lf => cases e; exact .tail _ (.tail _ (.tail _ (.tail _ (.tail _ (.tail _ (.head _))))))
        | lt => cases e; exact .tail _ (.tail _ (.tail _ (.tail _ (.tail _ (.tail _ (.tail _ (.head _)))))))
        | hd => cases e; exact .tail _ (.tail _ (.tail _ (.tail _ (.tail _ (.tail _ (.tail _ (.tail _ (.head _))))))))
        | ly => cases e
        | lr => cases e
        | lh => cases e
        | row k => cases e
        | x j => cases e
        | hx j => cases e
        | h j =>
          match j, e with
          | 0, e => cases e; exact .tail _ (.tail _ (.tail _ (.tail _ (.tail _ (.tail _ (.tail _ (.tail _ (.tail _ (.head _)))))))))
          | 1, e => cases e; exact .tail _ (.tail _ (.tail _ (.tail _ (.tail _ (.tail _ (.tail _ (.tail _ (.tail _ (.tail _ (.tail _ (.head _)))))))))))
          | 2, e => cases e; exact .tail _ (.tail _ (.tail _ (.tail _ (.tail _ (.tail _ (.tail _ (.tail _ (.tail _ (.tail _ (.tail _ (.tail _ (.tail _ (.head _)))))))))))))
          | 3, e => cases e; exact .tail _ (.tail _ (.tail _ (.tail _ (.tail _ (.tail _ (.tail _ (.tail _ (.tail _ (.tail _ (.tail _ (.tail _ (.tail _ (.tail _ (.tail _ (.head _)))))))))))))))
          | (m + 4), e =>
            have e : hdO K _ _ (m + 4) = some o := e
            unfold hdO at e
            rw [if_neg (by omega), if_neg (by omega)] at e
            cases e
        | fl j =>
          match j, e with
          | 0, e => cases e; exact .tail _ (.tail _ (.tail _ (.tail _ (.tail _ (.tail _ (.tail _ (.tail _ (.tail _ (.tail _ (.head _))))))))))
          | 1, e => cases e; exact .tail _ (.tail _ (.tail _ (.tail _ (.tail _ (.tail _ (.tail _ (.tail _ (.tail _ (.tail _ (.tail _ (.tail _ (.head _))))))))))))
          | 2, e => cases e; exact .tail _ (.tail _ (.tail _ (.tail _ (.tail _ (.tail _ (.tail _ (.tail _ (.tail _ (.tail _ (.tail _ (.tail _ (.tail _ (.tail _ (.head _))))))))))))))
          | 3, e => cases e; exact .tail _ (.tail _ (.tail _ (.tail _ (.tail _ (.tail _ (.tail _ (.tail _ (.tail _ (.tail _ (.tail _ (.tail _ (.tail _ (.tail _ (.tail _ (.tail _ (.head _))))))))))))))))
          | (m + 4), e =>
            have e : (if m + 4 < 4 then some (HO.lst []) else none) = some o := e
            rw [if_neg (by omega)] at e
            cases e)
    exact k' _ _ _ W8 rfl ⟨_, _, _, _, _, rfl⟩
end
end K17

set_option Elab.async false
set_option linter.all false
set_option maxRecDepth 100000
set_option maxHeartbeats 0

namespace K17
open PySem PySem.Spec PyProof.Rows L2 RC
section
variable {P : Program} {w : World} {K : PySem.W.Frag} {mg : Str → Option Value} {base : Heap}
/-! ### the law -/
theorem even0 (clk : Int) : Even (ys0 clk) := ⟨rfl, rfl, rfl, List.nodup_nil, List.nodup_nil, by show 0 < 64; decide, by show 0 < 64; decide⟩
theorem bnd0 (clk : Int) : Bnd 0 (ys0 clk) := ⟨Nat.le_refl _, Nat.le_refl _, fun _ h => (by cases h), fun _ h => (by cases h), fun _ _ => by show (("\n" : Str)).length ≤ 1; decide⟩
def spLaw (K : PySem.W.Frag) : Sp := fun vs H Q _ => ∃ (a : Addr) (ns : List Int), vs = [.ref a] ∧ ns.length ≤ 63 ∧ SqL K H a (ns.map V.int) ∧ ∀ H', Q (.bl true) H'
def MakeI (K : PySem.W.Frag) (s l y0 d0 y1 d1 : Addr) (q0 q1 : YParts) (beg : Int) (Y Rw Hd : Addr) (i : Nat) (H : Hp) : Prop :=
  match i with
  | 0 => RS.Wd H s l 10 (RS.cell Y (.lst [.ref y0, .ref y1]) :: RS.cell Rw (.lst []) :: RS.cell Hd (.lst []) :: ((ybL K 0 y0 d0 q0).map RS.cl ++ (ybL K beg y1 d1 q1).map RS.cl))
  | 1 => ∃ a0 : Ro → Addr, a0 .y = y0 ∧ RS.Wd H s l 10 (cY K (ys0 0) a0 :: RS.cell Y (.lst [.ref y0, .ref y1]) :: RS.cell Rw (.lst [.ref (a0 .r)]) :: RS.cell Hd (.lst [.ref (a0 .hd)]) :: (ybL K beg y1 d1 q1).map RS.cl)
  | _ => ∃ a0 a1 : Ro → Addr, a0 .y = y0 ∧ a1 .y = y1 ∧ RS.Wd H s l 10 [cY K (ys0 beg) a1, RS.cell Y (.lst [.ref y0, .ref y1]), RS.cell Rw (.lst [.ref (a0 .r), .ref (a1 .r)]), RS.cell Hd (.lst [.ref (a0 .hd), .ref (a1 .hd)]), cY K (ys0 0) a0]
theorem law_body (T : Txt P w K mg) {f : Addr} {cdv : Value} {A : Around} {outer : List Env} {st0 : Shared} {E : XK} {vs : List V} {H : Hp} {Q : VK} (hr : Room 7 (A.deeper (envOfC "law" (defScope s_law) st0.heap.objs.size f cdv))) (hsp : spLaw K vs H Q E)
    (c__law_draw : Callable P w K mg base 1 (He.ga K "_law_draw") ["_law_stream", "_law_many"] [] spDraw)
    (c__law_pick : Callable P w K mg base 2 (He.ga K "_law_pick") ["_law_stream", "_law_some"] [] (spPick K))
    (c_Yard_init_d1 : Callable P w K mg base 5 (He.ma K (He.ga K "Yard") "__init__") ["self", "now"] [.int 0] (spYardInit K))
    (c_Yard_init_kw_now : RK.CallKw P w K mg base 5 (He.ma K (He.ga K "Yard") "__init__") ["self", "now"] 1 ["now"] (fun vs zs => vs ++ zs) (spYardInit K))
    (c_StreamHandler_init : Callable P w K mg base 3 (He.ma K (He.ga K "StreamHandler") "__init__") ["self", "yard", "stream"] [] (spStreamInit K))
    (c_FileHandler_init : Callable P w K mg base 3 (He.ma K (He.ga K "FileHandler") "__init__") ["self", "yard", "filename", "mode", "delay"] [] (spFileInit K))
    (c__law_yard_deed : Callable P w K mg base 6 (He.ga K "_law_yard_deed") ["_law_stream", "_law_yard", "_law_row", "_law_handlers"] [] (spDeed K))
    (c__law_yard_right : Callable P w K mg base 6 (He.ga K "_law_yard_right") ["_law_yard", "_law_row"] [] (spRight K)) :
    ∃ t, PSs (cxOf CX0 P w K mg base nm_law "law" (defScope s_law) f cdv A outer st0 H E).nox (defBody s_law) t ∧ t { nx := fun _ H' => Q .non H', rt := Q } (start nm_law vs) H := by
  obtain ⟨a, ns, rfl, hn, hS, hQ⟩ := hsp
  obtain ⟨tm, hmake, qmake⟩ := make (f := f) (cdv := cdv) (outer := outer) (st0 := st0) (H := H) (E := E) T hr c_StreamHandler_init c_FileHandler_init
  obtain ⟨tt, hturn, qturn⟩ := turn (f := f) (cdv := cdv) (outer := outer) (st0 := st0) (H := H) (E := E) T hr c__law_draw c__law_yard_deed c__law_yard_right
  refine ⟨_, (pss_cons (ps_set (i := 1) sc_law.nd rfl (by first | exact Or.inl rfl | exact Or.inr rfl) (pe_lst (pa_cons (pe_callTy call_list_of (by rfl) T.b_list (by decide +kernel) (pa_cons (pv 0) pa_nil)) (pa_cons pe_int (pa_cons pe_int (pa_cons pe_int pa_nil))))))
      (pss_cons (ps_set (i := 2) sc_law.nd rfl (by first | exact Or.inl rfl | exact Or.inr rfl) (pe_fn T.g__law_pick c__law_pick (hr.mono (by first | decide | exact Nat.le_refl _)) (by rfl) (pa_cons (pv 1) (pa_cons (pe_lst (pa_cons pe_int (pa_cons pe_int (pa_cons (pe_op op_pow pe_int pe_int) pa_nil)))) pa_nil))))
      (pss_cons (ps_asg (pe_tup (pa_cons (pe_lst (pa_cons (pe_mk0 T.k_Yard T.g_Yard c_Yard_init_d1 (hr.mono (by first | decide | exact Nat.le_refl _)) (by rfl)) (pa_cons (RK.pe_mkK T.k_Yard T.g_Yard c_Yard_init_kw_now (hr.mono (by first | decide | exact Nat.le_refl _)) (by rfl) (pk_cons (pv 2) pk_nil)) pa_nil))) (pa_cons (pe_lst pa_nil) (pa_cons (pe_lst pa_nil) pa_nil)))) (RG.pg_tupK (K := K) (n := 3) (by rfl) (pgs_cons (pg_name (i := 3) sc_law.nd rfl (by first | exact Or.inl rfl | exact Or.inr rfl)) (pgs_cons (pg_name (i := 4) sc_law.nd rfl (by first | exact Or.inl rfl | exact Or.inr rfl)) (pgs_cons (pg_name (i := 5) sc_law.nd rfl (by first | exact Or.inl rfl | exact Or.inr rfl)) pgs_nil)))))
      (pss_cons (ps_for PassesOwn.never rfl (pi_range1 (by rfl) T.b_range (pa_cons pe_int pa_nil)) (pg_name (i := 6) sc_law.nd rfl (by first | exact Or.inl rfl | exact Or.inr rfl)) hmake)
      (pss_cons (ps_for PassesOwn.never rfl (pi_range1 (by rfl) T.b_range (pa_cons (pe_op op_add pe_int (pe_fn T.g__law_draw c__law_draw (hr.mono (by first | decide | exact Nat.le_refl _)) (by rfl) (pa_cons (pv 1) (pa_cons pe_int pa_nil)))) pa_nil)) (pg_name (i := 9) sc_law.nd rfl (by first | exact Or.inl rfl | exact Or.inr rfl)) hturn)
      (pss_one (ps_ret pe_bl))))))), ?_⟩
  walk_at "in"
  refine ⟨_, rfl, a, ns.map V.int, rfl, .inl hS, fun l hl => ⟨(by show 4 ≤ sizeLine; decide), fun s hs => ?_⟩⟩
  have st1 : Stm (upd (upd H l (.lst (ns.map V.int))) s (.lst [.ref l, .int 0, .int 0, .int 0])) s l 0 := by
    have n1 := (upd_none hs).1
    exact ⟨n1, ns, 0, 0, 0, upd_same, by rw [upd_ne (Ne.symm n1)]; exact upd_same, hn, by decide, by decide, by decide, by decide, by decide⟩
  generalize upd (upd H l (.lst (ns.map V.int))) s (.lst [.ref l, .int 0, .int 0, .int 0]) = H1 at st1
  have W1 : RS.Wd H1 s l 0 [] := ⟨st1, fun c h => (by cases h), .nil, fun c h => (by cases h)⟩
  clear hS hl hs
  walk_at "go"
  intro pB fB
  obtain ⟨n1, n2⟩ := stm_new st1 fB
  have W2 := W1.new (o := .lst [.int 0, .int 5, .int ((10 : Int) ^ (12 : Int).toNat)]) fB
  have st2 := W2.stm
  have c2 := W2.c0
  change tNil _ (upd H1 pB (.lst [.int 0, .int 5, .int ((10 : Int) ^ (12 : Int).toNat)])) _
  generalize upd H1 pB (.lst [.int 0, .int 5, .int ((10 : Int) ^ (12 : Int).toNat)]) = H2 at W2 st2 c2 ⊢
  clear W1 st1 fB
  walk_at "go"
  intro H3 x o3 st3 hx
  obtain ⟨beg, _, rfl⟩ := mem_int (xs := [0, 5, ((10 : Int) ^ (12 : Int).toNat)]) hx
  have W3 := (W2.old o3 st3).tl
  clear W2 st2 c2 o3 hx st3
  walk_at "go"
  intro y0 d0 hy0 hd0 ne0
  refine ⟨y0, d0, 0, rfl, upd_same, fun H4 q0 N0 => ⟨rfl, ?_⟩⟩
  obtain ⟨s4, nd4, hh4⟩ := N0.cells hy0 hd0
  have W4 := W3.addL s4 _ nd4 hh4
  clear N0 s4 nd4 hh4 W3 hy0 hd0 ne0
  walk_at "go"
  intro y1 d1 hy1 hd1 ne1
  refine ⟨y1, d1, beg, rfl, upd_same, fun H5 q1 N1 => ⟨rfl, ?_⟩⟩
  obtain ⟨s5, nd5, hh5⟩ := N1.cells hy1 hd1
  have W5 := W4.addL s5 _ nd5 hh5
  clear N1 s5 nd5 hh5 W4 hy1 hd1 ne1
  walk_at "go"
  intro Y fY
  have W6 := W5.new (o := .lst [.ref y0, .ref y1]) fY
  change tCons _ _ _ (upd H5 Y (.lst [.ref y0, .ref y1])) _
  generalize upd H5 Y (.lst [.ref y0, .ref y1]) = H6 at W6 ⊢
  walk_at "go"
  intro Rw fR
  have W7 := W6.new (o := .lst []) fR
  generalize upd H6 Rw (.lst []) = H7 at W7 ⊢
  walk_at "go"
  intro Hd fH
  have W8 := W7.new (o := .lst []) fH
  generalize upd H7 Hd (.lst []) = H8 at W8 ⊢
  walk_at "go"
  intro tp ft
  have W9 := W8.same (same_new ft (.tup [.ref Y, .ref Rw, .ref Hd]))
  have hT : SqT K (upd H8 tp (.tup [.ref Y, .ref Rw, .ref Hd])) tp [.ref Y, .ref Rw, .ref Hd] := SqT.of upd_same
  generalize upd H8 tp (.tup [.ref Y, .ref Rw, .ref Hd]) = H9 at W9 hT ⊢
  clear W5 W6 W7 W8 fY fR fH ft
  have I9 : MakeI K s l y0 d0 y1 d1 q0 q1 beg Y Rw Hd 0 H9 := by
    have W := RS.Wd.pickL [2, 1, 0, 9, 10, 11, 12, 13, 14, 3, 4, 5, 6, 7, 8] (ds := RS.cell Hd (.lst []) :: RS.cell Rw (.lst []) :: RS.cell Y (.lst [.ref y0, .ref y1]) :: ((ybL K beg y1 d1 q1).map RS.cl ++ (ybL K 0 y0 d0 q0).map RS.cl)) (cs := []) W9 (by decide)
    exact W.mono (by decide)
  clear W9
  walk_at "go"
  refine for_it walk_range (fun i σ H' => MakeI K s l y0 d0 y1 d1 q0 q1 beg Y Rw Hd i H' ∧ ∃ o6 o7 o8 o9 o10, σ = sgM a s Y Rw Hd beg o6 o7 o8 o9 o10) ⟨I9, _, _, _, _, _, rfl⟩ (fun _ _ _ _ _ => trivial) (fun i x σ H10 H11 hi hP hx => ?_) (fun σ H10 hP => ?_)
  · obtain ⟨rfl, rfl⟩ := hx
    obtain ⟨I, o6, o7, o8, o9, o10, rfl⟩ := hP
    match i, hi, I with
    | 0, _, I =>
      refine qmake (clk := 0) (y := y0) (dy := d0) (q := q0) (ys := [.ref y0, .ref y1]) (rs := []) (hs := []) (cs := (ybL K beg y1 d1 q1).map RS.cl) 0 _ _ I rfl rfl rfl (by decide) (by rw [show (0 : Int) + ((0 : Nat) : Int) = 0 from rfl, Int.mul_zero]) _ _ _ _ (fun σ H' ad W e ho => ⟨⟨ad, e, ?_⟩, ho⟩)
      exact W
    | 1, _, I =>
      obtain ⟨a0, e0, W⟩ := I
      have W2 := RS.Wd.pickL [1, 2, 3, 4, 5, 6, 7, 8, 9, 0] (ds := cY K (ys0 0) a0 :: RS.cell Y (.lst [.ref y0, .ref y1]) :: RS.cell Rw (.lst [.ref (a0 .r)]) :: RS.cell Hd (.lst [.ref (a0 .hd)]) :: (ybL K beg y1 d1 q1).map RS.cl) (cs := []) W (by decide)
      refine qmake (clk := beg) (y := y1) (dy := d1) (q := q1) (ys := [.ref y0, .ref y1]) (rs := [.ref (a0 .r)]) (hs := [.ref (a0 .hd)]) (cs := [cY K (ys0 0) a0]) 1 _ _ W2 rfl rfl rfl (by decide) (by rw [show (0 : Int) + ((1 : Nat) : Int) = 1 from rfl, Int.mul_one]) _ _ _ _ (fun σ H' ad W e ho => ⟨⟨a0, ad, e0, e, ?_⟩, ho⟩)
      exact W
    | (m + 2), hi, _ => exact absurd hi (by show ¬ (m + 2 < 2); omega)
  obtain ⟨⟨a0, a1, e0, e1, W⟩, o6, o7, o8, o9, o10, rfl⟩ := hP
  have W10 := RS.Wd.pickL [4, 0, 1, 2, 3] (ds := [cY K (ys0 beg) a1, RS.cell Y (.lst [.ref y0, .ref y1]), RS.cell Rw (.lst [.ref (a0 .r), .ref (a1 .r)]), RS.cell Hd (.lst [.ref (a0 .hd), .ref (a1 .hd)]), cY K (ys0 0) a0]) (cs := []) W (by decide)
  have st10 := W10.stm
  clear W I9 hT
  walk_at "go"
  intro H11 d o11 st11 g1 g2
  have I11 : TurnI K s l y0 y1 (a0 .r) (a1 .r) (a0 .hd) (a1 .hd) Y Rw Hd 0 H11 := ⟨ys0 0, ys0 beg, a0, a1, RS.Wd.mono (W10.old o11 st11) (by decide), even0 _, even0 _, bnd0 _, bnd0 _, ⟨e0, rfl, rfl⟩, ⟨e1, rfl, rfl⟩⟩
  clear W10 o11 st10 st11
  obtain ⟨j, rfl⟩ := Int.eq_ofNat_of_zero_le g1
  walk_at "go"
  refine for_it walk_range (fun i σ H' => TurnI K s l y0 y1 (a0 .r) (a1 .r) (a0 .hd) (a1 .hd) Y Rw Hd i H' ∧ ∃ o6 o7 o8 o9 o10, σ = sgT a s Y Rw Hd (some (.int beg)) o6 o7 o8 o9 o10) ⟨I11, _, _, _, _, _, rfl⟩ (fun _ _ _ _ _ => trivial) (fun i x σ H12 H13 hi hP hx => ?_) (fun σ H12 hP => ?_)
  · obtain ⟨rfl, rfl⟩ := hx
    obtain ⟨I12, o6, o7, o8, o9, o10, rfl⟩ := hP
    refine qturn i _ _ I12 (by omega) _ _ _ _ _ (fun σ H' h1 h2 => ?_)
    exact ⟨h1, h2⟩
  · obtain ⟨_, o6, o7, o8, o9, o10, rfl⟩ := hP
    walk_at "go"
    exact hQ _
end
end K17

set_option Elab.async false
set_option linter.all false
set_option maxRecDepth 100000
set_option maxHeartbeats 0
namespace K17
open PySem PySem.Spec PyProof.Rows L2 RC
section
variable {P : Program} {w : World} {K : PySem.W.Frag} {mg : Str → Option Value} {base : Heap}
/-! ### all together -/
theorem ok_law {f : Addr} {fd : FuncData} (T : Txt P w K mg) (F : FunD K "law" "law" (defArgs s_law) (defBody s_law) (defScope s_law) [] [] f fd) : FnOk P w K mg base CX0 8 f fd ["_law_script"] (spLaw K) := by
  have c_draw := ok_draw (base := base) T T.d__law_draw 
  have c_pick := ok_pick (base := base) T T.d__law_pick c_draw
  have c_fi := ok_filterer_init (base := base) T T.d_Filterer_init 
  have c_enrol := ok_enrol (base := base) T T.d_Yard_enrol 
  have c_hi := ok_handler_init (base := base) T T.d_Handler_init c_fi c_enrol
  have c_si := ok_stream_init (base := base) T T.d_StreamHandler_init c_hi
  have c_si3 := ok_stream_init3 (base := base) T T.d_StreamHandler_init c_hi
  have c_fhi := ok_file_init (base := base) T T.d_FileHandler_init c_hi
  have c_li := ok_logger_init (base := base) T T.d_Logger_init c_fi
  have c_yi := ok_yard_init (base := base) T T.d_Yard_init c_li c_si
  have c_yk := ok_yard_kw (base := base) T T.d_Yard_init c_li c_si
  have c_now := ok_now (base := base) T T.d_Yard_now 
  have c_adv := ok_adv (base := base) T T.d_Yard_advance 
  have c_advk := ok_adv_kw (base := base) T T.d_Yard_advance 
  have c_put := ok_put (base := base) T T.d_Yard_put_file 
  have c_putk := ok_put_kw (base := base) T T.d_Yard_put_file 
  have c_rem := ok_rem (base := base) T T.d_Yard_remove_file 
  have c_remk := ok_rem_kw (base := base) T T.d_Yard_remove_file 
  have c_has := ok_has (base := base) T T.d_Yard_has_file 
  have c_ft := ok_file_text (base := base) T T.d_Yard_file_text 
  have c_wf := ok_writef (base := base) T T.d_Yard_write_file c_put c_has c_ft
  have c_mf := ok_makef (base := base) T T.d_Yard_make_file c_put
  have c_files := ok_files (base := base) T T.d_Yard_files c_ft
  have c_text := ok_text (base := base) T T.d_Yard_text 
  have c_ws := ok_write (base := base) T T.d_Yard_write_stream c_text
  have c_streams := ok_streams (base := base) T T.d_Yard_streams 
  have c_msg := ok_message (base := base) T T.d_LogRecord_message 
  have c_fmS := ok_formattedS (base := base) T T.d_StreamHandler_formatted c_msg
  have c_toS := ok_text_ofS (base := base) T T.d_StreamHandler_text_of c_fmS
  have c_fmF := ok_formattedF (base := base) T T.d_FileHandler_formatted c_msg
  have c_toF := ok_text_ofF (base := base) T T.d_FileHandler_text_of c_fmF
  have c_stS := ok_set_termS (base := base) T T.d_StreamHandler_setTerminator 
  have c_stF := ok_set_termF (base := base) T T.d_FileHandler_setTerminator 
  have c_emS := ok_emitS (base := base) T T.d_StreamHandler_emit c_toS c_ws
  have c_op := ok_open (base := base) T T.d_FileHandler_open_file c_has c_mf
  have c_emF := ok_emitF (base := base) T T.d_FileHandler_emit c_toF c_op c_wf
  have c_flS := ok_filtered0 (base := base) T T.d_StreamHandler_filtered 
  have c_flF := ok_filtered0 (base := base) T T.d_FileHandler_filtered 
  have c_haS := ok_handleS (base := base) T T.d_StreamHandler_handle c_flS c_emS
  have c_haF := ok_handleF (base := base) T T.d_FileHandler_handle c_flF c_emF
  have c_isint := ok_is_integer (base := base) T T.d_is_integer 
  have c_lvof := ok_level_of (base := base) T T.d_Yard_level_of c_isint
  have c_lname := ok_level_name (base := base) T T.d_Yard_level_name 
  have c_copied := ok_copied (base := base) T T.d_copied_value 
  have c_recinit := ok_rec_init (base := base) T T.d_LogRecord_init c_copied
  have c_mkrec := ok_make_record (base := base) T T.d_Yard_make_record c_lvof c_lname c_recinit
  have c_same := ok_same (base := base) T T.d__law_same rfl 4
  have c_right := ok_right (base := base) T T.d__law_yard_right c_files c_streams c_now c_text c_same
  have c_deed := ok_deed (base := base) T T.d__law_yard_deed c_draw c_pick c_adv c_advk c_put c_putk c_rem c_remk c_stS c_stF c_haS c_haF c_mkrec.2
  refine F.ok sc_law (fun vs H Q E h => ?_) (fun cdv A outer s H vs Q E hr hsp => ?_)
  · obtain ⟨a, ns, rfl, _⟩ := h; rfl
  obtain ⟨t, h, q⟩ := law_body T hr hsp c_draw c_pick c_yi c_yk c_si3 c_fhi c_deed c_right
  exact ⟨t, h.nox, q⟩
theorem facts {f : Addr} {h : Heap} (X : K.In h) (G : h.Ns mainGlobals mg) (hfa : mg ("law" : Str) = some (.ref f)) (c : RB.SaysB fa fx fn ts w K) :
    ∃ fd : FuncData, (∀ (s : Shared) (v : Value), BindsTo s fd ⟨[v], []⟩ [("_law_script", v)]) ∧ ∀ base : Heap, FnOk P w K mg base CX0 8 f fd ["_law_script"] (spLaw K) := by
  have T : Txt P w K mg := Txt.of X G c
  obtain ⟨fd, F⟩ := T.d_law
  have e := hfa.symm.trans T.g_law
  cases e
  have b := FunD.bindsA (ps := ["_law_script"]) F fun _ _ _ _ _ _ us hl => match us, hl with | [_], _ => rfl
  exact ⟨fd, fun s v => b s [v] rfl, fun base => ok_law T F⟩
end
end K17
open PySem PySem.W PySem.Calls PyProof.Rows
set_option maxHeartbeats 0
theorem PySem.Challenge.cw_recordyard_k15_clocks_streams_and_files_holds : PySem.Challenge.rw_recordyard_k15_clocks_streams_and_files.Holds := by
  w_on; o_law
  refine HandSHeadRun.head_any (r := OpenLaw.row PySem.Challenge.rw_recordyard_k15_clocks_streams_and_files) (q := view (OpenLaw.row PySem.Challenge.rw_recordyard_k15_clocks_streams_and_files).prog [43]) (H := K17.hk) (ob := K17.ob) (M := 13000) (loose := K17.names) (d := HandSHeadRun.topDef (OpenLaw.row PySem.Challenge.rw_recordyard_k15_clocks_streams_and_files).prog 43) (kwd := []) K17.ob_eq
    (by kernel_rfl) (fun s => by kernel_rfl) K17.run (by kernel_rfl) (by kernel_rfl) (by kernel_rfl) (by rfl) (by first | assumption | decide +kernel) (by decide +kernel) ⟨rfl, rfl, rfl, rfl, rfl, by decide +kernel⟩ ?hw ?hc
  case hw => w_witness2
  case hc =>
    refine L2.walk_ofE (l := PySem.Challenge.rw_recordyard_k15_clocks_streams_and_files) (n := 63) (k := 8) (x := "_law_script") (CX := L2.CX0) rfl (by decide) (by kernel_rfl) ⟨rfl, by decide, by decide⟩ ?F (fun _ _ _ _ z => z)
    intro w mg fa h Y G hmg0
    obtain ⟨K, KX, c⟩ := Y
    have hmg : mg ("law" : PySem.Str) = some (.ref fa) := by
      have e : (HandSHeadRun.topDef (OpenLaw.row PySem.Challenge.rw_recordyard_k15_clocks_streams_and_files).prog 43).name = ("law" : PySem.Str) := by kernel_rfl
      rw [← e]
      exact hmg0
    obtain ⟨fd, hb, hF⟩ := K17.facts (P := (PySem.Challenge.rw_recordyard_k15_clocks_streams_and_files).prog) (w := w) KX G hmg c
    exact ⟨K, fd, K17.spLaw K, KX, hb, fun H a ns hl _ hS => ⟨a, ns, rfl, hl, hS, fun _ => rfl⟩, fun base _ _ => hF base⟩
