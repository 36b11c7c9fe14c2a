import PyProof.Rows.All
import Wide.All
import OpenK.AllK
import Wide.FinOn
import KE.KStateDown
import KE.KCallOwn
import KE.KUnpackStar
import HandS.ForMost
import HandS.Exc
import HandS.Defaults
import HandS.Style
import HandS.TupAny
import HandS.SetFor
import HandS.DictComp
import HandS.RevRange
import HandS.FStr
import HandS.Flow
import HandS.IsInst
import HandS.More
import HandS.HeadEnd
import PySem.Challenge.RW_ledclocks_k44_whole_keeper_as_kept
import Lean
import HandS.Head0
import HandS.Head1
import HandS.Head2
import HandS.HeadHook1
import HandS.HeadHook2
set_option Elab.async false
set_option linter.all false
set_option maxRecDepth 100000
set_option maxHeartbeats 0
/-! Rules of our own over the layer: == and != by an own __eq__, len and str by own methods. -/
namespace Lc
open PySem PySem.Spec PyProof.Rows L2

section
variable {X : Cx} {pins : List (Addr × Obj)} {σ : L2.St} {H : Hp} {s : Shared}

/-- the type of a value, as the machine looks at it -/
theorem look_ty (I : Inv X pins σ H s) {x : V} {u t : Value} (rx : RelV x u) (ty : TyOf X.K H x t) : PySem.W.Looks (model X.prog X.w) s.heap (typeOf u) t := by
  have at_ : ∀ {a : Addr} {o : Obj}, s.heap.get? a = some o → PySem.W.Looks (model X.prog X.w) s.heap (typeOf (.ref a)) o.cls := fun {a o} e A Q E s' k q => wpAny_typeOf_ref (k _ _ e) q
  cases ty with
  | non => cases (show u = Value.none from rx); exact .of_pure rfl
  | bl y => cases (show u = Value.bool y from rx); exact .of_pure rfl
  | int i => obtain ⟨t, q⟩ := (show ∃ t, u = Value.int i t from rx); cases q; exact .of_pure rfl
  | str y => obtain ⟨t, q⟩ := (show ∃ t, u = Value.str y t from rx); cases q; exact .of_pure rfl
  | flt y => obtain ⟨t, q⟩ := (show ∃ t, u = Value.float y t from rx); cases q; exact .of_pure rfl
  | @lst a xs ea =>
    cases (show u = Value.ref a from rx)
    obtain ⟨_, _, n, _, h1⟩ := (show ObjOk X.prog X.w H s.heap a (.lst xs) from I.hok a _ ea)
    exact at_ h1
  | @frz a ob xs ea =>
    cases (show u = Value.ref a from rx)
    obtain ⟨_, _, _, n, _, h1⟩ := (show ObjOk X.prog X.w H s.heap a (.frz ob (.lst xs)) from I.hok a _ ea)
    exact at_ h1
  | @tup a xs ea =>
    cases (show u = Value.ref a from rx)
    obtain ⟨_, _, _, o, h1, h2, _⟩ := (show ObjOk X.prog X.w H s.heap a (.tup xs) from I.hok a _ ea)
    rw [← h2]
    exact at_ h1
  | @dK a kvs ea =>
    cases (show u = Value.ref a from rx)
    obtain ⟨_, _, vs, _, o, es, ep, h1, h2, _⟩ := (show ObjOk X.prog X.w H s.heap a (.dK kvs) from I.hok a _ ea)
    rw [← h2.1]
    exact at_ h1
  | @dT a kvs ea =>
    cases (show u = Value.ref a from rx)
    obtain ⟨_, _, xs, _, o, es, ep, h1, h2, _⟩ := (show ObjOk X.prog X.w H s.heap a (.dT kvs) from I.hok a _ ea)
    rw [← h2.1]
    exact at_ h1
  | @ins a C dx fs ea cl ha hn htk hm =>
    cases (show u = Value.ref a from rx)
    obtain ⟨mA, O, _⟩ := ins_get I.hok ea
    obtain ⟨od, J, _⟩ := O.look
    exact J.type

/-- a callee runs at another place of the machine -/
theorem run_ok {A : Around} {k : Nat} {f : Addr} {fd : FuncData} {ps : List Str} {sp : Sp} {us : List Value} {vs : List V} {Q : VK} {E : Value → Shared → Prop}
    (F : FnOk X.prog X.w X.K X.mg X.base CX0 k f fd ps sp) (hr : Room k A) (e0 : Env0 X.prog X.w X.K X.mg X.base A X.stack s H) (hb : Binds X.K fd ps []) (I : Inv X pins σ H s)
    (r : Vals vs us) (h : sp vs H Q E0) : wpAny (model X.prog X.w) A (call (.ref f) us) (EP X pins σ Q) E s := by
  have hl := F.len _ _ _ _ h
  have hl2 : (us ++ []).length = ps.length := by
    rw [List.append_nil, ← r.length]
    exact hl
  have hB := hb s us I.kIn hl2
  rw [List.append_nil] at hB
  refine wpAny_call (codeAny_mono (F.run A X.stack s H ⟨us, []⟩ us vs Q E0 hr e0 hB r h) fun res s' hq => ?_)
  cases res with
  | error e => exact False.elim hq
  | ok fl =>
    cases fl with
    | ret w => exact I.after hq
    | next => exact False.elim hq
    | brk => exact False.elim hq
    | cont => exact False.elim hq

/-- what may stand at the right of ==: an instance of the same class, or a thing of a built-in type -/
def Rt (K : PySem.W.Frag) (C : Addr) (H : Hp) (y : V) : Prop :=
  (∃ b dy gs, y = .ref b ∧ H b = some (.ins C dy gs)) ∨ ∃ T, TyOf K H y (.type T) ∧ PySem.W.subIn K (.type T) (.ref C) = some false

theorem rt_look {C : Addr} {y : V} {u : Value} (I : Inv X pins σ H s) (ry : RelV y u) (h : Rt X.K C H y) :
    ∃ t, PySem.W.Looks (model X.prog X.w) s.heap (typeOf u) t ∧ PySem.W.notFirst X.K C t = true := by
  rcases h with ⟨b, dy, gs, rfl, e⟩ | ⟨T, ty, h⟩
  · cases (show u = Value.ref b from ry)
    obtain ⟨mA, O, _⟩ := ins_get I.hok e
    obtain ⟨od, J, _⟩ := O.look
    exact ⟨_, J.type, by simp [PySem.W.notFirst]⟩
  · exact ⟨_, look_ty I ry ty, by simp [PySem.W.notFirst, h]⟩

/-- x == y by x's own __eq__, which answers with a truth -/
def rEqOwn (K : PySem.W.Frag) (C : Addr) (sp : Sp) : R2 := fun x y H Q => ∃ a dx fs, x = .ref a ∧ H a = some (.ins C dx fs) ∧ Rt K C H y ∧ sp [x, y] H (fun z H' => ∃ b, z = .bl b ∧ Q (.bl b) H') E0
def rNeOwn (K : PySem.W.Frag) (C : Addr) (sp : Sp) : R2 := fun x y H Q => ∃ a dx fs, x = .ref a ∧ H a = some (.ins C dx fs) ∧ Rt K C H y ∧ sp [x, y] H (fun z H' => ∃ b, z = .bl b ∧ Q (.bl (!b)) H') E0

theorem op_eqOwn {C f : Addr} {k : Nat} {fd : FuncData} {ps : List Str} {sp : Sp} (F : FnOk X.prog X.w X.K X.mg X.base CX0 k f fd ps sp) (hr : Room k X.A) (hb : Binds X.K fd ps [])
    (hs : PySem.W.findIn X.K (.ref C) "__eq__" = some (some (.ref f))) (hf : PySem.W.isFn X.K (.ref f) = true) : OpR X (compareOp .Eq) (rEqOwn X.K C sp) := by
  intro pins s σ H x y v u Q I rx ry h
  obtain ⟨a, dx, fs, rfl, ea, hrt, q⟩ := h
  cases (show v = Value.ref a from rx)
  obtain ⟨t, L, hn⟩ := rt_look I ry hrt
  obtain ⟨mA, O, _⟩ := ins_get I.hok ea
  obtain ⟨od, J, _⟩ := O.look
  obtain ⟨m, hF⟩ := I.fr
  refine PySem.W.cmp_ofEq (PySem.W.cmp_K (op := .Eq) (tb := t) hr.units0 hF I.ok.mod.kin J L hn hs hf ?_)
  refine wpAny_mono (run_ok F hr I.env0 hb I (vs := [.ref a, y]) (us := [.ref a, u]) (.cons rfl (.cons ry .nil)) q) (fun w' s' z => ?_) fun _ _ e => e
  obtain ⟨z', H', I', rz, b, ez, qz⟩ := z
  subst ez
  cases (show w' = Value.bool b from rz)
  exact ⟨.bl b, H', I', rfl, qz⟩

/-- object.__ne__ of an instance: the contrary of its own __eq__ -/
theorem ifBound_ne {M : Model} {A : Around} {E : Value → Shared → Prop} {K : PySem.W.Frag} {x C : Addr} {ox : Obj} {od : Option Obj} {args : List Value} {Q : Option Value → Shared → Prop}
    (KX : K.In s.heap) (J : PySem.W.InstAt s.heap x ox C od) (hs : PySem.W.findIn K (.ref C) "__ne__" = some (some (.builtin "object.__ne__")))
    (h : wpAny M A (call (.builtin "object.__ne__") (.ref x :: args)) (fun v => Q (some v)) E s) : wpAny M A (callSpecialIfBound? (.ref x) "__ne__" args) Q E s := by
  have one : wpAny M A (call (.builtin "object.__ne__") ([.ref x] ++ args) >>= fun v => pure (some v)) Q E s := wpAny_bind (wpAny_mono h (fun _ _ z => wpAny_pure z) fun _ _ z => z)
  unfold callSpecialIfBound? bindSpecialIfBound?
  refine wpAny_holding ?_
  refine wpAny_bind ?_
  refine wpAny_bind ?_
  refine wpAny_bind (J.type.here ((PySem.W.looks_findIn KX hs).here ?_))
  refine wpAny_bind (wpAny_askSetting ?_)
  refine wpAny_ite ?_
  split
  · exact wpAny_bind (wpAny_of_eq (F.cmp_object.ne.bind _) (wpAny_pure one))
  · exact wpAny_tryCatch (wpAny_bind (wpAny_of_eq (F.cmp_object.ne.bind _) (wpAny_pure one)))

theorem entry_ne {prog : Program} {w : World} {A : Around} {E : Value → Shared → Prop} {K : PySem.W.Frag} {x C f : Addr} {ox : Obj} {od : Option Obj} {b : Value} {Q : Fin → Shared → Prop}
    (hu : A.units < cLine) (KX : K.In s.heap) (J : PySem.W.InstAt s.heap x ox C od) (hs : PySem.W.findIn K (.ref C) "__eq__" = some (some (.ref f))) (hf : PySem.W.isFn K (.ref f) = true)
    (h : wpAny (model prog w) A (call (.ref f) [.ref x, b]) (fun v s' => ∃ r, v = .bool r ∧ Q (.done (.ret (.bool (!r)))) s') E s) :
    wpAny (model prog w) A (Builtin.«object.__ne__» ⟨[.ref x, b], []⟩) Q E s := by
  unfold Builtin.«object.__ne__»
  refine wpAny_bind (wpAny_pure ?_)
  refine wpAny_bind (wpAny_cRoomFor hu ?_)
  refine wpAny_bind (m := callSpecialIfBound? (.ref x) (Str.ofString "__eq__") [b]) (PySem.W.ifBound_K KX J hs hf (wpAny_mono h (fun v s' z => ?_) fun _ _ z => z))
  obtain ⟨r, rfl, q⟩ := z
  exact wpAny_bind (wpAny_truthy_bool (wpAny_pure q))

theorem rc_ne {prog : Program} {w : World} {A : Around} {E : Value → Shared → Prop} {K : PySem.W.Frag} {x C f : Addr} {ox : Obj} {od : Option Obj} {b tb : Value} {Q : Value → Shared → Prop}
    (hu : A.units + 1 < cLine) (KX : K.In s.heap) (J : PySem.W.InstAt s.heap x ox C od) (hb : PySem.W.Looks (model prog w) s.heap (typeOf b) tb) (hn : PySem.W.notFirst K C tb = true)
    (ho : PySem.W.mroIn K C (.type "object") = some true)
    (hne : PySem.W.findIn K (.ref C) "__ne__" = some (some (.builtin "object.__ne__"))) (hs : PySem.W.findIn K (.ref C) "__eq__" = some (some (.ref f))) (hf : PySem.W.isFn K (.ref f) = true)
    (h : wpAny (model prog w) A.in1 (call (.ref f) [.ref x, b]) (fun v s' => ∃ r, v = .bool r ∧ Q (.bool (!r)) s') E s) : wpAny (model prog w) A (richCompare .NotEq (.ref x) b) Q E s := by
  have go : wpAny (model prog w) A (tryCompare (.ref x) "__ne__" b) (fun r s' => ∃ v, r = some (.bool v) ∧ Q (.bool v) s') E s := by
    unfold tryCompare
    refine wpAny_bind (ifBound_ne KX J hne (wpAny_call (codeAny_call_builtin F.cmp_object.ne.plain F.cmpEntry_ne
      (PySem.W.check_slot F.cmpKind_ne F.cmpSplit_ne (J.type.andThen (PySem.W.looks_mroIn KX ho)) (F.cmpArgs_ne _ _) (entry_ne (A := A.in1) hu KX J hs hf (wpAny_mono h (fun v s' z => ?_) fun _ _ z => z))))))
    obtain ⟨r, rfl, q⟩ := z
    first
      | exact ⟨r, rfl, wpAny_pure ⟨_, rfl, q⟩⟩
      | exact ⟨r, rfl, rfl, wpAny_pure ⟨_, rfl, q⟩⟩
      | exact ⟨_, rfl, wpAny_pure ⟨_, rfl, q⟩⟩
  unfold richCompare
  rw [show oneThing? .NotEq (.ref x) b = none from by cases b <;> rfl]
  refine wpAny_holding ?_
  refine wpAny_bind (wpAny_cRoomFor (by omega) ?_)
  rw [cmpInfo_NotEq]
  dsimp only
  refine wpAny_bind (J.type.here ?_)
  refine wpAny_bind (hb.here ?_)
  have tail : wpAny (model prog w) A (tryCompare (.ref x) "__ne__" b) (fun r s' => ∃ v, r = some (.bool v) ∧ Q (.bool v) s') E s := go
  split
  · rename_i q
    have e : PySem.W.subIn K tb (.ref C) = some false := by
      rcases Bool.or_eq_true_iff.mp hn with e | e
      · rw [beq_iff_eq.mp e] at q
        simp at q
      · exact beq_iff_eq.mp e
    refine wpAny_bind ((PySem.W.looks_subIn KX e).here ?_)
    simp only [Bool.false_eq_true, if_false]
    refine wpAny_bind (wpAny_mono tail (fun r s' z => ?_) fun _ _ z => z)
    obtain ⟨v, rfl, qv⟩ := z
    exact wpAny_pure qv
  · refine wpAny_bind (wpAny_pure ?_)
    simp only [Bool.false_eq_true, if_false]
    refine wpAny_bind (wpAny_mono tail (fun r s' z => ?_) fun _ _ z => z)
    obtain ⟨v, rfl, qv⟩ := z
    exact wpAny_pure qv

theorem op_neOwn {C f : Addr} {k : Nat} {fd : FuncData} {ps : List Str} {sp : Sp} (F : FnOk X.prog X.w X.K X.mg X.base CX0 k f fd ps sp) (hr : Room (k + 1) X.A) (hb : Binds X.K fd ps [])
    (hm : PySem.W.makesIn X.K C = true) (hne : PySem.W.findIn X.K (.ref C) "__ne__" = some (some (.builtin "object.__ne__")))
    (hs : PySem.W.findIn X.K (.ref C) "__eq__" = some (some (.ref f))) (hf : PySem.W.isFn X.K (.ref f) = true) : OpR X (compareOp .NotEq) (rNeOwn X.K C sp) := by
  intro pins s σ H x y v u Q I rx ry h
  obtain ⟨a, dx, fs, rfl, ea, hrt, q⟩ := h
  cases (show v = Value.ref a from rx)
  obtain ⟨t, L, hn⟩ := rt_look I ry hrt
  obtain ⟨mA, O, _⟩ := ins_get I.hok ea
  obtain ⟨od, J, _⟩ := O.look
  refine PySem.W.cmp_ofNotEq (rc_ne (hu_of hr) I.kIn J L hn (mro_obj hm) hne hs hf ?_)
  refine wpAny_mono (run_ok F hr.in1 I.env0.in1 hb I (vs := [.ref a, y]) (us := [.ref a, u]) (.cons rfl (.cons ry .nil)) q) (fun w' s' z => ?_) fun _ _ e => e
  obtain ⟨z', H', I', rz, b, ez, qz⟩ := z
  subst ez
  cases (show w' = Value.bool b from rz)
  exact ⟨b, rfl, .bl (!b), H', I', rfl, qz⟩

/-- len(x) by x's own __len__ -/
def rLenOwn (C : Addr) (sp : Sp) : List V → Hp → VK → Prop := fun xs H Q => ∃ a dx fs, xs = [.ref a] ∧ H a = some (.ins C dx fs) ∧ sp [.ref a] H (fun z H' => ∃ n : Nat, z = .int n ∧ n < 2 ^ 62 ∧ Q (.int n) H') E0
theorem call_lenOwn {C f : Addr} {k : Nat} {fd : FuncData} {ps : List Str} {sp : Sp} (F : FnOk X.prog X.w X.K X.mg X.base CX0 k f fd ps sp) (hr : Room (k + 1) X.A) (hb : Binds X.K fd ps [])
    (hs : PySem.W.findIn X.K (.ref C) "__len__" = some (some (.ref f))) (hf : PySem.W.isFn X.K (.ref f) = true) : CallR X (.builtin "len") (rLenOwn C sp) := by
  intro pins s σ H xs us Q I r h
  obtain ⟨a, dx, fs, rfl, ea, q⟩ := h
  obtain ⟨u, rfl, ru⟩ := r.one
  cases (show u = Value.ref a from ru)
  obtain ⟨mA, O, _⟩ := ins_get I.hok ea
  obtain ⟨od, J, _⟩ := O.look
  obtain ⟨m, hF⟩ := I.fr
  refine PySem.W.len_K hF I.ok.mod.kin J hs hf ?_
  refine wpAny_mono (run_ok F hr.in1 I.env0.in1 hb I (vs := [.ref a]) (us := [.ref a]) (.cons rfl .nil) q) (fun w' s' z => ?_) fun _ _ e => e
  obtain ⟨z', H', I', rz, n, ez, hn, qz⟩ := z
  subst ez
  obtain ⟨t, e⟩ := (show ∃ t, w' = Value.int (n : Int) t from rz)
  cases e
  exact ⟨⟨by omega, by omega⟩, .int n, H', I'.tok _, ⟨_, rfl⟩, qz⟩

/-- str(x) by x's own __str__ -/
def rStrOwn (C : Addr) (sp : Sp) : List V → Hp → VK → Prop := fun xs H Q => ∃ a dx fs, xs = [.ref a] ∧ H a = some (.ins C dx fs) ∧ sp [.ref a] H (fun z H' => ∃ y : Str, z = .str y ∧ Q (.str y) H') E0
theorem call_strOwn {C f : Addr} {k : Nat} {fd : FuncData} {ps : List Str} {sp : Sp} (F : FnOk X.prog X.w X.K X.mg X.base CX0 k f fd ps sp) (hr : Room (k + 2) X.A) (hb : Binds X.K fd ps [])
    (hs : PySem.W.findIn X.K (.ref C) "__str__" = some (some (.ref f))) (hf : PySem.W.isFn X.K (.ref f) = true) : CallR X (.type "str") (rStrOwn C sp) := by
  intro pins s σ H xs us Q I r h
  obtain ⟨a, dx, fs, rfl, ea, q⟩ := h
  obtain ⟨u, rfl, ru⟩ := r.one
  cases (show u = Value.ref a from ru)
  obtain ⟨mA, O, _⟩ := ins_get I.hok ea
  obtain ⟨od, J, _⟩ := O.look
  have hr2 : Room k X.A.in1.in1 := (show Room (k + 1) X.A.in1 from Room.in1 hr).in1
  refine PySem.W.kso_call (by have := hr2.un; omega) I.kIn J hs hf ?_
  refine wpAny_mono (run_ok F hr2 I.env0.in1.in1 hb I (vs := [.ref a]) (us := [.ref a]) (.cons rfl .nil) q) (fun w' s' z => ?_) fun _ _ e => e
  obtain ⟨z', H', I', rz, y, ez, qz⟩ := z
  subst ez
  obtain ⟨t, e⟩ := (show ∃ t, w' = Value.str y t from rz)
  cases e
  exact ⟨.str y, H', I', ⟨_, rfl⟩, qz⟩
end
end Lc
/-! Rules of our own over the layer: a star in a target, list.count of flat things, repr of data (nothing being shown around), a law's end where nothing is being shown. -/
namespace Lc
open PySem PySem.Spec PyProof.Rows L2

/-! ### a, *b = a tuple -/
section
variable {prog : Program} {w : World} {A : Around} {E : Value → Shared → Prop} {s : Shared}
theorem star_items {a : Addr} {u0 : Value} {us : List Value} {Q : List Value → Shared → Prop} (hh : A.handled = none) (ht : IsTup s.heap a (u0 :: us).toArray) (hz : us.length < sizeLine)
    (h : ∀ (h' : Heap) (tk : Nat), (∀ b o, s.heap.get? b = some o → h'.get? b = some o) → Q [u0, .ref h'.objs.size] { s with heap := h'.push { cls := .type "list", data := .seq us.toArray }, toks := tk }) :
    wpAny (model prog w) A (unpackItems (.ref a) 2 (some 1)) Q E s := by
  have hne : a ≠ s.heap.objs.size := let ⟨_, e, _⟩ := ht; Nat.ne_of_lt (Heap.lt_size e)
  unfold unpackItems notIterableAtAll
  refine wpAny_bind (wpAny_bind (wpAny_specialOf ht.typeIs slot_tuple_iter.lookup (wpAny_pure ?_)))
  rw [if_neg (by simp)]
  refine wpAny_bind (wpAny_holding (iter_tuple ht ?_))
  refine wpAny_bind (wpAny_holding (draw_tuple hne 1 0 _ _ ⟨_, Heap.get?_push_size _ rfl, rfl, rfl⟩ (ht.push _) (by simp) fun h1 it1 sb1 => ?_))
  have t1 : IsTup h1 a (u0 :: us).toArray := (ht.push _).extBut sb1.extBut hne
  obtain ⟨o1, e1, _⟩ := id it1
  obtain ⟨o2, e2, _⟩ := id t1
  have k1 : ∀ b o, b ≠ s.heap.objs.size → s.heap.get? b = some o → h1.get? b = some o := fun b o hb e => sb1.extBut b o hb (Heap.get?_push_of_some _ e)
  rw [if_neg (by simp)]
  refine wpAny_bind (wpAny_holding (PySem.W.kun_collect (s := { s with heap := h1 }) (T := "tuple_iterator") (.inr (.inr (.inr rfl))) (Walks.tuple (A := A.in1) hh s.heap.objs.size a hne (u0 :: us).toArray)
    (fun j u st => st.1.typeIs) (k := 1) (by simp) ⟨it1, t1⟩ (Heap.lt_size e1) (Heap.lt_size e2) (fun h2 tk k2 => ?_) (by simp; omega)))
  have kk : ∀ b o, s.heap.get? b = some o → h2.get? b = some o := fun b o e => k2 b o (Nat.ne_of_lt (Heap.lt_size e)) (k1 b o (Nat.ne_of_lt (Heap.lt_size e)) e)
  have el : (u0 :: us).toArray.toList.drop 1 = us := by simp
  rw [el]
  dsimp only
  rw [if_neg (by omega)]
  have em : us.length - (2 - 1 - 1) = us.length := by omega
  rw [em, List.take_length, List.drop_length]
  refine wpAny_bind (wpAny_newList (wpAny_pure ?_))
  have ef : (u0 :: us).toArray.toList.take 1 = [u0] := by simp
  have q := h h2 tk kk
  simpa using q
end

section
variable {X : Cx}
/-- (a, *b) = a tuple of one thing or more: b a new list -/
def gStar (K : PySem.W.Frag) (t : TGs) : TG := fun v σ H Q => ∃ a x0 xs, v = .ref a ∧ SqT K H a (x0 :: xs) ∧ ∀ D, H D = none → t [x0, .ref D] σ (upd H D (.lst xs)) Q
theorem pg_star {e1 e2 : Expr} {k : Nat} {p pos : Pos} {t : TGs} (hc : X.calm = true) (h : PGs X [e1, e2] t)
    (ha : assignEach [e1, .Starred e2 p] X.env = [(false, assign e1 X.env), (true, assign e2 X.env)] := by rfl)
    (hb : (assignEach [e1, e2] X.env).map (·.2) = [assign e1 X.env, assign e2 X.env] := by rfl) : PG X (.Tuple [e1, .Starred e2 p] k pos) (gStar X.K t) := by
  refine ⟨fun pins s σ H v u Q I r hw => ?_⟩
  obtain ⟨a, x0, xs, rfl, hq, hw⟩ := hw
  cases (show u = Value.ref a from r)
  obtain ⟨its, rv, ht, hz⟩ := I.tuple hq
  cases rv with
  | cons r0 rs =>
    rename_i u0 us
    have hl := rs.length
    rw [List.length_cons] at hz
    rw [assign_Tuple]
    refine wpAny_bind (wpAny_standAt ?_)
    unfold unpack
    rw [ha]
    refine wpAny_bind (wpAny_holding (star_items (I.ok.hd hc) ht (by omega) fun h' tk kp => ?_))
    have I1 : Inv X pins σ H { s with heap := h', toks := tk } := I.kept kp
    have I2 : Inv X pins σ (upd H h'.objs.size (.lst xs)) { s with heap := h'.push { cls := .type "list", data := .seq us.toArray }, toks := tk } :=
      I1.laid (t' := tk) (fun b o e => Heap.get?_push_of_some _ e) (Nat.le_refl _) (show ObjOk X.prog X.w _ _ _ (.lst xs) from ⟨by omega, us, 0, rs, Heap.get?_push_size _ rfl⟩)
    have q := h.run pins _ σ _ [x0, .ref h'.objs.size] [u0, .ref h'.objs.size] Q I2 (.cons r0 (.cons rfl .nil)) (hw _ (I1.hok.fresh (Nat.le_refl _)))
    rw [hb] at q
    exact q

/-! ### xs.count(y) of flat things -/
theorem count_eqU {x : V} : ∀ {xs : List V} {us : List Value}, Vals xs us → xs.all flatV = true → us.countP (eqU x) = xs.countP fun y => eqV y x
  | _, _, .nil, _ => rfl
  | y :: ys, u :: us, .cons r t, h => by
    rw [List.all_cons, Bool.and_eq_true] at h
    have ih := count_eqU (x := x) t h.2
    have e := eqU_of (x := x) r h.1
    rw [List.countP_cons, List.countP_cons, ih, e]
def rCountF (K : PySem.W.Frag) : V → List V → Hp → VK → Prop := fun x xs H Q => ∃ (p : Addr) (ys : List V) (y : V), x = .ref p ∧ xs = [y] ∧ SqL K H p ys ∧ flatV y = true ∧ ys.all flatV = true ∧ Q (.int (ys.countP (fun z => eqV z y) : Nat)) H
theorem mt_countF : MtR X "list.count" (rCountF X.K) := by
  intro pins s σ H x xs v us Q I rx rxs h
  obtain ⟨p, ys, y, rfl, rfl, hs, fy, fs, q⟩ := h
  cases rx
  obtain ⟨u, rfl, ru⟩ := rxs.one
  obtain ⟨its, rv, ⟨⟨cls, dd, data, sl⟩, n, ho, hc, hdn, hd⟩, hlen⟩ := I.list hs
  simp only at hc hd
  subst hc hd
  have ec := count_eqU (x := y) rv fs
  refine call_meets PySem.F.slot_list_count ⟨_, ho, rfl⟩ PySem.F.entry_list_count (PySem.F.args_list_count_2 _ _)
    (SeqAt.list_countAt p its.toArray n dd sl u (eqU y)) ⟨ho, fun z hz => mem_eqAt ru fy rv fs z (by simpa using hz), ?_⟩
  refine ⟨.int (ys.countP (fun z => eqV z y) : Nat), H, I.tok _, ⟨s.toks, ?_⟩, q⟩
  show Value.int ((its.toArray.toList.countP (eqU y) : Nat) : Int) s.toks = Value.int ((ys.countP (fun z => eqV z y) : Nat) : Int) s.toks
  rw [← ec]

/-! ### repr(data), nothing being shown around -/
def rRepr (K : PySem.W.Frag) : List V → Hp → VK → Prop := fun xs H Q => ∃ (a : Addr) (d : PyData), xs = [.ref a] ∧ Dp K H (.ref a) d ∧ d.showable = true ∧ d.hasDict = false ∧ d.depth ≤ 60 ∧ d.shown.length ≤ sizeLine ∧ Q (.str d.shown) H
theorem call_repr {k : Nat} (hg : X.A.guards = some []) (hr : Room k X.A) : CallR X (.builtin "repr") (rRepr X.K) := by
  intro pins s σ H xs us Q I r h
  obtain ⟨a, d, rfl, hd, hs, hn, hp, hz, q⟩ := h
  obtain ⟨u, rfl, ru⟩ := r.one
  cases (show u = Value.ref a from ru)
  obtain ⟨as, rd⟩ := Dp.reads I d _ _ hd ru
  have hu := hr.un
  refine repr_of_reads' rd hs (PyData.noDict_hsm hn) hg (by omega) (fun _ _ e => e) (fun h' u tk kp => ?_) hz
  exact ⟨.str d.shown, H, I.kept kp, ⟨u, rfl⟩, q⟩
end

/-! ### defs that are called where nothing is being shown -/
structure FnG (P : Program) (w : World) (K : PySem.W.Frag) (mg : Str → Option Value) (base : Heap) (k : Nat) (f : Addr) (fd : FuncData) (ps : List Str) (sp : Sp) : Prop where
  len : ∀ vs H Q E, sp vs H Q E → vs.length = ps.length
  run : ∀ (A : Around) (outer : List Env) (s : Shared) (H : Hp) (args : Args) (us : List Value) (vs : List V) (Q : VK) (E : XK), Room k A → A.guards = some [] → Env0 P w K mg base A outer s H →
    BindsTo s fd args (ps.zip us) → Vals vs us → sp vs H Q E → codeAny (model P w) A (.call (.ref f) args) (CR CX0 outer P w H s Q E) s
section
variable {P : Program} {w : World} {K : PySem.W.Frag} {mg : Str → Option Value} {base : Heap} {x qual : Str} {params : Arguments} {body : List Stmt} {scope : Scope} {f : Addr} {fd : FuncData} {N ps : List Str} {k : Nat} {sp : Sp}
theorem okG (F : FunD K x qual params body scope [] [] f fd) (S : FnScope N ps scope) (len : ∀ vs H Q E, sp vs H Q E → vs.length = ps.length)
    (hbody : ∀ (cdv : Value) (A : Around) (outer : List Env) (s : Shared) (H : Hp) (vs : List V) (Q : VK) (E : XK), Room k (A.deeper (envOfC qual scope s.heap.objs.size f cdv)) → (A.deeper (envOfC qual scope s.heap.objs.size f cdv)).guards = some [] → sp vs H Q E →
      ∃ t, PSs (cxOf CX0 P w K mg base N qual scope f cdv A outer s H E).nox body t ∧ t { nx := fun _ H' => Q .non H', rt := Q } (start N vs) H) : FnG P w K mg base (k + 1) f fd ps sp := by
  obtain ⟨oc, od, dV, kV, doc, pm, an, cdv, ct, osl, rfl, lk, hcd, _, _⟩ := F.ex
  refine ⟨len, fun A outer s H args us vs Q E hr hg e0 hb rv h => ?_⟩
  have hin : ∀ b o, base.get? b = some o → s.heap.get? b = some o := fun b o e => (e0.bs b o e).1
  have hK : K.In s.heap := e0.mod.kin.keeps hin
  have hno : s.heap.NoLimit := e0.mod.nolimit.keeps hin
  refine codeAny_call_function hr.depth (hK _ _ lk) rfl S.co S.gen rfl (PySem.W.codeRec_of hK hcd) (hb _ _ _ _ ?_)
  refine wpAny_newFunctionEnv_cells S.kind (fun y hy => ?_) fun env he s1 nw => ?_
  · rcases S.par y.1 (List.of_mem_zip hy).1 with q | q
    · exact Or.inl q
    · exact Or.inr ⟨q, PySem.W.cellsFrom_some _ _ _ (Or.inl q)⟩
  · subst he
    refine ⟨hno.keeps nw.toInCall.keep, codeAny_func ?_⟩
    obtain ⟨t, ht, ht2⟩ := hbody cdv A outer s H vs Q E (hr.deeper _) hg h
    have J : Inv (cxOf CX0 P w K mg base N qual scope f cdv A outer s H E) [] (start N vs) H s1 := inv_start S hr.hd e0 (len _ _ _ _ h) rv nw
    refine wpAny_mono (ht.nox.run [] s1 _ H _ J ht2) (fun fl s2 hs => ?_) fun _ _ z => z
    cases fl with
    | ret u =>
      obtain ⟨v, σ2, H2, J2, r2, q⟩ := hs
      exact ⟨v, H2, J2.os, J2.bare, J2.base, J2.hok, r2, q⟩
    | next =>
      obtain ⟨σ2, H2, J2, q⟩ := hs
      exact ⟨.non, H2, J2.os, J2.bare, J2.base, J2.hok, rfl, q⟩
    | brk => exact let ⟨_, _, _, q⟩ := hs; False.elim q
    | cont => exact let ⟨_, _, _, q⟩ := hs; False.elim q
end
section
variable {X : Cx} {k : Nat} {f : Addr} {fd : FuncData} {ps : List Str} {sp : Sp} {x : Str} {p pos : Pos} {e : Expr} {es : List Expr} {t : TA}
theorem pe_callG (F : FnG X.prog X.w X.K X.mg X.base k f fd ps sp) (hr : Room k X.A) (hA : X.A.guards = some []) (hg : Gl X x) (hm : X.mg x = some (.ref f)) (hk : PySem.W.keepIn X.K (.ref f) = true) (hb : Binds X.K fd ps [])
    (ha : PA X (e :: es) t) (hdb : (x == ("__debug__" : Str)) = false := by decide) (he : starEach (e :: es) X.env = (false, eval e X.env) :: starEach es X.env := by rfl) (hpl : (backTo pos (starEach es X.env)).any (·.1) = false := by rfl) :
    PE X (.Call (.Name x p) (e :: es) [] pos) (tCall sp [] E0 t) := by
  refine ⟨fun pins s σ H Q I h => ?_⟩
  refine wpAny_Call_Name_kw (ld_glob I hg hm ?_ hdb)
  refine PySem.W.callWith_K (h₀ := X.base) I.ok.mod.kin hk (thn (ha.run pos pins s σ H _ I h) fun us s1 ⟨vs, H1, I1, r, q⟩ => ⟨I1.kIn, ?_⟩) he hpl
  have q2 : sp (vs ++ []) H1 Q E0 := q
  rw [List.append_nil] at q2
  have q := q2
  show wpAny _ _ (call (.ref f) us) _ _ _
  have hl2 : (us ++ []).length = ps.length := by
    rw [List.append_nil, ← r.length]
    exact F.len _ _ _ _ q
  have hB := hb s1 us I1.kIn hl2
  rw [List.append_nil] at hB
  refine wpAny_call (codeAny_mono (F.run X.A X.stack s1 H1 ⟨us, []⟩ us vs Q E0 hr hA I1.env0 hB r q) fun res s' hq => ?_)
  cases res with
  | error e => exact False.elim hq
  | ok fl =>
    cases fl with
    | ret w => exact I1.after hq
    | next => exact False.elim hq
    | brk => exact False.elim hq
    | cont => exact False.elim hq
end
end Lc
/-! A law's end for a def whose promise asks that nothing is being shown around the call. -/
namespace Lc
open PySem PySem.Spec PyProof.Rows L2

section
variable {P : Program} {w : World} {K : PySem.W.Frag} {mg mb : Str → Option Value} {k : Nat} {fa a : Addr} {fd : FuncData} {x : Str} {sp : Sp} {s₁ : Shared} {vs : List Value} {ns : List Int}
/-- the abstract heap at the law's entry: the script, where it is no object of the written part -/
def entryH (K : PySem.W.Frag) (a : Addr) (vs : List Value) (ns : List Int) : Hp := fun b => match K.lookup a with
  | some _ => none
  | none => if b = a then some (.frz { cls := .type "list", data := .seq vs.toArray } (.lst (ns.map V.int))) else none
theorem entryH_only : Only (entryH K a vs ns) := fun b => by
  unfold entryH
  cases K.lookup a with
  | some o => exact .inl rfl
  | none =>
    dsimp only
    by_cases e : b = a
    · exact .inr ⟨_, _, if_pos e⟩
    · exact .inl (if_neg e)
theorem entryH_at {b : Addr} {u : HO} (h : entryH K a vs ns b = some u) : K.lookup a = none ∧ b = a ∧ u = .frz { cls := .type "list", data := .seq vs.toArray } (.lst (ns.map V.int)) := by
  unfold entryH at h
  cases q : K.lookup a with
  | some o =>
    rw [q] at h
    cases h
  | none =>
    rw [q] at h
    dsimp only at h
    by_cases e : b = a
    · rw [if_pos e] at h
      exact ⟨rfl, e, (Option.some.inj h).symm⟩
    · rw [if_neg e] at h
      cases h
theorem entryH_list (KX : K.In s₁.heap) (ha : s₁.heap.get? a = some { cls := .type "list", data := .seq vs.toArray }) (hi : IntsAre vs ns) (hl : ns.length ≤ sizeLine) : SqL K (entryH K a vs ns) a (ns.map V.int) := by
  have rv := vals_of_ints hi
  have lv := hi.length
  cases q : K.lookup a with
  | some o =>
    have e := KX a o q
    rw [ha] at e
    cases e
    refine .inr ⟨_, vs.toArray, _, q, rfl, rfl, rfl, ?_, by simpa using rv⟩
    rw [List.size_toArray, lv]
    exact hl
  | none =>
    refine .inl (.inr ⟨{ cls := .type "list", data := .seq vs.toArray }, ?_⟩)
    unfold entryH
    rw [q]
    exact if_pos rfl

theorem law_callG (KX : K.In s₁.heap) (hns : s₁.heap.Ns mainGlobals mg) (hb : s₁.heap.Ns builtinsNs mb) (hbb : ∀ x : Str, x ≠ "__name__" → mb x = bootBuiltins x) (hlim : s₁.heap.NoLimit) (hg : s₁.gens = #[])
    (ha : s₁.heap.get? a = some { cls := .type "list", data := .seq vs.toArray }) (hi : IntsAre vs ns) (hl : ns.length ≤ sizeLine) (hr : Room k callerA)
    (F : ∀ base : Heap, K.In base → base.Ns mainGlobals mg → FnG P w K mg base k fa fd [x] sp) (hbind : ∀ (s : Shared) (u : Value), BindsTo s fd ⟨[u], []⟩ [(x, u)])
    (hsp : ∀ H : Hp, Only H → SqL K H a (ns.map V.int) → sp [.ref a] H (fun v _ => v = .bl true) fun _ _ _ => False) :
    codeAny (model P w) callerA (.call (.ref fa) ⟨[.ref a], []⟩) (fun r s' => r = .ok (.ret (.bool true)) ∧ OldK s₁.heap s'.heap ∧ s'.os = s₁.os ∧ AllBare s'.gens) s₁ := by
  have hS := entryH_list KX ha hi hl
  have hO : Only (entryH K a vs ns) := entryH_only
  have hok : HOk P w (entryH K a vs ns) s₁.heap := fun b u e => by
    obtain ⟨_, rfl, rfl⟩ := entryH_at e
    exact ⟨ha, by rw [List.length_map]; exact hl, vs, _, vals_of_ints hi, ha⟩
  have dictFree : ∀ {b : Addr} {o : Obj} {es : Array DictEntry} {ep : Nat}, s₁.heap.get? b = some o → o.data = .dict es ep → entryH K a vs ns b = none := fun {b o es ep} e d => by
    cases q : entryH K a vs ns b with
    | none => rfl
    | some u =>
      obtain ⟨_, rfl, _⟩ := entryH_at q
      rw [ha] at e
      cases e
      cases (show Data.seq vs.toArray _ = Data.dict es ep from d)
  have nsBase : ∀ {b : Addr} {m : Str → Option Value}, s₁.heap.Ns b m → (hidT s₁.heap (entryH K a vs ns)).Ns b m := fun {b m} ⟨o, es, ep, e, d, r⟩ => ⟨o, es, ep, hidT_get e (dictFree e d), d, r⟩
  have kBase : K.In (hidT s₁.heap (entryH K a vs ns)) := fun b o e => hidT_get (KX b o e) (by
    cases q : entryH K a vs ns b with
    | none => rfl
    | some u =>
      obtain ⟨z, rfl, _⟩ := entryH_at q
      rw [z] at e
      cases e)
  have hM : Mod K mg (hidT s₁.heap (entryH K a vs ns)) := ⟨kBase, nsBase hns, ⟨mb, nsBase hb, hbb⟩, let ⟨mc, h1, h2⟩ := hlim; ⟨mc, nsBase h1, h2⟩⟩
  have e0 : Env0 P w K mg (hidT s₁.heap (entryH K a vs ns)) callerA [] s₁ (entryH K a vs ns) :=
    ⟨rfl, hM, fun _ _ e => of_hidT e, Nat.le_of_eq (hidT_size _ _), trivial, fun b z => absurd (show b ∈ ([] : List Addr) from z) (by simp), hok, .of_eq hg⟩
  refine codeAny_mono ((F _ kBase (nsBase hns)).run callerA [] s₁ _ ⟨[.ref a], []⟩ [.ref a] [.ref a] _ _ hr rfl e0 (hbind s₁ (.ref a)) (.cons rfl .nil) (hsp _ hO hS)) fun res s' h => ?_
  cases res with
  | error e => exact False.elim h
  | ok fl =>
    cases fl with
    | ret u =>
      obtain ⟨v, H', os, bare, un, hok', rv, q⟩ := h
      have ev : v = .bl true := q
      subst ev
      cases (show u = Value.bool true from rv)
      refine ⟨rfl, OldK.of_keep fun b o e => ?_, os, bare⟩
      cases q2 : entryH K a vs ns b with
      | none => exact un.keep b o e q2 (fun z => by simp [frs] at z) (by simp)
      | some u2 =>
        obtain ⟨_, rfl, rfl⟩ := entryH_at q2
        have z2 := un.frzs _ _ _ q2
        rw [ha] at e
        cases e
        exact (hok' _ _ z2).1
    | next => exact False.elim h
    | brk => exact False.elim h
    | cont => exact False.elim h
end

theorem walk_G {l : PySem.W.OpenLaw} {n k : Nat} {q : Program} {loose : List Str} {XP : (Str → Option Value) → Heap → Prop} {YP : World → Heap → Prop} {d : DefRec} {x : Str}
    (hn : l.most = some n) (hn2 : n ≤ sizeLine) (hdf : d.params.defaults = []) (hr : Room k callerA)
    (F : ∀ (w : World) (mg : Str → Option Value) (fa : Addr) (h : Heap), YP w h → h.Ns mainGlobals mg → mg d.name = some (.ref fa) →
      ∃ (K : PySem.W.Frag) (fd : FuncData) (sp : Sp), K.In h ∧ (∀ (s : Shared) (u : Value), BindsTo s fd ⟨[u], []⟩ [(x, u)]) ∧
        (∀ (H : Hp) (a : Addr) (ns : List Int), ns.length ≤ n → Only H → SqL K H a (ns.map V.int) → sp [.ref a] H (fun v _ => v = .bl true) fun _ _ _ => False) ∧
        ∀ base : Heap, K.In base → base.Ns mainGlobals mg → FnG l.prog w K mg base k fa fd [x] sp) :
    PySem.W.WalkO q loose XP YP l.row.toRowW d [] (fun f vs => PySem.call f vs) := by
  refine Att.attach_call hn hdf fun w s₀ s₁ mg mb fa o pm cd doc a vs ns G Y ho hd hcd hmg hobj hints hlen hg => ?_
  obtain ⟨K, fd, sp, KX, hb, hsp, hF⟩ := F w mg fa _ Y G.T.g hmg
  exact law_callG KX G.T.g G.T.b G.T.builtins G.T.nolimit hg hobj hints (Nat.le_trans hlen hn2) hr hF hb fun H hO hS => hsp H a ns hlen hO hS
end Lc
/-! Fractions in the one way, plain Lean. -/
namespace Lc

abbrev Fr := Int × Int
/-- the greatest common divisor of what two whole numbers are in size -/
def gcd2 (a b : Int) : Int := (Nat.gcd a.natAbs b.natAbs : Nat)
def rat (a b : Int) : Fr := (a / gcd2 a b, b / gcd2 a b)
def addF (x y : Fr) : Fr := rat (x.1 * y.2 + y.1 * x.2) (x.2 * y.2)
def subF (x y : Fr) : Fr := rat (x.1 * y.2 - y.1 * x.2) (x.2 * y.2)
def mulF (x y : Fr) : Fr := rat (x.1 * y.1) (x.2 * y.2)
def divF (x y : Fr) : Fr := rat (x.1 * y.2) (x.2 * y.1)
def ltF (x y : Fr) : Bool := decide (x.1 * y.2 < y.1 * x.2)

theorem gcd2_pos {a b : Int} (h : 0 < b) : 0 < gcd2 a b := by
  unfold gcd2
  have := Nat.gcd_pos_of_pos_right a.natAbs (show 0 < b.natAbs by omega)
  omega
theorem gcd2_dvd_left (a b : Int) : gcd2 a b ∣ a := by
  unfold gcd2
  exact Int.ofNat_dvd_left.mpr (Nat.gcd_dvd_left _ _)
theorem gcd2_dvd_right (a b : Int) : gcd2 a b ∣ b := by
  unfold gcd2
  exact Int.ofNat_dvd_left.mpr (Nat.gcd_dvd_right _ _)
theorem gcd2_le {a b : Int} (h : 0 < b) : gcd2 a b ≤ b := Int.le_of_dvd h (gcd2_dvd_right a b)

/-- what rat does: both are g times what it tells -/
theorem rat_spec {a b : Int} (h : 0 < b) : ∃ g, 0 < g ∧ g = gcd2 a b ∧ a = g * (rat a b).1 ∧ b = g * (rat a b).2 ∧ 0 < (rat a b).2 := by
  have hg := gcd2_pos (a := a) h
  refine ⟨gcd2 a b, hg, rfl, ?_, ?_, ?_⟩
  · exact (Int.mul_ediv_cancel' (gcd2_dvd_left a b)).symm
  · exact (Int.mul_ediv_cancel' (gcd2_dvd_right a b)).symm
  · exact Int.ediv_pos_of_pos_of_dvd h (Int.le_of_lt hg) (gcd2_dvd_right a b)
theorem rat_pos {a b : Int} (h : 0 < b) : 0 < (rat a b).2 := let ⟨_, _, _, _, _, p⟩ := rat_spec (a := a) h; p
theorem rat_val {a b : Int} (h : 0 < b) : (rat a b).1 * b = a * (rat a b).2 := by
  obtain ⟨g, _, _, ea, eb, _⟩ := rat_spec (a := a) h
  generalize (rat a b).1 = n at *
  generalize (rat a b).2 = d at *
  subst ea eb
  rw [Int.mul_left_comm, Int.mul_assoc]
theorem gcd2_mul (k a b : Int) : gcd2 (k * a) (k * b) = (k.natAbs : Int) * gcd2 a b := by
  unfold gcd2
  rw [Int.natAbs_mul, Int.natAbs_mul, Nat.gcd_mul_left]
  exact Int.natCast_mul _ _
/-- equal in worth: told the same -/
theorem rat_eq {a b c d : Int} (hb : 0 < b) (hd : 0 < d) (h : a * d = c * b) : rat a b = rat c d := by
  obtain ⟨g, g0, eg, ea, eb, p1⟩ := rat_spec (a := a) hb
  obtain ⟨g', g0', eg', ec, ed, p2⟩ := rat_spec (a := c) hd
  have e1 : d * gcd2 a b = b * gcd2 c d := by
    have h1 := gcd2_mul d a b
    have h2 := gcd2_mul b c d
    have n1 : (d.natAbs : Int) = d := by omega
    have n2 : (b.natAbs : Int) = b := by omega
    rw [n1] at h1
    rw [n2] at h2
    rw [← h1, ← h2, Int.mul_comm d a, h, Int.mul_comm c b, Int.mul_comm d b]
  rw [← eg, ← eg'] at e1
  have hgg : g * g' ≠ 0 := Int.mul_ne_zero (by omega) (by omega)
  have e2 : (rat a b).2 = (rat c d).2 := by
    generalize (rat a b).2 = x at *
    generalize (rat c d).2 = y at *
    have z : (g * g') * y = (g * g') * x := by
      rw [eb, ed] at e1
      rw [show (g * g') * y = g' * y * g by rw [Int.mul_comm g g', Int.mul_assoc, Int.mul_comm g y, ← Int.mul_assoc], e1, Int.mul_comm (g * x) g', ← Int.mul_assoc, Int.mul_comm g' g]
    exact (Int.eq_of_mul_eq_mul_left hgg z).symm
  have e3 : (rat a b).1 = (rat c d).1 := by
    have v1 := rat_val (a := a) hb
    have v2 := rat_val (a := c) hd
    generalize (rat a b).1 = x at *
    generalize (rat c d).1 = y at *
    rw [e2] at v1 p1
    generalize (rat c d).2 = m at *
    have z : (b * d) * x = (b * d) * y := by
      have l : (b * d) * x = (a * m) * d := by rw [← v1, Int.mul_comm (b * d) x, Int.mul_assoc]
      have r : (b * d) * y = (c * m) * b := by rw [← v2, Int.mul_comm (b * d) y, Int.mul_comm b d, Int.mul_assoc]
      rw [l, r, Int.mul_assoc, Int.mul_comm m d, ← Int.mul_assoc, h, Int.mul_assoc, Int.mul_comm b m, ← Int.mul_assoc]
    exact Int.eq_of_mul_eq_mul_left (Int.mul_ne_zero (by omega) (by omega)) z
  exact Prod.ext e3 e2

/-- of the same worth -/
def Eqw (x y : Fr) : Prop := x.1 * y.2 = y.1 * x.2
theorem rat_eqw {a b : Int} (h : 0 < b) : Eqw (rat a b) (a, b) := rat_val h
theorem add_congr {x y x' y' : Fr} (hx : 0 < x.2) (hy : 0 < y.2) (hx' : 0 < x'.2) (hy' : 0 < y'.2) (e : Eqw x x') (f : Eqw y y') : addF x y = addF x' y' := by
  obtain ⟨a, b⟩ := x
  obtain ⟨c, d⟩ := y
  obtain ⟨a', b'⟩ := x'
  obtain ⟨c', d'⟩ := y'
  unfold addF Eqw at *
  dsimp only at *
  refine rat_eq (Int.mul_pos hx hy) (Int.mul_pos hx' hy') ?_
  have h1 : a * d * (b' * d') = (a * b') * (d * d') := by simp only [Int.mul_comm, Int.mul_left_comm, Int.mul_assoc]
  have h2 : c * b * (b' * d') = (c * d') * (b * b') := by simp only [Int.mul_comm, Int.mul_left_comm, Int.mul_assoc]
  have h3 : a' * d' * (b * d) = (a' * b) * (d * d') := by simp only [Int.mul_comm, Int.mul_left_comm, Int.mul_assoc]
  have h4 : c' * b' * (b * d) = (c' * d) * (b * b') := by simp only [Int.mul_comm, Int.mul_left_comm, Int.mul_assoc]
  rw [Int.add_mul, Int.add_mul, h1, h2, h3, h4, e, f]
theorem div_congr {x x' y : Fr} (hx : 0 < x.2) (hx' : 0 < x'.2) (hy : 0 < y.1) (e : Eqw x x') : divF x y = divF x' y := by
  obtain ⟨a, b⟩ := x
  obtain ⟨a', b'⟩ := x'
  obtain ⟨c, d⟩ := y
  unfold divF Eqw at *
  dsimp only at *
  refine rat_eq (Int.mul_pos hx hy) (Int.mul_pos hx' hy) ?_
  have h1 : a * d * (b' * c) = (a * b') * (d * c) := by simp only [Int.mul_comm, Int.mul_left_comm, Int.mul_assoc]
  have h2 : a' * d * (b * c) = (a' * b) * (d * c) := by simp only [Int.mul_comm, Int.mul_left_comm, Int.mul_assoc]
  rw [h1, h2, e]
theorem sub_add {l w : Fr} (hl : 0 < l.2) (hw : 0 < w.2) : Eqw (subF (addF l w) l) w := by
  obtain ⟨a, b⟩ := l
  obtain ⟨c, d⟩ := w
  have p1 : 0 < (addF (a, b) (c, d)).2 := rat_pos (Int.mul_pos hl hw)
  have v1 : (addF (a, b) (c, d)).1 * (b * d) = (a * d + c * b) * (addF (a, b) (c, d)).2 := rat_val (Int.mul_pos hl hw)
  generalize addF (a, b) (c, d) = s at *
  obtain ⟨m, n⟩ := s
  dsimp only at *
  have p2 : 0 < n * b := Int.mul_pos p1 hl
  have v2 : (subF (m, n) (a, b)).1 * (n * b) = (m * b - a * n) * (subF (m, n) (a, b)).2 := rat_val p2
  have p3 : 0 < (subF (m, n) (a, b)).2 := rat_pos p2
  generalize subF (m, n) (a, b) = r at *
  obtain ⟨u, v⟩ := r
  unfold Eqw
  dsimp only at *
  -- u / v = (m b - a n) / (n b), m / n = (a d + c b) / (b d)
  have h : (n * b * b) * (u * d) = (n * b * b) * (c * v) := by
    have h1 : (n * b * b) * (u * d) = (u * (n * b)) * (b * d) := by simp only [Int.mul_comm, Int.mul_left_comm, Int.mul_assoc]
    rw [h1, v2]
    have h2 : (m * b - a * n) * v * (b * d) = (m * (b * d) * b - a * n * (b * d)) * v := by
      rw [Int.sub_mul, Int.sub_mul, Int.sub_mul]
      congr 1 <;> simp only [Int.mul_comm, Int.mul_left_comm, Int.mul_assoc]
    rw [h2, v1]
    have h3 : (a * d + c * b) * n * b - a * n * (b * d) = c * n * b * b := by
      rw [Int.add_mul, Int.add_mul]
      have z : a * d * n * b = a * n * (b * d) := by simp only [Int.mul_comm, Int.mul_left_comm, Int.mul_assoc]
      rw [z]
      have z2 : c * b * n * b = c * n * b * b := by simp only [Int.mul_comm, Int.mul_left_comm, Int.mul_assoc]
      rw [z2]
      omega
    rw [h3]
    simp only [Int.mul_comm, Int.mul_left_comm, Int.mul_assoc]
  exact Int.eq_of_mul_eq_mul_left (Int.ne_of_gt (Int.mul_pos (Int.mul_pos p1 hl) hl)) h
theorem sub_self {l : Fr} (hl : 0 < l.2) : Eqw (subF l l) (0, 1) := by
  obtain ⟨a, b⟩ := l
  have p : 0 < b * b := Int.mul_pos hl hl
  have v : (subF (a, b) (a, b)).1 * (b * b) = (a * b - a * b) * (subF (a, b) (a, b)).2 := rat_val p
  unfold Eqw
  generalize subF (a, b) (a, b) = r at *
  obtain ⟨u, w⟩ := r
  dsimp only at *
  rw [Int.sub_self, Int.zero_mul] at v
  have : u = 0 := (Int.mul_eq_zero.mp v).resolve_right (by omega)
  subst this
  rw [Int.zero_mul, Int.zero_mul]
theorem add_zero {x z : Fr} (hx : 0 < x.2) (hz : 0 < z.2) (e : Eqw z (0, 1)) : Eqw (addF x z) x := by
  obtain ⟨a, b⟩ := x
  obtain ⟨c, d⟩ := z
  unfold Eqw at *
  dsimp only at *
  rw [Int.zero_mul, Int.mul_one] at e
  subst e
  have p : 0 < b * d := Int.mul_pos hx hz
  have v : (addF (a, b) (0, d)).1 * (b * d) = (a * d + 0 * b) * (addF (a, b) (0, d)).2 := rat_val p
  generalize addF (a, b) (0, d) = r at *
  obtain ⟨u, w⟩ := r
  dsimp only at *
  rw [Int.zero_mul, Int.add_zero] at v
  have h : d * (u * b) = d * (a * w) := by
    rw [show d * (u * b) = u * (b * d) by simp only [Int.mul_comm, Int.mul_left_comm, Int.mul_assoc], v]
    simp only [Int.mul_comm, Int.mul_left_comm, Int.mul_assoc]
  exact Int.eq_of_mul_eq_mul_left (by omega) h
theorem div_zero {z y : Fr} (hz : 0 < z.2) (hy : 0 < y.1) (e : Eqw z (0, 1)) : Eqw (divF z y) (0, 1) := by
  obtain ⟨c, d⟩ := z
  obtain ⟨m, n⟩ := y
  unfold Eqw at *
  dsimp only at *
  rw [Int.zero_mul, Int.mul_one] at e
  subst e
  have p : 0 < d * m := Int.mul_pos hz hy
  have v : (divF (0, d) (m, n)).1 * (d * m) = (0 * n) * (divF (0, d) (m, n)).2 := rat_val p
  generalize divF (0, d) (m, n) = r at *
  obtain ⟨u, w⟩ := r
  dsimp only at *
  rw [Int.zero_mul, Int.zero_mul] at v
  have : u = 0 := (Int.mul_eq_zero.mp v).resolve_right (by omega)
  subst this
  rw [Int.zero_mul, Int.zero_mul]
theorem add_pos2 {x y : Fr} (hx : 0 < x.2) (hy : 0 < y.2) : 0 < (addF x y).2 := rat_pos (Int.mul_pos hx hy)
theorem sub_pos2 {x y : Fr} (hx : 0 < x.2) (hy : 0 < y.2) : 0 < (subF x y).2 := rat_pos (Int.mul_pos hx hy)
theorem div_pos2 {x y : Fr} (hx : 0 < x.2) (hy : 0 < y.1) : 0 < (divF x y).2 := rat_pos (Int.mul_pos hx hy)
theorem mul_pos2 {x y : Fr} (hx : 0 < x.2) (hy : 0 < y.2) : 0 < (mulF x y).2 := rat_pos (Int.mul_pos hx hy)
theorem eqw_refl (x : Fr) : Eqw x x := rfl
/-- THE LAW of drift: from p at a stamp l, kept at l, then w further; and at once -/
theorem drift {p l w f : Fr} (hp : 0 < p.2) (hl : 0 < l.2) (hw : 0 < w.2) (hf : 0 < f.1) :
    addF p (divF (subF (addF l w) l) f) = addF (addF p (divF (subF l l) f)) (divF w f) := by
  have ha := add_pos2 hl hw
  have hs := sub_pos2 ha hl
  have e1 : divF (subF (addF l w) l) f = divF w f := div_congr hs hw hf (sub_add hl hw)
  have h0 := sub_pos2 hl hl
  have e2 : Eqw (divF (subF l l) f) (0, 1) := div_zero h0 hf (sub_self hl)
  rw [e1]
  exact add_congr hp (div_pos2 hw hf) (add_pos2 hp (div_pos2 h0 hf)) (div_pos2 hw hf) (add_zero hp (div_pos2 h0 hf) e2).symm (eqw_refl _)
/-- .. where the pair is the stamp itself -/
theorem drift_src {l w : Fr} {a b : Int} (hl : 0 < l.2) (hb : 0 < b) (hw : w = rat a b) : addF l w = addF l (divF w (1, 1)) := by
  have pw : 0 < w.2 := by rw [hw]; exact rat_pos hb
  refine add_congr hl pw hl (div_pos2 pw (by decide)) (eqw_refl _) ?_
  have v : (divF w (1, 1)).1 * (w.2 * 1) = (w.1 * 1) * (divF w (1, 1)).2 := rat_val (by omega)
  unfold Eqw
  rw [Int.mul_one, Int.mul_one] at v
  exact v.symm

/-! ### how great they are -/
/-- a divisor of N below, no greater than c in size -/
def Fb (N c : Int) (x : Fr) : Prop := 0 < x.2 ∧ x.2 ∣ N ∧ -(c * x.2) ≤ x.1 ∧ x.1 ≤ c * x.2
theorem Fb.mono {N c c' : Int} {x : Fr} (h : Fb N c x) (hc : c ≤ c') : Fb N c' x := by
  obtain ⟨h1, h2, h3, h4⟩ := h
  have := Int.mul_le_mul_of_nonneg_right hc (Int.le_of_lt h1)
  exact ⟨h1, h2, by omega, by omega⟩
theorem Fb.dvd {N M c : Int} {x : Fr} (h : Fb N c x) (hN : N ∣ M) : Fb M c x := ⟨h.1, Int.dvd_trans h.2.1 hN, h.2.2⟩
theorem Fb.le {N c : Int} {x : Fr} (h : Fb N c x) (hN : 0 < N) : x.2 ≤ N := Int.le_of_dvd hN h.2.1
/-- from any way of writing it -/
theorem fb_rat {N c a b : Int} (hb : 0 < b) (hN : b ∣ N) (h1 : -(c * b) ≤ a) (h2 : a ≤ c * b) : Fb N c (rat a b) := by
  obtain ⟨g, g0, _, ea, eb, p⟩ := rat_spec (a := a) hb
  have k1 : g * (-(c * (rat a b).2)) ≤ g * (rat a b).1 := by
    rw [← ea, Int.mul_neg, ← Int.mul_assoc, Int.mul_comm g c, Int.mul_assoc, ← eb]
    exact h1
  have k2 : g * (rat a b).1 ≤ g * (c * (rat a b).2) := by
    rw [← ea, ← Int.mul_assoc, Int.mul_comm g c, Int.mul_assoc, ← eb]
    exact h2
  have dv : (rat a b).2 ∣ b := by
    have z : (rat a b).2 ∣ g * (rat a b).2 := Int.dvd_mul_left _ _
    rw [← eb] at z
    exact z
  exact ⟨p, Int.dvd_trans dv hN, Int.le_of_mul_le_mul_left k1 g0, Int.le_of_mul_le_mul_left k2 g0⟩
theorem fb_add {N c c' : Int} {x y : Fr} (hN : 0 < N) (hx : Fb N c x) (hy : Fb N c' y) : Fb N (c + c') (addF x y) := by
  obtain ⟨a, p⟩ := x
  obtain ⟨b, q⟩ := y
  obtain ⟨p0, ⟨e, pe⟩, x1, x2⟩ := hx
  obtain ⟨q0, ⟨f, qf⟩, y1, y2⟩ := hy
  dsimp only at *
  have e0 : 0 < e := Int.lt_of_mul_lt_mul_left (a := p) (by rw [Int.mul_zero, ← pe]; exact hN) (Int.le_of_lt p0)
  have f0 : 0 < f := Int.lt_of_mul_lt_mul_left (a := q) (by rw [Int.mul_zero, ← qf]; exact hN) (Int.le_of_lt q0)
  have er : addF (a, p) (b, q) = rat (a * e + b * f) N := by
    refine rat_eq (Int.mul_pos p0 q0) hN ?_
    dsimp only
    rw [Int.add_mul, Int.add_mul]
    congr 1
    · rw [pe]
      simp only [Int.mul_comm, Int.mul_left_comm, Int.mul_assoc]
    · rw [qf]
      simp only [Int.mul_comm, Int.mul_left_comm, Int.mul_assoc]
  rw [er]
  have z1 := Int.mul_le_mul_of_nonneg_right x1 (Int.le_of_lt e0)
  have z2 := Int.mul_le_mul_of_nonneg_right x2 (Int.le_of_lt e0)
  have z3 := Int.mul_le_mul_of_nonneg_right y1 (Int.le_of_lt f0)
  have z4 := Int.mul_le_mul_of_nonneg_right y2 (Int.le_of_lt f0)
  rw [Int.neg_mul, Int.mul_assoc, ← pe] at z1
  rw [Int.mul_assoc, ← pe] at z2
  rw [Int.neg_mul, Int.mul_assoc, ← qf] at z3
  rw [Int.mul_assoc, ← qf] at z4
  refine fb_rat hN (Int.dvd_refl _) ?_ ?_
  · rw [Int.add_mul]
    omega
  · rw [Int.add_mul]
    omega
theorem fb_neg {N c : Int} {a p : Int} (h : Fb N c (a, p)) : Fb N c (-a, p) := by
  obtain ⟨h1, h2, h3, h4⟩ := h
  dsimp only at *
  exact ⟨h1, h2, by dsimp only; omega, by dsimp only; omega⟩
theorem sub_neg {a p : Int} {x : Fr} : subF x (a, p) = addF x (-a, p) := by
  unfold subF addF
  dsimp only
  rw [Int.neg_mul]
  rfl
theorem fb_sub {N c c' : Int} {x y : Fr} (hN : 0 < N) (hx : Fb N c x) (hy : Fb N c' y) : Fb N (c + c') (subF x y) := by
  obtain ⟨b, q⟩ := y
  rw [sub_neg]
  exact fb_add hN hx (fb_neg hy)
/-- a rate of a clock -/
structure Rt1 (r : Fr) : Prop where
  n0 : 0 < r.1
  d0 : 0 < r.2
  d4 : r.2 ∣ 4
  n30 : r.1 ∣ 30
  le2 : r.1 ≤ 2 * r.2
  ge2 : r.2 ≤ 2 * r.1
theorem fb_div {c : Int} {w r : Fr} (hc : 0 ≤ c) (hw : Fb 4 c w) (hr : Rt1 r) : Fb 120 (2 * c) (divF w r) := by
  obtain ⟨a, p⟩ := w
  obtain ⟨m, n⟩ := r
  obtain ⟨p0, pd, x1, x2⟩ := hw
  obtain ⟨n0, d0, d4, n30, le2, ge2⟩ := hr
  dsimp only at *
  have k : c * (p * n) ≤ c * (p * (2 * m)) := Int.mul_le_mul_of_nonneg_left (Int.mul_le_mul_of_nonneg_left ge2 (Int.le_of_lt p0)) hc
  have e : c * (p * (2 * m)) = 2 * c * (p * m) := by simp only [Int.mul_comm, Int.mul_left_comm, Int.mul_assoc]
  have z1 := Int.mul_le_mul_of_nonneg_right x1 (Int.le_of_lt d0)
  have z2 := Int.mul_le_mul_of_nonneg_right x2 (Int.le_of_lt d0)
  rw [Int.neg_mul, Int.mul_assoc] at z1
  rw [Int.mul_assoc] at z2
  refine fb_rat (Int.mul_pos p0 n0) ?_ ?_ ?_
  · exact Int.mul_dvd_mul pd n30
  · dsimp only
    omega
  · dsimp only
    omega
theorem fb_mul {t : Int} {r : Fr} (ht : 0 ≤ t) (hr : Rt1 r) : Fb 4 (2 * t) (mulF r (t, 1)) := by
  obtain ⟨m, n⟩ := r
  obtain ⟨n0, d0, d4, n30, le2, ge2⟩ := hr
  dsimp only at *
  have k : m * t ≤ 2 * n * t := Int.mul_le_mul_of_nonneg_right le2 ht
  have k0 : 0 ≤ m * t := Int.mul_nonneg (Int.le_of_lt n0) ht
  have k1 : 0 ≤ 2 * n * t := Int.mul_nonneg (by omega) ht
  have e : 2 * t * (n * 1) = 2 * n * t := by rw [Int.mul_one, Int.mul_assoc, Int.mul_comm t n, ← Int.mul_assoc]
  refine fb_rat (by dsimp only; omega) (by rw [Int.mul_one]; exact d4) ?_ ?_
  · dsimp only
    omega
  · dsimp only
    omega

/-! ### order -/
theorem lt_self (x : Fr) : ltF x x = false := decide_eq_false (by omega)
theorem lt_add {s t : Fr} (hs : 0 < s.2) (ht : 0 < t.2) (h : 0 ≤ t.1) : ltF (addF s t) s = false := by
  obtain ⟨a, p⟩ := s
  obtain ⟨b, q⟩ := t
  dsimp only at *
  have p1 : 0 < (addF (a, p) (b, q)).2 := rat_pos (Int.mul_pos hs ht)
  have v : (addF (a, p) (b, q)).1 * (p * q) = (a * q + b * p) * (addF (a, p) (b, q)).2 := rat_val (Int.mul_pos hs ht)
  refine decide_eq_false ?_
  generalize addF (a, p) (b, q) = r at *
  obtain ⟨m, n⟩ := r
  dsimp only at *
  intro hlt
  have z := Int.mul_lt_mul_of_pos_right hlt ht
  rw [Int.mul_assoc, v, Int.add_mul] at z
  have e : a * q * n = a * n * q := by simp only [Int.mul_comm, Int.mul_left_comm, Int.mul_assoc]
  have k : 0 ≤ b * p * n := Int.mul_nonneg (Int.mul_nonneg h (Int.le_of_lt hs)) (Int.le_of_lt p1)
  omega
theorem le_trans2 {x y z : Fr} (hx : 0 < x.2) (hy : 0 < y.2) (hz : 0 < z.2) (h1 : ltF y x = false) (h2 : ltF z y = false) : ltF z x = false := by
  have g1 : ¬ y.1 * x.2 < x.1 * y.2 := of_decide_eq_false h1
  have g2 : ¬ z.1 * y.2 < y.1 * z.2 := of_decide_eq_false h2
  refine decide_eq_false fun hlt => ?_
  have k1 : x.1 * y.2 * z.2 ≤ y.1 * x.2 * z.2 := Int.mul_le_mul_of_nonneg_right (by omega) (Int.le_of_lt hz)
  have k2 : y.1 * z.2 * x.2 ≤ z.1 * y.2 * x.2 := Int.mul_le_mul_of_nonneg_right (by omega) (Int.le_of_lt hx)
  have k3 := Int.mul_lt_mul_of_pos_right hlt hy
  have e1 : x.1 * y.2 * z.2 = x.1 * z.2 * y.2 := by simp only [Int.mul_comm, Int.mul_left_comm, Int.mul_assoc]
  have e2 : y.1 * x.2 * z.2 = y.1 * z.2 * x.2 := by simp only [Int.mul_comm, Int.mul_left_comm, Int.mul_assoc]
  have e3 : z.1 * y.2 * x.2 = z.1 * x.2 * y.2 := by simp only [Int.mul_comm, Int.mul_left_comm, Int.mul_assoc]
  omega
theorem mul_nn {r : Fr} {t : Int} (hr : Rt1 r) (ht : 0 ≤ t) : 0 ≤ (mulF r (t, 1)).1 := by
  have p : 0 < r.2 * 1 := by have := hr.d0; omega
  have v : (mulF r (t, 1)).1 * (r.2 * 1) = (r.1 * t) * (mulF r (t, 1)).2 := rat_val p
  have q : 0 < (mulF r (t, 1)).2 := rat_pos p
  have k : 0 ≤ (r.1 * t) * (mulF r (t, 1)).2 := Int.mul_nonneg (Int.mul_nonneg (Int.le_of_lt hr.n0) ht) (Int.le_of_lt q)
  rw [← v] at k
  exact Int.nonneg_of_mul_nonneg_left k p
end Lc
/-! The text by places, the names of each def, what the walk asks of the written part (printed by gentext.py). -/
namespace Lc
open PySem PySem.Spec PyProof.Rows L2
def top (i : Nat) : Stmt := PySem.Challenge.pw_ledclocks_k44_whole_keeper_as_kept.main.body.getD i (.Pass ⟨0, 0, 0, 0⟩)
/-- a def of the module -/
structure Def (K : PySem.W.Frag) (mg : Str → Option Value) (x : Str) (st : Stmt) (ps : List Str) (f : Addr) (fd : FuncData) : Prop where
  F : FunD K x x (defArgs st) (defBody st) (defScope st) [] [] f fd
  m : mg x = some (.ref f)
  b : Binds K fd ps []
/-- a method of the class at C -/
structure MDef (K : PySem.W.Frag) (C : Addr) (x q : Str) (st : Stmt) (ps : List Str) (f : Addr) (fd : FuncData) : Prop where
  F : FunD K x q (defArgs st) (defBody st) (defScope st) [] [] f fd
  me : Meth K C x f
  b : Binds K fd ps []

abbrev s_common_divisor : Stmt := top 8
abbrev n_common_divisor : List Str := ["one", "other"]
abbrev p_common_divisor : List Str := ["one", "other"]
theorem sc_common_divisor : FnScope n_common_divisor p_common_divisor (defScope s_common_divisor) := ⟨rfl, rfl, rfl, by decide +kernel, rfl, by decide +kernel, by decide +kernel⟩
abbrev s_ratio : Stmt := top 9
abbrev n_ratio : List Str := ["a", "b", "divisor"]
abbrev p_ratio : List Str := ["a", "b"]
theorem sc_ratio : FnScope n_ratio p_ratio (defScope s_ratio) := ⟨rfl, rfl, rfl, by decide +kernel, rfl, by decide +kernel, by decide +kernel⟩
abbrev s_added : Stmt := top 10
abbrev n_added : List Str := ["one", "other"]
abbrev p_added : List Str := ["one", "other"]
theorem sc_added : FnScope n_added p_added (defScope s_added) := ⟨rfl, rfl, rfl, by decide +kernel, rfl, by decide +kernel, by decide +kernel⟩
abbrev s_less : Stmt := top 11
abbrev n_less : List Str := ["one", "other"]
abbrev p_less : List Str := ["one", "other"]
theorem sc_less : FnScope n_less p_less (defScope s_less) := ⟨rfl, rfl, rfl, by decide +kernel, rfl, by decide +kernel, by decide +kernel⟩
abbrev s_parted : Stmt := top 12
abbrev n_parted : List Str := ["one", "other"]
abbrev p_parted : List Str := ["one", "other"]
theorem sc_parted : FnScope n_parted p_parted (defScope s_parted) := ⟨rfl, rfl, rfl, by decide +kernel, rfl, by decide +kernel, by decide +kernel⟩
abbrev s_is_below : Stmt := top 13
abbrev n_is_below : List Str := ["one", "other"]
abbrev p_is_below : List Str := ["one", "other"]
theorem sc_is_below : FnScope n_is_below p_is_below (defScope s_is_below) := ⟨rfl, rfl, rfl, by decide +kernel, rfl, by decide +kernel, by decide +kernel⟩
abbrev s_rates : Stmt := top 17
abbrev n_rates : List Str := ["field", "name", "slow", "fast"]
abbrev p_rates : List Str := ["field"]
theorem sc_rates : FnScope n_rates p_rates (defScope s_rates) := ⟨rfl, rfl, rfl, by decide +kernel, rfl, by decide +kernel, by decide +kernel⟩
abbrev s_nexts_of : Stmt := top 18
abbrev n_nexts_of : List Str := ["history", "event", "field", "events", "house", "stamp", "deed", "slow", "fast", "found", "elder", "went", "link"]
abbrev p_nexts_of : List Str := ["history", "event"]
theorem sc_nexts_of : FnScope n_nexts_of p_nexts_of (defScope s_nexts_of) := ⟨rfl, rfl, rfl, by decide +kernel, rfl, by decide +kernel, by decide +kernel⟩
abbrev s_moved : Stmt := top 19
abbrev n_moved : List Str := ["bound", "more"]
abbrev p_moved : List Str := ["bound", "more"]
theorem sc_moved : FnScope n_moved p_moved (defScope s_moved) := ⟨rfl, rfl, rfl, by decide +kernel, rfl, by decide +kernel, by decide +kernel⟩
abbrev s_greater_low : Stmt := top 20
abbrev n_greater_low : List Str := ["one", "other"]
abbrev p_greater_low : List Str := ["one", "other"]
theorem sc_greater_low : FnScope n_greater_low p_greater_low (defScope s_greater_low) := ⟨rfl, rfl, rfl, by decide +kernel, rfl, by decide +kernel, by decide +kernel⟩
abbrev s_lesser_high : Stmt := top 21
abbrev n_lesser_high : List Str := ["one", "other"]
abbrev p_lesser_high : List Str := ["one", "other"]
theorem sc_lesser_high : FnScope n_lesser_high p_lesser_high (defScope s_lesser_high) := ⟨rfl, rfl, rfl, by decide +kernel, rfl, by decide +kernel, by decide +kernel⟩
abbrev s_pair_of : Stmt := top 22
abbrev n_pair_of : List Str := ["history", "event", "pairs", "house", "stamp", "deed", "low", "high", "elder", "more", "most"]
abbrev p_pair_of : List Str := ["history", "event", "pairs"]
theorem sc_pair_of : FnScope n_pair_of p_pair_of (defScope s_pair_of) := ⟨rfl, rfl, rfl, by decide +kernel, rfl, by decide +kernel, by decide +kernel⟩
abbrev s_kept_pairs : Stmt := top 23
abbrev n_kept_pairs : List Str := ["history", "pairs", "event"]
abbrev p_kept_pairs : List Str := ["history"]
theorem sc_kept_pairs : FnScope n_kept_pairs p_kept_pairs (defScope s_kept_pairs) := ⟨rfl, rfl, rfl, by decide +kernel, rfl, by decide +kernel, by decide +kernel⟩
abbrev s_init : Stmt := inClass (top 25) 0
abbrev n_init : List Str := ["self", "field"]
abbrev p_init : List Str := ["self", "field"]
theorem sc_init : FnScope n_init p_init (defScope s_init) := ⟨rfl, rfl, rfl, by decide +kernel, rfl, by decide +kernel, by decide +kernel⟩
abbrev s_len : Stmt := inClass (top 25) 1
abbrev n_len : List Str := ["self"]
abbrev p_len : List Str := ["self"]
theorem sc_len : FnScope n_len p_len (defScope s_len) := ⟨rfl, rfl, rfl, by decide +kernel, rfl, by decide +kernel, by decide +kernel⟩
abbrev s_eq : Stmt := inClass (top 25) 2
abbrev n_eq : List Str := ["self", "other"]
abbrev p_eq : List Str := ["self", "other"]
theorem sc_eq : FnScope n_eq p_eq (defScope s_eq) := ⟨rfl, rfl, rfl, by decide +kernel, rfl, by decide +kernel, by decide +kernel⟩
abbrev s_str : Stmt := inClass (top 25) 3
abbrev n_str : List Str := ["self", "houses", "event", "house"]
abbrev p_str : List Str := ["self"]
theorem sc_str : FnScope n_str p_str (defScope s_str) := ⟨rfl, rfl, rfl, by decide +kernel, rfl, by decide +kernel, by decide +kernel⟩
abbrev s_history : Stmt := inClass (top 25) 4
abbrev n_history : List Str := ["self"]
abbrev p_history : List Str := ["self"]
theorem sc_history : FnScope n_history p_history (defScope s_history) := ⟨rfl, rfl, rfl, by decide +kernel, rfl, by decide +kernel, by decide +kernel⟩
abbrev s_ask_house : Stmt := inClass (top 25) 5
abbrev n_ask_house : List Str := ["self", "house", "stamp", "number", "row"]
abbrev p_ask_house : List Str := ["self", "house", "stamp"]
theorem sc_ask_house : FnScope n_ask_house p_ask_house (defScope s_ask_house) := ⟨rfl, rfl, rfl, by decide +kernel, rfl, by decide +kernel, by decide +kernel⟩
abbrev s_ask_deed : Stmt := inClass (top 25) 6
abbrev n_ask_deed : List Str := ["self", "house", "deed", "word", "rest", "links", "what"]
abbrev p_ask_deed : List Str := ["self", "house", "deed"]
theorem sc_ask_deed : FnScope n_ask_deed p_ask_deed (defScope s_ask_deed) := ⟨rfl, rfl, rfl, by decide +kernel, rfl, by decide +kernel, by decide +kernel⟩
abbrev s_note : Stmt := inClass (top 25) 7
abbrev n_note : List Str := ["self", "house", "stamp", "deed"]
abbrev p_note : List Str := ["self", "house", "stamp", "deed"]
theorem sc_note : FnScope n_note p_note (defScope s_note) := ⟨rfl, rfl, rfl, by decide +kernel, rfl, by decide +kernel, by decide +kernel⟩
abbrev s_pair : Stmt := inClass (top 25) 8
abbrev n_pair : List Str := ["self", "number"]
abbrev p_pair : List Str := ["self", "number"]
theorem sc_pair : FnScope n_pair p_pair (defScope s_pair) := ⟨rfl, rfl, rfl, by decide +kernel, rfl, by decide +kernel, by decide +kernel⟩
abbrev s_now : Stmt := inClass (top 25) 9
abbrev n_now : List Str := ["self", "house", "stamp", "field", "events"]
abbrev p_now : List Str := ["self", "house", "stamp"]
theorem sc_now : FnScope n_now p_now (defScope s_now) := ⟨rfl, rfl, rfl, by decide +kernel, rfl, by decide +kernel, by decide +kernel⟩
abbrev s_law_tape : Stmt := top 27
abbrev n_law_tape : List Str := ["_law_script"]
abbrev p_law_tape : List Str := ["_law_script"]
theorem sc_law_tape : FnScope n_law_tape p_law_tape (defScope s_law_tape) := ⟨rfl, rfl, rfl, by decide +kernel, rfl, by decide +kernel, by decide +kernel⟩
abbrev s_law_draw : Stmt := top 28
abbrev n_law_draw : List Str := ["_law_tape_here", "_law_many", "_law_turn", "_law_digit", "_law_at", "_law_cell", "_law_mixed"]
abbrev p_law_draw : List Str := ["_law_tape_here", "_law_many"]
theorem sc_law_draw : FnScope n_law_draw p_law_draw (defScope s_law_draw) := ⟨rfl, rfl, rfl, by decide +kernel, rfl, by decide +kernel, by decide +kernel⟩
abbrev s_law_low : Stmt := top 29
abbrev n_law_low : List Str := ["_law_over_here", "_law_under", "_law_one", "_law_other"]
abbrev p_law_low : List Str := ["_law_over_here", "_law_under"]
theorem sc_law_low : FnScope n_law_low p_law_low (defScope s_law_low) := ⟨rfl, rfl, rfl, by decide +kernel, rfl, by decide +kernel, by decide +kernel⟩
abbrev s_law_plus : Stmt := top 30
abbrev n_law_plus : List Str := ["_law_one", "_law_other"]
abbrev p_law_plus : List Str := ["_law_one", "_law_other"]
theorem sc_law_plus : FnScope n_law_plus p_law_plus (defScope s_law_plus) := ⟨rfl, rfl, rfl, by decide +kernel, rfl, by decide +kernel, by decide +kernel⟩
abbrev s_law_by : Stmt := top 31
abbrev n_law_by : List Str := ["_law_one", "_law_other"]
abbrev p_law_by : List Str := ["_law_one", "_law_other"]
theorem sc_law_by : FnScope n_law_by p_law_by (defScope s_law_by) := ⟨rfl, rfl, rfl, by decide +kernel, rfl, by decide +kernel, by decide +kernel⟩
abbrev s_law_over : Stmt := top 32
abbrev n_law_over : List Str := ["_law_one", "_law_other"]
abbrev p_law_over : List Str := ["_law_one", "_law_other"]
theorem sc_law_over : FnScope n_law_over p_law_over (defScope s_law_over) := ⟨rfl, rfl, rfl, by decide +kernel, rfl, by decide +kernel, by decide +kernel⟩
abbrev s_law_is_less : Stmt := top 33
abbrev n_law_is_less : List Str := ["_law_one", "_law_other"]
abbrev p_law_is_less : List Str := ["_law_one", "_law_other"]
theorem sc_law_is_less : FnScope n_law_is_less p_law_is_less (defScope s_law_is_less) := ⟨rfl, rfl, rfl, by decide +kernel, rfl, by decide +kernel, by decide +kernel⟩
abbrev s_law_field : Stmt := top 34
abbrev n_law_field : List Str := ["_law_tape_here", "_law_pool", "_law_names", "_law_source", "_law_houses", "_law_links", "_law_name", "_law_slow", "_law_fast", "_law_k", "_law_at", "_law_to", "_law_least", "_law_more"]
abbrev p_law_field : List Str := ["_law_tape_here"]
theorem sc_law_field : FnScope n_law_field p_law_field (defScope s_law_field) := ⟨rfl, rfl, rfl, by decide +kernel, rfl, by decide +kernel, by decide +kernel⟩
abbrev s_law_can_hear : Stmt := top 35
abbrev n_law_can_hear : List Str := ["_law_field_here", "_law_events", "_law_hours", "_law_house", "_law_time", "_law_found", "_law_k", "_law_link", "_law_went"]
abbrev p_law_can_hear : List Str := ["_law_field_here", "_law_events", "_law_hours", "_law_house", "_law_time"]
theorem sc_law_can_hear : FnScope n_law_can_hear p_law_can_hear (defScope s_law_can_hear) := ⟨rfl, rfl, rfl, by decide +kernel, rfl, by decide +kernel, by decide +kernel⟩
abbrev s_law_deed : Stmt := top 36
abbrev n_law_deed : List Str := ["_law_tape_here", "_law_field_here", "_law_house", "_law_letters", "_law_way", "_law_own", "_law_k"]
abbrev p_law_deed : List Str := ["_law_tape_here", "_law_field_here", "_law_house", "_law_letters"]
theorem sc_law_deed : FnScope n_law_deed p_law_deed (defScope s_law_deed) := ⟨rfl, rfl, rfl, by decide +kernel, rfl, by decide +kernel, by decide +kernel⟩
abbrev s_law_lived : Stmt := top 37
abbrev n_law_lived : List Str := ["_law_tape_here", "_law_field_here", "_law_many", "_law_houses", "_law_names", "_law_clocks", "_law_time", "_law_events", "_law_hours", "_law_begun", "_law_name", "_law_k", "_law_house", "_law_slow", "_law_fast", "_law_rate", "_law_stamp", "_law_letters", "_law_row", "_law_one"]
abbrev p_law_lived : List Str := ["_law_tape_here", "_law_field_here", "_law_many"]
theorem sc_law_lived : FnScope n_law_lived p_law_lived (defScope s_law_lived) := ⟨rfl, rfl, rfl, by decide +kernel, rfl, by decide +kernel, by decide +kernel⟩
abbrev s_law_now_right : Stmt := top 38
abbrev n_law_now_right : List Str := ["_law_tape_here", "_law_keeper", "_law_events", "_law_slow_fast", "_law_house", "_law_last", "_law_low_here", "_law_high", "_law_turn", "_law_went", "_law_slow", "_law_fast", "_law_told", "_law_due", "_law_event"]
abbrev p_law_now_right : List Str := ["_law_tape_here", "_law_keeper", "_law_events", "_law_slow_fast"]
theorem sc_law_now_right : FnScope n_law_now_right p_law_now_right (defScope s_law_now_right) := ⟨rfl, rfl, rfl, by decide +kernel, rfl, by decide +kernel, by decide +kernel⟩
abbrev s_law : Stmt := top 39
abbrev n_law : List Str := ["_law_script", "_law_tape_here", "_law_field_here", "_law_history", "_law_hours", "_law_slow_fast", "_law_events", "_law_one", "_law_other", "_law_third", "_law_told", "_law_k", "_law_event", "_law_thing", "_law_lines", "_law_row", "_law_j"]
abbrev p_law : List Str := ["_law_script"]
theorem sc_law : FnScope n_law p_law (defScope s_law) := ⟨rfl, rfl, rfl, by decide +kernel, rfl, by decide +kernel, by decide +kernel⟩
/-- what the walk asks of the text as it stands behind the top -/
structure Tx (K : PySem.W.Frag) (mg : Str → Option Value) where
  C : Addr
  a_common_divisor : Addr
  d_common_divisor : FuncData
  common_divisor : Def K mg "common_divisor" s_common_divisor p_common_divisor a_common_divisor d_common_divisor
  a_ratio : Addr
  d_ratio : FuncData
  ratio : Def K mg "ratio" s_ratio p_ratio a_ratio d_ratio
  a_added : Addr
  d_added : FuncData
  added : Def K mg "added" s_added p_added a_added d_added
  a_less : Addr
  d_less : FuncData
  less : Def K mg "less" s_less p_less a_less d_less
  a_parted : Addr
  d_parted : FuncData
  parted : Def K mg "parted" s_parted p_parted a_parted d_parted
  a_is_below : Addr
  d_is_below : FuncData
  is_below : Def K mg "is_below" s_is_below p_is_below a_is_below d_is_below
  a_rates : Addr
  d_rates : FuncData
  rates : Def K mg "rates" s_rates p_rates a_rates d_rates
  a_nexts_of : Addr
  d_nexts_of : FuncData
  nexts_of : Def K mg "nexts_of" s_nexts_of p_nexts_of a_nexts_of d_nexts_of
  a_moved : Addr
  d_moved : FuncData
  moved : Def K mg "moved" s_moved p_moved a_moved d_moved
  a_greater_low : Addr
  d_greater_low : FuncData
  greater_low : Def K mg "greater_low" s_greater_low p_greater_low a_greater_low d_greater_low
  a_lesser_high : Addr
  d_lesser_high : FuncData
  lesser_high : Def K mg "lesser_high" s_lesser_high p_lesser_high a_lesser_high d_lesser_high
  a_pair_of : Addr
  d_pair_of : FuncData
  pair_of : Def K mg "pair_of" s_pair_of p_pair_of a_pair_of d_pair_of
  a_kept_pairs : Addr
  d_kept_pairs : FuncData
  kept_pairs : Def K mg "kept_pairs" s_kept_pairs p_kept_pairs a_kept_pairs d_kept_pairs
  a_init : Addr
  d_init : FuncData
  init : MDef K C "__init__" "Keeper.__init__" s_init p_init a_init d_init
  a_len : Addr
  d_len : FuncData
  len : MDef K C "__len__" "Keeper.__len__" s_len p_len a_len d_len
  a_eq : Addr
  d_eq : FuncData
  eq : MDef K C "__eq__" "Keeper.__eq__" s_eq p_eq a_eq d_eq
  a_str : Addr
  d_str : FuncData
  str : MDef K C "__str__" "Keeper.__str__" s_str p_str a_str d_str
  a_history : Addr
  d_history : FuncData
  history : MDef K C "history" "Keeper.history" s_history p_history a_history d_history
  a_ask_house : Addr
  d_ask_house : FuncData
  ask_house : MDef K C "ask_house" "Keeper.ask_house" s_ask_house p_ask_house a_ask_house d_ask_house
  a_ask_deed : Addr
  d_ask_deed : FuncData
  ask_deed : MDef K C "ask_deed" "Keeper.ask_deed" s_ask_deed p_ask_deed a_ask_deed d_ask_deed
  a_note : Addr
  d_note : FuncData
  note : MDef K C "note" "Keeper.note" s_note p_note a_note d_note
  a_pair : Addr
  d_pair : FuncData
  pair : MDef K C "pair" "Keeper.pair" s_pair p_pair a_pair d_pair
  a_now : Addr
  d_now : FuncData
  now : MDef K C "now" "Keeper.now" s_now p_now a_now d_now
  a_law_tape : Addr
  d_law_tape : FuncData
  law_tape : Def K mg "_law_tape" s_law_tape p_law_tape a_law_tape d_law_tape
  a_law_draw : Addr
  d_law_draw : FuncData
  law_draw : Def K mg "_law_draw" s_law_draw p_law_draw a_law_draw d_law_draw
  a_law_low : Addr
  d_law_low : FuncData
  law_low : Def K mg "_law_low" s_law_low p_law_low a_law_low d_law_low
  a_law_plus : Addr
  d_law_plus : FuncData
  law_plus : Def K mg "_law_plus" s_law_plus p_law_plus a_law_plus d_law_plus
  a_law_by : Addr
  d_law_by : FuncData
  law_by : Def K mg "_law_by" s_law_by p_law_by a_law_by d_law_by
  a_law_over : Addr
  d_law_over : FuncData
  law_over : Def K mg "_law_over" s_law_over p_law_over a_law_over d_law_over
  a_law_is_less : Addr
  d_law_is_less : FuncData
  law_is_less : Def K mg "_law_is_less" s_law_is_less p_law_is_less a_law_is_less d_law_is_less
  a_law_field : Addr
  d_law_field : FuncData
  law_field : Def K mg "_law_field" s_law_field p_law_field a_law_field d_law_field
  a_law_can_hear : Addr
  d_law_can_hear : FuncData
  law_can_hear : Def K mg "_law_can_hear" s_law_can_hear p_law_can_hear a_law_can_hear d_law_can_hear
  a_law_deed : Addr
  d_law_deed : FuncData
  law_deed : Def K mg "_law_deed" s_law_deed p_law_deed a_law_deed d_law_deed
  a_law_lived : Addr
  d_law_lived : FuncData
  law_lived : Def K mg "_law_lived" s_law_lived p_law_lived a_law_lived d_law_lived
  a_law_now_right : Addr
  d_law_now_right : FuncData
  law_now_right : Def K mg "_law_now_right" s_law_now_right p_law_now_right a_law_now_right d_law_now_right
  a_law : Addr
  d_law : FuncData
  law : Def K mg "law" s_law p_law a_law d_law
  blen : mg "len" = none
  babs : mg "abs" = none
  brange : mg "range" = none
  breversed : mg "reversed" = none
  btuple : mg "tuple" = none
  bisinstance : mg "isinstance" = none
  bsorted : mg "sorted" = none
  bdict : mg "dict" = none
  brepr : mg "repr" = none
  bstr : mg "str" = none
  cl : Cls K C
  mkK : Mk K C a_init
  nf : NoAttr K C "own_field"
  nn : NoAttr K C "noted"
  np : NoAttr K C "pairs"
  tLOW : Tok
  mLOW : mg "LOW" = some (.int 0 tLOW)
  tHIGH : Tok
  mHIGH : mg "HIGH" = some (.int 1 tHIGH)
  mKeeper : mg "Keeper" = some (.ref C)
  hne : PySem.W.findIn K (.ref C) "__ne__" = some (some (.builtin "object.__ne__"))
  ca : PySem.W.findIn K (.ref C) "__class__" = some (some (.builtin "object.__class__"))
  cn : PySem.W.specialIn K (.builtin "object.__class__") "__get__" = some (some (.builtin "getset_descriptor.__get__"))
  ct : PySem.W.takesIn K (.builtin "object.__class__") = some true
  kit : ∀ T ∈ (["NoneType", "int", "bool", "list", "tuple", "str"] : List String), PySem.W.kitOne K (.type T) (.ref C) = some false
  co : PySem.W.mroIn K C (.type "object") = some true
  kitC : PySem.W.kitOne K (.ref C) (.ref C) = some true
  sub : ∀ T ∈ (["NoneType", "int", "bool", "list", "tuple", "str"] : List String), PySem.W.subIn K (.type T) (.ref C) = some false
end Lc
/-! What the program's things are, in plain Lean; how they stand in the abstract heap; as data. -/
namespace Lc
open PySem PySem.Spec PyProof.Rows L2

/-! ### things -/
structure Hs where
  name : Str
  slow : Fr
  fast : Fr
structure Lk where
  frm : Str
  to : Str
  least : Fr
  most : Option Fr
structure Fd where
  houses : List Hs
  links : List Lk
  source : Str
inductive Dd where
  | mark
  | send (l : Nat)
  | hear (k : Nat)
structure Ev where
  house : Str
  stamp : Fr
  deed : Dd
abbrev Pr := Option Fr × Option Fr
def pool : List Str := ["a", "ab", "b", "c", "src", "zzzzzzzz"]

/-! ### lists by pairs -/
section
variable {α β : Type} {R S : α → β → Prop}
theorem pr_get : ∀ {xs : List α} {ys : List β} {i : Nat} {x : α}, Paired R xs ys → xs[i]? = some x → ∃ y, ys[i]? = some y ∧ R x y
  | _, _, _, _, .nil, e => by simp at e
  | _, _, 0, _, .cons r _, e => by
    have e2 := Option.some.inj (show some _ = some _ from e)
    subst e2
    exact ⟨_, rfl, r⟩
  | _, _, i + 1, x, .cons _ t, e => pr_get (i := i) t (by simpa using e)
theorem pr_get' : ∀ {xs : List α} {ys : List β} {i : Nat} {y : β}, Paired R xs ys → ys[i]? = some y → ∃ x, xs[i]? = some x ∧ R x y
  | _, _, _, _, .nil, e => by simp at e
  | _, _, 0, _, .cons r _, e => by
    have e2 := Option.some.inj (show some _ = some _ from e)
    subst e2
    exact ⟨_, rfl, r⟩
  | _, _, i + 1, x, .cons _ t, e => pr_get' (i := i) t (by simpa using e)
theorem pr_mono (h : ∀ a b, R a b → S a b) : ∀ {xs : List α} {ys : List β}, Paired R xs ys → Paired S xs ys
  | _, _, .nil => .nil
  | _, _, .cons r t => .cons (h _ _ r) (pr_mono h t)
theorem pr_len : ∀ {xs : List α} {ys : List β}, Paired R xs ys → xs.length = ys.length
  | _, _, .nil => rfl
  | _, _, .cons _ t => by rw [List.length_cons, List.length_cons, pr_len t]
theorem pr_snoc {a : α} {b : β} : ∀ {xs : List α} {ys : List β}, Paired R xs ys → R a b → Paired R (xs ++ [a]) (ys ++ [b])
  | _, _, .nil, r => .cons r .nil
  | _, _, .cons q t, r => .cons q (pr_snoc t r)
theorem pr_take : ∀ {xs : List α} {ys : List β} (n : Nat), Paired R xs ys → Paired R (xs.take n) (ys.take n)
  | _, _, 0, _ => .nil
  | _, _, _ + 1, .nil => .nil
  | _, _, n + 1, .cons r t => .cons r (pr_take n t)
theorem pr_app : ∀ {xs xs' : List α} {ys ys' : List β}, Paired R xs ys → Paired R xs' ys' → Paired R (xs ++ xs') (ys ++ ys')
  | _, _, _, _, .nil, s => s
  | _, _, _, _, .cons r t, s => .cons r (pr_app t s)
end

/-! ### in the heap -/
/-- tuples stay -/
def TK (H H' : Hp) : Prop := ∀ a xs, H a = some (.tup xs) → H' a = some (.tup xs)
theorem TK.refl (H : Hp) : TK H H := fun _ _ h => h
theorem TK.trans {H H1 H2 : Hp} (a : TK H H1) (b : TK H1 H2) : TK H H2 := fun x xs h => b x xs (a x xs h)
theorem TK.of {H H' : Hp} (s : Same H H') : TK H H' := fun a xs h => s a _ h
theorem same_new {H : Hp} {p : Addr} {o : HO} (h : H p = none) : Same H (upd H p o) := fun a u e => by
  rw [upd_ne (ne_of_none e h)]
  exact e
theorem TK.new {H : Hp} {p : Addr} {o : HO} (h : H p = none) : TK H (upd H p o) := .of (same_new h)
/-- a tracked list changes -/
theorem TK.lst {H : Hp} {p : Addr} {ys : List V} {o : HO} (h : H p = some (.lst ys)) : TK H (upd H p o) := fun a xs e => by
  rw [upd_ne (ne_of e h fun z => by cases z)]
  exact e
/-- all stays but at these addresses -/
def Kp (S : List Addr) (H H' : Hp) : Prop := ∀ b o, H b = some o → b ∉ S → H' b = some o
theorem Kp.refl (S : List Addr) (H : Hp) : Kp S H H := fun _ _ h _ => h
theorem Kp.trans {S : List Addr} {H H1 H2 : Hp} (a : Kp S H H1) (b : Kp S H1 H2) : Kp S H H2 := fun x o h n => b x o (a x o h n) n
theorem Kp.of {S : List Addr} {H H' : Hp} (s : Same H H') : Kp S H H' := fun b o h _ => s b o h
theorem Kp.upd {S : List Addr} {H : Hp} {p : Addr} {o : HO} (h : p ∈ S) : Kp S H (L2.upd H p o) := fun b u e n => by
  rw [upd_ne (fun z => n (by rw [z]; exact h))]
  exact e
theorem Kp.mono {S S' : List Addr} {H H' : Hp} (k : Kp S H H') (h : ∀ a ∈ S, a ∈ S') : Kp S' H H' := fun b o e n => k b o e fun z => n (h b z)
theorem Kp.same {H H' : Hp} (k : Kp [] H H') : Same H H' := fun b o e => k b o e (by simp)
/-- what is only new is let go -/
theorem Kp.drop {S : List Addr} {H H1 H' : Hp} {p : Addr} (s : Same H H1) (k : Kp (p :: S) H1 H') (hn : H p = none) : Kp S H H' := fun b o e n => k b o (s b o e) (by
  intro z
  rcases List.mem_cons.mp z with rfl | z
  · rw [hn] at e
    cases e
  · exact n z)
theorem Kp.free {S : List Addr} {H H' : Hp} {p : Addr} (k : Kp S H H') (h : H' p = none) (n : p ∉ S) : H p = none := by
  cases q : H p with
  | none => rfl
  | some o =>
    rw [k p o q n] at h
    cases h

def FrAt (H : Hp) (v : V) (x : Fr) : Prop := ∃ p, v = .ref p ∧ H p = some (.tup [.int x.1, .int x.2])
def OFrAt (H : Hp) (v : V) : Option Fr → Prop
  | none => v = .non
  | some x => FrAt H v x
def HsAt (H : Hp) (v : V) (h : Hs) : Prop := ∃ p a b, v = .ref p ∧ H p = some (.tup [.str h.name, a, b]) ∧ FrAt H a h.slow ∧ FrAt H b h.fast
def LkAt (H : Hp) (v : V) (l : Lk) : Prop := ∃ p a b, v = .ref p ∧ H p = some (.tup [.str l.frm, .str l.to, a, b]) ∧ FrAt H a l.least ∧ OFrAt H b l.most
def FdAt (H : Hp) (v : V) (f : Fd) : Prop := ∃ p hp lp hs ls, v = .ref p ∧ H p = some (.tup [.ref hp, .ref lp, .str f.source]) ∧ H hp = some (.tup hs) ∧ Paired (HsAt H) hs f.houses ∧ H lp = some (.tup ls) ∧ Paired (LkAt H) ls f.links
def ddV : Dd → List V
  | .mark => [.str "mark"]
  | .send l => [.str "send", .int l]
  | .hear k => [.str "hear", .int k]
def DdAt (H : Hp) (v : V) (d : Dd) : Prop := ∃ p, v = .ref p ∧ H p = some (.tup (ddV d))
def EvAt (H : Hp) (v : V) (e : Ev) : Prop := ∃ p s d, v = .ref p ∧ H p = some (.tup [.str e.house, s, d]) ∧ FrAt H s e.stamp ∧ DdAt H d e.deed
def HyAt (H : Hp) (v : V) (f : Fd) (evs : List Ev) : Prop := ∃ p fv ep es, v = .ref p ∧ H p = some (.tup [fv, .ref ep]) ∧ FdAt H fv f ∧ H ep = some (.tup es) ∧ Paired (EvAt H) es evs
def PrAt (H : Hp) (v : V) (q : Pr) : Prop := ∃ p a b, v = .ref p ∧ H p = some (.tup [a, b]) ∧ OFrAt H a q.1 ∧ OFrAt H b q.2

section
variable {H H' : Hp} {v : V}
theorem FrAt.tk {x : Fr} (h : FrAt H v x) (k : TK H H') : FrAt H' v x := let ⟨p, e, hp⟩ := h; ⟨p, e, k _ _ hp⟩
theorem OFrAt.tk {o : Option Fr} (h : OFrAt H v o) (k : TK H H') : OFrAt H' v o := by
  cases o with
  | none => exact h
  | some x => exact FrAt.tk h k
theorem HsAt.tk {x : Hs} (h : HsAt H v x) (k : TK H H') : HsAt H' v x := let ⟨p, a, b, e, hp, ha, hb⟩ := h; ⟨p, a, b, e, k _ _ hp, ha.tk k, hb.tk k⟩
theorem LkAt.tk {x : Lk} (h : LkAt H v x) (k : TK H H') : LkAt H' v x := let ⟨p, a, b, e, hp, ha, hb⟩ := h; ⟨p, a, b, e, k _ _ hp, ha.tk k, hb.tk k⟩
theorem FdAt.tk {f : Fd} (h : FdAt H v f) (k : TK H H') : FdAt H' v f :=
  let ⟨p, hp, lp, hs, ls, e, h0, h1, h2, h3, h4⟩ := h
  ⟨p, hp, lp, hs, ls, e, k _ _ h0, k _ _ h1, pr_mono (fun _ _ z => HsAt.tk z k) h2, k _ _ h3, pr_mono (fun _ _ z => LkAt.tk z k) h4⟩
theorem DdAt.tk {d : Dd} (h : DdAt H v d) (k : TK H H') : DdAt H' v d := let ⟨p, e, hp⟩ := h; ⟨p, e, k _ _ hp⟩
theorem EvAt.tk {x : Ev} (h : EvAt H v x) (k : TK H H') : EvAt H' v x := let ⟨p, s, d, e, hp, hs, hd⟩ := h; ⟨p, s, d, e, k _ _ hp, hs.tk k, hd.tk k⟩
theorem evs_tk {es : List V} {evs : List Ev} (h : Paired (EvAt H) es evs) (k : TK H H') : Paired (EvAt H') es evs := pr_mono (fun _ _ z => EvAt.tk z k) h
theorem HyAt.tk {f : Fd} {evs : List Ev} (h : HyAt H v f evs) (k : TK H H') : HyAt H' v f evs :=
  let ⟨p, fv, ep, es, e, h0, h1, h2, h3⟩ := h
  ⟨p, fv, ep, es, e, k _ _ h0, h1.tk k, k _ _ h2, evs_tk h3 k⟩
theorem PrAt.tk {q : Pr} (h : PrAt H v q) (k : TK H H') : PrAt H' v q := let ⟨p, a, b, e, hp, ha, hb⟩ := h; ⟨p, a, b, e, k _ _ hp, ha.tk k, hb.tk k⟩
theorem prs_tk {es : List V} {ps : List Pr} (h : Paired (PrAt H) es ps) (k : TK H H') : Paired (PrAt H') es ps := pr_mono (fun _ _ z => PrAt.tk z k) h
end

/-! ### as data -/
def dFr (x : Fr) : PyData := .tuple [.int x.1, .int x.2]
def dO : Option Fr → PyData
  | none => .none
  | some x => dFr x
def dHs (h : Hs) : PyData := .tuple [.str h.name, dFr h.slow, dFr h.fast]
def dLk (l : Lk) : PyData := .tuple [.str l.frm, .str l.to, dFr l.least, dO l.most]
def dFd (f : Fd) : PyData := .tuple [.tuple (f.houses.map dHs), .tuple (f.links.map dLk), .str f.source]
def dDd : Dd → PyData
  | .mark => .tuple [.str "mark"]
  | .send l => .tuple [.str "send", .int l]
  | .hear k => .tuple [.str "hear", .int k]
def dEv (e : Ev) : PyData := .tuple [.str e.house, dFr e.stamp, dDd e.deed]
def dEvs (l : List Ev) : PyData := .tuple (l.map dEv)
def dHy (f : Fd) (l : List Ev) : PyData := .tuple [dFd f, dEvs l]
def dPr (q : Pr) : PyData := .tuple [dO q.1, dO q.2]
def dPrs (l : List Pr) : PyData := .tuple (l.map dPr)

section
variable {K : PySem.W.Frag} {H : Hp} {v : V}
theorem dp_all {α : Type} {R : V → α → Prop} {g : α → PyData} (h : ∀ v a, R v a → Dp K H v (g a)) : ∀ {xs : List V} {ys : List α}, Paired R xs ys → DpAll K H xs (ys.map g)
  | _, _, .nil => .nil
  | _, _, .cons r t => .cons (h _ _ r) (dp_all h t)
theorem FrAt.dp {x : Fr} (h : FrAt H v x) : Dp K H v (dFr x) := by
  obtain ⟨p, rfl, hp⟩ := h
  exact .tup (SqT.of hp) (.cons (.int _) (.cons (.int _) .nil))
theorem OFrAt.dp {o : Option Fr} (h : OFrAt H v o) : Dp K H v (dO o) := by
  cases o with
  | none =>
    cases (show v = .non from h)
    exact .non
  | some x => exact FrAt.dp h
theorem HsAt.dp {x : Hs} (h : HsAt H v x) : Dp K H v (dHs x) := by
  obtain ⟨p, a, b, rfl, hp, ha, hb⟩ := h
  exact .tup (SqT.of hp) (.cons (.str _) (.cons ha.dp (.cons hb.dp .nil)))
theorem LkAt.dp {x : Lk} (h : LkAt H v x) : Dp K H v (dLk x) := by
  obtain ⟨p, a, b, rfl, hp, ha, hb⟩ := h
  exact .tup (SqT.of hp) (.cons (.str _) (.cons (.str _) (.cons ha.dp (.cons hb.dp .nil))))
theorem FdAt.dp {f : Fd} (h : FdAt H v f) : Dp K H v (dFd f) := by
  obtain ⟨p, hp, lp, hs, ls, rfl, h0, h1, h2, h3, h4⟩ := h
  exact .tup (SqT.of h0) (.cons (.tup (SqT.of h1) (dp_all (fun _ _ z => HsAt.dp z) h2)) (.cons (.tup (SqT.of h3) (dp_all (fun _ _ z => LkAt.dp z) h4)) (.cons (.str _) .nil)))
theorem DdAt.dp {d : Dd} (h : DdAt H v d) : Dp K H v (dDd d) := by
  obtain ⟨p, rfl, hp⟩ := h
  cases d with
  | mark => exact .tup (SqT.of hp) (.cons (.str _) .nil)
  | send l => exact .tup (SqT.of hp) (.cons (.str _) (.cons (.int _) .nil))
  | hear k => exact .tup (SqT.of hp) (.cons (.str _) (.cons (.int _) .nil))
theorem EvAt.dp {e : Ev} (h : EvAt H v e) : Dp K H v (dEv e) := by
  obtain ⟨p, s, d, rfl, hp, hs, hd⟩ := h
  exact .tup (SqT.of hp) (.cons (.str _) (.cons hs.dp (.cons hd.dp .nil)))
theorem evs_dp {a : Addr} {es : List V} {evs : List Ev} (h : H a = some (.tup es)) (k : Paired (EvAt H) es evs) : Dp K H (.ref a) (dEvs evs) := .tup (SqT.of h) (dp_all (fun _ _ z => EvAt.dp z) k)
theorem HyAt.dp {f : Fd} {l : List Ev} (h : HyAt H v f l) : Dp K H v (dHy f l) := by
  obtain ⟨p, fv, ep, es, rfl, h0, h1, h2, h3⟩ := h
  exact .tup (SqT.of h0) (.cons h1.dp (.cons (evs_dp h2 h3) .nil))
theorem PrAt.dp {q : Pr} (h : PrAt H v q) : Dp K H v (dPr q) := by
  obtain ⟨p, a, b, rfl, hp, ha, hb⟩ := h
  exact .tup (SqT.of hp) (.cons ha.dp (.cons hb.dp .nil))
theorem prs_dp {a : Addr} {es : List V} {ps : List Pr} (h : H a = some (.tup es)) (k : Paired (PrAt H) es ps) : Dp K H (.ref a) (dPrs ps) := .tup (SqT.of h) (dp_all (fun _ _ z => PrAt.dp z) k)
end

/-- it can be laid, and is no deeper than n -/
def Gd (n : Nat) (d : PyData) : Prop := d.canLay0 = true ∧ d.depth ≤ n
theorem gd_all {n : Nat} : ∀ {ds : List PyData}, (∀ d ∈ ds, Gd n d) → PyData.canLayAll0 ds = true ∧ PyData.depthAll ds ≤ n
  | [], _ => ⟨rfl, Nat.zero_le _⟩
  | d :: r, h => by
    obtain ⟨h1, h2⟩ := h d List.mem_cons_self
    obtain ⟨h3, h4⟩ := gd_all (n := n) (ds := r) fun x hx => h x (List.mem_cons_of_mem _ hx)
    refine ⟨?_, ?_⟩
    · show (d.canLay0 && PyData.canLayAll0 r) = true
      rw [h1, h3]
      rfl
    · show max d.depth (PyData.depthAll r) ≤ n
      exact Nat.max_le.mpr ⟨h2, h4⟩
theorem gd_tup {n : Nat} {ds : List PyData} (h : ∀ d ∈ ds, Gd n d) : Gd (n + 1) (.tuple ds) := ⟨(gd_all h).1, Nat.succ_le_succ (gd_all h).2⟩
theorem gd_mono {n m : Nat} {d : PyData} (h : Gd n d) (k : n ≤ m) : Gd m d := ⟨h.1, Nat.le_trans h.2 k⟩
theorem gd_int (i : Int) : Gd 0 (.int i) := ⟨rfl, Nat.le_refl _⟩
theorem gd_str {x : Str} (h : PyData.strOk x = true) : Gd 0 (.str x) := ⟨h, Nat.le_refl _⟩
theorem Gd.shaped {n : Nat} {d : PyData} (h : Gd n d) (k : n ≤ 64) : SeqAt.shaped d = true := by
  unfold SeqAt.shaped
  rw [h.1, decide_eq_true (Nat.le_trans h.2 k)]
  rfl
theorem Gd.refl {n : Nat} {d : PyData} (h : Gd n d) : PyData.eqv d d = true := SeqAt.eqv_refl d h.1
theorem gd_fr (x : Fr) : Gd 1 (dFr x) := gd_tup fun d hd => by
  rcases List.mem_cons.mp hd with rfl | hd
  · exact gd_int _
  · rw [List.mem_singleton.mp hd]
    exact gd_int _
theorem gd_o : ∀ o : Option Fr, Gd 1 (dO o)
  | none => ⟨rfl, Nat.zero_le _⟩
  | some x => gd_fr x
theorem gd_pr (q : Pr) : Gd 2 (dPr q) := gd_tup fun d hd => by
  rcases List.mem_cons.mp hd with rfl | hd
  · exact gd_o _
  · rw [List.mem_singleton.mp hd]
    exact gd_o _
theorem gd_map {α : Type} {n : Nat} {g : α → PyData} {l : List α} (h : ∀ a ∈ l, Gd n (g a)) : Gd (n + 1) (.tuple (l.map g)) := gd_tup fun d hd => by
  obtain ⟨a, ha, rfl⟩ := List.mem_map.mp hd
  exact h a ha
theorem gd_prs (l : List Pr) : Gd 3 (dPrs l) := gd_map fun a _ => gd_pr a
theorem gd_dd : ∀ d : Dd, Gd 1 (dDd d)
  | .mark => ⟨by show (PyData.strOk "mark" && true) = true; decide +kernel, Nat.le_refl _⟩
  | .send l => ⟨by show (PyData.strOk "send" && (true && true)) = true; decide +kernel, by show max 0 (max 0 0) + 1 ≤ 1; decide⟩
  | .hear k => ⟨by show (PyData.strOk "hear" && (true && true)) = true; decide +kernel, by show max 0 (max 0 0) + 1 ≤ 1; decide⟩
theorem gd_ev {e : Ev} (h : PyData.strOk e.house = true) : Gd 2 (dEv e) := gd_tup fun d hd => by
  rcases List.mem_cons.mp hd with rfl | hd
  · exact gd_mono (gd_str h) (by decide)
  · rcases List.mem_cons.mp hd with rfl | hd
    · exact gd_fr _
    · rw [List.mem_singleton.mp hd]
      exact gd_dd _
theorem gd_hs {h : Hs} (k : PyData.strOk h.name = true) : Gd 2 (dHs h) := gd_tup fun d hd => by
  rcases List.mem_cons.mp hd with rfl | hd
  · exact gd_mono (gd_str k) (by decide)
  · rcases List.mem_cons.mp hd with rfl | hd
    · exact gd_fr _
    · rw [List.mem_singleton.mp hd]
      exact gd_fr _
theorem gd_lk {l : Lk} (k1 : PyData.strOk l.frm = true) (k2 : PyData.strOk l.to = true) : Gd 2 (dLk l) := gd_tup fun d hd => by
  rcases List.mem_cons.mp hd with rfl | hd
  · exact gd_mono (gd_str k1) (by decide)
  · rcases List.mem_cons.mp hd with rfl | hd
    · exact gd_mono (gd_str k2) (by decide)
    · rcases List.mem_cons.mp hd with rfl | hd
      · exact gd_fr _
      · rw [List.mem_singleton.mp hd]
        exact gd_o _
theorem pool_ok {x : Str} (h : x ∈ pool) : PyData.strOk x = true := (show ∀ y ∈ pool, PyData.strOk y = true by decide +kernel) x h
theorem pool_len {x : Str} (h : x ∈ pool) : x.length ≤ 8 := (show ∀ y ∈ pool, y.length ≤ 8 by decide +kernel) x h

/-! ### what holds of a field, a history -/
def Fd.names (f : Fd) : List Str := f.houses.map (·.name)
structure FOk (f : Fd) : Prop where
  nd : f.names.Nodup
  inp : ∀ x ∈ f.names, x ∈ pool
  rt : ∀ h ∈ f.houses, Rt1 h.slow ∧ Rt1 h.fast
  src : ∀ h ∈ f.houses, h.name = f.source → h.slow = (1, 1) ∧ h.fast = (1, 1)
  has : f.source ∈ f.names
  lk : ∀ l ∈ f.links, l.frm ∈ f.names ∧ l.to ∈ f.names ∧ Fb 120 5 l.least ∧ ∀ m, l.most = some m → Fb 120 5 m
  few : f.houses.length ≤ 6
  fewL : f.links.length ≤ 8
theorem FOk.gd {f : Fd} (h : FOk f) : Gd 4 (dFd f) := gd_tup fun d hd => by
  have nm : ∀ x ∈ f.names, PyData.strOk x = true := fun x hx => pool_ok (h.inp x hx)
  rcases List.mem_cons.mp hd with rfl | hd
  · exact gd_map fun a ha => gd_hs (nm _ (List.mem_map.mpr ⟨a, ha, rfl⟩))
  · rcases List.mem_cons.mp hd with rfl | hd
    · exact gd_map fun a ha => gd_lk (nm _ (h.lk a ha).1) (nm _ (h.lk a ha).2.1)
    · rw [List.mem_singleton.mp hd]
      exact gd_mono (gd_str (nm _ h.has)) (by decide)
theorem FOk.gdHy {f : Fd} (h : FOk f) {l : List Ev} (k : ∀ e ∈ l, e.house ∈ f.names) : Gd 5 (dHy f l) := gd_tup fun d hd => by
  rcases List.mem_cons.mp hd with rfl | hd
  · exact h.gd
  · rw [List.mem_singleton.mp hd]
    exact gd_mono (gd_map fun a ha => gd_ev (pool_ok (h.inp _ (k a ha)))) (by decide)
end Lc
/-! What the program's defs answer, as plain functions. -/
namespace Lc
open PySem PySem.Spec PyProof.Rows L2

def movedF : Option Fr → Option Fr → Option Fr
  | some x, some y => some (addF x y)
  | _, _ => none
def grLow : Option Fr → Option Fr → Option Fr
  | none, b => b
  | some x, none => some x
  | some x, some y => some (if ltF x y then y else x)
def lsHigh : Option Fr → Option Fr → Option Fr
  | none, b => b
  | some x, none => some x
  | some x, some y => some (if ltF y x then y else x)
/-- the last of the first k events at a house -/
def lastK (evs : List Ev) (n : Str) : Nat → Option Nat
  | 0 => none
  | k + 1 => if (evs[k]?.map (·.house)) = some n then some k else lastK evs n k
def hsOf (f : Fd) (n : Str) : Hs := (f.houses.find? fun h => decide (h.name = n)).getD ⟨n, (1, 1), (1, 1)⟩
def stampOf (evs : List Ev) (j : Nat) : Fr := (evs[j]?.map (·.stamp)).getD (0, 1)
def lkOf (f : Fd) (evs : List Ev) (k : Nat) : Lk := match (evs[k]?.map fun e : Ev => e.deed : Option Dd) with
  | some (Dd.send l) => f.links.getD l ⟨"", "", (0, 1), none⟩
  | _ => ⟨"", "", (0, 1), none⟩
def goOn (f : Fd) (prev : List Ev) (e : Ev) : List (Nat × Fr × Option Fr) := match lastK prev e.house prev.length with
  | some j => [(j, divF (subF e.stamp (stampOf prev j)) (hsOf f e.house).fast, some (divF (subF e.stamp (stampOf prev j)) (hsOf f e.house).slow))]
  | none => []
def hearOn (f : Fd) (prev : List Ev) (e : Ev) : List (Nat × Fr × Option Fr) := match e.deed with
  | .hear k => [(k, (lkOf f prev k).least, (lkOf f prev k).most)]
  | _ => []
def nextsF (f : Fd) (prev : List Ev) (e : Ev) : List (Nat × Fr × Option Fr) := goOn f prev e ++ hearOn f prev e
def prOf (ps : List Pr) (j : Nat) : Pr := ps.getD j (none, none)
def stepP (ps : List Pr) (q : Pr) (x : Nat × Fr × Option Fr) : Pr := (grLow q.1 (movedF (prOf ps x.1).1 (some x.2.1)), lsHigh q.2 (movedF (prOf ps x.1).2 x.2.2))
def pairF (f : Fd) (prev : List Ev) (e : Ev) (ps : List Pr) : Pr :=
  if e.house = f.source then (some e.stamp, some e.stamp) else (nextsF f prev e).foldl (stepP ps) (none, none)
/-- the pairs of the first k events -/
def pairsF (f : Fd) (evs : List Ev) : Nat → List Pr
  | 0 => []
  | k + 1 => pairsF f evs k ++ (match evs[k]? with | some e => [pairF f (evs.take k) e (pairsF f evs k)] | none => [])
theorem pairsF_succ {f : Fd} {evs : List Ev} {k : Nat} {e : Ev} (h : evs[k]? = some e) : pairsF f evs (k + 1) = pairsF f evs k ++ [pairF f (evs.take k) e (pairsF f evs k)] := by
  show pairsF f evs k ++ (match evs[k]? with | some e => [pairF f (evs.take k) e (pairsF f evs k)] | none => []) = _
  rw [h]
theorem pairsF_len {f : Fd} {evs : List Ev} : ∀ {k : Nat}, k ≤ evs.length → (pairsF f evs k).length = k
  | 0, _ => rfl
  | k + 1, h => by
    rw [pairsF_succ (List.getElem?_eq_getElem (by omega)), List.length_append, pairsF_len (by omega)]
    rfl

/-! ### the last at a house -/
theorem lastK_none {evs : List Ev} {n : Str} : ∀ {k : Nat}, lastK evs n k = none → ∀ j e, j < k → evs[j]? = some e → e.house ≠ n
  | 0, _, j, e, hj, _ => absurd hj (Nat.not_lt_zero _)
  | k + 1, h, j, e, hj, he => by
    unfold lastK at h
    by_cases c : (evs[k]?.map (·.house)) = some n
    · rw [if_pos c] at h
      cases h
    · rw [if_neg c] at h
      by_cases ej : j = k
      · subst ej
        intro z
        rw [he] at c
        exact c (congrArg some z)
      · exact lastK_none h j e (by omega) he
theorem lastK_some {evs : List Ev} {n : Str} : ∀ {k j : Nat}, lastK evs n k = some j → j < k ∧ ∃ e, evs[j]? = some e ∧ e.house = n
  | 0, _, h => by cases h
  | k + 1, j, h => by
    unfold lastK at h
    by_cases c : (evs[k]?.map (·.house)) = some n
    · rw [if_pos c] at h
      cases h
      cases q : evs[k]? with
      | none =>
        rw [q] at c
        cases c
      | some e =>
        rw [q] at c
        exact ⟨Nat.lt_succ_self _, e, rfl, Option.some.inj c⟩
    · rw [if_neg c] at h
      obtain ⟨h1, h2⟩ := lastK_some h
      exact ⟨Nat.lt_succ_of_lt h1, h2⟩
theorem lastK_take {evs : List Ev} {n : Str} {m : Nat} : ∀ {k : Nat}, k ≤ m → lastK (evs.take m) n k = lastK evs n k
  | 0, _ => rfl
  | k + 1, h => by
    unfold lastK
    rw [List.getElem?_take_of_lt (by omega), lastK_take (by omega)]
theorem lastK_hit {evs : List Ev} {n : Str} {k : Nat} {e : Ev} (h : evs[k]? = some e) (he : e.house = n) : lastK evs n (k + 1) = some k := by
  unfold lastK
  rw [h]
  exact if_pos (congrArg some he)
theorem lastK_miss {evs : List Ev} {n : Str} {k : Nat} {e : Ev} (h : evs[k]? = some e) (he : e.house ≠ n) : lastK evs n (k + 1) = lastK evs n k := by
  show (if (evs[k]?.map (·.house)) = some n then some k else lastK evs n k) = _
  rw [h]
  exact if_neg fun z => he (Option.some.inj z)

theorem goOn_some {f : Fd} {es : List Ev} {e ej : Ev} {k j : Nat} (hk : k ≤ es.length) (h : lastK es e.house k = some j) (he : es[j]? = some ej) :
    goOn f (es.take k) e = [(j, divF (subF e.stamp ej.stamp) (hsOf f e.house).fast, some (divF (subF e.stamp ej.stamp) (hsOf f e.house).slow))] := by
  have hl : (es.take k).length = k := by rw [List.length_take]; omega
  have hj := (lastK_some h).1
  have hs : stampOf (es.take k) j = ej.stamp := by
    unfold stampOf
    rw [List.getElem?_take_of_lt hj, he]
    rfl
  unfold goOn
  rw [hl, lastK_take (Nat.le_refl _), h]
  dsimp only
  rw [hs]
theorem goOn_none {f : Fd} {es : List Ev} {e : Ev} {k : Nat} (hk : k ≤ es.length) (h : lastK es e.house k = none) : goOn f (es.take k) e = [] := by
  have hl : (es.take k).length = k := by rw [List.length_take]; omega
  unfold goOn
  rw [hl, lastK_take (Nat.le_refl _), h]
theorem hearOn_hear {f : Fd} {prev : List Ev} {e e' : Ev} {k l : Nat} {lk : Lk} (h : e.deed = .hear k) (h1 : prev[k]? = some e') (h2 : e'.deed = .send l) (h3 : f.links[l]? = some lk) : hearOn f prev e = [(k, lk.least, lk.most)] := by
  have z : lkOf f prev k = lk := by
    unfold lkOf
    rw [h1]
    show (match (some e'.deed : Option Dd) with | some (Dd.send l) => _ | _ => _) = _
    rw [h2]
    show f.links.getD l _ = lk
    rw [List.getD_eq_getElem?_getD, h3]
    rfl
  unfold hearOn
  rw [h]
  dsimp only
  rw [z]

/-! ### what holds of an event behind others -/
structure EvOk (f : Fd) (prev : List Ev) (e : Ev) : Prop where
  hs : e.house ∈ f.names
  st : Fb 4 300 e.stamp
  dd : match e.deed with
    | .mark => True
    | .send l => ∃ lk, f.links[l]? = some lk ∧ lk.frm = e.house
    | .hear k => ∃ e' l lk, prev[k]? = some e' ∧ e'.deed = .send l ∧ f.links[l]? = some lk ∧ lk.to = e.house
  mo : ∀ e' ∈ prev, e'.house = e.house → ltF e.stamp e'.stamp = false
def HiOk (f : Fd) (evs : List Ev) : Prop := ∀ k e, evs[k]? = some e → EvOk f (evs.take k) e
theorem hsOf_at {f : Fd} {n : Str} (h : n ∈ f.names) : hsOf f n ∈ f.houses ∧ (hsOf f n).name = n := by
  unfold hsOf
  cases q : f.houses.find? fun h => decide (h.name = n) with
  | some x =>
    have h1 := List.find?_some q
    exact ⟨List.mem_of_find?_eq_some q, of_decide_eq_true h1⟩
  | none =>
    obtain ⟨x, hx, e⟩ := List.mem_map.mp h
    have h1 := List.find?_eq_none.mp q x hx
    exact absurd (decide_eq_true e) h1
theorem hsOf_eq {f : Fd} {n : Str} {h : Hs} (nd : f.names.Nodup) (hm : h ∈ f.houses) (e : h.name = n) : hsOf f n = h := by
  have h0 := hsOf_at (f := f) (n := n) (List.mem_map.mpr ⟨h, hm, e⟩)
  obtain ⟨i, hi, ei⟩ := List.getElem_of_mem h0.1
  obtain ⟨j, hj, ej⟩ := List.getElem_of_mem hm
  have k1 : f.names[i]? = some n := by
    unfold Fd.names
    rw [List.getElem?_map, List.getElem?_eq_getElem hi, ei]
    exact congrArg some h0.2
  have k2 : f.names[j]? = some n := by
    unfold Fd.names
    rw [List.getElem?_map, List.getElem?_eq_getElem hj, ej]
    exact congrArg some e
  have := nd_ix nd k1 k2
  subst this
  rw [← ei, ← ej]
/-! ### how great the pairs are -/
def PrB (c : Int) (q : Pr) : Prop := (∀ x, q.1 = some x → Fb 120 c x) ∧ ∀ x, q.2 = some x → Fb 120 c x
theorem PrB.mono {c c' : Int} {q : Pr} (h : PrB c q) (k : c ≤ c') : PrB c' q := ⟨fun x e => (h.1 x e).mono k, fun x e => (h.2 x e).mono k⟩
theorem prB_none (c : Int) : PrB c (none, none) := by
  refine ⟨fun x e => ?_, fun x e => ?_⟩
  · cases (show (none : Option Fr) = some x from e)
  · cases (show (none : Option Fr) = some x from e)
theorem moved_fb {c d : Int} {a b : Option Fr} (ha : ∀ x, a = some x → Fb 120 c x) (hb : ∀ x, b = some x → Fb 120 d x) : ∀ x, movedF a b = some x → Fb 120 (c + d) x := by
  intro x e
  cases a with
  | none => cases e
  | some y =>
    cases b with
    | none => cases e
    | some z =>
      have e2 := Option.some.inj (show some (addF y z) = some x from e)
      rw [← e2]
      exact fb_add (by decide) (ha y rfl) (hb z rfl)
theorem low_fb {c : Int} {a b : Option Fr} (ha : ∀ x, a = some x → Fb 120 c x) (hb : ∀ x, b = some x → Fb 120 c x) : ∀ x, grLow a b = some x → Fb 120 c x := by
  intro x e
  cases a with
  | none => exact hb x e
  | some y =>
    cases b with
    | none => exact ha x e
    | some z =>
      have e2 := Option.some.inj (show some (if ltF y z then z else y) = some x from e)
      rw [← e2]
      split
      · exact hb z rfl
      · exact ha y rfl
theorem high_fb {c : Int} {a b : Option Fr} (ha : ∀ x, a = some x → Fb 120 c x) (hb : ∀ x, b = some x → Fb 120 c x) : ∀ x, lsHigh a b = some x → Fb 120 c x := by
  intro x e
  cases a with
  | none => exact hb x e
  | some y =>
    cases b with
    | none => exact ha x e
    | some z =>
      have e2 := Option.some.inj (show some (if ltF z y then z else y) = some x from e)
      rw [← e2]
      split
      · exact hb z rfl
      · exact ha y rfl
/-- what a step adds -/
def NxB (k : Nat) (x : Nat × Fr × Option Fr) : Prop := x.1 < k ∧ Fb 120 1200 x.2.1 ∧ ∀ y, x.2.2 = some y → Fb 120 1200 y
theorem nexts_b {f : Fd} {es : List Ev} {e : Ev} {k : Nat} (fok : FOk f) (hk : k ≤ es.length) (hst : ∀ j e', j < k → es[j]? = some e' → Fb 4 300 e'.stamp) (eok : EvOk f (es.take k) e) : ∀ x ∈ nextsF f (es.take k) e, NxB k x := by
  intro x hx
  obtain ⟨hm, hn⟩ := hsOf_at eok.hs
  obtain ⟨rt1, rt2⟩ := fok.rt _ hm
  rcases List.mem_append.mp hx with hx | hx
  · cases hl : lastK es e.house k with
    | none =>
      rw [goOn_none hk hl] at hx
      cases hx
    | some j =>
      obtain ⟨hj, ej, he, _⟩ := lastK_some hl
      rw [goOn_some hk hl he] at hx
      rw [List.mem_singleton.mp hx]
      have fb : Fb 4 600 (subF e.stamp ej.stamp) := fb_sub (by decide) eok.st (hst j ej hj he)
      refine ⟨hj, fb_div (c := 600) (by decide) fb rt2, fun y ey => ?_⟩
      rw [← Option.some.inj ey]
      exact fb_div (c := 600) (by decide) fb rt1
  · have dd := eok.dd
    cases hd : e.deed with
    | mark =>
      unfold hearOn at hx
      rw [hd] at hx
      cases hx
    | send l =>
      unfold hearOn at hx
      rw [hd] at hx
      cases hx
    | hear kk =>
      rw [hd] at dd
      obtain ⟨e', l, lk, h1, h2, h3, h4⟩ := dd
      rw [hearOn_hear hd h1 h2 h3] at hx
      rw [List.mem_singleton.mp hx]
      have hl := (List.getElem?_eq_some_iff.mp h1).1
      rw [List.length_take] at hl
      obtain ⟨_, _, b1, b2⟩ := fok.lk lk (List.mem_of_getElem? h3)
      exact ⟨by show kk < k; omega, b1.mono (by decide), fun y ey => (b2 y ey).mono (by decide)⟩
theorem stepP_b {c : Int} {k : Nat} {ps : List Pr} {q : Pr} {x : Nat × Fr × Option Fr} (hps : ∀ j, j < k → PrB c (prOf ps j)) (hq : PrB (c + 1200) q) (hx : NxB k x) : PrB (c + 1200) (stepP ps q x) := by
  obtain ⟨h1, h2, h3⟩ := hx
  obtain ⟨p1, p2⟩ := hps _ h1
  exact ⟨low_fb hq.1 (moved_fb p1 fun y e => by rw [← Option.some.inj e]; exact h2), high_fb hq.2 (moved_fb p2 h3)⟩
theorem foldP_b {c : Int} {k : Nat} {ps : List Pr} (hps : ∀ j, j < k → PrB c (prOf ps j)) : ∀ (l : List (Nat × Fr × Option Fr)) (q : Pr), (∀ x ∈ l, NxB k x) → PrB (c + 1200) q → PrB (c + 1200) (l.foldl (stepP ps) q)
  | [], _, _, hq => hq
  | x :: r, q, hl, hq => foldP_b hps r _ (fun y hy => hl y (List.mem_cons_of_mem _ hy)) (stepP_b hps hq (hl x List.mem_cons_self))
theorem pairF_b {f : Fd} {es : List Ev} {e : Ev} {k : Nat} {c : Int} {ps : List Pr} (hc : 0 ≤ c) (fok : FOk f) (hk : k ≤ es.length) (hst : ∀ j e', j < k → es[j]? = some e' → Fb 4 300 e'.stamp) (eok : EvOk f (es.take k) e)
    (hps : ∀ j, j < k → PrB c (prOf ps j)) : PrB (c + 1200) (pairF f (es.take k) e ps) := by
  unfold pairF
  split
  · have h : Fb 120 (c + 1200) e.stamp := (eok.st.dvd ⟨30, rfl⟩).mono (by omega)
    exact ⟨fun x ex => by rw [← Option.some.inj ex]; exact h, fun x ex => by rw [← Option.some.inj ex]; exact h⟩
  · exact foldP_b hps _ _ (nexts_b fok hk hst eok) (prB_none _)
theorem pairsF_b {f : Fd} {es : List Ev} (fok : FOk f) (hi : HiOk f es) : ∀ {k : Nat}, k ≤ es.length → ∀ j, j < k → PrB (1200 * (j + 1)) (prOf (pairsF f es k) j)
  | 0, _, j, hj => absurd hj (Nat.not_lt_zero _)
  | k + 1, hk, j, hj => by
    have he : es[k]? = some es[k] := List.getElem?_eq_getElem (by omega)
    have hl : (pairsF f es k).length = k := pairsF_len (by omega)
    rw [pairsF_succ he]
    unfold prOf
    rw [List.getD_eq_getElem?_getD]
    by_cases e : j < k
    · rw [List.getElem?_append_left (by omega), ← List.getD_eq_getElem?_getD]
      exact pairsF_b fok hi (by omega) j e
    · have : j = k := by omega
      subst this
      rw [List.getElem?_append_right (by omega), hl, Nat.sub_self]
      have b := pairF_b (c := 1200 * j) (ps := pairsF f es j) (by omega) fok (show j ≤ es.length by omega) (fun i e' hi' he' => (hi i e' he').st) (hi j _ he) fun i hi' => (pairsF_b fok hi (by omega) i hi').mono (by omega)
      exact b.mono (by omega)
end Lc
/-! The fractions' defs. -/
namespace Lc
open PySem PySem.Spec PyProof.Rows L2

/-- small beneath -/
def Sm (x : Fr) : Prop := 0 < x.2 ∧ x.2 ≤ 30000
def spGcd : Sp := fun vs H Q _ => ∃ a b : Int, vs = [.int a, .int b] ∧ 0 ≤ a ∧ 0 ≤ b ∧ Q (.int (gcd2 a b)) H
def spRatio : Sp := fun vs H Q _ => ∃ a b : Int, vs = [.int a, .int b] ∧ 0 < b ∧ b < 1073741824 ∧ ∀ v H', Same H H' → FrAt H' v (rat a b) → Q v H'
def spTwo (g : Fr → Fr → Fr) (C : Fr → Fr → Prop) : Sp := fun vs H Q _ => ∃ v u x y, vs = [v, u] ∧ FrAt H v x ∧ FrAt H u y ∧ C x y ∧ ∀ z H', Same H H' → FrAt H' z (g x y) → Q z H'
def CSm (x y : Fr) : Prop := Sm x ∧ Sm y
def CPart (x y : Fr) : Prop := Sm x ∧ Sm y ∧ 0 < y.1 ∧ y.1 ≤ 30000
def spBelow : Sp := fun vs H Q _ => ∃ v u x y, vs = [v, u] ∧ FrAt H v x ∧ FrAt H u y ∧ CSm x y ∧ Q (.bl (ltF x y)) H
theorem sm_mul {a b : Int} (ha : 0 < a) (hb : 0 < b) (ha2 : a ≤ 30000) (hb2 : b ≤ 30000) : 0 < a * b ∧ a * b < 1073741824 := by
  have h1 := Int.mul_pos ha hb
  have h2 : a * b ≤ 30000 * 30000 := Int.mul_le_mul ha2 hb2 (by omega) (by omega)
  omega
theorem cmul_r {i j : Int} (h : 0 < j) (h2 : j ≤ 30000) : CMul i j := .inr ⟨by omega, by omega⟩
theorem ix_tupK {X : Cx} (K : PySem.W.Frag) (h : X.K = K) : IxR X (rIxT K) := h ▸ ix_tup
theorem ix_listK {X : Cx} (K : PySem.W.Frag) (h : X.K = K) : IxR X (rIxL K) := h ▸ ix_list
theorem itP {c A B : Prop} [Decidable c] (hc : c) (h : A) : if c then A else B := by
  rw [if_pos hc]
  exact h
theorem itN {c A B : Prop} [Decidable c] (hc : ¬ c) (h : B) : if c then A else B := by
  rw [if_neg hc]
  exact h
/-- the heap (or the state) is known by what holds of it from here on -/
theorem habs {α : Type} {Φ : α → Prop} {Ψ : α → Prop} {a : α} (h : Ψ a) (k : ∀ b, Ψ b → Φ b) : Φ a := k a h
/-- both ways give a number at the same heap -/
theorem if_int {c : Prop} [Decidable c] {ta tb : VK → Prop} {Q : VK} {H : Hp} (rest : ∀ i : Int, Q (.int i) H) (h1 : c → (∀ i : Int, Q (.int i) H) → ta Q) (h2 : ¬ c → (∀ i : Int, Q (.int i) H) → tb Q) : if c then ta Q else tb Q := by
  by_cases hc : c
  · rw [if_pos hc]
    exact h1 hc rest
  · rw [if_neg hc]
    exact h2 hc rest
/-- a test with and: the way of false once -/
theorem and_two {c : Bool} {tu : (Bool → Hp → Prop) → Prop} {H : Hp} {Q : Bool → Hp → Prop} (hf : Q false H) (ht : c = true → Q false H → tu Q) : if c = true then tu Q else Q false H := by
  cases c with
  | true => exact ht rfl hf
  | false => exact hf
/-- loops whose end and whose break meet in one word -/
theorem for_rangeCP {lo c : Int} {n : Nat} {g : TG} {tb : TS} {D : Ends} {σ : L2.St} {H : Hp} (Pv : Nat → L2.St → Hp → Prop) (Post : L2.St → Hp → Prop) (rest : ∀ σ H, Post σ H → D.nx σ H) (h0 : Pv 0 σ H)
    (hs : (∀ σ H, Post σ H → D.nx σ H) → ∀ i σ H, i < n → Pv i σ H → g (.int (lo + (i : Nat) * c)) σ H fun σ2 H2 => tb { D with nx := Pv (i + 1), ct := Pv (i + 1), bk := D.nx } σ2 H2) (hd : ∀ σ H, Pv n σ H → Post σ H) :
    ∃ W : Nat → Nat → L2.St → Hp → Prop, (∃ m, W 0 m σ H) ∧ ∀ i m σ H, W i m σ H →
      ((Itc lo c n).stop i H ∧ D.nx σ H) ∨ ((Itc lo c n).go i H ∧ ∃ N : L2.St → Hp → Prop, (∀ σ' H', N σ' H' → ∃ m', m' < m ∧ W (i + 1) m' σ' H') ∧ ∀ x H', (Itc lo c n).yld i H x H' → g x σ H' fun σ2 H2 => tb { D with nx := N, ct := N, bk := D.nx } σ2 H2) :=
  for_rangeC Pv h0 (hs rest) fun σ H p => rest σ H (hd σ H p)
/-- only lists change: tuples stay -/
theorem Kp.tk {S : List Addr} {H H' : Hp} (k : Kp S H H') (h : ∀ a ∈ S, ∀ xs, H a ≠ some (.tup xs)) : TK H H' := fun a xs e => k a _ e fun z => h a z xs e
theorem Kp.tk1 {t : Addr} {xs : List V} {H H' : Hp} (k : Kp [t] H H') (h : H t = some (.lst xs)) : TK H H' := k.tk fun a ha ys e => by
  rw [List.mem_singleton.mp ha, h] at e
  cases e
theorem Kp.tk1' {t : Addr} {H H' : Hp} (k : Kp [t] H H') (h : H t = none) : TK H H' := k.tk fun a ha ys e => by
  rw [List.mem_singleton.mp ha, h] at e
  cases e
/-- a list that was new all the while -/
theorem same_of_kp {l : Addr} {H H' : Hp} (k : Kp [l] H H') (h : H l = none) : Same H H' := fun b o e => k b o e fun z => by
  rw [List.mem_singleton.mp z, h] at e
  cases e
/-- at of a pair -/
theorem at0 {a b : V} : atI [a, b] (0 : Int) = some a := rfl
theorem at1 {a b : V} : atI [a, b] (1 : Int) = some b := rfl

section
variable {P : Program} {w : World} {K : PySem.W.Frag} {mg : Str → Option Value} {base : Heap}

theorem gcd_turn {a b : Nat} : Nat.gcd b (a % b) = Nat.gcd a b := by
  rw [Nat.gcd_comm b, ← Nat.gcd_rec, Nat.gcd_comm]

theorem ok_common_divisor (T : Tx K mg) : FnOk P w K mg base CX0 1 T.a_common_divisor T.d_common_divisor p_common_divisor spGcd := by
  refine T.common_divisor.F.ok sc_common_divisor (fun vs H Q E h => ?_) (fun cdv A outer s H vs Q E hr h => ?_)
  · obtain ⟨a, b, rfl, _⟩ := h
    rfl
  · obtain ⟨a, b, rfl, ha, hb, q⟩ := h
    refine ⟨_, PSs.nox ((pss_cons (ps_while PassesOwn.never (pt_cmpR op_ne (pv 1) pe_int (nomark _))
        (pss_one (ps_par (i := 0) (j := 1) rfl sc_common_divisor.nd rfl rfl (by decide) rfl rfl (pa_cons (pv 1) (pa_cons (pe_op op_mod (pv 0) (pv 1)) pa_nil)) (by rfl))))
      (pss_one (ps_ret (pv 0))))), ?_⟩
    refine while_by (fun σ H2 => H2 = H ∧ ∃ m n : Nat, σ = [some (.int m), some (.int n)] ∧ ((Nat.gcd m n : Nat) : Int) = gcd2 a b)
      (fun σ _ => match σ with | [_, some (.int n)] => n.natAbs | _ => 0) ⟨rfl, a.natAbs, b.natAbs, ?_, rfl⟩ ?_ (fun σ H Q Q' h ⟨v, e, hs, k, ek, q⟩ => ⟨v, e, hs, k, ek, h _ _ q⟩)
    · show [some (V.int a), some (V.int b)] = _
      rw [show ((a.natAbs : Nat) : Int) = a by omega, show ((b.natAbs : Nat) : Int) = b by omega]
    · rintro σ H2 ⟨rfl, m, n, rfl, hg⟩
      refine ⟨_, rfl, rfl, _, rfl, ?_⟩
      by_cases hn : (n : Int) = 0
      · have en : n = 0 := by omega
        subst en
        refine itN (by decide) ⟨_, rfl, ?_⟩
        rw [Nat.gcd_zero_right] at hg
        rw [hg]
        exact q
      · have hd : decide (V.int (n : Int) = V.int 0) = false := decide_eq_false fun z => hn (V.int.inj z)
        refine itP (by rw [hd]; rfl) ⟨_, rfl, _, rfl, _, rfl, _, _, rfl, rfl, (by show (0 : Int) < (n : Int); omega), _, _, rfl, ⟨rfl, n, m % n, ?_, ?_⟩, ?_⟩
        · show [some (V.int (n : Int)), some (V.int ((m : Int) % (n : Int)))] = _
          rw [Int.natCast_emod]
        · rw [gcd_turn]
          exact hg
        · show ((m : Int) % (n : Int)).natAbs < ((n : Int)).natAbs
          have h1 := Int.emod_nonneg (m : Int) hn
          have h2 := Int.emod_lt_of_pos (m : Int) (show (0 : Int) < n by omega)
          omega

theorem ok_ratio (T : Tx K mg) : FnOk P w K mg base CX0 2 T.a_ratio T.d_ratio p_ratio spRatio := by
  refine T.ratio.F.ok sc_ratio (fun vs H Q E h => ?_) (fun cdv A outer s H vs Q E hr h => ?_)
  · obtain ⟨a, b, rfl, _⟩ := h
    rfl
  · obtain ⟨a, b, rfl, hb, hb2, q⟩ := h
    have hr1 : Room 1 _ := hr
    refine ⟨_, PSs.nox ((pss_cons (ps_set (i := 2) sc_ratio.nd rfl (Or.inl rfl) (pe_call (ok_common_divisor T) hr1 rfl T.common_divisor.m T.common_divisor.F.kp T.common_divisor.b .nil pass0 (pa_cons (pe_callB call_abs (by rfl) T.babs (by decide +kernel) (pa_cons (pv 0) pa_nil)) (pa_cons (pe_callB call_abs (by rfl) T.babs (by decide +kernel) (pa_cons (pv 1) pa_nil)) pa_nil))))
      (pss_cons (ps_if (pt_cmpR op_lt (pv 1) pe_int (nomark _))
        (pss_one (ps_set (i := 2) sc_ratio.nd rfl (Or.inl rfl) (pe_op op_sub pe_int (pv 2))))
        pss_nil)
      (pss_one (ps_ret (pe_tup (pa_cons (pe_op op_fdiv (pv 0) (pv 2)) (pa_cons (pe_op op_fdiv (pv 1) (pv 2)) pa_nil)))))))), ?_⟩
    have ab : ∀ x : Int, 0 ≤ (if x < 0 then -x else x) ∧ (if x < 0 then -x else x).natAbs = x.natAbs := fun x => by split <;> omega
    have eg : gcd2 (if a < 0 then -a else a) (if b < 0 then -b else b) = gcd2 a b := by
      unfold gcd2
      rw [(ab a).2, (ab b).2]
    have g0 := gcd2_pos (a := a) hb
    have g1 := gcd2_le (a := a) hb
    refine ⟨_, rfl, _, rfl, _, rfl, _, rfl, _, _, rfl, (ab a).1, (ab b).1, ?_⟩
    rw [eg]
    refine ⟨_, rfl, _, _, rfl, rfl, _, rfl, itN (by simp; omega) ?_⟩
    refine ⟨_, rfl, _, rfl, _, _, rfl, rfl, ⟨g0, by omega⟩, _, rfl, _, rfl, _, _, rfl, rfl, ⟨g0, by omega⟩, by show 2 ≤ sizeLine; decide, fun p hp => ?_⟩
    exact q _ _ (same_new hp) ⟨p, rfl, upd_same⟩

/-- the reading of x[0] * y[1] + .. -/
theorem ok_added (T : Tx K mg) : FnOk P w K mg base CX0 3 T.a_added T.d_added p_added (spTwo addF CSm) := by
  refine T.added.F.ok sc_added (fun vs H Q E h => ?_) (fun cdv A outer s H vs Q E hr h => ?_)
  · obtain ⟨v, u, x, y, rfl, _⟩ := h
    rfl
  · obtain ⟨v, u, x, y, rfl, ⟨p1, rfl, e1⟩, ⟨p2, rfl, e2⟩, ⟨⟨x0, x1⟩, y0, y1⟩, q⟩ := h
    have hr2 : Room 2 _ := hr
    refine ⟨_, PSs.nox ((pss_one (ps_ret (pe_call (ok_ratio T) hr2 rfl T.ratio.m T.ratio.F.kp T.ratio.b .nil pass0 (pa_cons (pe_op op_add (pe_op op_mul (pe_ix ix_tup (pv 0) pe_int (fun _ _ => rfl)) (pe_ix ix_tup (pv 1) pe_int (fun _ _ => rfl))) (pe_op op_mul (pe_ix ix_tup (pv 1) pe_int (fun _ _ => rfl)) (pe_ix ix_tup (pv 0) pe_int (fun _ _ => rfl)))) (pa_cons (pe_op op_mul (pe_ix ix_tup (pv 0) pe_int (fun _ _ => rfl)) (pe_ix ix_tup (pv 1) pe_int (fun _ _ => rfl))) pa_nil)))))), ?_⟩
    have m := sm_mul x0 y0 x1 y1
    refine ⟨_, rfl, _, _, _, _, rfl, rfl, SqT.of e1, at0, _, rfl, _, _, _, _, rfl, rfl, SqT.of e2, at1, _, _, rfl, rfl, cmul_r y0 y1, ?_⟩
    refine ⟨_, rfl, _, _, _, _, rfl, rfl, SqT.of e2, at0, _, rfl, _, _, _, _, rfl, rfl, SqT.of e1, at1, _, _, rfl, rfl, cmul_r x0 x1, _, _, rfl, rfl, ?_⟩
    refine ⟨_, rfl, _, _, _, _, rfl, rfl, SqT.of e1, at1, _, rfl, _, _, _, _, rfl, rfl, SqT.of e2, at1, _, _, rfl, rfl, cmul_r y0 y1, ?_⟩
    exact ⟨_, _, rfl, m.1, m.2, fun z H' s' f' => q z H' s' f'⟩
theorem ok_less (T : Tx K mg) : FnOk P w K mg base CX0 3 T.a_less T.d_less p_less (spTwo subF CSm) := by
  refine T.less.F.ok sc_less (fun vs H Q E h => ?_) (fun cdv A outer s H vs Q E hr h => ?_)
  · obtain ⟨v, u, x, y, rfl, _⟩ := h
    rfl
  · obtain ⟨v, u, x, y, rfl, ⟨p1, rfl, e1⟩, ⟨p2, rfl, e2⟩, ⟨⟨x0, x1⟩, y0, y1⟩, q⟩ := h
    have hr2 : Room 2 _ := hr
    refine ⟨_, PSs.nox ((pss_one (ps_ret (pe_call (ok_ratio T) hr2 rfl T.ratio.m T.ratio.F.kp T.ratio.b .nil pass0 (pa_cons (pe_op op_sub (pe_op op_mul (pe_ix ix_tup (pv 0) pe_int (fun _ _ => rfl)) (pe_ix ix_tup (pv 1) pe_int (fun _ _ => rfl))) (pe_op op_mul (pe_ix ix_tup (pv 1) pe_int (fun _ _ => rfl)) (pe_ix ix_tup (pv 0) pe_int (fun _ _ => rfl)))) (pa_cons (pe_op op_mul (pe_ix ix_tup (pv 0) pe_int (fun _ _ => rfl)) (pe_ix ix_tup (pv 1) pe_int (fun _ _ => rfl))) pa_nil)))))), ?_⟩
    have m := sm_mul x0 y0 x1 y1
    refine ⟨_, rfl, _, _, _, _, rfl, rfl, SqT.of e1, at0, _, rfl, _, _, _, _, rfl, rfl, SqT.of e2, at1, _, _, rfl, rfl, cmul_r y0 y1, ?_⟩
    refine ⟨_, rfl, _, _, _, _, rfl, rfl, SqT.of e2, at0, _, rfl, _, _, _, _, rfl, rfl, SqT.of e1, at1, _, _, rfl, rfl, cmul_r x0 x1, _, _, rfl, rfl, ?_⟩
    refine ⟨_, rfl, _, _, _, _, rfl, rfl, SqT.of e1, at1, _, rfl, _, _, _, _, rfl, rfl, SqT.of e2, at1, _, _, rfl, rfl, cmul_r y0 y1, ?_⟩
    exact ⟨_, _, rfl, m.1, m.2, fun z H' s' f' => q z H' s' f'⟩
theorem ok_parted (T : Tx K mg) : FnOk P w K mg base CX0 3 T.a_parted T.d_parted p_parted (spTwo divF CPart) := by
  refine T.parted.F.ok sc_parted (fun vs H Q E h => ?_) (fun cdv A outer s H vs Q E hr h => ?_)
  · obtain ⟨v, u, x, y, rfl, _⟩ := h
    rfl
  · obtain ⟨v, u, x, y, rfl, ⟨p1, rfl, e1⟩, ⟨p2, rfl, e2⟩, ⟨⟨x0, x1⟩, ⟨y0, y1⟩, y2, y3⟩, q⟩ := h
    have hr2 : Room 2 _ := hr
    refine ⟨_, PSs.nox ((pss_one (ps_ret (pe_call (ok_ratio T) hr2 rfl T.ratio.m T.ratio.F.kp T.ratio.b .nil pass0 (pa_cons (pe_op op_mul (pe_ix ix_tup (pv 0) pe_int (fun _ _ => rfl)) (pe_ix ix_tup (pv 1) pe_int (fun _ _ => rfl))) (pa_cons (pe_op op_mul (pe_ix ix_tup (pv 0) pe_int (fun _ _ => rfl)) (pe_ix ix_tup (pv 1) pe_int (fun _ _ => rfl))) pa_nil)))))), ?_⟩
    have m := sm_mul x0 y2 x1 y3
    refine ⟨_, rfl, _, _, _, _, rfl, rfl, SqT.of e1, at0, _, rfl, _, _, _, _, rfl, rfl, SqT.of e2, at1, _, _, rfl, rfl, cmul_r y0 y1, ?_⟩
    refine ⟨_, rfl, _, _, _, _, rfl, rfl, SqT.of e1, at1, _, rfl, _, _, _, _, rfl, rfl, SqT.of e2, at0, _, _, rfl, rfl, cmul_r y2 y3, ?_⟩
    exact ⟨_, _, rfl, m.1, m.2, fun z H' s' f' => q z H' s' f'⟩
theorem ok_is_below (T : Tx K mg) : FnOk P w K mg base CX0 1 T.a_is_below T.d_is_below p_is_below spBelow := by
  refine T.is_below.F.ok sc_is_below (fun vs H Q E h => ?_) (fun cdv A outer s H vs Q E hr h => ?_)
  · obtain ⟨v, u, x, y, rfl, _⟩ := h
    rfl
  · obtain ⟨v, u, x, y, rfl, ⟨p1, rfl, e1⟩, ⟨p2, rfl, e2⟩, ⟨⟨x0, x1⟩, y0, y1⟩, q⟩ := h
    refine ⟨_, PSs.nox ((pss_one (ps_ret (pe_cmpR op_lt (pe_op op_mul (pe_ix ix_tup (pv 0) pe_int (fun _ _ => rfl)) (pe_ix ix_tup (pv 1) pe_int (fun _ _ => rfl))) (pe_op op_mul (pe_ix ix_tup (pv 1) pe_int (fun _ _ => rfl)) (pe_ix ix_tup (pv 0) pe_int (fun _ _ => rfl))) (nomark _))))), ?_⟩
    refine ⟨_, rfl, _, _, _, _, rfl, rfl, SqT.of e1, at0, _, rfl, _, _, _, _, rfl, rfl, SqT.of e2, at1, _, _, rfl, rfl, cmul_r y0 y1, ?_⟩
    exact ⟨_, rfl, _, _, _, _, rfl, rfl, SqT.of e2, at0, _, rfl, _, _, _, _, rfl, rfl, SqT.of e1, at1, _, _, rfl, rfl, cmul_r x0 x1, _, _, rfl, rfl, q⟩
end
end Lc
/-! The law's own fractions, its tape. -/
namespace Lc
open PySem PySem.Spec PyProof.Rows L2
section
variable {P : Program} {w : World} {K : PySem.W.Frag} {mg : Str → Option Value} {base : Heap}

theorem ok_law_low (T : Tx K mg) : FnOk P w K mg base CX0 1 T.a_law_low T.d_law_low p_law_low spRatio := by
  refine T.law_low.F.ok sc_law_low (fun vs H Q E h => ?_) (fun cdv A outer s H vs Q E hr h => ?_)
  · obtain ⟨a, b, rfl, _⟩ := h
    rfl
  · obtain ⟨a, b, rfl, hb, hb2, q⟩ := h
    refine ⟨_, PSs.nox ((pss_cons (ps_par (i := 2) (j := 3) rfl sc_law_low.nd rfl rfl (by decide) rfl rfl (pa_cons (pe_callB call_abs (by rfl) T.babs (by decide +kernel) (pa_cons (pv 0) pa_nil)) (pa_cons (pv 1) pa_nil)) (by rfl))
      (pss_cons (ps_while PassesOwn.never (pt_cmpR op_gt (pv 3) pe_int (nomark _))
        (pss_one (ps_par (i := 2) (j := 3) rfl sc_law_low.nd rfl rfl (by decide) rfl rfl (pa_cons (pv 3) (pa_cons (pe_op op_mod (pv 2) (pv 3)) pa_nil)) (by rfl))))
      (pss_one (ps_ret (pe_tup (pa_cons (pe_op op_fdiv (pv 0) (pv 2)) (pa_cons (pe_op op_fdiv (pv 1) (pv 2)) pa_nil)))))))), ?_⟩
    have g0 := gcd2_pos (a := a) hb
    have g1 := gcd2_le (a := a) hb
    refine ⟨_, rfl, _, rfl, _, rfl, _, _, rfl, ?_⟩
    refine while_by (fun σ H2 => H2 = H ∧ ∃ m n : Nat, σ = [some (.int a), some (.int b), some (.int m), some (.int n)] ∧ ((Nat.gcd m n : Nat) : Int) = gcd2 a b)
      (fun σ _ => match σ with | [_, _, _, some (.int n)] => n.natAbs | _ => 0) ⟨rfl, a.natAbs, b.natAbs, ?_, rfl⟩ ?_ (fun σ H Q Q' h ⟨v, e, i, j, ei, ej, k, ek, q⟩ => ⟨v, e, i, j, ei, ej, k, ek, h _ _ q⟩)
    · show [some (V.int a), some (V.int b), some (V.int (if a < 0 then -a else a)), some (V.int b)] = _
      rw [show (if a < 0 then -a else a) = ((a.natAbs : Nat) : Int) by split <;> omega, show ((b.natAbs : Nat) : Int) = b by omega]
    · rintro σ H2 ⟨rfl, m, n, rfl, hg⟩
      refine ⟨_, rfl, _, _, rfl, rfl, _, rfl, ?_⟩
      by_cases hn : (0 : Int) < (n : Int)
      · refine itP (decide_eq_true hn) ⟨_, rfl, _, rfl, _, rfl, _, _, rfl, rfl, hn, _, _, rfl, ⟨rfl, n, m % n, ?_, ?_⟩, ?_⟩
        · show [some (V.int a), some (V.int b), some (V.int (n : Int)), some (V.int ((m : Int) % (n : Int)))] = _
          rw [Int.natCast_emod]
        · rw [gcd_turn]
          exact hg
        · show ((m : Int) % (n : Int)).natAbs < ((n : Int)).natAbs
          have h1 := Int.emod_nonneg (m : Int) (Int.ne_of_gt hn)
          have h2 := Int.emod_lt_of_pos (m : Int) hn
          omega
      · have en : n = 0 := by omega
        subst en
        rw [Nat.gcd_zero_right] at hg
        have g2 : (0 : Int) < (m : Int) := by omega
        have g3 : (m : Int) < 1073741824 := by omega
        refine itN (by simp) ⟨_, rfl, _, rfl, _, _, rfl, rfl, ⟨g2, g3⟩, _, rfl, _, rfl, _, _, rfl, rfl, ⟨g2, g3⟩, by show 2 ≤ sizeLine; decide, fun p hp => ?_⟩
        refine q _ _ (same_new hp) ⟨p, rfl, ?_⟩
        rw [hg]
        exact upd_same
theorem ok_law_plus (T : Tx K mg) : FnOk P w K mg base CX0 2 T.a_law_plus T.d_law_plus p_law_plus (spTwo addF CSm) := by
  refine T.law_plus.F.ok sc_law_plus (fun vs H Q E h => ?_) (fun cdv A outer s H vs Q E hr h => ?_)
  · obtain ⟨v, u, x, y, rfl, _⟩ := h
    rfl
  · obtain ⟨v, u, x, y, rfl, ⟨p1, rfl, e1⟩, ⟨p2, rfl, e2⟩, ⟨⟨x0, x1⟩, y0, y1⟩, q⟩ := h
    have hr1 : Room 1 _ := hr
    refine ⟨_, PSs.nox ((pss_one (ps_ret (pe_call (ok_law_low T) hr1 rfl T.law_low.m T.law_low.F.kp T.law_low.b .nil pass0 (pa_cons (pe_op op_add (pe_op op_mul (pe_ix ix_tup (pv 0) pe_int (fun _ _ => rfl)) (pe_ix ix_tup (pv 1) pe_int (fun _ _ => rfl))) (pe_op op_mul (pe_ix ix_tup (pv 1) pe_int (fun _ _ => rfl)) (pe_ix ix_tup (pv 0) pe_int (fun _ _ => rfl)))) (pa_cons (pe_op op_mul (pe_ix ix_tup (pv 0) pe_int (fun _ _ => rfl)) (pe_ix ix_tup (pv 1) pe_int (fun _ _ => rfl))) pa_nil)))))), ?_⟩
    have m := sm_mul x0 y0 x1 y1
    refine ⟨_, rfl, _, _, _, _, rfl, rfl, SqT.of e1, at0, _, rfl, _, _, _, _, rfl, rfl, SqT.of e2, at1, _, _, rfl, rfl, cmul_r y0 y1, ?_⟩
    refine ⟨_, rfl, _, _, _, _, rfl, rfl, SqT.of e2, at0, _, rfl, _, _, _, _, rfl, rfl, SqT.of e1, at1, _, _, rfl, rfl, cmul_r x0 x1, _, _, rfl, rfl, ?_⟩
    refine ⟨_, rfl, _, _, _, _, rfl, rfl, SqT.of e1, at1, _, rfl, _, _, _, _, rfl, rfl, SqT.of e2, at1, _, _, rfl, rfl, cmul_r y0 y1, ?_⟩
    exact ⟨_, _, rfl, m.1, m.2, fun z H' s' f' => q z H' s' f'⟩
theorem ok_law_by (T : Tx K mg) : FnOk P w K mg base CX0 2 T.a_law_by T.d_law_by p_law_by (spTwo mulF fun x y => CSm x y ∧ 0 < x.1 ∧ x.1 ≤ 30000) := by
  refine T.law_by.F.ok sc_law_by (fun vs H Q E h => ?_) (fun cdv A outer s H vs Q E hr h => ?_)
  · obtain ⟨v, u, x, y, rfl, _⟩ := h
    rfl
  · obtain ⟨v, u, x, y, rfl, ⟨p1, rfl, e1⟩, ⟨p2, rfl, e2⟩, ⟨⟨⟨x0, x1⟩, y0, y1⟩, z0, z1⟩, q⟩ := h
    have hr1 : Room 1 _ := hr
    refine ⟨_, PSs.nox ((pss_one (ps_ret (pe_call (ok_law_low T) hr1 rfl T.law_low.m T.law_low.F.kp T.law_low.b .nil pass0 (pa_cons (pe_op op_mul (pe_ix ix_tup (pv 0) pe_int (fun _ _ => rfl)) (pe_ix ix_tup (pv 1) pe_int (fun _ _ => rfl))) (pa_cons (pe_op op_mul (pe_ix ix_tup (pv 0) pe_int (fun _ _ => rfl)) (pe_ix ix_tup (pv 1) pe_int (fun _ _ => rfl))) pa_nil)))))), ?_⟩
    have m := sm_mul x0 y0 x1 y1
    refine ⟨_, rfl, _, _, _, _, rfl, rfl, SqT.of e1, at0, _, rfl, _, _, _, _, rfl, rfl, SqT.of e2, at0, _, _, rfl, rfl, .inl ⟨by omega, by omega⟩, ?_⟩
    refine ⟨_, rfl, _, _, _, _, rfl, rfl, SqT.of e1, at1, _, rfl, _, _, _, _, rfl, rfl, SqT.of e2, at1, _, _, rfl, rfl, cmul_r y0 y1, ?_⟩
    exact ⟨_, _, rfl, m.1, m.2, fun z H' s' f' => q z H' s' f'⟩
theorem ok_law_over (T : Tx K mg) : FnOk P w K mg base CX0 2 T.a_law_over T.d_law_over p_law_over (spTwo divF CPart) := by
  refine T.law_over.F.ok sc_law_over (fun vs H Q E h => ?_) (fun cdv A outer s H vs Q E hr h => ?_)
  · obtain ⟨v, u, x, y, rfl, _⟩ := h
    rfl
  · obtain ⟨v, u, x, y, rfl, ⟨p1, rfl, e1⟩, ⟨p2, rfl, e2⟩, ⟨⟨x0, x1⟩, ⟨y0, y1⟩, y2, y3⟩, q⟩ := h
    have hr1 : Room 1 _ := hr
    refine ⟨_, PSs.nox ((pss_one (ps_ret (pe_call (ok_law_low T) hr1 rfl T.law_low.m T.law_low.F.kp T.law_low.b .nil pass0 (pa_cons (pe_op op_mul (pe_ix ix_tup (pv 0) pe_int (fun _ _ => rfl)) (pe_ix ix_tup (pv 1) pe_int (fun _ _ => rfl))) (pa_cons (pe_op op_mul (pe_ix ix_tup (pv 0) pe_int (fun _ _ => rfl)) (pe_ix ix_tup (pv 1) pe_int (fun _ _ => rfl))) pa_nil)))))), ?_⟩
    have m := sm_mul x0 y2 x1 y3
    refine ⟨_, rfl, _, _, _, _, rfl, rfl, SqT.of e1, at0, _, rfl, _, _, _, _, rfl, rfl, SqT.of e2, at1, _, _, rfl, rfl, cmul_r y0 y1, ?_⟩
    refine ⟨_, rfl, _, _, _, _, rfl, rfl, SqT.of e1, at1, _, rfl, _, _, _, _, rfl, rfl, SqT.of e2, at0, _, _, rfl, rfl, cmul_r y2 y3, ?_⟩
    exact ⟨_, _, rfl, m.1, m.2, fun z H' s' f' => q z H' s' f'⟩
theorem ok_law_is_less (T : Tx K mg) : FnOk P w K mg base CX0 1 T.a_law_is_less T.d_law_is_less p_law_is_less spBelow := by
  refine T.law_is_less.F.ok sc_law_is_less (fun vs H Q E h => ?_) (fun cdv A outer s H vs Q E hr h => ?_)
  · obtain ⟨v, u, x, y, rfl, _⟩ := h
    rfl
  · obtain ⟨v, u, x, y, rfl, ⟨p1, rfl, e1⟩, ⟨p2, rfl, e2⟩, ⟨⟨x0, x1⟩, y0, y1⟩, q⟩ := h
    refine ⟨_, PSs.nox ((pss_one (ps_ret (pe_cmpR op_lt (pe_op op_mul (pe_ix ix_tup (pv 0) pe_int (fun _ _ => rfl)) (pe_ix ix_tup (pv 1) pe_int (fun _ _ => rfl))) (pe_op op_mul (pe_ix ix_tup (pv 1) pe_int (fun _ _ => rfl)) (pe_ix ix_tup (pv 0) pe_int (fun _ _ => rfl))) (nomark _))))), ?_⟩
    refine ⟨_, rfl, _, _, _, _, rfl, rfl, SqT.of e1, at0, _, rfl, _, _, _, _, rfl, rfl, SqT.of e2, at1, _, _, rfl, rfl, cmul_r y0 y1, ?_⟩
    exact ⟨_, rfl, _, _, _, _, rfl, rfl, SqT.of e2, at0, _, rfl, _, _, _, _, rfl, rfl, SqT.of e1, at1, _, _, rfl, rfl, cmul_r x0 x1, _, _, rfl, rfl, q⟩

/-! ### the tape -/
/-- at t: the script's first cells (at l), where it reads, the digits that are left, how often it was drawn -/
def TpAt (H : Hp) (t l : Addr) (c : Int) : Prop := ∃ (ns : List Int) (a d n : Int), H t = some (.lst [.ref l, .int a, .int d, .int n]) ∧ H l = some (.lst (ns.map V.int)) ∧ l ≠ t ∧ ns.length ≤ 63 ∧ 0 ≤ a ∧ 0 ≤ n ∧ n ≤ c
theorem TpAt.mono {H : Hp} {t l : Addr} {c c' : Int} (h : TpAt H t l c) (k : c ≤ c') : TpAt H t l c' :=
  let ⟨ns, a, d, n, h1, h2, h3, h4, h5, h6, h7⟩ := h
  ⟨ns, a, d, n, h1, h2, h3, h4, h5, h6, Int.le_trans h7 k⟩
theorem TpAt.keep {S : List Addr} {H H' : Hp} {t l : Addr} {c : Int} (h : TpAt H t l c) (k : Kp S H H') (n1 : t ∉ S) (n2 : l ∉ S) : TpAt H' t l c :=
  let ⟨ns, a, d, n, h1, h2, h3, h4, h5, h6, h7⟩ := h
  ⟨ns, a, d, n, k _ _ h1 n1, k _ _ h2 n2, h3, h4, h5, h6, h7⟩
theorem TpAt.same {H H' : Hp} {t l : Addr} {c : Int} (h : TpAt H t l c) (k : Same H H') : TpAt H' t l c := h.keep (S := []) (Kp.of k) (by simp) (by simp)
theorem TpAt.lst {H : Hp} {t l : Addr} {c : Int} (h : TpAt H t l c) : ∃ xs, H t = some (.lst xs) := let ⟨_, _, _, _, h1, _⟩ := h; ⟨_, h1⟩
def spTape (K : PySem.W.Frag) : Sp := fun vs H Q _ => ∃ (a : Addr) (ns : List Int), vs = [.ref a] ∧ SqL K H a (ns.map V.int) ∧ ns.length ≤ 63 ∧ ∀ t l H', Same H H' → H t = none → H l = none → TpAt H' t l 0 → Q (.ref t) H'
theorem ok_law_tape (T : Tx K mg) : FnOk P w K mg base CX0 1 T.a_law_tape T.d_law_tape p_law_tape (spTape K) := by
  refine T.law_tape.F.ok sc_law_tape (fun vs H Q E h => ?_) (fun cdv A outer s H vs Q E hr h => ?_)
  · obtain ⟨a, ns, rfl, _⟩ := h
    rfl
  · obtain ⟨a, ns, rfl, hs, hl, q⟩ := h
    refine ⟨_, PSs.nox ((pss_one (ps_ret (pe_lst (pa_cons (pe_slice sl_list (pv 0) po_none (po_some pe_int)) (pa_cons pe_int (pa_cons pe_int (pa_cons pe_int pa_nil)))))))), ?_⟩
    refine ⟨_, rfl, _, rfl, a, _, rfl, hs, fun l hn => ⟨by show 4 ≤ sizeLine; decide, fun t ht => ?_⟩⟩
    have e : cutV (ns.map V.int) none (some 63) = ns.map V.int := by
      unfold cutV
      rw [HT.sIx_none]
      have h1 : HT.sIx (ns.map V.int).length (ns.map V.int).length (some (63 : Int)) = min 63 (ns.map V.int).length := HT.sIx_nat _ _ 63
      rw [h1, List.drop_zero, List.length_map]
      exact List.take_of_length_le (by rw [List.length_map]; omega)
    rw [e] at ht ⊢
    have nlt : l ≠ t := ne_of_none upd_same ht
    refine q t l _ ((same_new hn).trans (same_new ht)) ((same_new hn).free ht) hn ⟨ns, 0, 0, 0, upd_same, ?_, nlt, hl, by decide, by decide, by decide⟩
    rw [upd_ne nlt, upd_same]

def spDraw : Sp := fun vs H Q _ => ∃ (t l : Addr) (m c : Int), vs = [.ref t, .int m] ∧ TpAt H t l c ∧ 0 < m ∧ m < 1073741824 ∧ c ≤ 1000000 ∧ ∀ r H', 0 ≤ r → r < m → Kp [t] H H' → TK H H' → TpAt H' t l (c + 1) → Q (.int r) H'
theorem set4 {a b c d x : V} : ([a, b, c, d].set 3 x = [a, b, c, x]) ∧ ([a, b, c, d].set 2 x = [a, b, x, d]) ∧ ([a, b, c, d].set 1 x = [a, x, c, d]) := ⟨rfl, rfl, rfl⟩
theorem ix40 {a b c d : V} : atI [a, b, c, d] (0 : Int) = some a ∧ atI [a, b, c, d] (1 : Int) = some b ∧ atI [a, b, c, d] (2 : Int) = some c ∧ atI [a, b, c, d] (3 : Int) = some d := ⟨rfl, rfl, rfl, rfl⟩
theorem gd_ints (ns : List Int) : Gd 1 (.list (ns.map .int)) := by
  have h := gd_all (n := 0) (ds := ns.map PyData.int) fun d hd => by
    obtain ⟨i, _, rfl⟩ := List.mem_map.mp hd
    exact gd_int i
  exact ⟨h.1, Nat.succ_le_succ h.2⟩
theorem dp_ints {H : Hp} {a : Addr} {ns : List Int} (h : H a = some (.lst (ns.map V.int))) : Dp K H (.ref a) (.list (ns.map .int)) := by
  refine .lst (SqL.of h) ?_
  have go : ∀ l : List Int, DpAll K H (l.map V.int) (l.map PyData.int) := fun l => by
    induction l with
    | nil => exact .nil
    | cons i l ih => exact .cons (.int i) ih
  exact go ns
theorem dp_nil {H : Hp} {a : Addr} (h : H a = some (.lst [])) : Dp K H (.ref a) (.list []) := .lst (SqL.of h) .nil
theorem gd_nil : Gd 1 (.list []) := ⟨rfl, Nat.le_refl _⟩

theorem ok_law_draw (T : Tx K mg) : FnOk P w K mg base CX0 1 T.a_law_draw T.d_law_draw p_law_draw spDraw := by
  refine T.law_draw.F.ok sc_law_draw (fun vs H Q E h => ?_) (fun cdv A outer s H vs Q E hr h => ?_)
  · obtain ⟨t, l, m, c, rfl, _⟩ := h
    rfl
  · obtain ⟨t, l, m, c, rfl, ⟨ns, a, d, n, h1, h2, hne, hl, ha, hn, hc⟩, hm, hm2, hcc, q⟩ := h
    refine ⟨_, PSs.nox ((pss_cons (ps_set (i := 2) sc_law_draw.nd rfl (Or.inl rfl) (pe_op op_add (pe_ix ix_list (pv 0) pe_int (fun _ _ => rfl)) pe_int))
      (pss_cons (ps_asg (pv 2) (pg_sub (pv 0) pe_int set_list))
      (pss_cons (ps_if (pt_cmpR op_gt (pe_ix ix_list (pv 0) pe_int (fun _ _ => rfl)) pe_int (nomark _))
        (pss_cons (ps_set (i := 3) sc_law_draw.nd rfl (Or.inl rfl) (pe_op op_mod (pe_ix ix_list (pv 0) pe_int (fun _ _ => rfl)) (pv 1)))
        (pss_cons (ps_asg (pe_op op_fdiv (pe_ix ix_list (pv 0) pe_int (fun _ _ => rfl)) (pv 1)) (pg_sub (pv 0) pe_int set_list))
        (pss_one (ps_ret (pv 3)))))
        pss_nil)
      (pss_cons (ps_set (i := 4) sc_law_draw.nd rfl (Or.inl rfl) (pe_ix ix_list (pv 0) pe_int (fun _ _ => rfl)))
      (pss_cons (ps_asg (pe_op op_add (pv 4) pe_int) (pg_sub (pv 0) pe_int set_list))
      (pss_cons (ps_set (i := 5) sc_law_draw.nd rfl (Or.inl rfl) (pe_ifExp (pt_cmpR (op_neD hr.units) (pe_ix ix_list (pv 0) pe_int (fun _ _ => rfl)) (pe_lst pa_nil) (nomark _)) (pe_ix ix_list (pe_ix ix_list (pv 0) pe_int (fun _ _ => rfl)) (pe_op op_mod (pv 4) (pe_callB call_len_seq (by rfl) T.blen (by decide +kernel) (pa_cons (pe_ix ix_list (pv 0) pe_int (fun _ _ => rfl)) pa_nil))) (fun _ _ => rfl)) pe_int))
      (pss_cons (ps_if (PW.pt (pw_and (pt_cmpR op_ge (pv 5) (pe_op op_pow pe_int pe_int) (nomark _)) (pw_and1 (pt_cmpR op_lt (pv 4) (pe_callB call_len_seq (by rfl) T.blen (by decide +kernel) (pa_cons (pe_ix ix_list (pv 0) pe_int (fun _ _ => rfl)) pa_nil)) (nomark _)))))
        (pss_cons (ps_asg (pe_op op_fdiv (pv 5) (pv 1)) (pg_sub (pv 0) pe_int set_list))
        (pss_one (ps_ret (pe_op op_mod (pv 5) (pv 1)))))
        pss_nil)
      (pss_cons (ps_set (i := 6) sc_law_draw.nd rfl (Or.inl rfl) (pe_op op_mod (pe_op op_pow (pe_op op_add (pe_op op_add (pe_op op_mod (pv 5) pe_int) (pe_op op_mul pe_int (pv 2))) pe_int) pe_int) pe_int))
      (pss_one (ps_ret (pe_op op_mod (pe_op op_fdiv (pe_op op_mod (pe_op op_pow (pe_op op_add (pv 6) (pe_op op_mul pe_int (pv 2))) pe_int) pe_int) pe_int) (pv 1))))))))))))), ?_⟩
    -- turn = tape[3] + 1; tape[3] = turn
    refine ⟨_, rfl, _, _, _, _, rfl, rfl, SqL.of h1, ix40.2.2.2, _, _, rfl, rfl, ?_⟩
    refine ⟨_, rfl, _, rfl, _, _, _, _, rfl, rfl, h1, rfl, ?_⟩
    refine habs (Ψ := fun H1 : Hp => H1 t = some (.lst [.ref l, .int a, .int d, .int (n + 1)]) ∧ H1 l = some (.lst (ns.map V.int)) ∧ Kp [t] H H1)
      ⟨upd_same, (by rw [upd_ne hne]; exact h2), Kp.upd (List.mem_singleton.mpr rfl)⟩ (fun H1 ⟨g1, g2, k1⟩ => ?_)
    -- if tape[2] > 0
    refine ⟨_, rfl, _, _, _, _, rfl, rfl, SqL.of g1, ix40.2.2.1, _, _, rfl, rfl, _, rfl, ?_⟩
    have fin : ∀ (a2 d2 r : Int) (H2 : Hp), 0 ≤ a2 → 0 ≤ r → r < m → Kp [t] H H2 → H2 t = some (.lst [.ref l, .int a2, .int d2, .int (n + 1)]) → H2 l = some (.lst (ns.map V.int)) → Q (.int r) H2 :=
      fun a2 d2 r H2 ha2 hr0 hr1 k2 e1 e2 => q r H2 hr0 hr1 k2 (k2.tk1 h1) ⟨ns, a2, d2, n + 1, e1, e2, hne, hl, ha2, by omega, by omega⟩
    refine ite2 (fun _ => ?_) (fun _ => ?_)
    · refine ⟨_, rfl, _, _, _, _, rfl, rfl, SqL.of g1, ix40.2.2.1, _, rfl, _, _, rfl, rfl, hm, ?_⟩
      refine ⟨_, rfl, _, _, _, _, rfl, rfl, SqL.of g1, ix40.2.2.1, _, rfl, _, _, rfl, rfl, ⟨hm, hm2⟩, _, rfl, _, _, _, _, rfl, rfl, g1, rfl, ?_⟩
      refine ⟨_, rfl, ?_⟩
      refine fin a (d / m) _ _ ha (Int.emod_nonneg _ (by omega)) (Int.emod_lt_of_pos _ hm) (k1.trans (Kp.upd (List.mem_singleton.mpr rfl))) upd_same ?_
      rw [upd_ne hne]
      exact g2
    · -- at = tape[1]; tape[1] = at + 1
      refine ⟨_, rfl, _, _, _, _, rfl, rfl, SqL.of g1, ix40.2.1, ?_⟩
      refine ⟨_, rfl, _, _, rfl, rfl, _, rfl, _, _, _, _, rfl, rfl, g1, rfl, ?_⟩
      refine habs (Ψ := fun H1 : Hp => H1 t = some (.lst [.ref l, .int (a + 1), .int d, .int (n + 1)]) ∧ H1 l = some (.lst (ns.map V.int)) ∧ Kp [t] H H1)
        ⟨upd_same, (by rw [upd_ne hne]; exact g2), k1.trans (Kp.upd (List.mem_singleton.mpr rfl))⟩ (fun H2 ⟨f1, f2, k2⟩ => ?_)
      -- the cell
      refine ⟨_, rfl, _, _, _, _, rfl, rfl, SqL.of f1, ix40.1, by show 0 ≤ sizeLine; decide, fun p hp => ?_⟩
      have f1' := same_new (o := .lst []) hp _ _ f1
      have f2' := same_new (o := .lst []) hp _ _ f2
      have k3 : Kp [t] H (upd H2 p (.lst [])) := k2.trans (Kp.of (same_new hp))
      refine ⟨_, _, dp_ints f2', dp_nil upd_same, (gd_ints ns).shaped (by decide), gd_nil.shaped (by decide), _, rfl, ?_⟩
      refine if_int (H := upd H2 p (.lst [])) (fun cell => ?_) (fun hc rest => ?_) (fun _ rest => rest 10)
      · -- if cell >= 10 ** 18 and at < len(tape[0])
        generalize upd H2 p (.lst []) = H3 at f1' f2' k3 ⊢
        refine ⟨_, rfl, _, _, rfl, rfl, ⟨by decide, by decide, by decide⟩, _, _, rfl, rfl, _, rfl, ?_⟩
        have last : ∀ x : Int, Q (.int (x % m)) H3 := fun x => fin (a + 1) d _ H3 (by omega) (Int.emod_nonneg _ (by omega)) (Int.emod_lt_of_pos _ hm) k3 f1' f2'
        refine and_two (H := H3) (itN (by decide) ?_) (fun _ hf => ?_)
        · -- mixed
          have z0 := Int.emod_nonneg cell (show (1000099 : Int) ≠ 0 by decide)
          have z1 := Int.emod_lt_of_pos cell (show (0 : Int) < 1000099 by decide)
          refine ⟨_, rfl, _, _, rfl, rfl, (by show (0 : Int) < 1000099; decide), _, rfl, _, _, rfl, rfl, .inl ⟨by decide, by decide⟩, _, _, rfl, rfl, _, _, rfl, rfl, _, _, rfl, rfl,
            ⟨by decide, by decide, ?_⟩, _, _, rfl, rfl, (by show (0 : Int) < 2147483647; decide), ?_⟩
          · show (cell % 1000099 + 5309 * (n + 1) + 53).natAbs < 2 ^ 64
            omega
          · have y0 := Int.emod_nonneg ((cell % 1000099 + 5309 * (n + 1) + 53) ^ 5) (show (2147483647 : Int) ≠ 0 by decide)
            have y1 := Int.emod_lt_of_pos ((cell % 1000099 + 5309 * (n + 1) + 53) ^ 5) (show (0 : Int) < 2147483647 by decide)
            refine ⟨_, rfl, _, rfl, _, _, rfl, rfl, .inl ⟨by decide, by decide⟩, _, _, rfl, rfl, _, _, rfl, rfl, ⟨by decide, by decide, ?_⟩, _, _, rfl, rfl, (by show (0 : Int) < 2147483587; decide),
              _, _, rfl, rfl, ⟨by decide, by decide⟩, _, rfl, _, _, rfl, rfl, hm, last _⟩
            show ((cell % 1000099 + 5309 * (n + 1) + 53) ^ 5 % 2147483647 + 90001 * (n + 1)).natAbs < 2 ^ 64
            generalize (cell % 1000099 + 5309 * (n + 1) + 53) ^ 5 % 2147483647 = y at *
            omega
        · refine ⟨_, rfl, _, rfl, _, _, _, _, rfl, rfl, SqL.of f1', ix40.1, _, _, rfl, .inl (SqL.of f2'), _, _, rfl, rfl, _, rfl, ?_⟩
          generalize decide (a < _) = b
          cases b with
          | false => exact hf
          | true =>
            refine itP rfl ⟨_, rfl, _, rfl, _, _, rfl, rfl, ⟨hm, hm2⟩, _, rfl, _, _, _, _, rfl, rfl, f1', rfl, _, rfl, _, rfl, _, _, rfl, rfl, hm, ?_⟩
            refine fin (a + 1) (cell / m) _ _ (by omega) (Int.emod_nonneg _ (by omega)) (Int.emod_lt_of_pos _ hm) (k3.trans (Kp.upd (List.mem_singleton.mpr rfl))) upd_same ?_
            rw [upd_ne hne]
            exact f2'
      · -- tape[0][at % len(tape[0])]
        have hne2 : ns ≠ [] := fun z => by
          subst z
          exact absurd hc (by decide)
        have hlen : 0 < ns.length := List.length_pos_iff.mpr hne2
        have e0 := Int.emod_nonneg a (show (ns.length : Int) ≠ 0 by omega)
        have e1 := Int.emod_lt_of_pos a (show (0 : Int) < (ns.length : Int) by omega)
        obtain ⟨j, hj⟩ := Int.eq_ofNat_of_zero_le e0
        have hjl : j < ns.length := by omega
        have ee : a % (((ns.map V.int).length : Nat) : Int) = (j : Int) := by rw [List.length_map]; exact hj
        refine ⟨_, rfl, _, _, _, _, rfl, rfl, SqL.of f1', ix40.1, _, rfl, _, rfl, _, _, _, _, rfl, rfl, SqL.of f1', ix40.1, _, _, rfl, .inl (SqL.of f2'), _, _, rfl, rfl, ?_, ?_⟩
        · show (0 : Int) < (((ns.map V.int).length : Nat) : Int)
          rw [List.length_map]
          omega
        · exact ⟨_, _, _, _, rfl, rfl, SqL.of f2', at_of (j := j) ee (by rw [List.getElem?_map, List.getElem?_eq_getElem hjl]; rfl), rest _⟩
end
end Lc
/-! The kept pairs' defs. -/
namespace Lc
open PySem PySem.Spec PyProof.Rows L2

theorem Fb.sm {N c : Int} {x : Fr} (h : Fb N c x) (hN : 0 < N) (hb : N ≤ 30000) : Sm x := ⟨h.1, by have := h.le hN; omega⟩
theorem Rt1.sm {r : Fr} (h : Rt1 r) : Sm r ∧ 0 < r.1 ∧ r.1 ≤ 30000 := by
  have h1 := Int.le_of_dvd (by decide) h.d4
  have h2 := Int.le_of_dvd (by decide) h.n30
  exact ⟨⟨h.d0, by omega⟩, h.n0, by omega⟩
/-- a dict of the houses' rates -/
def RtsAt (H : Hp) (d : Addr) (hs : List Hs) : Prop := ∃ kvs : List (Key × V), H d = some (.dK kvs) ∧ kvs.length ≤ hs.length ∧ ∀ h ∈ hs, ∃ p a b, valV kvs (.inr h.name) = some (.ref p) ∧ H p = some (.tup [a, b]) ∧ FrAt H a h.slow ∧ FrAt H b h.fast
def spRates : Sp := fun vs H Q _ => ∃ v f, vs = [v] ∧ FdAt H v f ∧ f.names.Nodup ∧ f.houses.length ≤ 6 ∧ ∀ d H', Same H H' → H d = none → RtsAt H' d f.houses → Q (.ref d) H'
/-- what an event goes on from -/
def NxAt (H : Hp) (v : V) (x : Nat × Fr × Option Fr) : Prop := ∃ p a b, v = .ref p ∧ H p = some (.tup [.int x.1, a, b]) ∧ FrAt H a x.2.1 ∧ OFrAt H b x.2.2
theorem NxAt.tk {H H' : Hp} {v : V} {x : Nat × Fr × Option Fr} (h : NxAt H v x) (k : TK H H') : NxAt H' v x := let ⟨p, a, b, e, hp, ha, hb⟩ := h; ⟨p, a, b, e, k _ _ hp, ha.tk k, hb.tk k⟩
def spNexts : Sp := fun vs H Q _ => ∃ (v : V) (f : Fd) (es : List Ev) (k : Nat) (e : Ev), vs = [v, .int k] ∧ HyAt H v f es ∧ FOk f ∧ es[k]? = some e ∧ es.length ≤ 40 ∧ (∀ j e', j < k → es[j]? = some e' → Fb 4 300 e'.stamp) ∧ EvOk f (es.take k) e ∧
  ∀ l xs H', Same H H' → H l = none → H' l = some (.lst xs) → Paired (NxAt H') xs (nextsF f (es.take k) e) → Q (.ref l) H'
def spMoved : Sp := fun vs H Q _ => ∃ v u a b, vs = [v, u] ∧ OFrAt H v a ∧ OFrAt H u b ∧ (∀ x, a = some x → Sm x) ∧ (∀ x, b = some x → Sm x) ∧ ∀ z H', Same H H' → OFrAt H' z (movedF a b) → Q z H'
def spPick (g : Option Fr → Option Fr → Option Fr) : Sp := fun vs H Q _ => ∃ v u a b, vs = [v, u] ∧ OFrAt H v a ∧ OFrAt H u b ∧ (∀ x, a = some x → Sm x) ∧ (∀ x, b = some x → Sm x) ∧ ∀ z, OFrAt H z (g a b) → Q z H
theorem ofr_none {H : Hp} {v : V} {a : Option Fr} (h : OFrAt H v a) : decide (v = .non) = a.isNone := by
  cases a with
  | none =>
    cases (show v = .non from h)
    rfl
  | some x =>
    obtain ⟨p, rfl, _⟩ := h
    rfl

section
variable {P : Program} {w : World} {K : PySem.W.Frag} {mg : Str → Option Value} {base : Heap}

theorem ok_rates (T : Tx K mg) : FnOk P w K mg base CX0 1 T.a_rates T.d_rates p_rates spRates := by
  refine T.rates.F.ok sc_rates (fun vs H Q E h => ?_) (fun cdv A outer s H vs Q E hr h => ?_)
  · obtain ⟨v, f, rfl, _⟩ := h
    rfl
  · obtain ⟨v, f, rfl, ⟨p, hp, lp, hs, ls, rfl, e0, e1, e2, e3, e4⟩, nd, few, q⟩ := h
    refine ⟨_, PSs.nox ((pss_one (ps_ret (pe_dc (own := [("name", 1), ("slow", 2), ("fast", 3)]) (g := gTup K 3 (gCons (gName 1) (gCons (gName 2) (gCons (gName 3) gNil)))) rfl sc_rates.nd (pi_tup (pe_ix ix_tup (pv 0) pe_int (fun _ _ => rfl))) (blkOk_by (N := n_rates) (sc := (defScope s_rates)) (by decide +kernel)) (fun _ _ _ _ _ => pg_tup rfl (pgs_cons (pg_name (i := 1) sc_rates.nd rfl (Or.inl rfl) (Or.inr rfl)) (pgs_cons (pg_name (i := 2) sc_rates.nd rfl (Or.inl rfl) (Or.inr rfl)) (pgs_cons (pg_name (i := 3) sc_rates.nd rfl (Or.inl rfl) (Or.inr rfl)) pgs_nil)))) (fun _ _ _ _ _ => pts_nil) (fun _ _ _ _ _ => (pv 1)) (fun _ _ _ _ _ => (pe_tup (pa_cons (pv 2) (pa_cons (pv 3) pa_nil)))))))), ?_⟩
    have hlen := pr_len e2
    refine ⟨_, rfl, _, _, _, _, rfl, rfl, SqT.of e0, rfl, _, rfl, ⟨_, SqT.of e1⟩, fun D hD => ?_⟩
    have sD := same_new (o := .dK []) hD
    refine dc_tup (K := K) (a := hp) (xs := hs) (fun i H2 => Same H H2 ∧ ∃ kvs : List (Key × V), H2 D = some (.dK kvs) ∧ kvs.length ≤ i ∧ ∀ j h, j < i → f.houses[j]? = some h →
        ∃ p a b, valV kvs (.inr h.name) = some (.ref p) ∧ H2 p = some (.tup [a, b]) ∧ FrAt H2 a h.slow ∧ FrAt H2 b h.fast)
      ⟨sD, [], upd_same, Nat.le_refl _, fun j h hj _ => absurd hj (Nat.not_lt_zero _)⟩ (fun i H2 _ ⟨s2, _⟩ => SqT.of (s2 _ _ e1)) ?_ ?_
    · rintro i x H2 hi ⟨s2, kvs, g1, g2, g3⟩
      obtain ⟨h, eh, p1, a, b, rfl, r0, r1, r2⟩ := pr_get e2 hi
      have il : i < hs.length := (List.getElem?_eq_some_iff.mp hi).1
      have r0' := s2 _ _ r0
      refine ⟨_, _, rfl, SqT.of r0', rfl, _, _, rfl, _, _, rfl, _, _, rfl, rfl, rfl, ?_⟩
      refine ⟨_, rfl, _, rfl, _, rfl, by show 2 ≤ sizeLine; decide, fun t ht => ?_⟩
      have s3 := same_new (o := .tup [a, b]) ht
      have nDt : D ≠ t := ne_of_none g1 ht
      refine ⟨kvs, .inr h.name, rfl, s3 _ _ g1, small1000 (by omega), ?_⟩
      have s4 : Same H (upd (upd H2 t (.tup [a, b])) D (.dK (putK kvs (.inr h.name) (.ref t)))) := fun c o e => by
        rw [upd_ne (ne_of_none e hD)]
        exact s3 _ _ (s2 _ _ e)
      have tk : TK H2 (upd (upd H2 t (.tup [a, b])) D (.dK (putK kvs (.inr h.name) (.ref t)))) := fun c xs e => by
        rw [upd_ne (ne_of e g1 fun z => by cases z)]
        exact s3 _ _ e
      refine ⟨s4, _, upd_same, ?_, fun j h' hj eh' => ?_⟩
      · have : (putK kvs (.inr h.name : Key) (V.ref t)).length ≤ kvs.length + 1 := by
          unfold putK
          split
          · rw [List.length_map]; omega
          · rw [List.length_append]; exact Nat.le_refl _
        omega
      · rw [valV_put]
        by_cases ej : j = i
        · subst ej
          rw [eh] at eh'
          cases eh'
          refine ⟨t, a, b, if_pos rfl, ?_, r1.tk (.of s4), r2.tk (.of s4)⟩
          rw [upd_ne (fun z => nDt z.symm), upd_same]
        · have nn : ¬ ((.inr h'.name : Key) = .inr h.name) := fun z => by
            have z2 : h'.name = h.name := Sum.inr.inj z
            refine ej (nd_ix nd (x := h.name) ?_ ?_)
            · unfold Fd.names
              rw [List.getElem?_map, eh']
              exact congrArg some z2
            · unfold Fd.names
              rw [List.getElem?_map, eh]
              rfl
          obtain ⟨p2, a2, b2, w1, w2, w3, w4⟩ := g3 j h' (by omega) eh'
          exact ⟨p2, a2, b2, by rw [if_neg nn]; exact w1, tk _ _ w2, w3.tk tk, w4.tk tk⟩
    · rintro H2 ⟨s2, kvs, g1, g2, g3⟩
      refine q D H2 s2 hD ⟨kvs, g1, by omega, fun h hm => ?_⟩
      obtain ⟨j, hj, ej⟩ := List.getElem_of_mem hm
      exact g3 j h (by omega) (by rw [List.getElem?_eq_getElem hj, ej])

theorem ok_moved (T : Tx K mg) : FnOk P w K mg base CX0 4 T.a_moved T.d_moved p_moved spMoved := by
  refine T.moved.F.ok sc_moved (fun vs H Q E h => ?_) (fun cdv A outer s H vs Q E hr h => ?_)
  · obtain ⟨v, u, a, b, rfl, _⟩ := h
    rfl
  · obtain ⟨v, u, a, b, rfl, ha, hb, sa, sb, q⟩ := h
    have hr3 : Room 3 _ := hr
    refine ⟨_, PSs.nox ((pss_one (ps_ret (pe_ifExp (PW.pt (pw_or (pt_cmpR op_isN (pv 0) pe_non (nomark _)) (pw_or1 (pt_cmpR op_isN (pv 1) pe_non (nomark _))))) pe_non (pe_call (ok_added T) hr3 rfl T.added.m T.added.F.kp T.added.b .nil pass0 (pa_cons (pv 0) (pa_cons (pv 1) pa_nil))))))), ?_⟩
    refine ⟨_, rfl, rfl, _, rfl, ?_⟩
    rw [ofr_none ha]
    cases a with
    | none => exact itP rfl (itP rfl (q _ _ (Same.refl _) rfl))
    | some x =>
      refine itN Bool.false_ne_true ⟨_, rfl, rfl, _, rfl, ?_⟩
      rw [ofr_none hb]
      cases b with
      | none => exact itP rfl (q _ _ (Same.refl _) rfl)
      | some y => exact itN Bool.false_ne_true ⟨_, rfl, _, rfl, v, u, x, y, rfl, ha, hb, ⟨sa x rfl, sb y rfl⟩, fun z H' s' f' => q z H' s' f'⟩
theorem ok_greater_low (T : Tx K mg) : FnOk P w K mg base CX0 2 T.a_greater_low T.d_greater_low p_greater_low (spPick grLow) := by
  refine T.greater_low.F.ok sc_greater_low (fun vs H Q E h => ?_) (fun cdv A outer s H vs Q E hr h => ?_)
  · obtain ⟨v, u, a, b, rfl, _⟩ := h
    rfl
  · obtain ⟨v, u, a, b, rfl, ha, hb, sa, sb, q⟩ := h
    have hr1 : Room 1 _ := hr
    refine ⟨_, PSs.nox ((pss_cons (ps_if (PW.pt (pw_or (pt_cmpR op_isN (pv 0) pe_non (nomark _)) (pw_or1 (pt_cmpR op_isN (pv 1) pe_non (nomark _)))))
        (pss_one (ps_ret (pe_ifExp (pt_cmpR op_isN (pv 0) pe_non (nomark _)) (pv 1) (pv 0))))
        pss_nil)
      (pss_one (ps_ret (pe_ifExp (pt_val (pe_call (ok_is_below T) hr1 rfl T.is_below.m T.is_below.F.kp T.is_below.b .nil pass0 (pa_cons (pv 0) (pa_cons (pv 1) pa_nil)))) (pv 1) (pv 0)))))), ?_⟩
    refine ⟨_, rfl, rfl, _, rfl, ?_⟩
    rw [ofr_none ha]
    cases a with
    | none =>
      refine itP rfl (itP rfl ⟨_, rfl, rfl, _, rfl, ?_⟩)
      rw [ofr_none ha]
      exact itP rfl ⟨_, rfl, q _ hb⟩
    | some x =>
      refine itN Bool.false_ne_true ⟨_, rfl, rfl, _, rfl, ?_⟩
      rw [ofr_none hb]
      cases b with
      | none =>
        refine itP rfl ⟨_, rfl, rfl, _, rfl, ?_⟩
        rw [ofr_none ha]
        exact itN Bool.false_ne_true ⟨_, rfl, q _ ha⟩
      | some y =>
        refine itN Bool.false_ne_true ⟨_, rfl, _, rfl, v, u, x, y, rfl, ha, hb, ⟨sa x rfl, sb y rfl⟩, _, rfl, ?_⟩
        have q2 : ∀ z, OFrAt H z (some (if ltF x y then y else x)) → Q z H := q
        cases e : ltF x y with
        | true =>
          rw [e] at q2
          exact itP rfl ⟨_, rfl, q2 _ hb⟩
        | false =>
          rw [e] at q2
          exact itN Bool.false_ne_true ⟨_, rfl, q2 _ ha⟩
theorem ok_lesser_high (T : Tx K mg) : FnOk P w K mg base CX0 2 T.a_lesser_high T.d_lesser_high p_lesser_high (spPick lsHigh) := by
  refine T.lesser_high.F.ok sc_lesser_high (fun vs H Q E h => ?_) (fun cdv A outer s H vs Q E hr h => ?_)
  · obtain ⟨v, u, a, b, rfl, _⟩ := h
    rfl
  · obtain ⟨v, u, a, b, rfl, ha, hb, sa, sb, q⟩ := h
    have hr1 : Room 1 _ := hr
    refine ⟨_, PSs.nox ((pss_cons (ps_if (PW.pt (pw_or (pt_cmpR op_isN (pv 0) pe_non (nomark _)) (pw_or1 (pt_cmpR op_isN (pv 1) pe_non (nomark _)))))
        (pss_one (ps_ret (pe_ifExp (pt_cmpR op_isN (pv 0) pe_non (nomark _)) (pv 1) (pv 0))))
        pss_nil)
      (pss_one (ps_ret (pe_ifExp (pt_val (pe_call (ok_is_below T) hr1 rfl T.is_below.m T.is_below.F.kp T.is_below.b .nil pass0 (pa_cons (pv 1) (pa_cons (pv 0) pa_nil)))) (pv 1) (pv 0)))))), ?_⟩
    refine ⟨_, rfl, rfl, _, rfl, ?_⟩
    rw [ofr_none ha]
    cases a with
    | none =>
      refine itP rfl (itP rfl ⟨_, rfl, rfl, _, rfl, ?_⟩)
      rw [ofr_none ha]
      exact itP rfl ⟨_, rfl, q _ hb⟩
    | some x =>
      refine itN Bool.false_ne_true ⟨_, rfl, rfl, _, rfl, ?_⟩
      rw [ofr_none hb]
      cases b with
      | none =>
        refine itP rfl ⟨_, rfl, rfl, _, rfl, ?_⟩
        rw [ofr_none ha]
        exact itN Bool.false_ne_true ⟨_, rfl, q _ ha⟩
      | some y =>
        refine itN Bool.false_ne_true ⟨_, rfl, _, rfl, u, v, y, x, rfl, hb, ha, ⟨sb y rfl, sa x rfl⟩, _, rfl, ?_⟩
        have q2 : ∀ z, OFrAt H z (some (if ltF y x then y else x)) → Q z H := q
        cases e : ltF y x with
        | true =>
          rw [e] at q2
          exact itP rfl ⟨_, rfl, q2 _ hb⟩
        | false =>
          rw [e] at q2
          exact itN Bool.false_ne_true ⟨_, rfl, q2 _ ha⟩
end
end Lc
/-! The kept pairs' defs, further. -/
namespace Lc
open PySem PySem.Spec PyProof.Rows L2
section
variable {P : Program} {w : World} {K : PySem.W.Frag} {mg : Str → Option Value} {base : Heap}

theorem dget_of {H : Hp} {d : Addr} {kvs : List (Key × V)} {n : Str} {v : V} (h : H d = some (.dK kvs)) (e : valV kvs (.inr n) = some v) : DGet H d (.str n) (some v) := by
  have z := DGet.k (k := (.inr n : Key)) h
  rw [e] at z
  exact z

theorem ok_nexts_of (T : Tx K mg) : FnOk P w K mg base CX0 4 T.a_nexts_of T.d_nexts_of p_nexts_of spNexts := by
  refine T.nexts_of.F.ok sc_nexts_of (fun vs H Q E h => ?_) (fun cdv A outer s H vs Q E hr h => ?_)
  · obtain ⟨v, f, es, k, e, rfl, _⟩ := h
    rfl
  · obtain ⟨v, f, es, k, e, rfl, ⟨p, fv, ep, evs, rfl, e0, hf, e1, e2⟩, fok, hk, hlen, hst, eok, q⟩ := h
    have hu := hu_of hr
    have hr1 : Room 1 _ := hr.mono (by decide)
    have hr3 : Room 3 _ := hr
    refine ⟨_, PSs.nox ((pss_cons (ps_asg (pv 0) (pg_tup rfl (pgs_cons (pg_name (i := 2) sc_nexts_of.nd rfl (Or.inl rfl)) (pgs_cons (pg_name (i := 3) sc_nexts_of.nd rfl (Or.inl rfl)) pgs_nil))))
      (pss_cons (ps_asg (pe_ix ix_tup (pv 3) (pv 1) (fun _ _ => rfl)) (pg_tup rfl (pgs_cons (pg_name (i := 4) sc_nexts_of.nd rfl (Or.inl rfl)) (pgs_cons (pg_name (i := 5) sc_nexts_of.nd rfl (Or.inl rfl)) (pgs_cons (pg_name (i := 6) sc_nexts_of.nd rfl (Or.inl rfl)) pgs_nil)))))
      (pss_cons (ps_asg (pe_dget hu (pe_call (ok_rates T) hr1 rfl T.rates.m T.rates.F.kp T.rates.b .nil pass0 (pa_cons (pv 2) pa_nil)) (pv 4) (fun _ _ => rfl)) (pg_tup rfl (pgs_cons (pg_name (i := 7) sc_nexts_of.nd rfl (Or.inl rfl)) (pgs_cons (pg_name (i := 8) sc_nexts_of.nd rfl (Or.inl rfl)) pgs_nil))))
      (pss_cons (ps_set (i := 9) sc_nexts_of.nd rfl (Or.inl rfl) (pe_lst pa_nil))
      (pss_cons (ps_for PassesOwn.never rfl (pi_revR rfl T.breversed (prg_1 rfl T.brange (pv 1))) (pg_name (i := 10) sc_nexts_of.nd rfl (Or.inl rfl))
        (pss_one (ps_if (pt_cmpR op_eq (pe_ix ix_tup (pe_ix ix_tup (pv 3) (pv 10) (fun _ _ => rfl)) pe_int (fun _ _ => rfl)) (pv 4) (nomark _))
          (pss_cons (ps_set (i := 11) sc_nexts_of.nd rfl (Or.inl rfl) (pe_call (ok_less T) hr3 rfl T.less.m T.less.F.kp T.less.b .nil pass0 (pa_cons (pv 5) (pa_cons (pe_ix ix_tup (pe_ix ix_tup (pv 3) (pv 10) (fun _ _ => rfl)) pe_int (fun _ _ => rfl)) pa_nil))))
          (pss_cons (ps_expr (pe_bm PySem.F.plainAttrs_list PySem.F.slot_list_append PySem.F.type_list_append mt_append (pv 9) (pa_cons (pe_tup (pa_cons (pv 10) (pa_cons (pe_call (ok_parted T) hr3 rfl T.parted.m T.parted.F.kp T.parted.b .nil pass0 (pa_cons (pv 11) (pa_cons (pv 8) pa_nil))) (pa_cons (pe_call (ok_parted T) hr3 rfl T.parted.m T.parted.F.kp T.parted.b .nil pass0 (pa_cons (pv 11) (pa_cons (pv 7) pa_nil))) pa_nil)))) pa_nil)))
          (pss_one (ps_break))))
          pss_nil)))
      (pss_cons (ps_if (pt_cmpR op_eq (pe_ix ix_tup (pv 6) pe_int (fun _ _ => rfl)) pe_str (nomark _))
        (pss_cons (ps_set (i := 12) sc_nexts_of.nd rfl (Or.inl rfl) (pe_ix ix_tup (pe_ix ix_tup (pv 2) pe_int (fun _ _ => rfl)) (pe_ix ix_tup (pe_ix ix_tup (pe_ix ix_tup (pv 3) (pe_ix ix_tup (pv 6) pe_int (fun _ _ => rfl)) (fun _ _ => rfl)) pe_int (fun _ _ => rfl)) pe_int (fun _ _ => rfl)) (fun _ _ => rfl)))
        (pss_one (ps_expr (pe_bm PySem.F.plainAttrs_list PySem.F.slot_list_append PySem.F.type_list_append mt_append (pv 9) (pa_cons (pe_tup (pa_cons (pe_ix ix_tup (pv 6) pe_int (fun _ _ => rfl)) (pa_cons (pe_ix ix_tup (pv 12) pe_int (fun _ _ => rfl)) (pa_cons (pe_ix ix_tup (pv 12) pe_int (fun _ _ => rfl)) pa_nil)))) pa_nil)))))
        pss_nil)
      (pss_one (ps_ret (pv 9)))))))))), ?_⟩
    obtain ⟨x, hx, pe, sv, dv, rfl, v0, v1, v2⟩ := pr_get' e2 hk
    have hkl : k < es.length := (List.getElem?_eq_some_iff.mp hk).1
    -- field, events = history; house, stamp, deed = events[event]
    refine ⟨_, rfl, _, _, rfl, SqT.of e0, rfl, _, _, rfl, _, _, rfl, rfl, ?_⟩
    refine ⟨_, rfl, _, rfl, _, _, _, _, rfl, rfl, SqT.of e1, atI_nat hx, _, _, rfl, SqT.of v0, rfl, _, _, rfl, _, _, rfl, _, _, rfl, rfl, ?_⟩
    -- slow, fast = rates(field)[house]
    refine ⟨_, rfl, _, f, rfl, hf, fok.nd, fok.few, fun d H1 s1 nd1 rts => ?_⟩
    obtain ⟨kvs, r0, _, r1⟩ := rts
    obtain ⟨hm, hn⟩ := hsOf_at eok.hs
    obtain ⟨pr, sl, fa, w0, w1, w2, w3⟩ := r1 _ hm
    rw [hn] at w0
    refine ⟨_, rfl, _, _, rfl, dget_of r0 w0, _, _, rfl, SqT.of w1, rfl, _, _, rfl, _, _, rfl, rfl, ?_⟩
    obtain ⟨rt1, rt2⟩ := fok.rt _ hm
    generalize eqh : hsOf f e.house = hh at *
    -- found = []
    refine ⟨by show 0 ≤ sizeLine; decide, fun l hl => ?_⟩
    have hlH : H l = none := s1.free hl
    have sm0 : Sm e.stamp := eok.st.sm (by decide) (by decide)
    -- the loop
    refine ⟨_, rfl, _, rfl, by decide, by decide, by omega, by omega, ?_⟩
    refine for_rangeCP (fun i σ H2 => ∃ x10 : Option V, σ = [some (.ref p), some (.int k), some fv, some (.ref ep), some (.str e.house), some sv, some dv, some sl, some fa, some (.ref l), x10, none, none] ∧
        Kp [l] H1 H2 ∧ H2 l = some (.lst []) ∧ i ≤ k ∧ lastK es e.house (k - i) = lastK es e.house k)
      (fun σ H2 => ∃ (x10 x11 : Option V) (xs : List V), σ = [some (.ref p), some (.int k), some fv, some (.ref ep), some (.str e.house), some sv, some dv, some sl, some fa, some (.ref l), x10, x11, none] ∧
        Kp [l] H1 H2 ∧ TK H1 H2 ∧ H2 l = some (.lst xs) ∧ xs.length ≤ 1 ∧ Paired (NxAt H2) xs (goOn f (es.take k) e))
      ?_ ⟨none, rfl, Kp.upd (List.mem_singleton.mpr rfl), upd_same, Nat.zero_le _, rfl⟩ ?_ ?_
    · rintro σ H2 ⟨x10, x11, xs, rfl, k2, tk2, g1, gl, g2⟩
      have tkH : TK H H2 := (TK.of s1).trans tk2
      have sH : Same H H2 := same_of_kp ((Kp.of s1).trans k2) hlH
      obtain ⟨pd, rfl, d0⟩ := v2
      have d0' := tkH _ _ d0
      have e1' := tkH _ _ e1
      have fin : ∀ H3 ys, Same H H3 → H3 l = some (.lst ys) → Paired (NxAt H3) ys (goOn f (es.take k) e ++ hearOn f (es.take k) e) → Q (.ref l) H3 := fun H3 ys s3 e3 e4 => q l ys H3 s3 hlH e3 e4
      have dd := eok.dd
      cases hdd : e.deed with
      | mark =>
        rw [hdd] at d0'
        refine ⟨_, rfl, _, _, _, _, rfl, rfl, SqT.of d0', rfl, rfl, _, rfl, itN (by decide +kernel) ⟨_, rfl, fin H2 xs sH g1 ?_⟩⟩
        rw [show hearOn f (es.take k) e = [] by unfold hearOn; rw [hdd], List.append_nil]
        exact g2
      | send l' =>
        rw [hdd] at d0'
        refine ⟨_, rfl, _, _, _, _, rfl, rfl, SqT.of d0', rfl, rfl, _, rfl, itN (by decide +kernel) ⟨_, rfl, fin H2 xs sH g1 ?_⟩⟩
        rw [show hearOn f (es.take k) e = [] by unfold hearOn; rw [hdd], List.append_nil]
        exact g2
      | hear kk =>
        rw [hdd] at d0' dd
        obtain ⟨e', l', lk, h1, h2, h3, h4⟩ := dd
        have hkk : kk < k := by
          have := (List.getElem?_eq_some_iff.mp h1).1
          rw [List.length_take] at this
          omega
        rw [hearOn_hear hdd h1 h2 h3] at fin
        rw [List.getElem?_take_of_lt hkk] at h1
        obtain ⟨xk, hxk, pk, sk, dk, rfl, b0, b1, pdk, rfl, b2⟩ := pr_get' e2 h1
        rw [h2] at b2
        obtain ⟨fp, fhp, flp, fhs, fls, rfl, c0, c1, c2, c3, c4⟩ := hf
        obtain ⟨xl, hxl, pl, la, lb, rfl, l0, l1, l2⟩ := pr_get' c4 h3
        refine ⟨_, rfl, _, _, _, _, rfl, rfl, SqT.of d0', rfl, rfl, _, rfl, itP (by decide +kernel) ?_⟩
        -- link
        refine ⟨_, rfl, _, _, _, _, rfl, rfl, SqT.of (tkH _ _ c0), rfl, _, rfl, _, rfl, _, _, _, _, rfl, rfl, SqT.of d0', rfl, _, _, _, _, rfl, rfl, SqT.of e1', atI_nat hxk,
          _, _, _, _, rfl, rfl, SqT.of (tkH _ _ b0), rfl, _, _, _, _, rfl, rfl, SqT.of (tkH _ _ b2), rfl, _, _, _, _, rfl, rfl, SqT.of (tkH _ _ c3), atI_nat hxl, ?_⟩
        -- found.append
        refine ⟨_, rfl, .inl ⟨rfl, _, SqL.of g1⟩, _, rfl, _, _, _, _, rfl, rfl, SqT.of d0', rfl, _, rfl, _, _, _, _, rfl, rfl, SqT.of (tkH _ _ l0), rfl, _, rfl, _, _, _, _, rfl, rfl, SqT.of (tkH _ _ l0), rfl,
          by show 3 ≤ sizeLine; decide, fun t ht => ?_⟩
        have nlt : l ≠ t := ne_of_none g1 ht
        have sN := same_new (o := .tup [.int (kk : Int), la, lb]) ht
        have g1' := sN _ _ g1
        refine ⟨_, _, _, rfl, rfl, g1', small1000 (by omega), _, rfl, ?_⟩
        have tk3 : TK H2 (upd (upd H2 t (.tup [.int (kk : Int), la, lb])) l (.lst (xs ++ [.ref t]))) := (TK.of sN).trans (TK.lst g1')
        refine fin _ _ ?_ upd_same (pr_app (pr_mono (fun _ _ z => NxAt.tk z tk3) g2) (.cons ⟨t, la, lb, rfl, ?_, l1.tk (tkH.trans tk3), l2.tk (tkH.trans tk3)⟩ .nil))
        · exact fun b o eb => by
            rw [upd_ne (ne_of_none eb hlH)]
            exact sN _ _ (sH _ _ eb)
        · rw [upd_ne (fun z => nlt z.symm), upd_same]
    · rintro rest i σ H2 hi ⟨x10, rfl, k2, g1, hik, hl2⟩
      have hi2 : i < k := by omega
      have ej : (0 : Int) + ((((k : Nat) : Int) - 0).toNat : Nat) - 1 + ((i : Nat) : Int) * (-1) = ((k - 1 - i : Nat) : Int) := by omega
      have hj : k - 1 - i < es.length := by omega
      have hej : es[k - 1 - i]? = some es[k - 1 - i] := List.getElem?_eq_getElem hj
      obtain ⟨xj, hxj, pj, sj, dj, rfl, j0, j1, j2⟩ := pr_get' e2 hej
      have smj : Sm (es[k - 1 - i]).stamp := (hst _ _ (by omega) hej).sm (by decide) (by decide)
      have fbj := hst _ _ (by omega) hej
      have tkH : TK H H2 := (TK.of s1).trans (k2.tk fun a ha ys ea => by
        rw [List.mem_singleton.mp ha] at ea
        rw [hl] at ea
        cases ea)
      have kij : k - i = (k - 1 - i) + 1 := by omega
      generalize eqj : k - 1 - i = j at *
      generalize es[j] = evj at *
      refine ⟨_, rfl, _, rfl, _, _, _, _, rfl, rfl, SqT.of (tkH _ _ e1), at_of ej hxj, _, _, _, _, rfl, rfl, SqT.of (tkH _ _ j0), rfl, _, rfl, rfl, _, rfl, ite2 (fun hc => ?_) (fun hc => ?_)⟩
      · have heq : evj.house = e.house := V.str.inj (of_decide_eq_true hc)
        have hgo : goOn f (es.take k) e = [(j, divF (subF e.stamp evj.stamp) (hsOf f e.house).fast, some (divF (subF e.stamp evj.stamp) (hsOf f e.house).slow))] :=
          goOn_some (Nat.le_of_lt hkl) (by rw [← hl2, kij]; exact lastK_hit hej heq) hej
        rw [eqh] at hgo
        obtain ⟨sl0, fa0⟩ : (Sm hh.slow ∧ 0 < hh.slow.1 ∧ hh.slow.1 ≤ 30000) ∧ (Sm hh.fast ∧ 0 < hh.fast.1 ∧ hh.fast.1 ≤ 30000) := ⟨rt1.sm, rt2.sm⟩
        have fbw : Fb 4 600 (subF e.stamp evj.stamp) := fb_sub (by decide) eok.st fbj
        have smw := fbw.sm (by decide) (by decide)
        -- went
        refine ⟨_, rfl, _, rfl, _, rfl, _, _, _, _, rfl, rfl, SqT.of (tkH _ _ e1), at_of ej hxj, _, _, _, _, rfl, rfl, SqT.of (tkH _ _ j0), rfl, _, _, _, _, rfl, v1.tk tkH, j1.tk tkH, ⟨sm0, smj⟩, fun z3 H3 s3 f3 => ?_⟩
        -- found.append((elder, parted(went, fast), parted(went, slow)))
        refine ⟨_, rfl, .inl ⟨rfl, _, SqL.of (s3 _ _ g1)⟩, _, rfl, _, rfl, _, rfl, _, _, _, _, rfl, f3, w3.tk (k2.tk1' hl |>.trans (.of s3)), ⟨smw, fa0.1, fa0.2.1, fa0.2.2⟩, fun z4 H4 s4 f4 => ?_⟩
        refine ⟨_, rfl, _, rfl, _, _, _, _, rfl, f3.tk (.of s4), w2.tk ((k2.tk1' hl).trans ((TK.of s3).trans (.of s4))), ⟨smw, sl0.1, sl0.2.1, sl0.2.2⟩, fun z5 H5 s5 f5 => ⟨by show 3 ≤ sizeLine; decide, fun t ht => ?_⟩⟩
        have s35 : Same H2 H5 := (s3.trans s4).trans s5
        have g5 := s35 _ _ g1
        generalize ez : (0 : Int) + ((((k : Nat) : Int) - 0).toNat : Nat) - 1 + ((i : Nat) : Int) * (-1) = z at *
        have sN := same_new (o := .tup [.int z, z4, z5]) ht
        have g6 := sN _ _ g5
        have nlt : l ≠ t := ne_of_none g5 ht
        refine ⟨_, _, _, rfl, rfl, g6, by decide, ?_⟩
        have tkN : TK H5 (upd (upd H5 t (.tup [.int z, z4, z5])) l (.lst ([] ++ [.ref t]))) := (TK.of sN).trans (TK.lst g6)
        refine rest _ _ ⟨some (.int z), some z3, [.ref t], rfl, ?_, ?_, upd_same, Nat.le_refl _, ?_⟩
        · exact ((k2.trans (Kp.of s35)).trans (Kp.of sN)).trans (Kp.upd (List.mem_singleton.mpr rfl))
        · exact (k2.tk1' hl).trans ((TK.of s35).trans tkN)
        · rw [hgo]
          refine .cons ⟨t, z4, z5, rfl, ?_, f4.tk ((TK.of s5).trans tkN), FrAt.tk f5 tkN⟩ .nil
          rw [upd_ne (fun z => nlt z.symm), upd_same, ej]
      · have hne : evj.house ≠ e.house := fun z => hc (decide_eq_true (congrArg V.str z))
        refine ⟨_, rfl, k2, g1, hi2, ?_⟩
        rw [← hl2, kij, lastK_miss hej hne]
        congr 1
        omega
    · rintro σ H2 ⟨x10, rfl, k2, g1, hik, hl2⟩
      have tk2 : TK H1 H2 := k2.tk fun a ha ys ea => by
        rw [List.mem_singleton.mp ha] at ea
        rw [hl] at ea
        cases ea
      refine ⟨x10, none, [], rfl, k2, tk2, g1, by decide, ?_⟩
      have hz : lastK es e.house k = none := by
        rw [← hl2]
        have : k - (((k : Nat) : Int) - 0).toNat = 0 := by omega
        rw [this]
        rfl
      rw [goOn_none (Nat.le_of_lt hkl) hz]
      exact .nil
end
end Lc
/-! pair_of, kept_pairs. -/
namespace Lc
open PySem PySem.Spec PyProof.Rows L2
def spPairOf (K : PySem.W.Frag) : Sp := fun vs H Q _ => ∃ (v : V) (pl : Addr) (pss : List V) (f : Fd) (es : List Ev) (k : Nat) (e : Ev) (ps : List Pr) (c : Int), vs = [v, .int k, .ref pl] ∧ HyAt H v f es ∧ FOk f ∧ es[k]? = some e ∧ es.length ≤ 40 ∧
  (∀ j e', j < k → es[j]? = some e' → Fb 4 300 e'.stamp) ∧ EvOk f (es.take k) e ∧ H pl = some (.lst pss) ∧ Paired (PrAt H) pss ps ∧ k ≤ ps.length ∧ 0 ≤ c ∧ (∀ j, j < k → PrB c (prOf ps j)) ∧
  ∀ z H', Same H H' → PrAt H' z (pairF f (es.take k) e ps) → Q z H'
def spKeptPairs : Sp := fun vs H Q _ => ∃ (v : V) (f : Fd) (es : List Ev), vs = [v] ∧ HyAt H v f es ∧ FOk f ∧ es.length ≤ 40 ∧ HiOk f es ∧
  ∀ t xs H', Same H H' → H' t = some (.tup xs) → Paired (PrAt H') xs (pairsF f es es.length) → Q (.ref t) H'
theorem take_snoc {α : Type} {l : List α} {i : Nat} {x : α} (h : l[i]? = some x) : l.take (i + 1) = l.take i ++ [x] := by
  rw [List.take_succ, h]
  rfl
theorem prOf_at {ps : List Pr} {j : Nat} {q : Pr} (h : ps[j]? = some q) : prOf ps j = q := by
  unfold prOf
  rw [List.getD_eq_getElem?_getD, h]
  rfl
section
variable {P : Program} {w : World} {K : PySem.W.Frag} {mg : Str → Option Value} {base : Heap}
theorem ok_pair_of (T : Tx K mg) : FnOk P w K mg base CX0 5 T.a_pair_of T.d_pair_of p_pair_of (spPairOf K) := by
  refine T.pair_of.F.ok sc_pair_of (fun vs H Q E h => ?_) (fun cdv A outer s H vs Q E hr h => ?_)
  · obtain ⟨v, pl, pss, f, es, k, e, ps, c, rfl, _⟩ := h
    rfl
  · obtain ⟨v, pl, pss, f, es, k, e, ps, c, rfl, hy, fok, hk, hlen, hst, eok, hpl, hps, hkl, hc, hb, q⟩ := h
    have hr2 : Room 2 _ := hr.mono (by decide)
    have hr4 : Room 4 _ := hr
    refine ⟨_, PSs.nox ((pss_cons (ps_asg (pe_ix ix_tup (pe_ix ix_tup (pv 0) pe_int (fun _ _ => rfl)) (pv 1) (fun _ _ => rfl)) (pg_tup rfl (pgs_cons (pg_name (i := 3) sc_pair_of.nd rfl (Or.inl rfl)) (pgs_cons (pg_name (i := 4) sc_pair_of.nd rfl (Or.inl rfl)) (pgs_cons (pg_name (i := 5) sc_pair_of.nd rfl (Or.inl rfl)) pgs_nil)))))
      (pss_cons (ps_if (pt_cmpR op_eq (pv 3) (pe_ix ix_tup (pe_ix ix_tup (pv 0) pe_int (fun _ _ => rfl)) pe_int (fun _ _ => rfl)) (nomark _))
        (pss_one (ps_ret (pe_tup (pa_cons (pv 4) (pa_cons (pv 4) pa_nil)))))
        pss_nil)
      (pss_cons (ps_asg2 pe_non (pg_name (i := 6) sc_pair_of.nd rfl (Or.inl rfl)) (pg_name (i := 7) sc_pair_of.nd rfl (Or.inl rfl)))
      (pss_cons (ps_for PassesOwn.never rfl (pi_list (pe_call (ok_nexts_of T) hr4 rfl T.nexts_of.m T.nexts_of.F.kp T.nexts_of.b .nil pass0 (pa_cons (pv 0) (pa_cons (pv 1) pa_nil)))) (pg_tup rfl (pgs_cons (pg_name (i := 8) sc_pair_of.nd rfl (Or.inl rfl)) (pgs_cons (pg_name (i := 9) sc_pair_of.nd rfl (Or.inl rfl)) (pgs_cons (pg_name (i := 10) sc_pair_of.nd rfl (Or.inl rfl)) pgs_nil))))
        (pss_cons (ps_set (i := 6) sc_pair_of.nd rfl (Or.inl rfl) (pe_call (ok_greater_low T) hr2 rfl T.greater_low.m T.greater_low.F.kp T.greater_low.b .nil pass0 (pa_cons (pv 6) (pa_cons (pe_call (ok_moved T) hr4 rfl T.moved.m T.moved.F.kp T.moved.b .nil pass0 (pa_cons (pe_ix ix_tup (pe_ix ix_list (pv 2) (pv 8) (fun _ _ => rfl)) (pe_glob (v := V.int 0) rfl T.mLOW ⟨_, rfl⟩) (fun _ _ => rfl)) (pa_cons (pv 9) pa_nil))) pa_nil))))
        (pss_one (ps_set (i := 7) sc_pair_of.nd rfl (Or.inl rfl) (pe_call (ok_lesser_high T) hr2 rfl T.lesser_high.m T.lesser_high.F.kp T.lesser_high.b .nil pass0 (pa_cons (pv 7) (pa_cons (pe_call (ok_moved T) hr4 rfl T.moved.m T.moved.F.kp T.moved.b .nil pass0 (pa_cons (pe_ix ix_tup (pe_ix ix_list (pv 2) (pv 8) (fun _ _ => rfl)) (pe_glob (v := V.int 1) rfl T.mHIGH ⟨_, rfl⟩) (fun _ _ => rfl)) (pa_cons (pv 10) pa_nil))) pa_nil)))))))
      (pss_one (ps_ret (pe_tup (pa_cons (pv 6) (pa_cons (pv 7) pa_nil)))))))))), ?_⟩
    obtain ⟨p, fv, ep, evs, rfl, e0, hf, e1, e2⟩ := id hy
    obtain ⟨fp, fhp, flp, fhs, fls, rfl, c0, c1, c2, c3, c4⟩ := id hf
    obtain ⟨x, hx, pe, sv, dv, rfl, v0, v1, v2⟩ := pr_get' e2 hk
    have hkl2 : k < es.length := (List.getElem?_eq_some_iff.mp hk).1
    -- house, stamp, deed = history[1][event]
    refine ⟨_, rfl, _, _, _, _, rfl, rfl, SqT.of e0, rfl, _, rfl, _, _, _, _, rfl, rfl, SqT.of e1, atI_nat hx, _, _, rfl, SqT.of v0, rfl, _, _, rfl, _, _, rfl, _, _, rfl, rfl, ?_⟩
    -- if house == history[0][2]
    refine ⟨_, rfl, _, rfl, _, _, _, _, rfl, rfl, SqT.of e0, rfl, _, _, _, _, rfl, rfl, SqT.of c0, rfl, rfl, _, rfl, ?_⟩
    refine ite2 (fun hs => ?_) (fun hs => ?_)
    · have heq : e.house = f.source := V.str.inj (of_decide_eq_true hs)
      refine ⟨_, rfl, _, rfl, by show 2 ≤ sizeLine; decide, fun t ht => q _ _ (same_new ht) ?_⟩
      unfold pairF
      rw [if_pos heq]
      exact ⟨t, sv, sv, rfl, upd_same, v1.tk (TK.new ht), v1.tk (TK.new ht)⟩
    · have hne : ¬ e.house = f.source := fun z => hs (decide_eq_true (congrArg V.str z))
      have nb := nexts_b fok (Nat.le_of_lt hkl2) hst eok
      have q2 : ∀ z H', Same H H' → PrAt H' z ((nextsF f (es.take k) e).foldl (stepP ps) (none, none)) → Q z H' := fun z H' s' a' => q z H' s' (by
        unfold pairF
        rw [if_neg hne]
        exact a')
      -- the loop
      refine ⟨_, rfl, _, rfl, _, f, es, k, e, rfl, hy, fok, hk, hlen, hst, eok, fun l xs H1 s1 hl1 g1 g2 => ?_⟩
      generalize nextsF f (es.take k) e = nx at nb q2 g2
      have acb : ∀ i, PrB (c + 1200) ((nx.take i).foldl (stepP ps) (none, none)) := fun i => foldP_b hb _ _ (fun y hy => nb y (List.mem_of_mem_take hy)) (prB_none _)
      refine ⟨l, rfl, ⟨xs, SqL.of g1⟩, for_list (K := K) (a := l) (xs := xs) (fun i σ H2 => ∃ (lo hi : V) (a b d : Option V),
          σ = [some (.ref p), some (.int k), some (.ref pl), some (.str e.house), some sv, some dv, some lo, some hi, a, b, d] ∧ Same H1 H2 ∧
          OFrAt H2 lo ((nx.take i).foldl (stepP ps) (none, none)).1 ∧ OFrAt H2 hi ((nx.take i).foldl (stepP ps) (none, none)).2)
        ⟨.non, .non, none, none, none, rfl, Same.refl _, rfl, rfl⟩ (fun i σ H2 _ ⟨_, _, _, _, _, _, s2, _⟩ => SqL.of (s2 _ _ g1)) ?_ ?_⟩
      · rintro i x σ H2 hi ⟨lo, hh, a, b, d, rfl, s2, o1, o2⟩
        obtain ⟨⟨j, m, M⟩, hy, px, am, bm, rfl, n0, n1, n2⟩ := pr_get g2 hi
        obtain ⟨hj, hm, hM⟩ := nb _ (List.mem_of_getElem? hy)
        have hj : j < k := hj
        have hqj : ps[j]? = some ps[j] := List.getElem?_eq_getElem (by omega)
        obtain ⟨xq, hxq, pq, qa, qb, rfl, b0, b1, b2⟩ := pr_get' hps hqj
        have hbj := hb j hj
        have ac := acb i
        have es1 : (nx.take (i + 1)).foldl (stepP ps) (none, none) = stepP ps ((nx.take i).foldl (stepP ps) (none, none)) (j, m, M) := by
          rw [take_snoc hy, List.foldl_append]
          rfl
        rw [prOf_at hqj] at hbj
        have s12 := s1.trans s2
        have tk2 : TK H1 H2 := .of s2
        have tkH : TK H H2 := .of s12
        rw [show stepP ps ((nx.take i).foldl (stepP ps) (none, none)) (j, m, M) = (grLow ((nx.take i).foldl (stepP ps) (none, none)).1 (movedF (ps[j]).1 (some m)), lsHigh ((nx.take i).foldl (stepP ps) (none, none)).2 (movedF (ps[j]).2 M)) by
          unfold stepP
          rw [prOf_at hqj]] at es1
        generalize (nx.take i).foldl (stepP ps) (none, none) = acc at *
        generalize ps[j] = qj at *
        have sm : ∀ {N c : Int} {o : Option Fr}, (∀ x, o = some x → Fb 120 c x) → ∀ x, o = some x → Sm x := fun h x ex => (h x ex).sm (by decide) (by decide)
        refine ⟨_, _, rfl, SqT.of (s2 _ _ n0), rfl, _, _, rfl, _, _, rfl, _, _, rfl, rfl, ?_⟩
        -- low
        refine ⟨_, rfl, _, rfl, _, rfl, _, _, _, _, rfl, rfl, SqL.of (s12 _ _ hpl), atI_nat hxq, _, _, _, _, rfl, rfl, SqT.of (s12 _ _ b0), rfl, _, rfl, _, _, qj.1, some m, rfl, b1.tk tkH, n1.tk tk2, sm (N := 120) hbj.1,
          (fun x ex => by rw [← Option.some.inj ex]; exact hm.sm (by decide) (by decide)), fun z3 H3 s3 o3 => ?_⟩
        have mb : ∀ x, movedF qj.1 (some m) = some x → Fb 120 (c + 1200) x := moved_fb hbj.1 fun y e => by rw [← Option.some.inj e]; exact hm
        refine ⟨_, _, _, _, rfl, o1.tk (.of s3), o3, sm (N := 120) ac.1, sm (N := 120) mb, fun z4 o4 => ?_⟩
        -- high
        have s13 := s12.trans s3
        refine ⟨_, rfl, _, rfl, _, rfl, _, _, _, _, rfl, rfl, SqL.of (s13 _ _ hpl), atI_nat hxq, _, _, _, _, rfl, rfl, SqT.of (s13 _ _ b0), rfl, _, rfl, _, _, qj.2, M, rfl, b2.tk (.of s13), n2.tk (.of (s2.trans s3)), sm (N := 120) hbj.2,
          sm (N := 120) hM, fun z5 H5 s5 o5 => ?_⟩
        have mb2 : ∀ x, movedF qj.2 M = some x → Fb 120 (c + 1200) x := moved_fb hbj.2 hM
        refine ⟨_, _, _, _, rfl, o2.tk (.of (s3.trans s5)), o5, sm (N := 120) ac.2, sm (N := 120) mb2, fun z6 o6 => ?_⟩
        refine ⟨z4, z6, _, _, _, rfl, (s2.trans s3).trans s5, ?_, ?_⟩
        · rw [es1]
          exact o4.tk (.of s5)
        · rw [es1]
          exact o6
      · rintro σ H2 ⟨lo, hh, a, b, d, rfl, s2, o1, o2⟩
        have el : nx.take xs.length = nx := by rw [pr_len g2]; exact List.take_length
        rw [el] at o1 o2
        refine ⟨_, rfl, _, rfl, by show 2 ≤ sizeLine; decide, fun t ht => q2 _ _ ((s1.trans s2).trans (same_new ht)) ⟨t, lo, hh, rfl, upd_same, o1.tk (TK.new ht), o2.tk (TK.new ht)⟩⟩

theorem ok_kept_pairs (T : Tx K mg) : FnOk P w K mg base CX0 6 T.a_kept_pairs T.d_kept_pairs p_kept_pairs spKeptPairs := by
  refine T.kept_pairs.F.ok sc_kept_pairs (fun vs H Q E h => ?_) (fun cdv A outer s H vs Q E hr h => ?_)
  · obtain ⟨v, f, es, rfl, _⟩ := h
    rfl
  · obtain ⟨v, f, es, rfl, hy, fok, hlen, hi, q⟩ := h
    have hr5 : Room 5 _ := hr
    refine ⟨_, PSs.nox ((pss_cons (ps_set (i := 1) sc_kept_pairs.nd rfl (Or.inl rfl) (pe_lst pa_nil))
      (pss_cons (ps_for PassesOwn.never rfl (pi_range1 rfl T.brange (pa_cons (pe_callB call_len_seq (by rfl) T.blen (by decide +kernel) (pa_cons (pe_ix ix_tup (pv 0) pe_int (fun _ _ => rfl)) pa_nil)) pa_nil)) (pg_name (i := 2) sc_kept_pairs.nd rfl (Or.inl rfl))
        (pss_one (ps_expr (pe_bm PySem.F.plainAttrs_list PySem.F.slot_list_append PySem.F.type_list_append mt_append (pv 1) (pa_cons (pe_call (ok_pair_of T) hr5 rfl T.pair_of.m T.pair_of.F.kp T.pair_of.b .nil pass0 (pa_cons (pv 0) (pa_cons (pv 2) (pa_cons (pv 1) pa_nil)))) pa_nil)))))
      (pss_one (ps_ret (pe_callTy call_tuple_of (by rfl) T.btuple (by decide +kernel) (pa_cons (pv 1) pa_nil))))))), ?_⟩
    obtain ⟨p, fv, ep, evs, rfl, e0, hf, e1, e2⟩ := id hy
    have el := pr_len e2
    refine ⟨by show 0 ≤ sizeLine; decide, fun l hl => ?_⟩
    have nl := same_new (o := .lst []) hl
    refine ⟨_, rfl, _, _, _, _, rfl, rfl, SqT.of (nl _ _ e0), rfl, _, _, rfl, .inr (SqT.of (nl _ _ e1)), _, rfl, by omega, by omega, ?_⟩
    refine for_range (lo := 0) (n := evs.length) (fun i σ H2 => ∃ (x : Option V) (pss : List V), σ = [some (.ref p), some (.ref l), x] ∧ Kp [l] H H2 ∧ H2 l = some (.lst pss) ∧ Paired (PrAt H2) pss (pairsF f es i) ∧ i ≤ es.length)
      ⟨none, [], rfl, Kp.upd (List.mem_singleton.mpr rfl), upd_same, .nil, Nat.zero_le _⟩ ?_ ?_
    · rintro i σ H2 hil ⟨x, pss, rfl, k2, g1, g2, hle⟩
      have ils : i < es.length := by omega
      have he : es[i]? = some es[i] := List.getElem?_eq_getElem ils
      have s2 : Same H H2 := same_of_kp k2 hl
      have e00 : ((0 : Int) + ((i : Nat) : Int)) = ((i : Nat) : Int) := by omega
      refine ⟨_, rfl, .inl ⟨rfl, _, SqL.of g1⟩, _, rfl, _, rfl, _, rfl, _, l, pss, f, es, i, es[i], pairsF f es i, 1200 * i, ?_, hy.tk (.of s2), fok, he, hlen, fun j e' _ hj => (hi j e' hj).st, hi i _ he, g1, g2, ?_, by omega, fun j hj => (pairsF_b fok hi hle j hj).mono (by omega), fun z H3 s3 p3 => ?_⟩
      · show [V.ref p, V.int ((0 : Int) + ((i : Nat) : Int)), V.ref l] = _
        rw [e00]
      · rw [pairsF_len hle]
        exact Nat.le_refl _
      · have g3 := s3 _ _ g1
        have pl := pr_len g2
        rw [pairsF_len hle] at pl
        refine ⟨_, _, _, rfl, rfl, g3, small1000 (by omega), _, _, rfl, (k2.trans (Kp.of s3)).trans (Kp.upd (List.mem_singleton.mpr rfl)), upd_same, ?_, ils⟩
        rw [pairsF_succ he]
        exact pr_snoc (prs_tk g2 ((TK.of s3).trans (TK.lst g3))) (p3.tk (TK.lst g3))
    · rintro σ H2 ⟨x, pss, rfl, k2, g1, g2, hle⟩
      refine ⟨_, rfl, _, _, rfl, .inl ⟨SqL.of g1, fun t ht => ?_⟩⟩
      have s2 : Same H H2 := same_of_kp k2 hl
      rw [el] at g2
      exact q t pss _ (s2.trans (same_new ht)) upd_same (prs_tk g2 (TK.new ht))
end
end Lc
/-! The keeper's methods. -/
namespace Lc
open PySem PySem.Spec PyProof.Rows L2
/-- a keeper's attributes -/
def flds (fv : V) (np pp : Addr) : List (Str × V) := [("own_field", fv), ("noted", .ref np), ("pairs", .ref pp)]
theorem fl_f {fv : V} {np pp : Addr} : (flds fv np pp).lookup ("own_field" : Str) = some fv := rfl
theorem fl_n {fv : V} {np pp : Addr} : (flds fv np pp).lookup ("noted" : Str) = some (.ref np) := rfl
theorem fl_p {fv : V} {np pp : Addr} : (flds fv np pp).lookup ("pairs" : Str) = some (.ref pp) := rfl
theorem fl_no {fv : V} {np pp : Addr} {x : Str} (h1 : ¬ x = "own_field") (h2 : ¬ x = "noted") (h3 : ¬ x = "pairs") : (flds fv np pp).lookup x = none := by
  unfold flds
  rw [List.lookup_cons, List.lookup_cons, List.lookup_cons]
  rw [beq_false_of_ne h1, beq_false_of_ne h2, beq_false_of_ne h3]
  rfl
structure KpAt (C : Addr) (H : Hp) (p np pp : Addr) (f : Fd) (evs : List Ev) (ps : List Pr) : Prop where
  ob : ∃ dx fv, H p = some (.ins C dx (flds fv np pp)) ∧ FdAt H fv f
  ns : ∃ l, H np = some (.lst l) ∧ Paired (EvAt H) l evs
  qs : ∃ l, H pp = some (.lst l) ∧ Paired (PrAt H) l ps
  ne : np ≠ pp
theorem KpAt.keep {S : List Addr} {C p np pp : Addr} {f : Fd} {evs : List Ev} {ps : List Pr} {H H' : Hp} (h : KpAt C H p np pp f evs ps) (k : Kp S H H') (tk : TK H H') (h1 : p ∉ S) (h2 : np ∉ S) (h3 : pp ∉ S) : KpAt C H' p np pp f evs ps := by
  obtain ⟨⟨dx, fv, o1, o2⟩, ⟨l, n1, n2⟩, ⟨m, q1, q2⟩, ne⟩ := h
  exact ⟨⟨dx, fv, k _ _ o1 h1, o2.tk tk⟩, ⟨l, k _ _ n1 h2, evs_tk n2 tk⟩, ⟨m, k _ _ q1 h3, prs_tk q2 tk⟩, ne⟩
theorem KpAt.same {C p np pp : Addr} {f : Fd} {evs : List Ev} {ps : List Pr} {H H' : Hp} (h : KpAt C H p np pp f evs ps) (k : Same H H') : KpAt C H' p np pp f evs ps :=
  h.keep (S := []) (Kp.of k) (.of k) (by simp) (by simp) (by simp)
def spInit (C : Addr) : Sp := fun vs H Q _ => ∃ (p dx : Addr) (fv : V) (f : Fd), vs = [.ref p, fv] ∧ H p = some (.ins C dx []) ∧ FdAt H fv f ∧
  ∀ np pp H', KpAt C H' p np pp f [] [] → (∀ b o, H b = some o → b ≠ p → H' b = some o) → H np = none → H pp = none → Q .non H'
def spLen (C : Addr) : Sp := fun vs H Q _ => ∃ p np pp f evs ps, vs = [.ref p] ∧ KpAt C H p np pp f evs ps ∧ Q (.int (evs.length : Nat)) H
def spHistory (C : Addr) : Sp := fun vs H Q _ => ∃ p np pp f evs ps, vs = [.ref p] ∧ KpAt C H p np pp f evs ps ∧ ∀ v H', Same H H' → HyAt H' v f evs → Q v H'
def spPair (C : Addr) : Sp := fun vs H Q _ => ∃ (p np pp : Addr) (f : Fd) (evs : List Ev) (ps : List Pr) (j : Nat) (q : Pr), vs = [.ref p, .int j] ∧ KpAt C H p np pp f evs ps ∧ ps.length = evs.length ∧ ps[j]? = some q ∧ ∀ v, PrAt H v q → Q v H
section
variable {P : Program} {w : World} {K : PySem.W.Frag} {mg : Str → Option Value} {base : Heap}
theorem ok_init (T : Tx K mg) : FnOk P w K mg base CX0 1 T.a_init T.d_init p_init (spInit T.C) := by
  refine T.init.F.ok sc_init (fun vs H Q E h => ?_) (fun cdv A outer s H vs Q E hr h => ?_)
  · obtain ⟨p, dx, fv, f, rfl, _⟩ := h
    rfl
  · obtain ⟨p, dx, fv, f, rfl, h0, hf, q⟩ := h
    refine ⟨_, PSs.nox ((pss_cons (ps_fld (pv 0) (pv 1) rfl)
      (pss_cons (ps_fld (pv 0) (pe_lst pa_nil) rfl)
      (pss_one (ps_fld (pv 0) (pe_lst pa_nil) rfl))))), ?_⟩
    refine ⟨_, rfl, _, rfl, p, _, _, _, rfl, h0, T.cl, T.nf, by show 0 < 1000; decide, ?_⟩
    refine ⟨by show 0 ≤ sizeLine; decide, fun np hn => ?_⟩
    have n1 : p ≠ np := ne_of_none upd_same hn
    refine ⟨_, rfl, p, _, _, _, rfl, (by rw [upd_ne n1, upd_same]), T.cl, T.nn, by show 1 < 1000; decide, ?_⟩
    refine ⟨by show 0 ≤ sizeLine; decide, fun pp hp => ?_⟩
    have n2 : p ≠ pp := ne_of_none upd_same hp
    have n3 : np ≠ pp := ne_of_none (by rw [upd_ne (fun z => n1 z.symm), upd_same]) hp
    refine ⟨_, rfl, p, _, _, _, rfl, (by rw [upd_ne n2, upd_same]), T.cl, T.np, by show 2 < 1000; decide, ?_⟩
    have hnH : H np = none := by
      rw [upd_ne (fun z => n1 z.symm)] at hn
      exact hn
    have hpH : H pp = none := by
      rw [upd_ne (fun z => n2 z.symm), upd_ne (fun z => n3 z.symm), upd_ne (fun z => n2 z.symm)] at hp
      exact hp
    have kp : ∀ b o, H b = some o → b ≠ p → (upd (upd (upd (upd (upd H p (.ins T.C dx (putF "own_field" fv []))) np (.lst [])) p (.ins T.C dx (putF "noted" (.ref np) (putF "own_field" fv [])))) pp (.lst [])) p
        (.ins T.C dx (putF "pairs" (.ref pp) (putF "noted" (.ref np) (putF "own_field" fv []))))) b = some o := fun b o e hb => by
      rw [upd_ne hb, upd_ne (ne_of_none e hpH), upd_ne hb, upd_ne (ne_of_none e hnH), upd_ne hb]
      exact e
    have tk : TK H _ := fun b xs e => kp b _ e (ne_of e h0 fun z => by cases z)
    refine q np pp _ ⟨⟨dx, fv, upd_same, hf.tk tk⟩, ⟨[], ?_, .nil⟩, ⟨[], ?_, .nil⟩, n3⟩ kp hnH hpH
    · rw [upd_ne (fun z => n1 z.symm), upd_ne n3, upd_ne (fun z => n1 z.symm), upd_same]
    · rw [upd_ne (fun z => n2 z.symm), upd_same]
theorem ok_len (T : Tx K mg) : FnOk P w K mg base CX0 1 T.a_len T.d_len p_len (spLen T.C) := by
  refine T.len.F.ok sc_len (fun vs H Q E h => ?_) (fun cdv A outer s H vs Q E hr h => ?_)
  · obtain ⟨p, np, pp, f, evs, ps, rfl, _⟩ := h
    rfl
  · obtain ⟨p, np, pp, f, evs, ps, rfl, ⟨⟨dx, fv, o1, o2⟩, ⟨l, n1, n2⟩, _, _⟩, q⟩ := h
    refine ⟨_, PSs.nox ((pss_one (ps_ret (pe_callB call_len_seq (by rfl) T.blen (by decide +kernel) (pa_cons (pe_fld (pv 0) rfl) pa_nil))))), ?_⟩
    refine ⟨_, rfl, p, _, _, _, _, rfl, o1, T.cl, T.nn, fl_n, _, _, rfl, .inl (SqL.of n1), ?_⟩
    rw [pr_len n2]
    exact q
theorem ok_history (T : Tx K mg) : FnOk P w K mg base CX0 1 T.a_history T.d_history p_history (spHistory T.C) := by
  refine T.history.F.ok sc_history (fun vs H Q E h => ?_) (fun cdv A outer s H vs Q E hr h => ?_)
  · obtain ⟨p, np, pp, f, evs, ps, rfl, _⟩ := h
    rfl
  · obtain ⟨p, np, pp, f, evs, ps, rfl, ⟨⟨dx, fv, o1, o2⟩, ⟨l, n1, n2⟩, _, _⟩, q⟩ := h
    refine ⟨_, PSs.nox ((pss_one (ps_ret (pe_tup (pa_cons (pe_fld (pv 0) rfl) (pa_cons (pe_callTy call_tuple_of (by rfl) T.btuple (by decide +kernel) (pa_cons (pe_fld (pv 0) rfl) pa_nil)) pa_nil)))))), ?_⟩
    refine ⟨_, rfl, p, _, _, _, _, rfl, o1, T.cl, T.nf, fl_f, _, rfl, p, _, _, _, _, rfl, o1, T.cl, T.nn, fl_n, _, _, rfl, .inl ⟨SqL.of n1, fun t ht => ?_⟩⟩
    refine ⟨by show 2 ≤ sizeLine; decide, fun y hy => ?_⟩
    have s1 := same_new (o := .tup l) ht
    have s2 := same_new (o := .tup [fv, .ref t]) hy
    have tk : TK H _ := .of (s1.trans s2)
    exact q _ _ (s1.trans s2) ⟨y, fv, t, l, rfl, upd_same, o2.tk tk, s2 _ _ upd_same, evs_tk n2 tk⟩
theorem ok_pair (T : Tx K mg) : FnOk P w K mg base CX0 1 T.a_pair T.d_pair p_pair (spPair T.C) := by
  refine T.pair.F.ok sc_pair (fun vs H Q E h => ?_) (fun cdv A outer s H vs Q E hr h => ?_)
  · obtain ⟨p, np, pp, f, evs, ps, j, q0, rfl, _⟩ := h
    rfl
  · obtain ⟨p, np, pp, f, evs, ps, j, q0, rfl, ⟨⟨dx, fv, o1, o2⟩, ⟨l, n1, n2⟩, ⟨m, m1, m2⟩, _⟩, hl, hj, q⟩ := h
    refine ⟨_, PSs.nox ((pss_cons (ps_if (pt_not (pt_chain op_le op_lt pe_int (pv 1) (pe_callB call_len_seq (by rfl) T.blen (by decide +kernel) (pa_cons (pe_fld (pv 0) rfl) pa_nil))))
        (pss_one (ps_never))
        pss_nil)
      (pss_one (ps_ret (pe_ix ix_list (pe_fld (pv 0) rfl) (pv 1) (fun _ _ => rfl)))))), ?_⟩
    have hjl : j < l.length := by
      have := (List.getElem?_eq_some_iff.mp hj).1
      have := pr_len n2
      omega
    obtain ⟨x, hx, hp⟩ := pr_get' m2 hj
    refine ⟨_, rfl, _, _, rfl, rfl, _, rfl, ?_⟩
    refine itP (decide_eq_true (by omega)) ⟨_, rfl, p, _, _, _, _, rfl, o1, T.cl, T.nn, fl_n, _, _, rfl, .inl (SqL.of n1), _, _, rfl, rfl, _, rfl, ?_⟩
    rw [decide_eq_true (show (j : Int) < (l.length : Nat) by omega)]
    refine itN (by decide) ⟨_, rfl, p, _, _, _, _, rfl, o1, T.cl, T.np, fl_p, _, rfl, _, _, _, _, rfl, rfl, SqL.of m1, atI_nat hx, q x hp⟩
end
end Lc
/-! The keeper's methods, further. -/
namespace Lc
open PySem PySem.Spec PyProof.Rows L2
def spAskHouse (C : Addr) : Sp := fun vs H Q _ => ∃ (p np pp : Addr) (f : Fd) (evs : List Ev) (ps : List Pr) (n : Str) (sv : V) (x : Fr), vs = [.ref p, .str n, sv] ∧ KpAt C H p np pp f evs ps ∧ FOk f ∧ n ∈ f.names ∧ FrAt H sv x ∧ Sm x ∧ evs.length ≤ 40 ∧
  (∀ e ∈ evs, Sm e.stamp ∧ (e.house = n → ltF x e.stamp = false)) ∧ ∀ H', Same H H' → Q .non H'
def DeedOk (f : Fd) (prev : List Ev) (n : Str) (d : Dd) : Prop := match d with
  | .mark => True
  | .send l => ∃ lk, f.links[l]? = some lk ∧ lk.frm = n
  | .hear k => ∃ e' l lk, prev[k]? = some e' ∧ e'.deed = .send l ∧ f.links[l]? = some lk ∧ lk.to = n
def spAskDeed (C : Addr) : Sp := fun vs H Q _ => ∃ (p np pp : Addr) (f : Fd) (evs : List Ev) (ps : List Pr) (n : Str) (dv : V) (d : Dd), vs = [.ref p, .str n, dv] ∧ KpAt C H p np pp f evs ps ∧ DdAt H dv d ∧ DeedOk f evs n d ∧ ∀ H', Same H H' → Q .non H'
theorem inV_str {n : Str} {l : List Str} (h : n ∈ l) : inV (.str n) (l.map V.str) = true := by
  unfold inV
  rw [List.any_eq_true]
  exact ⟨.str n, List.mem_map.mpr ⟨n, h, rfl⟩, by simp [eqV]⟩
theorem flat_strs (l : List Str) : (l.map V.str).all flatV = true := by
  rw [List.all_eq_true]
  intro x hx
  obtain ⟨y, _, rfl⟩ := List.mem_map.mp hx
  rfl
section
variable {P : Program} {w : World} {K : PySem.W.Frag} {mg : Str → Option Value} {base : Heap}
theorem ok_ask_house (T : Tx K mg) : FnOk P w K mg base CX0 2 T.a_ask_house T.d_ask_house p_ask_house (spAskHouse T.C) := by
  refine T.ask_house.F.ok sc_ask_house (fun vs H Q E h => ?_) (fun cdv A outer s H vs Q E hr h => ?_)
  · obtain ⟨p, np, pp, f, evs, ps, n, sv, x, rfl, _⟩ := h
    rfl
  · obtain ⟨p, np, pp, f, evs, ps, n, sv, x, rfl, kp, fok, hn, hx, sx, hlen, hev, q⟩ := h
    have hr1 : Room 1 _ := hr
    obtain ⟨⟨dx, fv, o1, o2⟩, ⟨l, n1, n2⟩, _, _⟩ := id kp
    obtain ⟨fp, fhp, flp, fhs, fls, rfl, c0, c1, c2, c3, c4⟩ := id o2
    refine ⟨_, PSs.nox ((pss_cons (ps_if (pt_cmpR op_notIn_seq (pv 1) (pe_lc (own := [("row", 4)]) (tt := tYes) rfl sc_ask_house.nd (pi_tup (pe_ix ix_tup (pe_fld (pv 0) rfl) pe_int (fun _ _ => rfl))) (blkOk_by (N := n_ask_house) (sc := (defScope s_ask_house)) (by decide +kernel)) (fun _ _ _ _ _ => pg_name (i := 4) sc_ask_house.nd rfl (Or.inl rfl) (Or.inr rfl)) (fun _ _ _ _ _ => pts_nil) (fun _ _ _ _ _ => (pe_ix (ix_tupK K rfl) (pv 4) pe_int (fun _ _ => rfl)))) (by rfl))
        (pss_one (ps_never))
        pss_nil)
      (pss_one (ps_for PassesOwn.never rfl (pi_revR rfl T.breversed (prg_1 rfl T.brange (pe_callB call_len_seq (by rfl) T.blen (by decide +kernel) (pa_cons (pe_fld (pv 0) rfl) pa_nil)))) (pg_name (i := 3) sc_ask_house.nd rfl (Or.inl rfl))
        (pss_one (ps_if (pt_cmpR op_eq (pe_ix ix_tup (pe_ix ix_list (pe_fld (pv 0) rfl) (pv 3) (fun _ _ => rfl)) pe_int (fun _ _ => rfl)) (pv 1) (nomark _))
          (pss_cons (ps_if (pt_val (pe_call (ok_is_below T) hr1 rfl T.is_below.m T.is_below.F.kp T.is_below.b .nil pass0 (pa_cons (pv 2) (pa_cons (pe_ix ix_tup (pe_ix ix_list (pe_fld (pv 0) rfl) (pv 3) (fun _ _ => rfl)) pe_int (fun _ _ => rfl)) pa_nil))))
            (pss_one (ps_never))
            pss_nil)
          (pss_one (ps_retN)))
          pss_nil)))))), ?_⟩
    refine ⟨_, rfl, _, rfl, p, _, _, _, _, rfl, o1, T.cl, T.nf, fl_f, _, _, _, _, rfl, rfl, SqT.of c0, rfl, _, rfl, ⟨_, SqT.of c1⟩, fun D hD => ?_⟩
    refine lc_tup (K := K) (a := fhp) (xs := fhs) (fun i H2 => Same H H2 ∧ H2 D = some (.lst ((f.names.take i).map V.str))) ⟨same_new hD, upd_same⟩ (fun i H2 _ ⟨s2, _⟩ => SqT.of (s2 _ _ c1)) ?_ ?_
    · rintro i y H2 hi ⟨s2, g⟩
      obtain ⟨hh, eh, px, a, b, rfl, r0, r1, r2⟩ := pr_get c2 hi
      have en : f.names[i]? = some hh.name := by
        unfold Fd.names
        rw [List.getElem?_map, eh]
        rfl
      refine ⟨rfl, _, rfl, _, _, _, _, rfl, rfl, SqT.of (s2 _ _ r0), rfl, _, g, ?_, ?_, ?_⟩
      · refine small1000 ?_
        have h1 : (f.names.take i).length ≤ f.names.length := List.length_take_le' _ _
        have h2 : f.names.length = f.houses.length := List.length_map _
        have := fok.few
        rw [List.length_map]
        omega
      · exact fun c o e => by
          rw [upd_ne (ne_of_none e hD)]
          exact s2 _ _ e
      · rw [upd_same, take_snoc en, List.map_append]
        rfl
    · rintro H1 ⟨s1, g⟩
      have el : f.names.take fhs.length = f.names := by
        have : fhs.length = f.names.length := by rw [pr_len c2]; exact (List.length_map _).symm
        rw [this]
        exact List.take_length
      rw [el] at g
      refine ⟨_, _, rfl, .inl (SqL.of g), rfl, flat_strs _, _, rfl, ?_⟩
      refine itN (by rw [inV_str hn]; decide) ?_
      -- the loop
      refine ⟨_, rfl, p, _, _, _, _, rfl, s1 _ _ o1, T.cl, T.nn, fl_n, _, _, rfl, .inl (SqL.of (s1 _ _ n1)), _, rfl, by decide, by decide, ?_, ?_, ?_⟩
      · have := pr_len n2
        omega
      · have := pr_len n2
        omega
      refine for_rangeC (fun i σ H2 => H2 = H1 ∧ ∃ y : Option V, σ = [some (.ref p), some (.str n), some sv, y, none] ∧ i ≤ evs.length) ⟨rfl, none, rfl, Nat.zero_le _⟩ ?_ ?_
      · rintro i σ H2 hi ⟨rfl, y, rfl, hle⟩
        have ll := pr_len n2
        have hi2 : i < evs.length := by omega
        have ej : (0 : Int) + (((((l.length : Nat) : Int)) - 0).toNat : Nat) - 1 + ((i : Nat) : Int) * (-1) = ((evs.length - 1 - i : Nat) : Int) := by omega
        have hej : evs[evs.length - 1 - i]? = some evs[evs.length - 1 - i] := List.getElem?_eq_getElem (by omega)
        obtain ⟨xj, hxj, pj, sj, dj, rfl, j0, j1, j2⟩ := pr_get' n2 hej
        obtain ⟨sm, mo⟩ := hev _ (List.mem_of_getElem? hej)
        generalize evs[evs.length - 1 - i] = ev at *
        refine ⟨_, rfl, p, _, _, _, _, rfl, s1 _ _ o1, T.cl, T.nn, fl_n, _, rfl, _, _, _, _, rfl, rfl, SqL.of (s1 _ _ n1), at_of ej hxj, _, _, _, _, rfl, rfl, SqT.of (s1 _ _ j0), rfl, _, rfl, rfl, _, rfl, ite2 (fun hc => ?_) (fun hc => ?_)⟩
        · have heq : ev.house = n := V.str.inj (of_decide_eq_true hc)
          refine ⟨_, rfl, _, rfl, p, _, _, _, _, rfl, s1 _ _ o1, T.cl, T.nn, fl_n, _, rfl, _, _, _, _, rfl, rfl, SqL.of (s1 _ _ n1), at_of ej hxj, _, _, _, _, rfl, rfl, SqT.of (s1 _ _ j0), rfl, _, _, _, _, rfl, hx.tk (.of s1), j1.tk (.of s1), ⟨sx, sm⟩, _, rfl, ?_⟩
          refine itN (by rw [mo heq]; decide) (q _ s1)
        · exact ⟨rfl, _, rfl, hi2⟩
      · rintro σ H2 ⟨rfl, y, rfl, hle⟩
        exact q _ s1
theorem ok_ask_deed (T : Tx K mg) : FnOk P w K mg base CX0 1 T.a_ask_deed T.d_ask_deed p_ask_deed (spAskDeed T.C) := by
  refine T.ask_deed.F.ok sc_ask_deed (fun vs H Q E h => ?_) (fun cdv A outer s H vs Q E hr h => ?_)
  · obtain ⟨p, np, pp, f, evs, ps, n, dv, d, rfl, _⟩ := h
    rfl
  · obtain ⟨p, np, pp, f, evs, ps, n, dv, d, rfl, kp, ⟨pd, rfl, d0⟩, dok, q⟩ := h
    obtain ⟨⟨dx, fv, o1, o2⟩, ⟨l, n1, n2⟩, _, _⟩ := id kp
    obtain ⟨fp, fhp, flp, fhs, fls, rfl, c0, c1, c2, c3, c4⟩ := id o2
    refine ⟨_, PSs.nox ((pss_cons (ps_asg (pv 2) (pg_star rfl (pgs_cons (pg_name (i := 3) sc_ask_deed.nd rfl (Or.inl rfl)) (pgs_cons (pg_name (i := 4) sc_ask_deed.nd rfl (Or.inl rfl)) pgs_nil))))
      (pss_cons (ps_set (i := 5) sc_ask_deed.nd rfl (Or.inl rfl) (pe_ix ix_tup (pe_fld (pv 0) rfl) pe_int (fun _ _ => rfl)))
      (pss_cons (ps_if (pt_cmpR op_eq (pv 3) pe_str (nomark _))
        (pss_cons (ps_if (pt_not (pt_chain op_le op_lt pe_int (pe_ix ix_list (pv 4) pe_int (fun _ _ => rfl)) (pe_callB call_len_seq (by rfl) T.blen (by decide +kernel) (pa_cons (pv 5) pa_nil))))
          (pss_one (ps_never))
          pss_nil)
        (pss_one (ps_if (pt_cmpR op_ne (pe_ix ix_tup (pe_ix ix_tup (pv 5) (pe_ix ix_list (pv 4) pe_int (fun _ _ => rfl)) (fun _ _ => rfl)) pe_int (fun _ _ => rfl)) (pv 1) (nomark _))
          (pss_one (ps_never))
          pss_nil)))
        pss_nil)
      (pss_one (ps_if (pt_cmpR op_eq (pv 3) pe_str (nomark _))
        (pss_cons (ps_if (pt_not (pt_chain op_le op_lt pe_int (pe_ix ix_list (pv 4) pe_int (fun _ _ => rfl)) (pe_callB call_len_seq (by rfl) T.blen (by decide +kernel) (pa_cons (pe_fld (pv 0) rfl) pa_nil))))
          (pss_one (ps_never))
          pss_nil)
        (pss_cons (ps_set (i := 6) sc_ask_deed.nd rfl (Or.inl rfl) (pe_ix ix_tup (pe_ix ix_list (pe_fld (pv 0) rfl) (pe_ix ix_list (pv 4) pe_int (fun _ _ => rfl)) (fun _ _ => rfl)) pe_int (fun _ _ => rfl)))
        (pss_cons (ps_if (pt_cmpR op_ne (pe_ix ix_tup (pv 6) pe_int (fun _ _ => rfl)) pe_str (nomark _))
          (pss_one (ps_never))
          pss_nil)
        (pss_one (ps_if (pt_cmpR op_ne (pe_ix ix_tup (pe_ix ix_tup (pv 5) (pe_ix ix_tup (pv 6) pe_int (fun _ _ => rfl)) (fun _ _ => rfl)) pe_int (fun _ _ => rfl)) (pv 1) (nomark _))
          (pss_one (ps_never))
          pss_nil)))))
        pss_nil)))))), ?_⟩
    cases d with
    | mark =>
      refine ⟨_, rfl, _, _, _, rfl, SqT.of d0, fun D hD => ⟨_, _, rfl, _, _, rfl, rfl, ?_⟩⟩
      have s1 := same_new (o := .lst ([] : List V)) hD
      refine ⟨_, rfl, p, _, _, _, _, rfl, s1 _ _ o1, T.cl, T.nf, fl_f, _, _, _, _, rfl, rfl, SqT.of (s1 _ _ c0), rfl, ?_⟩
      refine ⟨_, rfl, rfl, _, rfl, itN (by decide +kernel) ⟨_, rfl, rfl, _, rfl, itN (by decide +kernel) (q _ s1)⟩⟩
    | send k =>
      obtain ⟨lk, h1, h2⟩ := dok
      obtain ⟨xl, hxl, pl, la, lb, rfl, l0, l1, l2⟩ := pr_get' c4 h1
      have hk := (List.getElem?_eq_some_iff.mp hxl).1
      refine ⟨_, rfl, _, _, _, rfl, SqT.of d0, fun D hD => ⟨_, _, rfl, _, _, rfl, rfl, ?_⟩⟩
      have s1 := same_new (o := .lst [V.int (k : Int)]) hD
      refine ⟨_, rfl, p, _, _, _, _, rfl, s1 _ _ o1, T.cl, T.nf, fl_f, _, _, _, _, rfl, rfl, SqT.of (s1 _ _ c0), rfl, ?_⟩
      refine ⟨_, rfl, rfl, _, rfl, itP (by decide +kernel) ?_⟩
      refine ⟨_, rfl, _, _, _, _, rfl, rfl, SqL.of upd_same, rfl, _, _, rfl, rfl, _, rfl, itP (decide_eq_true (by omega)) ⟨_, rfl, _, _, rfl, .inr (SqT.of (s1 _ _ c3)), _, _, rfl, rfl, _, rfl, ?_⟩⟩
      rw [decide_eq_true (show (k : Int) < (fls.length : Nat) by omega)]
      refine itN (by decide) ⟨_, rfl, _, rfl, _, _, _, _, rfl, rfl, SqL.of upd_same, rfl, _, _, _, _, rfl, rfl, SqT.of (s1 _ _ c3), atI_nat hxl, _, _, _, _, rfl, rfl, SqT.of (s1 _ _ l0), rfl, _, rfl, rfl, _, rfl, ?_⟩
      refine itN (by rw [h2]; simp) ⟨_, rfl, rfl, _, rfl, itN (by decide +kernel) (q _ s1)⟩
    | hear k =>
      obtain ⟨e', j, lk, h1, h2, h3, h4⟩ := dok
      obtain ⟨xl, hxl, pl, la, lb, rfl, l0, l1, l2⟩ := pr_get' c4 h3
      obtain ⟨xk, hxk, pk, sk, dk, rfl, b0, b1, pdk, rfl, b2⟩ := pr_get' n2 h1
      rw [h2] at b2
      have hk := (List.getElem?_eq_some_iff.mp hxk).1
      refine ⟨_, rfl, _, _, _, rfl, SqT.of d0, fun D hD => ⟨_, _, rfl, _, _, rfl, rfl, ?_⟩⟩
      have s1 := same_new (o := .lst [V.int (k : Int)]) hD
      refine ⟨_, rfl, p, _, _, _, _, rfl, s1 _ _ o1, T.cl, T.nf, fl_f, _, _, _, _, rfl, rfl, SqT.of (s1 _ _ c0), rfl, ?_⟩
      refine ⟨_, rfl, rfl, _, rfl, itN (by decide +kernel) ⟨_, rfl, rfl, _, rfl, itP (by decide +kernel) ?_⟩⟩
      refine ⟨_, rfl, _, _, _, _, rfl, rfl, SqL.of upd_same, rfl, _, _, rfl, rfl, _, rfl, itP (decide_eq_true (by omega)) ⟨_, rfl, p, _, _, _, _, rfl, s1 _ _ o1, T.cl, T.nn, fl_n, _, _, rfl, .inl (SqL.of (s1 _ _ n1)), _, _, rfl, rfl, _, rfl, ?_⟩⟩
      rw [decide_eq_true (show (k : Int) < (l.length : Nat) by omega)]
      refine itN (by decide) ?_
      -- what
      refine ⟨_, rfl, p, _, _, _, _, rfl, s1 _ _ o1, T.cl, T.nn, fl_n, _, rfl, _, _, _, _, rfl, rfl, SqL.of upd_same, rfl, _, _, _, _, rfl, rfl, SqL.of (s1 _ _ n1), atI_nat hxk, _, _, _, _, rfl, rfl, SqT.of (s1 _ _ b0), rfl, ?_⟩
      refine ⟨_, rfl, _, _, _, _, rfl, rfl, SqT.of (s1 _ _ b2), rfl, rfl, _, rfl, itN (by decide +kernel) ?_⟩
      refine ⟨_, rfl, _, rfl, _, _, _, _, rfl, rfl, SqT.of (s1 _ _ b2), rfl, _, _, _, _, rfl, rfl, SqT.of (s1 _ _ c3), atI_nat hxl, _, _, _, _, rfl, rfl, SqT.of (s1 _ _ l0), rfl, _, rfl, rfl, _, rfl, ?_⟩
      exact itN (by rw [h4]; simp) (q _ s1)
end
end Lc
/-! note, now, own ==, own str. -/
namespace Lc
open PySem PySem.Spec PyProof.Rows L2
theorem KpAt.ne1 {C p np pp : Addr} {f : Fd} {evs : List Ev} {ps : List Pr} {H : Hp} (h : KpAt C H p np pp f evs ps) : p ≠ np := by
  obtain ⟨⟨dx, fv, o1, o2⟩, ⟨l, n1, n2⟩, _, _⟩ := h
  exact ne_of o1 n1 fun z => by cases z
theorem KpAt.ne2 {C p np pp : Addr} {f : Fd} {evs : List Ev} {ps : List Pr} {H : Hp} (h : KpAt C H p np pp f evs ps) : p ≠ pp := by
  obtain ⟨⟨dx, fv, o1, o2⟩, _, ⟨l, n1, n2⟩, _⟩ := h
  exact ne_of o1 n1 fun z => by cases z
theorem KpAt.tk {C p np pp : Addr} {f : Fd} {evs : List Ev} {ps : List Pr} {H H' : Hp} (h : KpAt C H p np pp f evs ps) (k : Kp [np, pp] H H') : TK H H' := by
  obtain ⟨_, ⟨l, n1, n2⟩, ⟨m, m1, m2⟩, _⟩ := h
  refine k.tk fun a ha xs e => ?_
  rcases List.mem_cons.mp ha with rfl | ha
  · rw [n1] at e
    cases e
  · rw [List.mem_singleton.mp ha, m1] at e
    cases e
def spNote (C : Addr) : Sp := fun vs H Q _ => ∃ (p np pp : Addr) (f : Fd) (evs : List Ev) (ps : List Pr) (e : Ev) (sv dv : V) (c : Int), vs = [.ref p, .str e.house, sv, dv] ∧ KpAt C H p np pp f evs ps ∧ FOk f ∧ FrAt H sv e.stamp ∧ DdAt H dv e.deed ∧
  EvOk f evs e ∧ (∀ e' ∈ evs, Fb 4 300 e'.stamp) ∧ ps.length = evs.length ∧ 0 ≤ c ∧ (∀ j, j < evs.length → PrB c (prOf ps j)) ∧ evs.length < 39 ∧
  ∀ H', Kp [np, pp] H H' → KpAt C H' p np pp f (evs ++ [e]) (ps ++ [pairF f evs e ps]) → Q (.int (evs.length : Nat)) H'
def spNow (C : Addr) : Sp := fun vs H Q _ => ∃ (p np pp : Addr) (f : Fd) (evs : List Ev) (ps : List Pr) (n : Str) (x : Fr) (sv : V) (c : Int), vs = [.ref p, .str n, sv] ∧ KpAt C H p np pp f evs ps ∧ FOk f ∧ FrAt H sv x ∧
  EvOk f evs ⟨n, x, .mark⟩ ∧ (∀ e' ∈ evs, Fb 4 300 e'.stamp) ∧ ps.length = evs.length ∧ 0 ≤ c ∧ (∀ j, j < evs.length → PrB c (prOf ps j)) ∧ evs.length < 39 ∧
  ∀ z H', Same H H' → PrAt H' z (pairF f evs ⟨n, x, .mark⟩ ps) → Q z H'
theorem take_all {α : Type} {l m : List α} : (l ++ m).take l.length = l := by rw [List.take_left']; rfl
theorem at_last {α : Type} {l : List α} {x : α} : (l ++ [x])[l.length]? = some x := by
  rw [List.getElem?_append_right (Nat.le_refl _), Nat.sub_self]
  rfl
theorem at_fst {l : List Ev} {x e' : Ev} {j : Nat} (hj : j < l.length) (h : (l ++ [x])[j]? = some e') : e' ∈ l := by
  rw [List.getElem?_append_left hj] at h
  exact List.mem_of_getElem? h
section
variable {P : Program} {w : World} {K : PySem.W.Frag} {mg : Str → Option Value} {base : Heap}
theorem ok_note (T : Tx K mg) : FnOk P w K mg base CX0 6 T.a_note T.d_note p_note (spNote T.C) := by
  refine T.note.F.ok sc_note (fun vs H Q E h => ?_) (fun cdv A outer s H vs Q E hr h => ?_)
  · obtain ⟨p, np, pp, f, evs, ps, e, sv, dv, c, rfl, _⟩ := h
    rfl
  · obtain ⟨p, np, pp, f, evs, ps, e, sv, dv, c, rfl, kp, fok, hs, hd, eok, hst, hpl, hc, hb, hlen, q⟩ := h
    have hr5 : Room 5 _ := hr
    have hr2 : Room 2 _ := hr5.mono (by decide)
    have hr1 : Room 1 _ := hr5.mono (by decide)
    refine ⟨_, PSs.nox ((pss_cons (ps_expr (pe_meth (pv 0) T.cl T.ask_house.me (ok_ask_house T) hr2 T.ask_house.b .nil pass0 (pa_cons (pv 1) (pa_cons (pv 2) pa_nil))))
      (pss_cons (ps_expr (pe_meth (pv 0) T.cl T.ask_deed.me (ok_ask_deed T) hr1 T.ask_deed.b .nil pass0 (pa_cons (pv 1) (pa_cons (pv 3) pa_nil))))
      (pss_cons (ps_expr (pe_bm PySem.F.plainAttrs_list PySem.F.slot_list_append PySem.F.type_list_append mt_append (pe_fld (pv 0) rfl) (pa_cons (pe_tup (pa_cons (pv 1) (pa_cons (pv 2) (pa_cons (pv 3) pa_nil)))) pa_nil)))
      (pss_cons (ps_expr (pe_bm PySem.F.plainAttrs_list PySem.F.slot_list_append PySem.F.type_list_append mt_append (pe_fld (pv 0) rfl) (pa_cons (pe_call (ok_pair_of T) hr5 rfl T.pair_of.m T.pair_of.F.kp T.pair_of.b .nil pass0 (pa_cons (pe_meth0 (pv 0) T.cl T.history.me (ok_history T) hr1 T.history.b .nil pass0) (pa_cons (pe_op op_sub (pe_callB call_len_seq (by rfl) T.blen (by decide +kernel) (pa_cons (pe_fld (pv 0) rfl) pa_nil)) pe_int) (pa_cons (pe_fld (pv 0) rfl) pa_nil)))) pa_nil)))
      (pss_one (ps_ret (pe_op op_sub (pe_callB call_len_seq (by rfl) T.blen (by decide +kernel) (pa_cons (pe_fld (pv 0) rfl) pa_nil)) pe_int)))))))), ?_⟩
    refine ⟨_, rfl, ?_⟩
    have ⟨⟨dx, fv, o1, o2⟩, ⟨l, n1, n2⟩, ⟨m, m1, m2⟩, nne⟩ := kp
    refine ⟨p, dx, _, rfl, o1, rfl, _, rfl, _, rfl, p, np, pp, f, evs, ps, e.house, sv, e.stamp, rfl, kp, fok, eok.hs, hs, eok.st.sm (by decide) (by decide), by omega, fun e' he' => ⟨(hst e' he').sm (by decide) (by decide), fun z => eok.mo e' he' z⟩, fun H1 s1 => ?_⟩
    refine ⟨_, rfl, p, dx, _, rfl, s1 _ _ o1, rfl, _, rfl, _, rfl, p, np, pp, f, evs, ps, e.house, dv, e.deed, rfl, kp.same s1, hd.tk (.of s1), ?_, fun H2 s2 => ?_⟩
    · have dd := eok.dd
      unfold DeedOk
      cases hdd : e.deed with
      | mark => trivial
      | send k =>
        rw [hdd] at dd
        exact dd
      | hear k =>
        rw [hdd] at dd
        exact dd
    have s12 := s1.trans s2
    -- noted.append
    refine ⟨_, rfl, p, _, _, _, _, rfl, s12 _ _ o1, T.cl, T.nn, fl_n, .inl ⟨rfl, _, SqL.of (s12 _ _ n1)⟩, _, rfl, _, rfl, _, rfl, by show 3 ≤ sizeLine; decide, fun D hD => ?_⟩
    have s3 := s12.trans (same_new (o := .tup [.str e.house, sv, dv]) hD)
    refine ⟨_, _, _, rfl, rfl, s3 _ _ n1, small1000 (by have := pr_len n2; omega), ?_⟩
    have hkp0 := kp.same s3
    have g3 := s3 _ _ n1
    have gD : (upd H2 D (HO.tup [V.str e.house, sv, dv])) D = _ := upd_same
    have hev : EvAt (upd H2 D (HO.tup [V.str e.house, sv, dv])) (.ref D) e := ⟨D, sv, dv, rfl, gD, hs.tk (.of s3), hd.tk (.of s3)⟩
    refine habs (Ψ := fun G => Kp [np, pp] H G ∧ KpAt T.C G p np pp f (evs ++ [e]) ps) ⟨(Kp.of s3).trans (Kp.upd List.mem_cons_self), ?_⟩ ?_
    · have tk := TK.lst (o := .lst (l ++ [.ref D])) g3
      obtain ⟨⟨dx', fv', o1', o2'⟩, _, ⟨m', m1', m2'⟩, _⟩ := hkp0
      refine ⟨⟨dx', fv', ?_, o2'.tk tk⟩, ⟨_, upd_same, pr_snoc (evs_tk n2 ((TK.of s3).trans tk)) (hev.tk tk)⟩, ⟨m', ?_, prs_tk m2' tk⟩, nne⟩
      · rw [upd_ne kp.ne1]
        exact o1'
      · rw [upd_ne (fun z => nne z.symm)]
        exact m1'
    rintro H4 ⟨k4, kp4⟩
    have ⟨⟨dx4, fv4, p1, p2⟩, ⟨l4, r1, r2⟩, ⟨m4, t1, t2⟩, _⟩ := kp4
    have el4 := pr_len r2
    rw [List.length_append, List.length_singleton] at el4
    -- pairs.append
    refine ⟨_, rfl, p, _, _, _, _, rfl, p1, T.cl, T.np, fl_p, .inl ⟨rfl, _, SqL.of t1⟩, ?_⟩
    refine ⟨_, rfl, p, dx4, _, rfl, p1, rfl, p, np, pp, f, evs ++ [e], ps, rfl, kp4, fun hv H5 s5 hy5 => ?_⟩
    refine ⟨_, rfl, p, _, _, _, _, rfl, s5 _ _ p1, T.cl, T.nn, fl_n, _, _, rfl, .inl (SqL.of (s5 _ _ r1)), _, _, rfl, rfl, _, rfl, p, _, _, _, _, rfl, s5 _ _ p1, T.cl, T.np, fl_p, ?_⟩
    have e4 : ((l4.length : Nat) : Int) - 1 = ((evs.length : Nat) : Int) := by omega
    have tks : ∀ G, Same H5 G → TK H4 G := fun G sg => .of (s5.trans sg)
    refine ⟨hv, pp, m4, f, evs ++ [e], evs.length, e, ps, c, (by show [hv, V.int (((l4.length : Nat) : Int) - 1), V.ref pp] = _; rw [e4]), hy5, fok, at_last, ?_, fun j e' hj he' => hst e' (at_fst hj he'), ?_, s5 _ _ t1, prs_tk t2 (.of s5), by omega, hc, hb, fun z H6 s6 pz => ?_⟩
    · rw [List.length_append, List.length_singleton]
      omega
    · rw [take_all]
      exact eok
    rw [take_all] at pz
    have g6 := s6 _ _ (s5 _ _ t1)
    refine ⟨_, _, _, rfl, rfl, g6, small1000 (by have := pr_len t2; omega), ?_⟩
    have kp6 := (kp4.same s5).same s6
    have tk7 := TK.lst (o := .lst (m4 ++ [z])) g6
    have ⟨⟨dx6, fv6, p16, p26⟩, ⟨l6, r16, r26⟩, _, _⟩ := kp6
    refine habs (Ψ := fun G => Kp [np, pp] H G ∧ KpAt T.C G p np pp f (evs ++ [e]) (ps ++ [pairF f evs e ps])) ⟨(k4.trans (Kp.of (s5.trans s6))).trans (Kp.upd (by simp)), ⟨dx6, fv6, ?_, p26.tk tk7⟩, ⟨l6, ?_, evs_tk r26 tk7⟩, ⟨_, upd_same, ?_⟩, nne⟩ ?_
    · rw [upd_ne kp.ne2]
      exact p16
    · rw [upd_ne nne]
      exact r16
    · exact pr_snoc (prs_tk t2 ((TK.of (s5.trans s6)).trans tk7)) (pz.tk tk7)
    rintro H7 ⟨k7, kp7⟩
    have ⟨⟨dx7, fv7, u1, u2⟩, ⟨l7, v1, v2⟩, _, _⟩ := kp7
    have el7 := pr_len v2
    rw [List.length_append, List.length_singleton] at el7
    refine ⟨_, rfl, p, _, _, _, _, rfl, u1, T.cl, T.nn, fl_n, _, _, rfl, .inl (SqL.of v1), _, _, rfl, rfl, ?_⟩
    show Q (V.int (((l7.length : Nat) : Int) - 1)) H7
    rw [show ((l7.length : Nat) : Int) - 1 = ((evs.length : Nat) : Int) by omega]
    exact q _ k7 kp7
theorem ok_now (T : Tx K mg) : FnOk P w K mg base CX0 6 T.a_now T.d_now p_now (spNow T.C) := by
  refine T.now.F.ok sc_now (fun vs H Q E h => ?_) (fun cdv A outer s H vs Q E hr h => ?_)
  · obtain ⟨p, np, pp, f, evs, ps, n, x, sv, c, rfl, _⟩ := h
    rfl
  · obtain ⟨p, np, pp, f, evs, ps, n, x, sv, c, rfl, kp, fok, hs, eok, hst, hpl, hc, hb, hlen, q⟩ := h
    have hr5 : Room 5 _ := hr
    have hr2 : Room 2 _ := hr5.mono (by decide)
    have hr1 : Room 1 _ := hr5.mono (by decide)
    refine ⟨_, PSs.nox ((pss_cons (ps_expr (pe_meth (pv 0) T.cl T.ask_house.me (ok_ask_house T) hr2 T.ask_house.b .nil pass0 (pa_cons (pv 1) (pa_cons (pv 2) pa_nil))))
      (pss_cons (ps_asg (pe_meth0 (pv 0) T.cl T.history.me (ok_history T) hr1 T.history.b .nil pass0) (pg_tup rfl (pgs_cons (pg_name (i := 3) sc_now.nd rfl (Or.inl rfl)) (pgs_cons (pg_name (i := 4) sc_now.nd rfl (Or.inl rfl)) pgs_nil))))
      (pss_one (ps_ret (pe_call (ok_pair_of T) hr5 rfl T.pair_of.m T.pair_of.F.kp T.pair_of.b .nil pass0 (pa_cons (pe_tup (pa_cons (pv 3) (pa_cons (pe_op op_catA (pv 4) (pe_tup (pa_cons (pe_tup (pa_cons (pv 1) (pa_cons (pv 2) (pa_cons (pe_tup (pa_cons pe_str pa_nil)) pa_nil)))) pa_nil))) pa_nil))) (pa_cons (pe_callB call_len_seq (by rfl) T.blen (by decide +kernel) (pa_cons (pv 4) pa_nil)) (pa_cons (pe_fld (pv 0) rfl) pa_nil))))))))), ?_⟩
    have ⟨⟨dx, fv, o1, o2⟩, ⟨l, n1, n2⟩, ⟨m, m1, m2⟩, nne⟩ := kp
    refine ⟨_, rfl, p, dx, _, rfl, o1, rfl, _, rfl, _, rfl, p, np, pp, f, evs, ps, n, sv, x, rfl, kp, fok, eok.hs, hs, eok.st.sm (by decide) (by decide), by omega, fun e' he' => ⟨(hst e' he').sm (by decide) (by decide), fun z => eok.mo e' he' z⟩, fun H1 s1 => ?_⟩
    refine ⟨_, rfl, p, dx, _, rfl, s1 _ _ o1, rfl, p, np, pp, f, evs, ps, rfl, kp.same s1, fun hv H2 s2 hy => ?_⟩
    obtain ⟨a, fv2, ep, es, rfl, e0, hf, e1, e2⟩ := hy
    refine ⟨_, _, rfl, SqT.of e0, rfl, _, _, rfl, _, _, rfl, rfl, ?_⟩
    have s12 := s1.trans s2
    -- the tuple
    refine ⟨_, rfl, _, rfl, _, rfl, _, rfl, by show 1 ≤ sizeLine; decide, fun D1 h1 => ?_⟩
    refine ⟨by show 3 ≤ sizeLine; decide, fun D2 h2 => ?_⟩
    refine ⟨by show 1 ≤ sizeLine; decide, fun D3 h3 => ?_⟩
    have s3 := same_new (o := .tup [.str "mark"]) h1
    have s4 := same_new (o := .tup [.str n, sv, .ref D1]) h2
    have s5 := same_new (o := .tup [V.ref D2]) h3
    have s35 := (s3.trans s4).trans s5
    have ev : EvAt (upd (upd (upd H2 D1 (.tup [.str "mark"])) D2 (.tup [.str n, sv, .ref D1])) D3 (.tup [V.ref D2])) (.ref D2) ⟨n, x, .mark⟩ := ⟨D2, sv, .ref D1, rfl, s5 _ _ upd_same, hs.tk (.of (s12.trans s35)), D1, rfl, s5 _ _ (s4 _ _ upd_same)⟩
    have hev2 : Paired (EvAt (upd (upd (upd H2 D1 (.tup [.str "mark"])) D2 (.tup [.str n, sv, .ref D1])) D3 (.tup [V.ref D2]))) es evs := evs_tk e2 (.of s35)
    have fin : ∀ t G, Same H2 G → G t = some (.tup (es ++ [.ref D2])) → EvAt G (.ref D2) ⟨n, x, .mark⟩ → ∀ y G', Same G G' → G' y = some (.tup [fv2, .ref t]) → spPairOf K [.ref y, .int (es.length : Nat), .ref pp] G' Q E := fun t G sg gt ge y G' sg' gy => by
      have sa : Same H2 G' := sg.trans sg'
      have el := pr_len e2
      rw [el]
      refine ⟨_, pp, m, f, evs ++ [⟨n, x, .mark⟩], evs.length, _, ps, c, rfl, ⟨y, fv2, t, _, rfl, gy, hf.tk (.of sa), sg' _ _ gt, pr_snoc (evs_tk e2 (.of sa)) (ge.tk (.of sg'))⟩, fok, at_last, ?_, fun j e' hj he' => hst e' (at_fst hj he'), ?_, (s12.trans sa) _ _ m1, prs_tk m2 (.of (s12.trans sa)), by omega, hc, hb, fun z H6 s6 pz => ?_⟩
      · rw [List.length_append, List.length_singleton]
        omega
      · rw [take_all]
        exact eok
      · rw [take_all] at pz
        exact q z H6 ((s12.trans sa).trans s6) pz
    refine ⟨ep, D3, es, [.ref D2], rfl, rfl, SqT.of (s35 _ _ e1), SqT.of upd_same, ?_, ?_, ?_, ?_⟩
    · have := pr_len e2
      refine Nat.le_trans (show es.length + 1 ≤ 1000 by omega) (by decide)
    · intro e0
      subst e0
      refine ⟨by show 2 ≤ sizeLine; decide, fun y hy => ?_⟩
      have sn := same_new (o := .tup [fv2, .ref D3]) hy
      refine ⟨_, rfl, _, _, rfl, .inr (SqT.of (sn _ _ (s35 _ _ e1))), _, rfl, p, _, _, _, _, rfl, (s12.trans (s35.trans sn)) _ _ o1, T.cl, T.np, fl_p, ?_⟩
      exact fin D3 _ s35 upd_same ev y _ sn upd_same
    · intro _ z
      cases z
    · intro _ _ t ht
      have st := same_new (o := .tup (es ++ [.ref D2])) ht
      refine ⟨by show 2 ≤ sizeLine; decide, fun y hy => ?_⟩
      have sn := same_new (o := .tup [fv2, .ref t]) hy
      refine ⟨_, rfl, _, _, rfl, .inr (SqT.of (sn _ _ (st _ _ (s35 _ _ e1)))), _, rfl, p, _, _, _, _, rfl, (s12.trans ((s35.trans st).trans sn)) _ _ o1, T.cl, T.np, fl_p, ?_⟩
      exact fin t _ (s35.trans st) upd_same (ev.tk (.of st)) y _ sn upd_same
end
end Lc
/-! own ==, own str. -/
namespace Lc
open PySem PySem.Spec PyProof.Rows L2
theorem mt_countFK {X : Cx} (K : PySem.W.Frag) (h : X.K = K) : MtR X "list.count" (rCountF K) := h ▸ mt_countF
section
variable {X : Cx}
variable {o e : Expr} {es : List Expr} {to : TE} {t : TA} {name : Str} {apos cpos : Pos} {T id : String} {r : V → List V → Hp → VK → Prop}
theorem pe_bmK (K : PySem.W.Frag) (hK : X.K = K) (pa : PlainAttrs T) (slot : Slot T name id) (hty : typeOf (.builtin id) = pure (.type "method_descriptor")) (hm : MtR X id r) (ho : PE X o to) (ha : PA X (e :: es) t)
    (hbase : attributeBase o name X.env (eval o X.env) = eval o X.env := by rfl)
    (hfew : ((backTo cpos (starEach (e :: es) X.env)).all (fun x => !x.1) && (backToKw cpos (keywordEach [] X.env)).all (fun x => x.1.isSome)
      && decide ((e :: es).length + ([] : List Keyword).length + (if ([] : List Keyword).isEmpty then 0 else 1) < 30)) = true := by rfl)
    (hline : (apos.endLine == cpos.line) = true := by rfl) (hs : starEach (e :: es) X.env = (false, eval e X.env) :: starEach es X.env := by rfl) (hplain : (backTo cpos (starEach es X.env)).any (·.1) = false := by rfl) :
    PE X (.Call (.Attribute o name apos) (e :: es) [] cpos) (tBM K T r to t) := hK ▸ pe_bm pa slot hty hm ho ha hbase hfew hline hs hplain
end
def natText (n : Nat) : Str := (toString ((n : Nat) : Int) : String)
def cnt (evs : List Ev) (n : Str) : Nat := evs.countP fun e => decide (e.house = n)
def rowT (evs : List Ev) (n : Str) : Str := n ++ (":" : Str) ++ natText (cnt evs n)
def textOf (f : Fd) (evs : List Ev) : Str := Txt.join (" " : Str) (f.names.map (rowT evs))
theorem cnt_le (evs : List Ev) (n : Str) : cnt evs n ≤ evs.length := List.countP_le_length
theorem cnt_vs (evs : List Ev) (n : Str) : (evs.map fun e => V.str e.house).countP (fun z => eqV z (.str n)) = cnt evs n := by
  unfold cnt
  rw [List.countP_map]
  refine List.countP_congr fun e _ => ?_
  simp [eqV]
theorem natText_le {n : Nat} (h : n ≤ 40) : (natText n).length ≤ 13 := by
  have hk : ((n : Nat) : Int).natAbs < 10 ^ 12 := by
    rw [Int.natAbs_natCast]
    exact Nat.lt_of_le_of_lt h (by decide)
  have e := PySem.int_text_length_le10 (k := 12) (by decide) hk
  have e2 : (natText n).length = (toString ((n : Nat) : Int)).length := PySem.ofString_length _
  omega
theorem row_le {evs : List Ev} {n : Str} (h : evs.length ≤ 40) (hn : n ∈ pool) : (rowT evs n).length ≤ 22 := by
  unfold rowT
  have h1 := natText_le (Nat.le_trans (cnt_le evs n) h)
  have h2 := pool_len hn
  rw [Str.length_append, Str.length_append]
  have h3 : Str.length (":" : Str) = 1 := by decide +kernel
  omega
theorem rows_le {evs : List Ev} : ∀ {l : List Str}, (∀ n ∈ l, (rowT evs n).length ≤ 22) → ((l.map (rowT evs)).map (·.length)).sum ≤ 22 * l.length
  | [], _ => Nat.le_refl _
  | n :: r, h => by
    have h1 := h n List.mem_cons_self
    have h2 := rows_le (evs := evs) (l := r) fun m hm => h m (List.mem_cons_of_mem _ hm)
    rw [List.map_cons, List.map_cons, List.sum_cons, List.length_cons]
    omega
def spStr (C : Addr) : Sp := fun vs H Q _ => ∃ (p np pp : Addr) (f : Fd) (evs : List Ev) (ps : List Pr), vs = [.ref p] ∧ KpAt C H p np pp f evs ps ∧ FOk f ∧ evs.length ≤ 40 ∧ ∀ H', Same H H' → Q (.str (textOf f evs)) H'
def spEq (C : Addr) (K : PySem.W.Frag) : Sp := fun vs H Q _ => ∃ (p np pp : Addr) (f : Fd) (evs : List Ev) (ps : List Pr) (ov : V), vs = [.ref p, ov] ∧ KpAt C H p np pp f evs ps ∧ Gd 5 (dHy f evs) ∧
  ((∃ (p2 np2 pp2 : Addr) (f2 : Fd) (evs2 : List Ev) (ps2 : List Pr), ov = .ref p2 ∧ KpAt C H p2 np2 pp2 f2 evs2 ps2 ∧ Gd 5 (dHy f2 evs2) ∧ ∀ H', Same H H' → Q (.bl (PyData.eqv (dHy f evs) (dHy f2 evs2))) H') ∨
   (∃ t ∈ (["NoneType", "int", "bool", "list", "tuple", "str"] : List String), TyX K H ov (.type t) ∧ Q (.bl false) H))
section
variable {P : Program} {w : World} {K : PySem.W.Frag} {mg : Str → Option Value} {base : Heap}
theorem ok_eq (T : Tx K mg) : FnOk P w K mg base CX0 2 T.a_eq T.d_eq p_eq (spEq T.C K) := by
  refine T.eq.F.ok sc_eq (fun vs H Q E h => ?_) (fun cdv A outer s H vs Q E hr h => ?_)
  · obtain ⟨p, np, pp, f, evs, ps, ov, rfl, _⟩ := h
    rfl
  · obtain ⟨p, np, pp, f, evs, ps, ov, rfl, kp, gd, ho⟩ := h
    have hr1 : Room 1 _ := hr
    refine ⟨_, PSs.nox ((pss_one (ps_ret (pe_and (pe_callB call_isi (by rfl) T.bisinstance (by decide +kernel) (pa_cons (pv 1) (pa_cons (pe_glob (v := V.ref T.C) rfl T.mKeeper rfl) pa_nil))) (pe_one (pe_cmpR (op_eqD hr.units) (pe_meth0 (pv 0) T.cl T.history.me (ok_history T) hr1 T.history.b .nil pass0) (pe_meth0 (pv 1) T.cl T.history.me (ok_history T) hr1 T.history.b .nil pass0) (nomark _))))))), ?_⟩
    refine ⟨_, rfl, ?_⟩
    rcases ho with ⟨p2, np2, pp2, f2, evs2, ps2, rfl, kp2, gd2, q⟩ | ⟨t, ht, ty, q⟩
    · have ⟨⟨dx2, fv2, o1, o2⟩, _, _, _⟩ := kp2
      refine ⟨_, .ref T.C, _, _, true, rfl, .own _, .base (.ins o1 T.cl T.ca T.cn T.ct T.co), T.kitC, true, rfl, itP rfl ?_⟩
      have ⟨⟨dx, fv, e1, e2⟩, _, _, _⟩ := kp
      refine ⟨_, rfl, p, dx, _, rfl, e1, rfl, p, np, pp, f, evs, ps, rfl, kp, fun v1 H1 s1 h1 => ?_⟩
      refine ⟨_, rfl, p2, dx2, _, rfl, s1 _ _ o1, rfl, p2, np2, pp2, f2, evs2, ps2, rfl, kp2.same s1, fun v2 H2 s2 h2 => ?_⟩
      exact ⟨_, _, (h1.tk (.of s2)).dp, h2.dp, gd.shaped (by decide), gd2.shaped (by decide), q _ (s1.trans s2)⟩
    · refine ⟨_, .ref T.C, _, _, false, rfl, .own _, ty, T.kit t ht, false, rfl, q⟩
theorem ok_str (T : Tx K mg) : FnOk P w K mg base CX0 1 T.a_str T.d_str p_str (spStr T.C) := by
  refine T.str.F.ok sc_str (fun vs H Q E h => ?_) (fun cdv A outer s H vs Q E hr h => ?_)
  · obtain ⟨p, np, pp, f, evs, ps, rfl, _⟩ := h
    rfl
  · obtain ⟨p, np, pp, f, evs, ps, rfl, kp, fok, hlen, q⟩ := h
    refine ⟨_, PSs.nox ((pss_cons (ps_set (i := 1) sc_str.nd rfl (Or.inr rfl) (pe_lc (own := [("event", 2)]) (tt := tYes) rfl sc_str.nd (pi_list (pe_fld (pv 0) rfl)) (blkOk_by (N := n_str) (sc := (defScope s_str)) (by decide +kernel)) (fun _ _ _ _ _ => pg_name (i := 2) sc_str.nd rfl (Or.inl rfl) (Or.inr rfl)) (fun _ _ _ _ _ => pts_nil) (fun _ _ _ _ _ => (pe_ix (ix_tupK K rfl) (pv 2) pe_int (fun _ _ => rfl)))))
      (pss_one (ps_ret (pe_join pe_str (pe_lc (own := [("house", 3)]) (tt := tYes) rfl sc_str.nd (pi_tup (pe_ix ix_tup (pe_fld (pv 0) rfl) pe_int (fun _ _ => rfl))) (blkOk_by (N := n_str) (sc := (defScope s_str)) (by decide +kernel)) (fun _ _ _ _ _ => pg_name (i := 3) sc_str.nd rfl (Or.inl rfl) (Or.inr rfl)) (fun _ _ _ _ _ => pts_nil) (fun _ _ _ _ _ => (pe_joined (PJ.cons (pe_fmt (pe_ix (ix_tupK K rfl) (pv 3) pe_int (fun _ _ => rfl))) (PJ.cons pe_str (PJ.cons (pe_fmt (pe_bmK K rfl PySem.F.plainAttrs_list PySem.F.slot_list_count PySem.F.type_list_count (mt_countFK K rfl) (pv 1) (pa_cons (pe_ix (ix_tupK K rfl) (pv 3) pe_int (fun _ _ => rfl)) pa_nil))) PJ.nil))))))))))), ?_⟩
    have ⟨⟨dx, fv, o1, o2⟩, ⟨l, n1, n2⟩, ⟨m, m1, m2⟩, nne⟩ := kp
    obtain ⟨fp, fhp, flp, fhs, fls, rfl, c0, c1, c2, c3, c4⟩ := id o2
    refine ⟨_, rfl, p, _, _, _, _, rfl, o1, T.cl, T.nn, fl_n, np, rfl, ⟨l, SqL.of n1⟩, fun D hD => ?_⟩
    refine lc_list (K := K) (a := np) (xs := l) (fun i H2 => Same H H2 ∧ H2 D = some (.lst ((evs.take i).map fun e => V.str e.house))) ⟨same_new hD, upd_same⟩ (fun i H2 _ ⟨s2, _⟩ => SqL.of (s2 _ _ n1)) ?_ ?_
    · rintro i y H2 hi ⟨s2, g⟩
      obtain ⟨e, he, px, a, b, rfl, r0, r1, r2⟩ := pr_get n2 hi
      refine ⟨rfl, _, rfl, _, _, _, _, rfl, rfl, SqT.of (s2 _ _ r0), rfl, _, g, ?_, ?_, ?_⟩
      · refine small1000 ?_
        have h1 : (evs.take i).length ≤ evs.length := List.length_take_le' _ _
        rw [List.length_map]
        omega
      · exact fun c o e => by
          rw [upd_ne (ne_of_none e hD)]
          exact s2 _ _ e
      · rw [upd_same, take_snoc he, List.map_append]
        rfl
    · rintro H1 ⟨s1, g⟩
      have el : evs.take l.length = evs := by
        rw [pr_len n2]
        exact List.take_length
      rw [el] at g
      have a1 := s1 _ _ o1
      refine ⟨⟨_, rfl⟩, _, rfl, p, _, _, _, _, rfl, a1, T.cl, T.nf, fl_f, _, _, _, _, rfl, rfl, SqT.of (s1 _ _ c0), rfl, fhp, rfl, ⟨fhs, SqT.of (s1 _ _ c1)⟩, fun D2 hD2 => ?_⟩
      refine lc_tup (te := fun σ H Q => tJs [tFmt (tOp (rIxT K) (tVar 3) (tC (V.int 0))), tC (V.str (":" : Str)), tFmt (tBM K "list" (rCountF K) (tVar 1) (tCons (tOp (rIxT K) (tVar 3) (tC (V.int 0))) tNil))] Str.empty σ H fun out H1 => Q (V.str out) H1) (K := K) (a := fhp) (xs := fhs) (fun i H2 => Same H1 H2 ∧ H2 D2 = some (.lst ((f.names.take i).map fun n => V.str (rowT evs n)))) ⟨same_new hD2, upd_same⟩ (fun i H2 _ ⟨s2, _⟩ => SqT.of (s2 _ _ (s1 _ _ c1))) ?_ ?_
      · rintro i y H2 hi ⟨s2, g2⟩
        obtain ⟨hh, eh, px, a, b, rfl, r0, r1, r2⟩ := pr_get c2 hi
        have s12 := s1.trans s2
        have en : f.names[i]? = some hh.name := by
          unfold Fd.names
          rw [List.getElem?_map, eh]
          rfl
        have hp : hh.name ∈ pool := fok.inp _ (List.mem_of_getElem? en)
        have hl8 := pool_len hp
        have hrl := row_le (evs := evs) hlen hp
        have hcl := natText_le (Nat.le_trans (cnt_le evs hh.name) hlen)
        have hcnt := cnt_le evs hh.name
        have l1 : (Str.empty ++ hh.name).length ≤ 8 := by
          rw [Str.empty_append]
          exact hl8
        have l2 : (Str.empty ++ hh.name ++ (":" : Str)).length ≤ 9 := by
          rw [Str.length_append]
          have h3 : Str.length (":" : Str) = 1 := by decide +kernel
          omega
        have l3 : (Str.empty ++ hh.name ++ (":" : Str) ++ natText (cnt evs hh.name)).length ≤ 22 := by
          rw [Str.empty_append]
          exact hrl
        refine ⟨rfl, _, rfl, _, _, _, _, rfl, rfl, SqT.of (s12 _ _ r0), rfl, .inl ⟨_, rfl, Nat.le_trans hl8 (show 8 ≤ sizeLine by decide), _, rfl, Nat.le_trans l1 (show 8 ≤ sizeLine by decide), _, rfl, Nat.le_trans l2 (show 9 ≤ sizeLine by decide), _, rfl, .inl ⟨rfl, _, SqL.of (s2 _ _ g)⟩, _, rfl, _, _, _, _, rfl, rfl, SqT.of (s12 _ _ r0), rfl, D, _, _, rfl, rfl, SqL.of (s2 _ _ g), rfl, ?_, ?_⟩⟩
        · rw [List.all_eq_true]
          intro z hz
          obtain ⟨y, _, rfl⟩ := List.mem_map.mp hz
          rfl
        rw [cnt_vs]
        refine .inr ⟨_, rfl, ?_, _, rfl, Nat.le_trans l3 (show 22 ≤ sizeLine by decide), _, g2, ?_, ?_, ?_⟩
        · rw [Int.natAbs_natCast]
          have : (cnt evs hh.name).log2 ≤ cnt evs hh.name := Nat.log2_le_self _
          omega
        · refine small1000 ?_
          have h1 : (f.names.take i).length ≤ f.names.length := List.length_take_le' _ _
          have h2 : f.names.length = f.houses.length := List.length_map _
          have := fok.few
          rw [List.length_map]
          omega
        · exact fun c o e => by
            rw [upd_ne (ne_of_none e hD2)]
            exact s2 _ _ e
        · rw [upd_same, take_snoc en, List.map_append]
          have : Str.empty ++ hh.name ++ (":" : Str) ++ natText (cnt evs hh.name) = rowT evs hh.name := by
            rw [Str.empty_append]
            rfl
          show some (HO.lst (_ ++ [V.str (Str.empty ++ hh.name ++ (":" : Str) ++ natText (cnt evs hh.name))])) = _
          rw [this]
          rfl
      · rintro H2 ⟨s2, g2⟩
        have eln : f.names.take fhs.length = f.names := by
          have : fhs.length = f.names.length := by rw [pr_len c2]; exact (List.length_map _).symm
          rw [this]
          exact List.take_length
        rw [eln] at g2
        refine ⟨_, D2, f.names.map (rowT evs), rfl, rfl, .inl ?_, ?_, q _ (s1.trans s2)⟩
        · rw [List.map_map]
          exact SqL.of g2
        · have h1 := rows_le (evs := evs) (l := f.names) fun n hn => row_le hlen (fok.inp n hn)
          have h2 : f.names.length = f.houses.length := List.length_map _
          have := fok.few
          have h3 : Str.length (" " : Str) = 1 := by decide +kernel
          rw [List.length_map, h3]
          omega
end
end Lc
/-! Readings within a comprehension; what the law's defs share. -/
namespace Lc
open PySem PySem.Spec PyProof.Rows L2
section
variable {X : Cx}
theorem call_len_seqK (K : PySem.W.Frag) (h : X.K = K) : CallR X (.builtin "len") (fun xs H Q => ∃ p ys, xs = [.ref p] ∧ (SqL K H p ys ∨ SqT K H p ys) ∧ Q (.int ys.length) H) := h ▸ call_len_seq
theorem sl_tupAK (K : PySem.W.Frag) (h : X.K = K) : SlR X (rSlA K) := h ▸ sl_tupA
theorem pe_fldK (K : PySem.W.Frag) (h : X.K = K) {e : Expr} {ta : TE} {f : Str} {pos : Pos} (he : PE X e ta) (hb : attributeBase e f X.env (eval e X.env) = eval e X.env) : PE X (.Attribute e f pos) (tFld K ta f) := h ▸ pe_fld he hb
theorem pi_listK (K : PySem.W.Frag) (h : X.K = K) {l tg : Expr} {tl : TE} (hl : PE X l tl) : PI X tg l (iList K tl) := h ▸ pi_list hl
theorem pi_tupK (K : PySem.W.Frag) (h : X.K = K) {l tg : Expr} {tl : TE} (hl : PE X l tl) : PI X tg l (iTup K tl) := h ▸ pi_tup hl
end

/-! ### picking from a list -/
theorem pickP {β : Type} {R : V → β → Prop} {xs : List V} {ys : List β} (h : Paired R xs ys) {r : Int} (h0 : 0 ≤ r) (h1 : r < (ys.length : Nat)) : ∃ x y, atI xs r = some x ∧ R x y ∧ y ∈ ys ∧ ys[r.toNat]? = some y := by
  have hl := pr_len h
  have hy : ys[r.toNat]? = some ys[r.toNat] := List.getElem?_eq_getElem (by omega)
  obtain ⟨x, hx, hr⟩ := pr_get' h hy
  refine ⟨x, _, ?_, hr, List.mem_of_getElem? hy, hy⟩
  have := atI_nat hx
  rw [show ((r.toNat : Nat) : Int) = r by omega] at this
  exact this
theorem strs_pr : ∀ l : List Str, Paired (fun v n => v = V.str n) (l.map V.str) l
  | [] => .nil
  | _ :: r => .cons rfl (strs_pr r)
theorem pickS {ns : List Str} {r : Int} (h0 : 0 ≤ r) (h1 : r < (ns.length : Nat)) : ∃ n, atI (ns.map V.str) r = some (.str n) ∧ n ∈ ns ∧ ns[r.toNat]? = some n := by
  obtain ⟨x, y, h2, rfl, h3, h4⟩ := pickP (strs_pr ns) h0 h1
  exact ⟨y, h2, h3, h4⟩

/-! ### a list of fractions, just laid -/
def frV (x : Fr) : List V := [.int x.1, .int x.2]
theorem lay3 (a b c : Fr) {H : Hp} {p q r D : Addr} (h1 : H p = none) (h2 : upd H p (.tup (frV a)) q = none) (h3 : upd (upd H p (.tup (frV a))) q (.tup (frV b)) r = none)
    (hD : upd (upd (upd H p (.tup (frV a))) q (.tup (frV b))) r (.tup (frV c)) D = none) :
    Same H (upd (upd (upd (upd H p (.tup (frV a))) q (.tup (frV b))) r (.tup (frV c))) D (.lst [.ref p, .ref q, .ref r])) ∧ H D = none ∧ Paired (FrAt (upd (upd (upd (upd H p (.tup (frV a))) q (.tup (frV b))) r (.tup (frV c))) D (.lst [.ref p, .ref q, .ref r]))) [.ref p, .ref q, .ref r] [a, b, c] := by
  have s1 := same_new (o := .tup (frV a)) h1
  have s2 := same_new (o := .tup (frV b)) h2
  have s3 := same_new (o := .tup (frV c)) h3
  have s4 := same_new (o := .lst [V.ref p, V.ref q, V.ref r]) hD
  exact ⟨((s1.trans s2).trans s3).trans s4, ((s1.trans s2).trans s3).free hD, .cons ⟨p, rfl, s4 _ _ (s3 _ _ (s2 _ _ upd_same))⟩ (.cons ⟨q, rfl, s4 _ _ (s3 _ _ upd_same)⟩ (.cons ⟨r, rfl, s4 _ _ upd_same⟩ .nil))⟩
theorem lay4 (a b c d : Fr) {H : Hp} {p q r t D : Addr} (h1 : H p = none) (h2 : upd H p (.tup (frV a)) q = none) (h3 : upd (upd H p (.tup (frV a))) q (.tup (frV b)) r = none)
    (h4 : upd (upd (upd H p (.tup (frV a))) q (.tup (frV b))) r (.tup (frV c)) t = none)
    (hD : upd (upd (upd (upd H p (.tup (frV a))) q (.tup (frV b))) r (.tup (frV c))) t (.tup (frV d)) D = none) :
    Same H (upd (upd (upd (upd (upd H p (.tup (frV a))) q (.tup (frV b))) r (.tup (frV c))) t (.tup (frV d))) D (.lst [.ref p, .ref q, .ref r, .ref t])) ∧ H D = none ∧
      Paired (FrAt (upd (upd (upd (upd (upd H p (.tup (frV a))) q (.tup (frV b))) r (.tup (frV c))) t (.tup (frV d))) D (.lst [.ref p, .ref q, .ref r, .ref t]))) [.ref p, .ref q, .ref r, .ref t] [a, b, c, d] := by
  have s1 := same_new (o := .tup (frV a)) h1
  have s2 := same_new (o := .tup (frV b)) h2
  have s3 := same_new (o := .tup (frV c)) h3
  have s4 := same_new (o := .tup (frV d)) h4
  have s5 := same_new (o := .lst [V.ref p, V.ref q, V.ref r, V.ref t]) hD
  exact ⟨(((s1.trans s2).trans s3).trans s4).trans s5, (((s1.trans s2).trans s3).trans s4).free hD, .cons ⟨p, rfl, s5 _ _ (s4 _ _ (s3 _ _ (s2 _ _ upd_same)))⟩ (.cons ⟨q, rfl, s5 _ _ (s4 _ _ (s3 _ _ upd_same))⟩ (.cons ⟨r, rfl, s5 _ _ (s4 _ _ upd_same)⟩ (.cons ⟨t, rfl, s5 _ _ upd_same⟩ .nil)))⟩
/-- None, then three fractions -/
theorem lay3n (a b c : Fr) {H : Hp} {p q r D : Addr} (h1 : H p = none) (h2 : upd H p (.tup (frV a)) q = none) (h3 : upd (upd H p (.tup (frV a))) q (.tup (frV b)) r = none)
    (hD : upd (upd (upd H p (.tup (frV a))) q (.tup (frV b))) r (.tup (frV c)) D = none) :
    Same H (upd (upd (upd (upd H p (.tup (frV a))) q (.tup (frV b))) r (.tup (frV c))) D (.lst [.non, .ref p, .ref q, .ref r])) ∧ H D = none ∧
      Paired (OFrAt (upd (upd (upd (upd H p (.tup (frV a))) q (.tup (frV b))) r (.tup (frV c))) D (.lst [.non, .ref p, .ref q, .ref r]))) [.non, .ref p, .ref q, .ref r] [none, some a, some b, some c] := by
  have s1 := same_new (o := .tup (frV a)) h1
  have s2 := same_new (o := .tup (frV b)) h2
  have s3 := same_new (o := .tup (frV c)) h3
  have s4 := same_new (o := .lst [V.non, V.ref p, V.ref q, V.ref r]) hD
  exact ⟨((s1.trans s2).trans s3).trans s4, ((s1.trans s2).trans s3).free hD, .cons rfl (.cons ⟨p, rfl, s4 _ _ (s3 _ _ (s2 _ _ upd_same))⟩ (.cons ⟨q, rfl, s4 _ _ (s3 _ _ upd_same)⟩ (.cons ⟨r, rfl, s4 _ _ upd_same⟩ .nil)))⟩

theorem if_st {tt : TT} {t1 t2 : TS} {D : Ends} {σ : L2.St} {H : Hp} (Ψ : L2.St → Hp → Prop) (rest : ∀ σ H, Ψ σ H → D.nx σ H) (h : (∀ σ H, Ψ σ H → D.nx σ H) → tIfS tt t1 t2 D σ H) : tIfS tt t1 t2 D σ H := h rest
theorem nxE {F : L2.St → Hp → Prop} {r : VK} {b c : L2.St → Hp → Prop} {σ : L2.St} {H : Hp} (h : F σ H) : Ends.nx { nx := F, rt := r, bk := b, ct := c } σ H := h
theorem gn {i : Nat} {x : V} {σ : L2.St} {H : Hp} {Q : L2.St → Hp → Prop} (h : Q (σ.set i (some x)) H) : gName i x σ H Q := h
theorem if_sq {tt : TT} {t1 t2 u : TS} {D : Ends} {σ : L2.St} {H : Hp} (Ψ : L2.St → Hp → Prop) (rest : ∀ σ H, Ψ σ H → u D σ H) (h : (∀ σ H, Ψ σ H → u D σ H) → tIfS tt t1 t2 { D with nx := u D } σ H) : tSeq (tIfS tt t1 t2) u D σ H := h rest
theorem if_any {c : Prop} [Decidable c] {ta tb : VK → Prop} {Q : VK} (Ψ : V → Hp → Prop) (rest : ∀ v H, Ψ v H → Q v H) (h1 : c → (∀ v H, Ψ v H → Q v H) → ta Q) (h2 : ¬ c → (∀ v H, Ψ v H → Q v H) → tb Q) : if c then ta Q else tb Q := by
  by_cases hc : c
  · rw [if_pos hc]
    exact h1 hc rest
  · rw [if_neg hc]
    exact h2 hc rest
theorem erase_map {α β : Type} (g : α → β) : ∀ (l : List α) (k : Nat), (l.map g).eraseIdx k = (l.eraseIdx k).map g
  | [], _ => rfl
  | _ :: _, 0 => rfl
  | a :: r, k + 1 => by
    show g a :: (r.map g).eraseIdx k = g a :: (r.eraseIdx k).map g
    rw [erase_map g r k]
theorem erase_perm {α : Type} {x : α} : ∀ {l : List α} {k : Nat}, l[k]? = some x → l.Perm (x :: l.eraseIdx k)
  | [], _, h => by simp at h
  | a :: r, 0, h => by
    have e := Option.some.inj (show some a = some x from h)
    subst e
    exact List.Perm.refl _
  | a :: r, k + 1, h => ((erase_perm (l := r) (k := k) (by simpa using h)).cons a).trans (List.Perm.swap x a _)

/-! ### what stays while the law draws: only the tape changes of what was there -/
structure Bs (H H2 : Hp) (t l : Addr) (c : Int) : Prop where
  k : Kp [t] H H2
  tk : TK H H2
  tp : TpAt H2 t l c
  ht : ∃ xs, H t = some (.lst xs)
  hl : ∃ xs, H l = some (.lst xs)
section
variable {H H2 H3 : Hp} {t l p : Addr} {c c' : Int}
theorem Bs.start (h : TpAt H t l c) : Bs H H t l c := by
  obtain ⟨ns, a, d, n, h1, h2, h3⟩ := id h
  exact ⟨Kp.refl _ _, TK.refl _, h, ⟨_, h1⟩, ⟨_, h2⟩⟩
theorem Bs.same (b : Bs H H2 t l c) (s : Same H2 H3) : Bs H H3 t l c := ⟨b.k.trans (Kp.of s), b.tk.trans (.of s), b.tp.same s, b.ht, b.hl⟩
theorem Bs.draw (b : Bs H H2 t l c) (k : Kp [t] H2 H3) (tk : TK H2 H3) (tp : TpAt H3 t l c') : Bs H H3 t l c' := ⟨b.k.trans k, b.tk.trans tk, tp, b.ht, b.hl⟩
theorem Bs.nt (b : Bs H H2 t l c) (h : H p = none) : p ≠ t := by
  rintro rfl
  obtain ⟨xs, e⟩ := b.ht
  rw [h] at e
  cases e
theorem Bs.nl (b : Bs H H2 t l c) (h : H p = none) : p ≠ l := by
  rintro rfl
  obtain ⟨xs, e⟩ := b.hl
  rw [h] at e
  cases e
/-- a list (or what else is no tuple) that is new since H changes -/
theorem Bs.upd (b : Bs H H2 t l c) (h : H p = none) {o : HO} : Bs H (L2.upd H2 p o) t l c := by
  have n1 := b.nt h
  have n2 := b.nl h
  refine ⟨fun x u e n => ?_, fun x u e => ?_, ?_, b.ht, b.hl⟩
  · rw [upd_ne (ne_of_none e h)]
    exact b.k x u e n
  · rw [upd_ne (ne_of_none e h)]
    exact b.tk x u e
  · obtain ⟨ns, a, d, n, h1, h2, h3, h4⟩ := b.tp
    refine ⟨ns, a, d, n, ?_, ?_, h3, h4⟩
    · rw [upd_ne (Ne.symm n1)]
      exact h1
    · rw [upd_ne (Ne.symm n2)]
      exact h2
theorem Bs.mono (b : Bs H H2 t l c) (h : c ≤ c') : Bs H H2 t l c' := ⟨b.k, b.tk, b.tp.mono h, b.ht, b.hl⟩
theorem Bs.free (b : Bs H H2 t l c) (h : H2 p = none) : H p = none := by
  cases q : H p with
  | none => rfl
  | some o =>
    by_cases e : p = t
    · subst e
      obtain ⟨ns, a, d, n, h1, _⟩ := b.tp
      rw [h] at h1
      cases h1
    · rw [b.k p o q (by simpa using e)] at h
      cases h
/-- what is not the tape stays while it is drawn -/
theorem Bs.kp (b : Bs H H2 t l c) (k : Kp [t] H2 H3) (h : H p = none) {o : HO} (e : H2 p = some o) : H3 p = some o := k _ _ e (by simpa using b.nt h)
end
end Lc
/-! The law's field. -/
namespace Lc
open PySem PySem.Spec PyProof.Rows L2
def spField : Sp := fun vs H Q _ => ∃ (t l : Addr) (c : Int), vs = [.ref t] ∧ TpAt H t l c ∧ c ≤ 100 ∧ ∀ v f H', FOk f → FdAt H' v f → Kp [t] H H' → TK H H' → TpAt H' t l (c + 100) → Q v H'
def slows : List Fr := [(1, 1), (1, 2), (3, 4)]
def fasts : List Fr := [(1, 1), (5, 4), (3, 2), (2, 1)]
def leasts : List Fr := [(0, 1), (1, 2), (1, 1), (2, 1)]
def mores : List (Option Fr) := [none, some (0, 1), some (1, 1), some (3, 1)]
theorem rt1_of {a b : Int} (h1 : 0 < a := by decide) (h2 : 0 < b := by decide) (h3 : b ∣ 4 := by decide) (h4 : a ∣ 30 := by decide) (h5 : a ≤ 2 * b := by decide) (h6 : b ≤ 2 * a := by decide) : Rt1 (a, b) := ⟨h1, h2, h3, h4, h5, h6⟩
theorem slows_rt {x : Fr} (h : x ∈ slows) : Rt1 x := by
  rcases List.mem_cons.mp h with rfl | h
  · exact rt1_of
  rcases List.mem_cons.mp h with rfl | h
  · exact rt1_of
  rw [List.mem_singleton.mp h]
  exact rt1_of
theorem fasts_rt {x : Fr} (h : x ∈ fasts) : Rt1 x := by
  rcases List.mem_cons.mp h with rfl | h
  · exact rt1_of
  rcases List.mem_cons.mp h with rfl | h
  · exact rt1_of
  rcases List.mem_cons.mp h with rfl | h
  · exact rt1_of
  rw [List.mem_singleton.mp h]
  exact rt1_of
theorem fb_of {N c a b : Int} (h1 : 0 < b := by decide) (h2 : b ∣ N := by decide) (h3 : -(c * b) ≤ a := by decide) (h4 : a ≤ c * b := by decide) : Fb N c (a, b) := ⟨h1, h2, h3, h4⟩
theorem leasts_fb {x : Fr} (h : x ∈ leasts) : Fb 120 2 x := by
  rcases List.mem_cons.mp h with rfl | h
  · exact fb_of
  rcases List.mem_cons.mp h with rfl | h
  · exact fb_of
  rcases List.mem_cons.mp h with rfl | h
  · exact fb_of
  rw [List.mem_singleton.mp h]
  exact fb_of
theorem mores_fb {x : Option Fr} (h : x ∈ mores) : ∀ y, x = some y → Fb 120 3 y := by
  rcases List.mem_cons.mp h with rfl | h
  · exact fun y e => by cases e
  rcases List.mem_cons.mp h with rfl | h
  · exact fun y e => by cases e; exact fb_of
  rcases List.mem_cons.mp h with rfl | h
  · exact fun y e => by cases e; exact fb_of
  rw [List.mem_singleton.mp h]
  exact fun y e => by cases e; exact fb_of
/-- the loop over the names -/
def FhPv (H : Hp) (t l pl np hp lp : Addr) (ys : List Str) (src : Str) (c : Int) (i : Nat) (σ : L2.St) (H2 : Hp) : Prop := ∃ (b6 b7 b8 b9 : Option V) (ws : List V) (hs : List Hs),
  σ = [some (.ref t), some (.ref pl), some (.ref np), some (.str src), some (.ref hp), some (.ref lp), b6, b7, b8, b9, none, none, none, none] ∧ Bs H H2 t l (c + 8 + 2 * (i : Nat)) ∧ H2 np = some (.lst (ys.map V.str)) ∧ H2 hp = some (.lst ws) ∧ Paired (HsAt H2) ws hs ∧
  hs.map (·.name) = ys.take i ∧ H2 lp = some (.lst []) ∧ ∀ h ∈ hs, (Rt1 h.slow ∧ Rt1 h.fast) ∧ (h.name = src → h.slow = (1, 1) ∧ h.fast = (1, 1))
def LkGood (ys : List Str) (k : Lk) : Prop := k.frm ∈ ys ∧ k.to ∈ ys ∧ Fb 120 5 k.least ∧ ∀ m, k.most = some m → Fb 120 5 m
/-- the loop over the links -/
def LkPv (H : Hp) (t l pl np hp lp : Addr) (ys : List Str) (src : Str) (hs : List Hs) (c : Int) (i : Nat) (σ : L2.St) (H2 : Hp) : Prop := ∃ (b6 b7 b8 b9 b10 b11 b12 b13 : Option V) (ws us : List V) (ls : List Lk),
  σ = [some (.ref t), some (.ref pl), some (.ref np), some (.str src), some (.ref hp), some (.ref lp), b6, b7, b8, b9, b10, b11, b12, b13] ∧ Bs H H2 t l (c + 22 + 6 * (i : Nat)) ∧ H2 np = some (.lst (ys.map V.str)) ∧ H2 hp = some (.lst ws) ∧ Paired (HsAt H2) ws hs ∧
  H2 lp = some (.lst us) ∧ Paired (LkAt H2) us ls ∧ ls.length = i ∧ ∀ k ∈ ls, LkGood ys k
structure LkF (H G : Hp) (t l np hp lp : Addr) (ys : List Str) (hs : List Hs) (ws us : List V) (ls : List Lk) (c : Int) : Prop where
  b : Bs H G t l c
  n : G np = some (.lst (ys.map V.str))
  h : G hp = some (.lst ws)
  ph : Paired (HsAt G) ws hs
  l : G lp = some (.lst us)
  pl : Paired (LkAt G) us ls
section
variable {H G G' : Hp} {t l np hp lp : Addr} {ys : List Str} {hs : List Hs} {ws us : List V} {ls : List Lk} {c c' : Int}
theorem LkF.same (f : LkF H G t l np hp lp ys hs ws us ls c) (s : Same G G') : LkF H G' t l np hp lp ys hs ws us ls c :=
  ⟨f.b.same s, s _ _ f.n, s _ _ f.h, pr_mono (fun _ _ z => HsAt.tk z (.of s)) f.ph, s _ _ f.l, pr_mono (fun _ _ z => LkAt.tk z (.of s)) f.pl⟩
theorem LkF.draw (f : LkF H G t l np hp lp ys hs ws us ls c) (h1 : H np = none) (h2 : H hp = none) (h3 : H lp = none) (k : Kp [t] G G') (tk : TK G G') (tp : TpAt G' t l c') : LkF H G' t l np hp lp ys hs ws us ls c' :=
  ⟨f.b.draw k tk tp, f.b.kp k h1 f.n, f.b.kp k h2 f.h, pr_mono (fun _ _ z => HsAt.tk z tk) f.ph, f.b.kp k h3 f.l, pr_mono (fun _ _ z => LkAt.tk z tk) f.pl⟩
end
section
variable {P : Program} {w : World} {K : PySem.W.Frag} {mg : Str → Option Value} {base : Heap}
theorem ok_law_field (T : Tx K mg) : FnOk P w K mg base CX0 3 T.a_law_field T.d_law_field p_law_field spField := by
  refine T.law_field.F.ok sc_law_field (fun vs H Q E h => ?_) (fun cdv A outer s H vs Q E hr h => ?_)
  · obtain ⟨t, l, c, rfl, _⟩ := h
    rfl
  · obtain ⟨t, l, c, rfl, tp, hc, q⟩ := h
    have hr2 : Room 2 _ := hr
    have hr1 : Room 1 _ := hr2.mono (by decide)
    refine ⟨_, PSs.nox ((pss_cons (ps_set (i := 1) sc_law_field.nd rfl (Or.inr rfl) (pe_lst (pa_cons pe_str (pa_cons pe_str (pa_cons pe_str (pa_cons pe_str (pa_cons pe_str (pa_cons pe_str pa_nil))))))))
      (pss_cons (ps_set (i := 2) sc_law_field.nd rfl (Or.inl rfl) (pe_callB cr_sortedS (by rfl) T.bsorted (by decide +kernel) (pa_cons (pe_lc (own := [("_law_k", 9)]) (tt := tYes) rfl sc_law_field.nd (pi_range1 rfl T.brange (pa_cons (pe_op op_add pe_int (pe_call (ok_law_draw T) hr1 rfl T.law_draw.m T.law_draw.F.kp T.law_draw.b .nil pass0 (pa_cons (pv 0) (pa_cons pe_int pa_nil)))) pa_nil)) (blkOk_by (N := n_law_field) (sc := (defScope s_law_field)) (by decide +kernel)) (fun _ _ _ _ _ => pg_name (i := 9) sc_law_field.nd rfl (Or.inl rfl) (Or.inr rfl)) (fun _ _ _ _ _ => pts_nil) (fun _ _ _ _ _ => (pe_bmK K rfl PySem.F.plainAttrs_list PySem.F.slot_list_pop PySem.F.type_list_pop mt_popAt (pv 1) (pa_cons (pe_call (ok_law_draw T) hr1 rfl T.law_draw.m T.law_draw.F.kp T.law_draw.b .nil pass0 (pa_cons (pv 0) (pa_cons (pe_callB (call_len_seqK K rfl) (by rfl) T.blen (by decide +kernel) (pa_cons (pv 1) pa_nil)) pa_nil))) pa_nil)))) pa_nil)))
      (pss_cons (ps_par3 (i := 3) (j := 4) (l := 5) rfl sc_law_field.nd rfl rfl rfl (by decide) (by decide) (by decide) rfl rfl rfl (pa_cons (pe_ix ix_list (pv 2) (pe_call (ok_law_draw T) hr1 rfl T.law_draw.m T.law_draw.F.kp T.law_draw.b .nil pass0 (pa_cons (pv 0) (pa_cons (pe_callB call_len_seq (by rfl) T.blen (by decide +kernel) (pa_cons (pv 2) pa_nil)) pa_nil))) (fun _ _ => rfl)) (pa_cons (pe_lst pa_nil) (pa_cons (pe_lst pa_nil) pa_nil))) (by rfl))
      (pss_cons (ps_for PassesOwn.never rfl (pi_list (pv 2)) (pg_name (i := 6) sc_law_field.nd rfl (Or.inl rfl))
        (pss_cons (ps_set (i := 7) sc_law_field.nd rfl (Or.inl rfl) (pe_ix ix_list (pe_lst (pa_cons (pe_tup (pa_cons pe_int (pa_cons pe_int pa_nil))) (pa_cons (pe_tup (pa_cons pe_int (pa_cons pe_int pa_nil))) (pa_cons (pe_tup (pa_cons pe_int (pa_cons pe_int pa_nil))) pa_nil)))) (pe_call (ok_law_draw T) hr1 rfl T.law_draw.m T.law_draw.F.kp T.law_draw.b .nil pass0 (pa_cons (pv 0) (pa_cons pe_int pa_nil))) (fun _ _ => rfl)))
        (pss_cons (ps_set (i := 8) sc_law_field.nd rfl (Or.inl rfl) (pe_ix ix_list (pe_lst (pa_cons (pe_tup (pa_cons pe_int (pa_cons pe_int pa_nil))) (pa_cons (pe_tup (pa_cons pe_int (pa_cons pe_int pa_nil))) (pa_cons (pe_tup (pa_cons pe_int (pa_cons pe_int pa_nil))) (pa_cons (pe_tup (pa_cons pe_int (pa_cons pe_int pa_nil))) pa_nil))))) (pe_call (ok_law_draw T) hr1 rfl T.law_draw.m T.law_draw.F.kp T.law_draw.b .nil pass0 (pa_cons (pv 0) (pa_cons pe_int pa_nil))) (fun _ _ => rfl)))
        (pss_one (ps_expr (pe_bm PySem.F.plainAttrs_list PySem.F.slot_list_append PySem.F.type_list_append mt_append (pv 4) (pa_cons (pe_ifExp (pt_cmpR op_ne (pv 6) (pv 3) (nomark _)) (pe_tup (pa_cons (pv 6) (pa_cons (pv 7) (pa_cons (pv 8) pa_nil)))) (pe_tup (pa_cons (pv 6) (pa_cons (pe_tup (pa_cons pe_int (pa_cons pe_int pa_nil))) (pa_cons (pe_tup (pa_cons pe_int (pa_cons pe_int pa_nil))) pa_nil))))) pa_nil)))))))
      (pss_cons (ps_for PassesOwn.never rfl (pi_range1 rfl T.brange (pa_cons (pe_ifExp (pt_cmpR op_gt (pe_callB call_len_seq (by rfl) T.blen (by decide +kernel) (pa_cons (pv 2) pa_nil)) pe_int (nomark _)) (pe_call (ok_law_draw T) hr1 rfl T.law_draw.m T.law_draw.F.kp T.law_draw.b .nil pass0 (pa_cons (pv 0) (pa_cons pe_int pa_nil))) pe_int) pa_nil)) (pg_name (i := 9) sc_law_field.nd rfl (Or.inl rfl))
        (pss_cons (ps_set (i := 10) sc_law_field.nd rfl (Or.inl rfl) (pe_call (ok_law_draw T) hr1 rfl T.law_draw.m T.law_draw.F.kp T.law_draw.b .nil pass0 (pa_cons (pv 0) (pa_cons (pe_callB call_len_seq (by rfl) T.blen (by decide +kernel) (pa_cons (pv 2) pa_nil)) pa_nil))))
        (pss_cons (ps_set (i := 11) sc_law_field.nd rfl (Or.inl rfl) (pe_op op_mod (pe_op op_add (pe_op op_add (pv 10) pe_int) (pe_call (ok_law_draw T) hr1 rfl T.law_draw.m T.law_draw.F.kp T.law_draw.b .nil pass0 (pa_cons (pv 0) (pa_cons (pe_op op_sub (pe_callB call_len_seq (by rfl) T.blen (by decide +kernel) (pa_cons (pv 2) pa_nil)) pe_int) pa_nil)))) (pe_callB call_len_seq (by rfl) T.blen (by decide +kernel) (pa_cons (pv 2) pa_nil))))
        (pss_cons (ps_if (PW.pt (pw_and (pt_cmpR op_eq (pe_call (ok_law_draw T) hr1 rfl T.law_draw.m T.law_draw.F.kp T.law_draw.b .nil pass0 (pa_cons (pv 0) (pa_cons pe_int pa_nil))) pe_int (nomark _)) (pw_and1 (pt_cmpR op_ne (pe_ix ix_list (pv 2) (pv 10) (fun _ _ => rfl)) (pv 3) (nomark _)))))
          (pss_one (ps_par (i := 10) (j := 11) rfl sc_law_field.nd rfl rfl (by decide) rfl rfl (pa_cons (pe_bm PySem.F.plainAttrs_list PySem.F.slot_list_index PySem.F.type_list_index mt_index (pv 2) (pa_cons (pv 3) pa_nil)) (pa_cons (pv 10) pa_nil)) (by rfl)))
          pss_nil)
        (pss_cons (ps_set (i := 12) sc_law_field.nd rfl (Or.inl rfl) (pe_ix ix_list (pe_lst (pa_cons (pe_tup (pa_cons pe_int (pa_cons pe_int pa_nil))) (pa_cons (pe_tup (pa_cons pe_int (pa_cons pe_int pa_nil))) (pa_cons (pe_tup (pa_cons pe_int (pa_cons pe_int pa_nil))) (pa_cons (pe_tup (pa_cons pe_int (pa_cons pe_int pa_nil))) pa_nil))))) (pe_call (ok_law_draw T) hr1 rfl T.law_draw.m T.law_draw.F.kp T.law_draw.b .nil pass0 (pa_cons (pv 0) (pa_cons pe_int pa_nil))) (fun _ _ => rfl)))
        (pss_cons (ps_set (i := 13) sc_law_field.nd rfl (Or.inl rfl) (pe_ix ix_list (pe_lst (pa_cons pe_non (pa_cons (pe_tup (pa_cons pe_int (pa_cons pe_int pa_nil))) (pa_cons (pe_tup (pa_cons pe_int (pa_cons pe_int pa_nil))) (pa_cons (pe_tup (pa_cons pe_int (pa_cons pe_int pa_nil))) pa_nil))))) (pe_call (ok_law_draw T) hr1 rfl T.law_draw.m T.law_draw.F.kp T.law_draw.b .nil pass0 (pa_cons (pv 0) (pa_cons pe_int pa_nil))) (fun _ _ => rfl)))
        (pss_one (ps_expr (pe_bm PySem.F.plainAttrs_list PySem.F.slot_list_append PySem.F.type_list_append mt_append (pv 5) (pa_cons (pe_tup (pa_cons (pe_ix ix_list (pv 2) (pv 10) (fun _ _ => rfl)) (pa_cons (pe_ix ix_list (pv 2) (pv 11) (fun _ _ => rfl)) (pa_cons (pv 12) (pa_cons (pe_ifExp (pt_cmpR op_isN (pv 13) pe_non (nomark _)) pe_non (pe_call (ok_law_plus T) hr2 rfl T.law_plus.m T.law_plus.F.kp T.law_plus.b .nil pass0 (pa_cons (pv 12) (pa_cons (pv 13) pa_nil)))) pa_nil))))) pa_nil))))))))))
      (pss_one (ps_ret (pe_tup (pa_cons (pe_callTy call_tuple_of (by rfl) T.btuple (by decide +kernel) (pa_cons (pv 4) pa_nil)) (pa_cons (pe_callTy call_tuple_of (by rfl) T.btuple (by decide +kernel) (pa_cons (pv 5) pa_nil)) (pa_cons (pv 3) pa_nil)))))))))))), ?_⟩
    refine ⟨by show 6 ≤ sizeLine; decide, fun pl hpl => ?_⟩
    refine habs (Ψ := fun G => Bs H G t l c ∧ G pl = some (.lst (pool.map V.str))) ⟨(Bs.start tp).same (same_new hpl), upd_same⟩ ?_
    rintro H1 ⟨b1, g1⟩
    -- the names
    refine ⟨_, rfl, t, l, 6, c, rfl, b1.tp, by decide, by decide, by omega, fun r H2 r0 r6 k2 tk2 tp2 => ?_⟩
    have b2 := b1.draw k2 tk2 tp2
    have g2 := b1.kp k2 hpl g1
    refine ⟨_, _, rfl, rfl, _, rfl, by omega, by omega, fun D hD => ?_⟩
    have hD0 := b2.free hD
    have ne1 : pl ≠ D := ne_of_none g2 hD
    refine lc_range (fun i H3 => ∃ dr rest : List Str, Bs H H3 t l (c + 1 + (i : Nat)) ∧ H3 D = some (.lst (dr.map V.str)) ∧ H3 pl = some (.lst (rest.map V.str)) ∧ (dr ++ rest).Perm pool ∧ dr.length = i) ⟨[], pool, ?_, upd_same, ?_, List.Perm.refl _, rfl⟩ ?_ ?_
    · exact (b2.upd hD0).mono (by omega)
    · rw [upd_ne ne1]
      exact g2
    · rintro i H3 hi ⟨dr, rest, b3, gD, gP, pm, ei⟩
      have hlp := pm.length_eq
      rw [List.length_append, show pool.length = 6 from rfl] at hlp
      have i6 : i < 6 := by omega
      refine ⟨rfl, _, rfl, .inl ⟨rfl, _, SqL.of gP⟩, _, rfl, _, rfl, _, _, rfl, .inl (SqL.of gP), ?_⟩
      refine ⟨t, l, _, _, rfl, b3.tp, ?_, ?_, by omega, fun x H4 x0 x1 k4 tk4 tp4 => ?_⟩
      · rw [List.length_map]
        omega
      · rw [List.length_map]
        omega
      rw [List.length_map] at x1
      have b4 := b3.draw k4 tk4 tp4
      have gD4 := b3.kp k4 hD0 gD
      have gP4 := b3.kp k4 hpl gP
      obtain ⟨n, _, _, hn⟩ := pickS (ns := rest) x0 x1
      refine ⟨pl, _, x, x.toNat, .str n, rfl, rfl, gP4, by omega, by omega, seqIndex_of x0 (by rw [List.length_map]; exact x1), ?_, ?_⟩
      · rw [List.getElem?_map, hn]
        rfl
      have ne2 : D ≠ pl := ne1.symm
      refine ⟨_, (by rw [upd_ne ne2]; exact gD4), small1000 (by rw [List.length_map]; omega), dr ++ [n], rest.eraseIdx x.toNat, ?_, ?_, ?_, ?_, ?_⟩
      · exact ((b4.upd hpl).upd hD0).mono (by omega)
      · rw [upd_same, List.map_append]
        rfl
      · rw [upd_ne ne1, upd_same, erase_map]
      · refine List.Perm.trans ?_ pm
        rw [List.append_assoc]
        exact List.Perm.append_left dr (erase_perm hn).symm
      · rw [List.length_append, ei]
        rfl
    rintro H3 ⟨dr, rest, b3, gD, gP, pm, ei⟩
    have hlp := pm.length_eq
    rw [List.length_append, show pool.length = 6 from rfl] at hlp
    refine ⟨D, dr, rfl, SqL.of gD, by omega, fun ys np py _ hnp => ?_⟩
    have hnp0 := b3.free hnp
    have nd : ys.Nodup := by
      have h1 : (dr ++ rest).Nodup := pm.nodup_iff.mpr (by decide +kernel)
      exact py.nodup_iff.mpr (List.nodup_append.mp h1).1
    have inp : ∀ x ∈ ys, x ∈ pool := fun x hx => pm.mem_iff.mp (List.mem_append_left _ (py.mem_iff.mp hx))
    have yl : ys.length = dr.length := py.length_eq
    have y1 : 1 ≤ ys.length := by omega
    have y6 : ys.length ≤ 6 := by omega
    refine habs (Ψ := fun G => Bs H G t l (c + 7) ∧ G np = some (.lst (ys.map V.str))) ⟨(b3.same (same_new hnp)).mono (by omega), upd_same⟩ ?_
    rintro H4 ⟨b4, g4⟩
    clear b3 gD gP pm hnp b2 g2 hD b1 g1
    -- the source
    refine ⟨_, rfl, _, rfl, _, rfl, _, _, rfl, .inl (SqL.of g4), t, l, _, _, rfl, b4.tp, by rw [List.length_map]; omega, by rw [List.length_map]; omega, by omega, fun x H5 x0 x1 k5 tk5 tp5 => ?_⟩
    rw [List.length_map] at x1
    have b5 := b4.draw k5 tk5 tp5
    have g5 := b4.kp k5 hnp0 g4
    obtain ⟨src, asrc, msrc, _⟩ := pickS (ns := ys) x0 x1
    refine ⟨_, _, _, _, rfl, rfl, SqL.of g5, asrc, by show 0 ≤ sizeLine; decide, fun hp hhp => ⟨by show 0 ≤ sizeLine; decide, fun lp hlp2 => ⟨_, _, _, rfl, ?_⟩⟩⟩
    have hhp0 := b5.free hhp
    have b6 := b5.same (same_new (o := .lst []) hhp)
    have hlp0 := b6.free hlp2
    have nhl : hp ≠ lp := ne_of_none upd_same hlp2
    have g6 := same_new (o := .lst []) hhp _ _ g5
    have nnh : np ≠ hp := ne_of_none g5 hhp
    have nnl : np ≠ lp := ne_of_none g6 hlp2
    refine habs (Ψ := fun G => Bs H G t l (c + 8) ∧ G np = some (.lst (ys.map V.str)) ∧ G hp = some (.lst []) ∧ G lp = some (.lst [])) ⟨(b6.same (same_new hlp2)).mono (by omega), same_new hlp2 _ _ g6, same_new hlp2 _ _ upd_same, upd_same⟩ ?_
    rintro H7 ⟨b7, g7, gh7, gl7⟩
    clear b6 hlp2 g6 hhp b5 g5 b4 g4
    -- the houses
    refine ⟨_, rfl, np, rfl, ⟨_, SqL.of g7⟩, for_list (K := K) (a := np) (xs := ys.map V.str) (FhPv H t l pl np hp lp ys src c) ⟨none, none, none, none, [], [], rfl, b7.mono (by omega), g7, gh7, .nil, rfl, gl7, fun h hh => by cases hh⟩ (fun i σ H2 _ ⟨_, _, _, _, _, _, _, _, gg, _⟩ => SqL.of gg) ?_ ?_⟩
    · rintro i nv σ H8 hi ⟨c6, c7, c8, c9, ws, hs, rfl, b8, g8, gh8, ph8, en8, gl8, ok8⟩
      have hiy : i < ys.length := by
        have := (List.getElem?_eq_some_iff.mp hi).1
        rwa [List.length_map] at this
      have hn : ys[i]? = some ys[i] := List.getElem?_eq_getElem hiy
      generalize ys[i] = n at hn
      rw [List.getElem?_map, hn] at hi
      cases (Option.some.inj hi : V.str n = nv)
      -- slow
      refine ⟨by show 2 ≤ sizeLine; decide, fun p1 h1 => ⟨by show 2 ≤ sizeLine; decide, fun p2 h2 => ⟨by show 2 ≤ sizeLine; decide, fun p3 h3 => ⟨by show 3 ≤ sizeLine; decide, fun D hD => ?_⟩⟩⟩⟩
      obtain ⟨sA, hDA, pA⟩ := lay3 (1, 1) (1, 2) (3, 4) h1 h2 h3 hD
      have hDA0 := b8.free hDA
      have b9 := b8.same sA
      refine ⟨_, rfl, t, l, 3, _, rfl, b9.tp, by decide, by decide, by omega, fun x H9 x0 x1 k9 tk9 tp9 => ?_⟩
      have b10 := b9.draw k9 tk9 tp9
      obtain ⟨sv, slow, asl, fsl, msl, _⟩ := pickP pA x0 x1
      refine ⟨_, _, _, _, rfl, rfl, SqL.of (b9.kp k9 hDA0 upd_same), asl, ?_⟩
      have gg8 := b9.kp k9 hnp0 (sA _ _ g8)
      have gh9 := b9.kp k9 hhp0 (sA _ _ gh8)
      have gl9 := b9.kp k9 hlp0 (sA _ _ gl8)
      have fsl9 := fsl.tk tk9
      have ph9 : Paired (HsAt H9) ws hs := pr_mono (fun _ _ z => HsAt.tk z ((TK.of sA).trans tk9)) ph8
      clear pA asl fsl b9 k9 tk9 tp9 sA h1 h2 h3 hD hDA
      -- fast
      refine ⟨by show 2 ≤ sizeLine; decide, fun p1 h1 => ⟨by show 2 ≤ sizeLine; decide, fun p2 h2 => ⟨by show 2 ≤ sizeLine; decide, fun p3 h3 => ⟨by show 2 ≤ sizeLine; decide, fun p4 h4 => ⟨by show 4 ≤ sizeLine; decide, fun D hD => ?_⟩⟩⟩⟩⟩
      obtain ⟨sA, hDA, pA⟩ := lay4 (1, 1) (5, 4) (3, 2) (2, 1) h1 h2 h3 h4 hD
      have hDA1 := b10.free hDA
      have b11 := b10.same sA
      refine ⟨_, rfl, t, l, 4, _, rfl, b11.tp, by decide, by decide, by omega, fun y HA y0 y1' kA tkA tpA => ?_⟩
      have b12 := b11.draw kA tkA tpA
      obtain ⟨fv, fast, asf, fsf, msf, _⟩ := pickP pA y0 y1'
      refine ⟨_, _, _, _, rfl, rfl, SqL.of (b11.kp kA hDA1 upd_same), asf, ?_⟩
      have gnA := b11.kp kA hnp0 (sA _ _ gg8)
      have ghA := b11.kp kA hhp0 (sA _ _ gh9)
      have glA := b11.kp kA hlp0 (sA _ _ gl9)
      have tkk := (TK.of sA).trans tkA
      have fslA := fsl9.tk tkk
      have fsfA := fsf.tk tkA
      have phA : Paired (HsAt HA) ws hs := pr_mono (fun _ _ z => HsAt.tk z tkk) ph9
      clear pA asf fsf b11 kA tkA tpA sA h1 h2 h3 h4 hD hDA b10 gg8 gh9 gl9 fsl9 ph9 tkk
      have hwl := pr_len phA
      have hnl : hs.length = i := by
        have := congrArg List.length en8
        rw [List.length_map, List.length_take] at this
        omega
      have fin : ∀ (G : Hp) (v : V) (h : Hs), Same HA G → HsAt G v h → h.name = n → (Rt1 h.slow ∧ Rt1 h.fast) → (h.name = src → h.slow = (1, 1) ∧ h.fast = (1, 1)) →
          G hp = some (.lst ws) ∧ ws.length < sizeLine ∧ FhPv H t l pl np hp lp ys src c (i + 1) [some (.ref t), some (.ref pl), some (.ref np), some (.str src), some (.ref hp), some (.ref lp), some (.str n), some sv, some fv, c9, none, none, none, none] (upd G hp (.lst (ws ++ [v]))) := by
        intro G v h sg hv hnm hrt hsr
        have gG := sg _ _ ghA
        have tkG := TK.lst (o := .lst (ws ++ [v])) gG
        refine ⟨gG, small1000 (by omega), _, _, _, _, ws ++ [v], hs ++ [h], rfl, ((b12.same sg).upd hhp0).mono (by omega), ?_, upd_same, ?_, ?_, ?_, ?_⟩
        · rw [upd_ne nnh]
          exact sg _ _ gnA
        · exact pr_snoc (pr_mono (fun _ _ z => HsAt.tk z ((TK.of sg).trans tkG)) phA) (hv.tk tkG)
        · rw [List.map_append, en8, take_snoc hn, ← hnm]
          rfl
        · rw [upd_ne nhl.symm]
          exact sg _ _ glA
        · intro k hk
          rcases List.mem_append.mp hk with hk | hk
          · exact ok8 k hk
          · rw [List.mem_singleton.mp hk]
            exact ⟨hrt, hsr⟩
      refine ⟨_, rfl, .inl ⟨rfl, _, SqL.of ghA⟩, _, rfl, _, rfl, rfl, _, rfl, ite2 (fun hne => ?_) (fun heq => ?_)⟩
      · refine ⟨_, rfl, _, rfl, _, rfl, by show 3 ≤ sizeLine; decide, fun p hp3 => ?_⟩
        have sn := same_new (o := .tup [V.str n, sv, fv]) hp3
        obtain ⟨f1, f2, f3⟩ := fin _ (.ref p) ⟨n, slow, fast⟩ sn ⟨p, sv, fv, rfl, upd_same, fslA.tk (.of sn), fsfA.tk (.of sn)⟩ rfl ⟨slows_rt msl, fasts_rt msf⟩ (fun e => by
          rw [show n = src from e] at hne
          simp at hne)
        exact ⟨_, _, _, rfl, rfl, f1, f2, f3⟩
      · refine ⟨_, rfl, by show 2 ≤ sizeLine; decide, fun q1 hq1 => ⟨by show 2 ≤ sizeLine; decide, fun q2 hq2 => ⟨by show 3 ≤ sizeLine; decide, fun p hp3 => ?_⟩⟩⟩
        have s1 := same_new (o := .tup (frV (1, 1))) hq1
        have s2 := same_new (o := .tup (frV (1, 1))) hq2
        have s3 := same_new (o := .tup [V.str n, .ref q1, .ref q2]) hp3
        obtain ⟨f1, f2, f3⟩ := fin _ (.ref p) ⟨n, (1, 1), (1, 1)⟩ ((s1.trans s2).trans s3) ⟨p, _, _, rfl, upd_same, ⟨q1, rfl, s3 _ _ (s2 _ _ upd_same)⟩, ⟨q2, rfl, s3 _ _ upd_same⟩⟩ rfl ⟨rt1_of, rt1_of⟩ (fun _ => ⟨rfl, rfl⟩)
        exact ⟨_, _, _, rfl, rfl, f1, f2, f3⟩
    · rintro σ H8 ⟨c6, c7, c8, c9, ws, hs, rfl, b8, g8, gh8, ph8, en8, gl8, ok8⟩
      rw [List.length_map] at b8 en8
      have b8 := b8.mono (show _ ≤ c + 20 by omega)
      rw [List.take_length] at en8
      clear b7 g7 gh7 gl7
      refine ⟨_, rfl, _, _, rfl, .inl (SqL.of g8), _, _, rfl, rfl, _, rfl, ?_⟩
      rw [List.length_map]
      refine if_any (Ψ := fun v G => ∃ r : Int, v = .int r ∧ 0 ≤ r ∧ r < 9 ∧ (1 < ys.length ∨ r = 0) ∧ Bs H G t l (c + 22) ∧ G np = some (.lst (ys.map V.str)) ∧ G hp = some (.lst ws) ∧ Paired (HsAt G) ws hs ∧ G lp = some (.lst [])) ?_ ?_ ?_
      · rintro v G ⟨r, rfl, r0, r9, r1, b9, g9, gh9, ph9, gl9⟩
        refine ⟨_, rfl, by omega, by omega, ?_⟩
        refine for_range (lo := 0) (LkPv H t l pl np hp lp ys src hs c) ⟨c6, c7, c8, c9, none, none, none, none, ws, [], [], rfl, b9.mono (by omega), g9, gh9, ph9, gl9, .nil, rfl, fun h hh => by cases hh⟩ ?_ ?_
        · rintro i σ H9 hi ⟨d6, d7, d8, d9, d10, d11, d12, d13, ws, us, ls, rfl, b9, g9, gh9, ph9, gl9, pl9, el9, ok9⟩
          have y2 : 1 < ys.length := by
            rcases r1 with h | h
            · exact h
            · omega
          have f9 : LkF H H9 t l np hp lp ys hs ws us ls _ := ⟨b9, g9, gh9, ph9, gl9, pl9⟩
          clear b9 g9 gh9 ph9 gl9 pl9
          -- at
          refine ⟨_, rfl, _, rfl, _, _, rfl, .inl (SqL.of f9.n), t, l, _, _, rfl, f9.b.tp, by rw [List.length_map]; omega, by rw [List.length_map]; omega, by omega, fun a HA a0 a1 kA tkA tpA => ?_⟩
          rw [List.length_map] at a1
          have fA := f9.draw hnp0 hhp0 hlp0 kA tkA tpA
          -- to
          refine ⟨_, rfl, _, _, rfl, rfl, _, rfl, _, rfl, _, _, rfl, .inl (SqL.of fA.n), _, _, rfl, rfl, t, l, _, _, rfl, fA.b.tp, by rw [List.length_map]; omega, by rw [List.length_map]; omega, by omega, fun d HB d0 d1 kB tkB tpB => ?_⟩
          have fB := fA.draw hnp0 hhp0 hlp0 kB tkB tpB
          refine ⟨_, _, rfl, rfl, _, rfl, _, _, rfl, .inl (SqL.of fB.n), _, _, rfl, rfl, by rw [List.length_map]; omega, ?_⟩
          rw [List.length_map]
          have b0 := Int.emod_nonneg (a + 1 + d) (show ((ys.length : Nat) : Int) ≠ 0 by omega)
          have b1 := Int.emod_lt_of_pos (a + 1 + d) (show (0 : Int) < ((ys.length : Nat) : Int) by omega)
          clear kA tkA tpA kB tkB tpB fA d0 d1
          -- if
          refine gn (nxE ?_)
          refine if_sq (Ψ := fun σ G => ∃ a e : Int, 0 ≤ a ∧ a < (ys.length : Nat) ∧ 0 ≤ e ∧ e < (ys.length : Nat) ∧ σ = [some (.ref t), some (.ref pl), some (.ref np), some (.str src), some (.ref hp), some (.ref lp), d6, d7, d8, some (.int (0 + (i : Nat))), some (.int a), some (.int e), d12, d13] ∧
            LkF H G t l np hp lp ys hs ws us ls (c + 25 + 6 * (i : Nat))) ?_ ?_
          · rintro σ HC ⟨a, e, a0, a1, b0, b1, rfl, fC⟩
            obtain ⟨nA, hA1, mA, _⟩ := pickS (ns := ys) a0 a1
            obtain ⟨nB, hB1, mB, _⟩ := pickS (ns := ys) b0 b1
            -- least
            refine ⟨by show 2 ≤ sizeLine; decide, fun p1 h1 => ⟨by show 2 ≤ sizeLine; decide, fun p2 h2 => ⟨by show 2 ≤ sizeLine; decide, fun p3 h3 => ⟨by show 2 ≤ sizeLine; decide, fun p4 h4 => ⟨by show 4 ≤ sizeLine; decide, fun D hD => ?_⟩⟩⟩⟩⟩
            obtain ⟨sA, hDA, pA⟩ := lay4 (0, 1) (1, 2) (1, 1) (2, 1) h1 h2 h3 h4 hD
            have hDA1 := fC.b.free hDA
            have f1 := fC.same sA
            refine ⟨_, rfl, t, l, 4, _, rfl, f1.b.tp, by decide, by decide, by omega, fun y HD y0 y1' kD tkD tpD => ?_⟩
            have f2 := f1.draw hnp0 hhp0 hlp0 kD tkD tpD
            obtain ⟨lv, least, asf, fl, mle, _⟩ := pickP pA y0 y1'
            refine ⟨_, _, _, _, rfl, rfl, SqL.of (f1.b.kp kD hDA1 upd_same), asf, ?_⟩
            have fl2 := fl.tk tkD
            clear pA asf fl f1 kD tkD tpD sA h1 h2 h3 h4 hD hDA fC
            -- more
            refine ⟨by show 2 ≤ sizeLine; decide, fun p1 h1 => ⟨by show 2 ≤ sizeLine; decide, fun p2 h2 => ⟨by show 2 ≤ sizeLine; decide, fun p3 h3 => ⟨by show 4 ≤ sizeLine; decide, fun D hD => ?_⟩⟩⟩⟩
            obtain ⟨sA, hDA, pA⟩ := lay3n (0, 1) (1, 1) (3, 1) h1 h2 h3 hD
            have hDA1 := f2.b.free hDA
            have f3 := f2.same sA
            refine ⟨_, rfl, t, l, 4, _, rfl, f3.b.tp, by decide, by decide, by omega, fun y HE y0 y1' kE tkE tpE => ?_⟩
            have f4 := f3.draw hnp0 hhp0 hlp0 kE tkE tpE
            obtain ⟨mv, more, asf, fm, mmo, _⟩ := pickP pA y0 y1'
            refine ⟨_, _, _, _, rfl, rfl, SqL.of (f3.b.kp kE hDA1 upd_same), asf, ?_⟩
            have fm4 := fm.tk tkE
            have fl4 := fl2.tk ((TK.of sA).trans tkE)
            clear pA asf fm f3 kE tkE tpE sA h1 h2 h3 hD hDA f2 fl2
            have bl := leasts_fb mle
            have bm := mores_fb mmo
            have hul := pr_len f4.pl
            have fin : ∀ (G : Hp) (v : V) (k : Lk), Same HE G → LkAt G v k → LkGood ys k →
                G lp = some (.lst us) ∧ us.length < sizeLine ∧ LkPv H t l pl np hp lp ys src hs c (i + 1) [some (.ref t), some (.ref pl), some (.ref np), some (.str src), some (.ref hp), some (.ref lp), d6, d7, d8, some (.int (0 + (i : Nat))), some (.int a), some (.int e), some lv, some mv] (upd G lp (.lst (us ++ [v]))) := by
              intro G v k sg hv hk
              have fG := f4.same sg
              have tkG := TK.lst (o := .lst (us ++ [v])) fG.l
              refine ⟨fG.l, small1000 (by omega), _, _, _, _, _, _, _, _, ws, us ++ [v], ls ++ [k], rfl, (fG.b.upd hlp0).mono (by omega), ?_, ?_, pr_mono (fun _ _ z => HsAt.tk z tkG) fG.ph, upd_same, pr_snoc (pr_mono (fun _ _ z => LkAt.tk z tkG) fG.pl) (hv.tk tkG), ?_, ?_⟩
              · rw [upd_ne nnl]
                exact fG.n
              · rw [upd_ne nhl]
                exact fG.h
              · rw [List.length_append, el9]
                rfl
              · intro k' hk'
                rcases List.mem_append.mp hk' with hk' | hk'
                · exact ok9 k' hk'
                · rw [List.mem_singleton.mp hk']
                  exact hk
            refine ⟨_, rfl, .inl ⟨rfl, _, SqL.of f4.l⟩, _, rfl, _, rfl, _, _, _, _, rfl, rfl, SqL.of f4.n, hA1, _, rfl, _, rfl, _, _, _, _, rfl, rfl, SqL.of f4.n, hB1, _, rfl, _, rfl, rfl, _, rfl, ?_⟩
            rw [ofr_none fm4]
            cases more with
            | none =>
              refine itP rfl ⟨by show 4 ≤ sizeLine; decide, fun p hp3 => ?_⟩
              have sn := same_new (o := .tup [V.str nA, V.str nB, lv, .non]) hp3
              obtain ⟨g1, g2, g3⟩ := fin _ (.ref p) ⟨nA, nB, least, none⟩ sn ⟨p, lv, .non, rfl, upd_same, fl4.tk (.of sn), rfl⟩ ⟨mA, mB, bl.mono (by decide), fun m em => by cases em⟩
              exact ⟨_, _, _, rfl, rfl, g1, g2, g3⟩
            | some m =>
              refine itN Bool.false_ne_true ⟨_, rfl, _, rfl, lv, mv, least, m, rfl, fl4, fm4, ⟨bl.sm (by decide) (by decide), (bm m rfl).sm (by decide) (by decide)⟩, fun z HF sF fF => ⟨by show 4 ≤ sizeLine; decide, fun p hp3 => ?_⟩⟩
              have sn := same_new (o := .tup [V.str nA, V.str nB, lv, z]) hp3
              obtain ⟨g1, g2, g3⟩ := fin _ (.ref p) ⟨nA, nB, least, some (addF least m)⟩ (sF.trans sn) ⟨p, lv, z, rfl, upd_same, fl4.tk (.of (sF.trans sn)), fF.tk (.of sn)⟩ ⟨mA, mB, bl.mono (by decide), fun m' em => by
                rw [← Option.some.inj em]
                exact fb_add (by decide) bl (bm m rfl)⟩
              exact ⟨_, _, _, rfl, rfl, g1, g2, g3⟩
          · intro rest
            refine ⟨_, rfl, t, l, 2, _, rfl, fB.b.tp, by decide, by decide, by omega, fun r2 HC _ _ kC tkC tpC => ?_⟩
            have fC := fB.draw hnp0 hhp0 hlp0 kC tkC tpC
            have fC : LkF H HC t l np hp lp ys hs ws us ls (c + 25 + 6 * (i : Nat)) := { fC with b := fC.b.mono (by omega) }
            refine ⟨rfl, _, rfl, ite2 (fun _ => ?_) (fun _ => ?_)⟩
            · obtain ⟨nA, hA1, mA, _⟩ := pickS (ns := ys) a0 a1
              refine ⟨_, rfl, _, rfl, _, _, _, _, rfl, rfl, SqL.of fC.n, hA1, _, rfl, rfl, _, rfl, ite2 (fun _ => ?_) (fun _ => ?_)⟩
              · obtain ⟨j, hj, ej⟩ := List.getElem_of_mem msrc
                have hjj : ys[j]? = some src := by rw [List.getElem?_eq_getElem hj, ej]
                refine ⟨_, rfl, .inl ⟨rfl, _, SqL.of fC.n⟩, _, rfl, np, _, _, j, .str src, rfl, rfl, SqL.of fC.n, rfl, flat_strs _, ?_, ?_, ?_, ?_⟩
                · rw [List.getElem?_map, hjj]
                  rfl
                · simp [eqV]
                · intro m z hm hz
                  have hml : m < ys.length := by omega
                  have hmm : ys[m]? = some ys[m] := List.getElem?_eq_getElem hml
                  rw [List.getElem?_map, hmm] at hz
                  cases (Option.some.inj hz : V.str ys[m] = z)
                  by_cases c : ys[m] = src
                  · rw [c] at hmm
                    have := nd_ix nd hmm hjj
                    omega
                  · simp [eqV, c]
                · refine ⟨_, rfl, _, _, rfl, rest _ _ ⟨(j : Nat), a, by omega, by omega, a0, a1, rfl, fC⟩⟩
              · exact rest _ _ ⟨a, (a + 1 + d) % ((ys.length : Nat) : Int), a0, a1, b0, b1, rfl, fC⟩
            · exact itN Bool.false_ne_true (rest _ _ ⟨a, (a + 1 + d) % ((ys.length : Nat) : Int), a0, a1, b0, b1, rfl, fC⟩)
        · rintro σ HL ⟨d6, d7, d8, d9, d10, d11, d12, d13, ws, us, ls, rfl, bL, gL, ghL, phL, glL, plL, elL, okL⟩
          refine ⟨_, rfl, _, _, rfl, .inl ⟨SqL.of ghL, fun ht hht => ?_⟩⟩
          have s1 := same_new (o := .tup ws) hht
          refine ⟨_, rfl, _, _, rfl, .inl ⟨SqL.of (s1 _ _ glL), fun lt hlt => ?_⟩⟩
          have s2 := same_new (o := .tup us) hlt
          refine ⟨_, rfl, by show 3 ≤ sizeLine; decide, fun z hz => ?_⟩
          have s3 := same_new (o := .tup [.ref ht, .ref lt, .str src]) hz
          have sa := (s1.trans s2).trans s3
          have bE := bL.same sa
          refine q _ ⟨hs, ls, src⟩ _ ?_ ⟨z, ht, lt, ws, us, rfl, upd_same, s3 _ _ (s2 _ _ upd_same), pr_mono (fun _ _ z => HsAt.tk z (.of sa)) phL, s3 _ _ upd_same, pr_mono (fun _ _ z => LkAt.tk z (.of sa)) plL⟩ bE.k bE.tk (bE.tp.mono (by omega))
          refine ⟨?_, ?_, fun h hh => (ok8 h hh).1, fun h hh => (ok8 h hh).2, ?_, ?_, ?_, ?_⟩
          · show (hs.map (·.name)).Nodup
            rw [en8]
            exact nd
          · show ∀ x ∈ hs.map (·.name), x ∈ pool
            rw [en8]
            exact inp
          · show src ∈ hs.map (·.name)
            rw [en8]
            exact msrc
          · show ∀ k ∈ ls, k.frm ∈ hs.map (·.name) ∧ k.to ∈ hs.map (·.name) ∧ _
            rw [en8]
            exact okL
          · show hs.length ≤ 6
            have := congrArg List.length en8
            rw [List.length_map] at this
            omega
          · show ls.length ≤ 8
            omega
      · intro hc1 rest
        have h1 : 1 < ys.length := by have := of_decide_eq_true hc1; omega
        refine ⟨_, rfl, t, l, 9, _, rfl, b8.tp, by decide, by decide, by omega, fun r G r0 r9 k9 tk9 tp9 => rest _ _ ?_⟩
        exact ⟨r, rfl, r0, r9, .inl h1, (b8.draw k9 tk9 tp9).mono (by omega), b8.kp k9 hnp0 g8, b8.kp k9 hhp0 gh8, pr_mono (fun _ _ z => HsAt.tk z tk9) ph8, b8.kp k9 hlp0 gl8⟩
      · intro _ rest
        exact rest _ _ ⟨0, rfl, by decide, by decide, .inr rfl, b8.mono (by omega), g8, gh8, ph8, gl8⟩
end
end Lc
/-! What the law's houses do. -/
namespace Lc
open PySem PySem.Spec PyProof.Rows L2
def HearOk (f : Fd) (evs : List Ev) (n : Str) (k : Nat) : Prop := ∃ e' l lk, evs[k]? = some e' ∧ e'.deed = .send l ∧ f.links[l]? = some lk ∧ lk.to = n
/-- letters that were sent have a link -/
def SendOk (f : Fd) (evs : List Ev) : Prop := ∀ (k : Nat) e l, evs[k]? = some e → e.deed = .send l → ∃ lk, f.links[l]? = some lk
def natV (k : Nat) : V := .int (k : Nat)
def spCanHear : Sp := fun vs H Q _ => ∃ (fv : V) (ea ha : Addr) (n : Str) (time : Int) (f : Fd) (es : List V) (evs : List Ev) (hrs : List Int), vs = [fv, .ref ea, .ref ha, .str n, .int time] ∧ FdAt H fv f ∧ FOk f ∧ H ea = some (.lst es) ∧ Paired (EvAt H) es evs ∧
  H ha = some (.lst (hrs.map V.int)) ∧ hrs.length = evs.length ∧ evs.length ≤ 40 ∧ SendOk f evs ∧ ∀ fa (ks : List Nat) H', Same H H' → H fa = none → H' fa = some (.lst (ks.map natV)) → (∀ k ∈ ks, HearOk f evs n k) → ks.length ≤ 40 → Q (.ref fa) H'
def spDeed : Sp := fun vs H Q _ => ∃ (t l : Addr) (c : Int) (fv : V) (n : Str) (la : Addr) (ks : List Nat) (f : Fd) (evs : List Ev), vs = [.ref t, fv, .str n, .ref la] ∧ TpAt H t l c ∧ c ≤ 10000 ∧ FdAt H fv f ∧ FOk f ∧ H la = some (.lst (ks.map natV)) ∧ la ≠ t ∧ ks.length ≤ 40 ∧
  (∀ k ∈ ks, HearOk f evs n k) ∧ ∀ dv d H', DdAt H' dv d → DeedOk f evs n d → Kp [t] H H' → TK H H' → TpAt H' t l (c + 3) → Q dv H'
theorem nats_pr : ∀ l : List Nat, Paired (fun v k => v = natV k) (l.map natV) l
  | [] => .nil
  | _ :: r => .cons rfl (nats_pr r)
theorem nats_ints (l : List Nat) : l.map natV = (l.map fun k => ((k : Nat) : Int)).map V.int := by
  rw [List.map_map]
  rfl
theorem dp_nats {K : PySem.W.Frag} {H : Hp} {a : Addr} {ks : List Nat} (h : H a = some (.lst (ks.map natV))) : Dp K H (.ref a) (.list ((ks.map fun k => ((k : Nat) : Int)).map .int)) := by
  rw [nats_ints] at h
  exact dp_ints h
theorem nats_ne {ks : List Nat} (h : (!PyData.eqv (.list ((ks.map fun k => ((k : Nat) : Int)).map .int)) (.list [])) = true) : 0 < ks.length := by
  cases ks with
  | nil => exact absurd h (by decide +kernel)
  | cons _ _ => exact Nat.succ_pos _
section
variable {P : Program} {w : World} {K : PySem.W.Frag} {mg : Str → Option Value} {base : Heap}
theorem ok_law_can_hear (T : Tx K mg) : FnOk P w K mg base CX0 2 T.a_law_can_hear T.d_law_can_hear p_law_can_hear spCanHear := by
  refine T.law_can_hear.F.ok sc_law_can_hear (fun vs H Q E h => ?_) (fun cdv A outer s H vs Q E hr h => ?_)
  · obtain ⟨fv, ea, ha, n, time, f, es, evs, hrs, rfl, _⟩ := h
    rfl
  · obtain ⟨fv, ea, ha, n, time, f, es, evs, hrs, rfl, hf, fok, e1, e2, hh1, hh2, hlen, sok, q⟩ := h
    have hr1 : Room 1 _ := hr
    obtain ⟨fp, fhp, flp, fhs, fls, rfl, c0, c1, c2, c3, c4⟩ := id hf
    have elen := pr_len e2
    refine ⟨_, PSs.nox ((pss_cons (ps_set (i := 5) sc_law_can_hear.nd rfl (Or.inl rfl) (pe_lst pa_nil))
      (pss_cons (ps_for PassesOwn.never rfl (pi_range1 rfl T.brange (pa_cons (pe_callB call_len_seq (by rfl) T.blen (by decide +kernel) (pa_cons (pv 1) pa_nil)) pa_nil)) (pg_name (i := 6) sc_law_can_hear.nd rfl (Or.inl rfl))
        (pss_one (ps_if (pt_cmpR op_eq (pe_ix ix_tup (pe_ix ix_tup (pe_ix ix_list (pv 1) (pv 6) (fun _ _ => rfl)) pe_int (fun _ _ => rfl)) pe_int (fun _ _ => rfl)) pe_str (nomark _))
          (pss_cons (ps_par (i := 7) (j := 8) rfl sc_law_can_hear.nd rfl rfl (by decide) rfl rfl (pa_cons (pe_ix ix_tup (pe_ix ix_tup (pv 0) pe_int (fun _ _ => rfl)) (pe_ix ix_tup (pe_ix ix_tup (pe_ix ix_list (pv 1) (pv 6) (fun _ _ => rfl)) pe_int (fun _ _ => rfl)) pe_int (fun _ _ => rfl)) (fun _ _ => rfl)) (pa_cons (pe_tup (pa_cons (pe_op op_sub (pv 4) (pe_ix ix_list (pv 2) (pv 6) (fun _ _ => rfl))) (pa_cons pe_int pa_nil))) pa_nil)) (by rfl))
          (pss_one (ps_if (PW.pt (pw_and (pt_cmpR op_eq (pe_ix ix_tup (pv 7) pe_int (fun _ _ => rfl)) (pv 3) (nomark _)) (pw_and1 (pt_not (pt_val (pe_call (ok_law_is_less T) hr1 rfl T.law_is_less.m T.law_is_less.F.kp T.law_is_less.b .nil pass0 (pa_cons (pv 8) (pa_cons (pe_ix ix_tup (pv 7) pe_int (fun _ _ => rfl)) pa_nil))))))))
            (pss_one (ps_if (PW.pt (pw_or (pt_cmpR op_isN (pe_ix ix_tup (pv 7) pe_int (fun _ _ => rfl)) pe_non (nomark _)) (pw_or1 (pt_not (pt_val (pe_call (ok_law_is_less T) hr1 rfl T.law_is_less.m T.law_is_less.F.kp T.law_is_less.b .nil pass0 (pa_cons (pe_ix ix_tup (pv 7) pe_int (fun _ _ => rfl)) (pa_cons (pv 8) pa_nil))))))))
              (pss_one (ps_expr (pe_bm PySem.F.plainAttrs_list PySem.F.slot_list_append PySem.F.type_list_append mt_append (pv 5) (pa_cons (pv 6) pa_nil))))
              pss_nil))
            pss_nil)))
          pss_nil)))
      (pss_one (ps_ret (pv 5)))))), ?_⟩
    refine ⟨by show 0 ≤ sizeLine; decide, fun fa hfa => ?_⟩
    refine ⟨_, rfl, _, _, rfl, .inl (SqL.of (same_new hfa _ _ e1)), _, rfl, by omega, by omega, ?_⟩
    refine for_range (lo := 0) (n := es.length) (fun i σ H2 => ∃ (b6 b7 b8 : Option V) (ks : List Nat), σ = [some (.ref fp), some (.ref ea), some (.ref ha), some (.str n), some (.int time), some (.ref fa), b6, b7, b8] ∧ Kp [fa] H H2 ∧ H2 fa = some (.lst (ks.map natV)) ∧ (∀ k ∈ ks, HearOk f evs n k) ∧ ks.length ≤ i)
      ⟨none, none, none, [], rfl, Kp.upd (List.mem_singleton.mpr rfl), upd_same, (fun k hk => by cases hk), Nat.le_refl _⟩ ?_ ?_
    · rintro i σ H2 hi ⟨b6, b7, b8, ks, rfl, k2, g2, ok2, lk2⟩
      have s2 : Same H H2 := same_of_kp k2 hfa
      have hei : evs[i]? = some evs[i] := List.getElem?_eq_getElem (by omega)
      obtain ⟨xe, hxe, pe, sv, dv, rfl, v0, v1, pd, rfl, v2⟩ := pr_get' e2 hei
      generalize evs[i] = ev at *
      have hhi : hrs[i]? = some hrs[i] := List.getElem?_eq_getElem (by omega)
      generalize hrs[i] = hr0 at *
      rw [Int.zero_add]
      have hmi : (hrs.map V.int)[i]? = some (V.int hr0) := by
        rw [List.getElem?_map, hhi]
        rfl
      have skip : ∀ (G : Hp) (a b c : Option V), Same H2 G → ∃ (b6 b7 b8 : Option V) (ks : List Nat), [some (V.ref fp), some (.ref ea), some (.ref ha), some (.str n), some (.int time), some (.ref fa), a, b, c] = [some (.ref fp), some (.ref ea), some (.ref ha), some (.str n), some (.int time), some (.ref fa), b6, b7, b8] ∧ Kp [fa] H G ∧ G fa = some (.lst (ks.map natV)) ∧ (∀ k ∈ ks, HearOk f evs n k) ∧ ks.length ≤ i + 1 :=
        fun G a b c sg => ⟨a, b, c, ks, rfl, k2.trans (Kp.of sg), sg _ _ g2, ok2, by omega⟩
      cases hd : ev.deed with
      | mark =>
        rw [hd] at v2
        refine ⟨_, rfl, _, rfl, _, _, _, _, rfl, rfl, SqL.of (s2 _ _ e1), atI_nat hxe, _, _, _, _, rfl, rfl, SqT.of (s2 _ _ v0), rfl, _, _, _, _, rfl, rfl, SqT.of (s2 _ _ v2), rfl, rfl, _, rfl, itN (by decide +kernel) (skip _ _ _ _ (Same.refl _))⟩
      | hear k =>
        rw [hd] at v2
        refine ⟨_, rfl, _, rfl, _, _, _, _, rfl, rfl, SqL.of (s2 _ _ e1), atI_nat hxe, _, _, _, _, rfl, rfl, SqT.of (s2 _ _ v0), rfl, _, _, _, _, rfl, rfl, SqT.of (s2 _ _ v2), rfl, rfl, _, rfl, itN (by decide +kernel) (skip _ _ _ _ (Same.refl _))⟩
      | send l =>
        rw [hd] at v2
        obtain ⟨lk, hlk⟩ := sok i ev l hei hd
        obtain ⟨xl, hxl, pl, la, lb, rfl, l0, l1, l2⟩ := pr_get' c4 hlk
        obtain ⟨_, _, bl, bm⟩ := fok.lk lk (List.mem_of_getElem? hlk)
        refine ⟨_, rfl, _, rfl, _, _, _, _, rfl, rfl, SqL.of (s2 _ _ e1), atI_nat hxe, _, _, _, _, rfl, rfl, SqT.of (s2 _ _ v0), rfl, _, _, _, _, rfl, rfl, SqT.of (s2 _ _ v2), rfl, rfl, _, rfl, itP (by decide +kernel) ?_⟩
        refine ⟨_, rfl, _, _, _, _, rfl, rfl, SqT.of (s2 _ _ c0), rfl, _, rfl, _, rfl, _, _, _, _, rfl, rfl, SqL.of (s2 _ _ e1), atI_nat hxe, _, _, _, _, rfl, rfl, SqT.of (s2 _ _ v0), rfl, _, _, _, _, rfl, rfl, SqT.of (s2 _ _ v2), rfl, _, _, _, _, rfl, rfl, SqT.of (s2 _ _ c3), atI_nat hxl, ?_⟩
        refine ⟨_, rfl, _, rfl, _, rfl, _, _, _, _, rfl, rfl, SqL.of (s2 _ _ hh1), atI_nat hmi, _, _, rfl, rfl, by show 2 ≤ sizeLine; decide, fun wp hwp => ⟨_, _, rfl, ?_⟩⟩
        have sw := same_new (o := .tup [V.int (time - hr0), V.int 1]) hwp
        refine habs (Ψ := fun G => Same H2 G ∧ FrAt G (.ref wp) (time - hr0, 1)) ⟨sw, wp, rfl, upd_same⟩ ?_
        rintro G ⟨sG, fw⟩
        have sHG := s2.trans sG
        have smw : Sm (time - hr0, 1) := ⟨show (0 : Int) < 1 by decide, show (1 : Int) ≤ 30000 by decide⟩
        have sml : Sm lk.least := bl.sm (by decide) (by decide)
        have fl := l1.tk (.of sHG)
        have fm := l2.tk (.of sHG)
        refine ⟨_, rfl, _, _, _, _, rfl, rfl, SqT.of (sHG _ _ l0), rfl, _, rfl, rfl, _, rfl, ite2 (fun hto => ?_) (fun _ => ?_)⟩
        · have eto : lk.to = n := V.str.inj (of_decide_eq_true hto)
          refine ⟨_, rfl, _, rfl, _, _, _, _, rfl, rfl, SqT.of (sHG _ _ l0), rfl, _, _, _, _, rfl, fw, fl, ⟨smw, sml⟩, _, rfl, ite2 (fun _ => ?_) (fun _ => ?_)⟩
          · have take : ∀ a b c : Option V, G fa = some (.lst (ks.map natV)) ∧ (ks.map natV).length < sizeLine ∧ ∃ (b6 b7 b8 : Option V) (ks' : List Nat), [some (V.ref fp), some (.ref ea), some (.ref ha), some (.str n), some (.int time), some (.ref fa), a, b, c] = [some (.ref fp), some (.ref ea), some (.ref ha), some (.str n), some (.int time), some (.ref fa), b6, b7, b8] ∧
                Kp [fa] H (upd G fa (.lst (ks.map natV ++ [.int (i : Nat)]))) ∧ (upd G fa (.lst (ks.map natV ++ [.int (i : Nat)]))) fa = some (.lst (ks'.map natV)) ∧ (∀ k ∈ ks', HearOk f evs n k) ∧ ks'.length ≤ i + 1 := by
              intro a b c
              refine ⟨sG _ _ g2, small1000 (by rw [List.length_map]; omega), a, b, c, ks ++ [i], rfl, (k2.trans (Kp.of sG)).trans (Kp.upd (List.mem_singleton.mpr rfl)), ?_, ?_, ?_⟩
              · rw [upd_same, List.map_append]
                rfl
              · intro k hk
                rcases List.mem_append.mp hk with hk | hk
                · exact ok2 k hk
                · rw [List.mem_singleton.mp hk]
                  exact ⟨ev, l, lk, hei, hd, hlk, eto⟩
              · rw [List.length_append]
                exact Nat.succ_le_succ lk2
            refine ⟨_, rfl, _, _, _, _, rfl, rfl, SqT.of (sHG _ _ l0), rfl, rfl, _, rfl, ?_⟩
            rw [ofr_none fm]
            cases hmo : lk.most with
            | none =>
              obtain ⟨t1, t2, t3⟩ := take _ _ _
              exact itP rfl (itP rfl ⟨_, rfl, .inl ⟨rfl, _, SqL.of t1⟩, _, rfl, _, _, _, rfl, rfl, t1, t2, t3⟩)
            | some m =>
              rw [hmo] at fm
              refine itN Bool.false_ne_true ⟨_, rfl, _, _, _, _, rfl, rfl, SqT.of (sHG _ _ l0), rfl, _, rfl, _, _, _, _, rfl, fm, fw, ⟨(bm m hmo).sm (by decide) (by decide), smw⟩, _, rfl, ite2 (fun _ => ?_) (fun _ => ?_)⟩
              · obtain ⟨t1, t2, t3⟩ := take _ _ _
                exact ⟨_, rfl, .inl ⟨rfl, _, SqL.of t1⟩, _, rfl, _, _, _, rfl, rfl, t1, t2, t3⟩
              · exact skip _ _ _ _ sG
          · exact skip _ _ _ _ sG
        · exact itN Bool.false_ne_true (skip _ _ _ _ sG)
    · rintro σ H2 ⟨b6, b7, b8, ks, rfl, k2, g2, ok2, lk2⟩
      exact ⟨_, rfl, q fa ks H2 (same_of_kp k2 hfa) hfa g2 ok2 (by omega)⟩
theorem ok_law_deed (T : Tx K mg) : FnOk P w K mg base CX0 2 T.a_law_deed T.d_law_deed p_law_deed spDeed := by
  refine T.law_deed.F.ok sc_law_deed (fun vs H Q E h => ?_) (fun cdv A outer s H vs Q E hr h => ?_)
  · obtain ⟨t, l, c, fv, n, la, ks, f, evs, rfl, _⟩ := h
    rfl
  · obtain ⟨t, l, c, fv, n, la, ks, f, evs, rfl, tp, hc, hf, fok, hla, nlt, hkl, hok, q⟩ := h
    have hr1 : Room 1 _ := hr
    refine ⟨_, PSs.nox ((pss_cons (ps_par (i := 4) (j := 5) rfl sc_law_deed.nd rfl rfl (by decide) rfl rfl (pa_cons (pe_call (ok_law_draw T) hr1 rfl T.law_draw.m T.law_draw.F.kp T.law_draw.b .nil pass0 (pa_cons (pv 0) (pa_cons pe_int pa_nil))) (pa_cons (pe_lc (own := [("_law_k", 6)]) rfl sc_law_deed.nd (pi_range1 rfl T.brange (pa_cons (pe_callB call_len_seq (by rfl) T.blen (by decide +kernel) (pa_cons (pe_ix ix_tup (pv 1) pe_int (fun _ _ => rfl)) pa_nil)) pa_nil)) (blkOk_by (N := n_law_deed) (sc := (defScope s_law_deed)) (by decide +kernel)) (fun _ _ _ _ _ => pg_name (i := 6) sc_law_deed.nd rfl (Or.inl rfl) (Or.inr rfl)) (fun _ _ _ _ _ => (pts_one (pt_cmpR op_eq (pe_ix (ix_tupK K rfl) (pe_ix (ix_tupK K rfl) (pe_ix (ix_tupK K rfl) (pv 1) pe_int (fun _ _ => rfl)) (pv 6) (fun _ _ => rfl)) pe_int (fun _ _ => rfl)) (pv 2) (nomark _)))) (fun _ _ _ _ _ => (pv 6))) pa_nil)) (by rfl))
      (pss_cons (ps_if (PW.pt (pw_and (pt_cmpR op_gt (pv 4) pe_int (nomark _)) (pw_and1 (pt_cmpR (op_neD hr.units) (pv 3) (pe_lst pa_nil) (nomark _)))))
        (pss_one (ps_ret (pe_tup (pa_cons pe_str (pa_cons (pe_ix ix_list (pv 3) (pe_call (ok_law_draw T) hr1 rfl T.law_draw.m T.law_draw.F.kp T.law_draw.b .nil pass0 (pa_cons (pv 0) (pa_cons (pe_callB call_len_seq (by rfl) T.blen (by decide +kernel) (pa_cons (pv 3) pa_nil)) pa_nil))) (fun _ _ => rfl)) pa_nil)))))
        pss_nil)
      (pss_one (ps_ret (pe_ifExp (PW.pt (pw_and (pt_cmpR op_ne (pv 4) pe_int (nomark _)) (pw_and1 (pt_cmpR (op_neD hr.units) (pv 5) (pe_lst pa_nil) (nomark _))))) (pe_tup (pa_cons pe_str (pa_cons (pe_ix ix_list (pv 5) (pe_call (ok_law_draw T) hr1 rfl T.law_draw.m T.law_draw.F.kp T.law_draw.b .nil pass0 (pa_cons (pv 0) (pa_cons (pe_callB call_len_seq (by rfl) T.blen (by decide +kernel) (pa_cons (pv 5) pa_nil)) pa_nil))) (fun _ _ => rfl)) pa_nil))) (pe_tup (pa_cons pe_str pa_nil)))))))), ?_⟩
    refine ⟨_, rfl, t, l, 5, _, rfl, tp, by decide, by decide, by omega, fun way HA w0 w1 kA tkA tpA => ?_⟩
    have hfA := hf.tk tkA
    obtain ⟨fp, fhp, flp, fhs, fls, rfl, c0, c1, c2, c3, c4⟩ := id hfA
    have hlaA : HA la = some (.lst (ks.map natV)) := kA _ _ hla (by simpa using nlt)
    have l8 := fok.fewL
    have ll := pr_len c4
    refine ⟨_, rfl, _, _, _, _, rfl, rfl, SqT.of c0, rfl, _, _, rfl, .inr (SqT.of c3), _, rfl, by omega, by omega, fun D hD => ?_⟩
    refine lc_range (lo := 0) (n := fls.length) (fun i H3 => ∃ js : List Nat, Same HA H3 ∧ H3 D = some (.lst (js.map natV)) ∧ (∀ j ∈ js, ∃ lk, f.links[j]? = some lk ∧ lk.frm = n) ∧ js.length ≤ i) ⟨[], same_new hD, upd_same, (fun k hk => by cases hk), Nat.le_refl _⟩ ?_ ?_
    · rintro i H3 hi ⟨js, s3, g3, ok3, lj⟩
      rw [Int.zero_add]
      have hli : f.links[i]? = some f.links[i] := List.getElem?_eq_getElem (by omega)
      obtain ⟨xl, hxl, pl, a, b, rfl, l0, l1, l2⟩ := pr_get' c4 hli
      generalize f.links[i] = lk at *
      refine ⟨rfl, _, rfl, _, _, _, _, rfl, rfl, SqT.of (s3 _ _ c0), rfl, _, rfl, _, _, _, _, rfl, rfl, SqT.of (s3 _ _ c3), atI_nat hxl, _, _, _, _, rfl, rfl, SqT.of (s3 _ _ l0), rfl, _, rfl, rfl, _, rfl, ite2 (fun he => ?_) (fun _ => ?_)⟩
      · have eto : lk.frm = n := V.str.inj (of_decide_eq_true he)
        refine ⟨_, rfl, _, g3, small1000 (by rw [List.length_map]; omega), js ++ [i], ?_, ?_, ?_, ?_⟩
        · exact fun x o e => by
            rw [upd_ne (ne_of_none e hD)]
            exact s3 _ _ e
        · rw [upd_same, List.map_append]
          rfl
        · intro j hj
          rcases List.mem_append.mp hj with hj | hj
          · exact ok3 j hj
          · rw [List.mem_singleton.mp hj]
            exact ⟨lk, hli, eto⟩
        · rw [List.length_append]
          exact Nat.succ_le_succ lj
      · exact ⟨js, s3, g3, ok3, by omega⟩
    rintro HB ⟨js, sB, gB, okB, ljB⟩
    have neD : D ≠ t := by
      obtain ⟨xs, hxs⟩ := tpA.lst
      exact (ne_of_none hxs hD).symm
    have tkB := TK.of sB
    have tpB := tpA.same sB
    refine ⟨_, _, rfl, ?_⟩
    refine nxE ?_
    refine if_sq (Ψ := fun σ G => σ = [some (.ref t), some (.ref fp), some (.str n), some (.ref la), some (.int way), some (.ref D), none] ∧ Same HB G) ?_ ?_
    · rintro σ G ⟨rfl, sG⟩
      have tpG := tpB.same sG
      have gG := sG _ _ gB
      -- the last row
      have mark : ∀ G', Same HB G' → ∀ p, G' p = none → Q (.ref p) (upd G' p (.tup [.str "mark"])) := fun G' s' p hp => by
        have sn := same_new (o := .tup [V.str "mark"]) hp
        have sa := (sB.trans s').trans sn
        exact q _ .mark _ ⟨p, rfl, upd_same⟩ trivial (kA.trans (Kp.of sa)) (tkA.trans (.of sa)) ((tpA.same sa).mono (by omega))
      refine ⟨_, rfl, rfl, _, rfl, ite2 (fun _ => ?_) (fun _ => ?_)⟩
      · refine ⟨_, rfl, by show 0 ≤ sizeLine; decide, fun p1 h1 => ?_⟩
        have s1 := same_new (o := .lst ([] : List V)) h1
        refine ⟨_, _, dp_nats (s1 _ _ gG), dp_nil upd_same, (gd_ints _).shaped (by decide), gd_nil.shaped (by decide), _, rfl, ite2 (fun hne => ?_) (fun _ => ?_)⟩
        · have hpos := nats_ne hne
          have gG1 := s1 _ _ gG
          refine ⟨_, rfl, _, rfl, _, rfl, _, _, rfl, .inl (SqL.of gG1), t, l, _, _, rfl, tpG.same s1, by rw [List.length_map]; omega, by rw [List.length_map]; omega, by omega, fun x HC x0 x1 kC tkC tpC => ?_⟩
          rw [List.length_map] at x1
          obtain ⟨v, j, hj, rfl, mj, _⟩ := pickP (nats_pr js) x0 x1
          refine ⟨_, _, _, _, rfl, rfl, SqL.of (kC _ _ gG1 (by simpa using neD)), hj, by show 2 ≤ sizeLine; decide, fun p hp => ?_⟩
          have sn := same_new (o := .tup [V.str "send", natV j]) hp
          exact q _ (.send j) _ ⟨p, rfl, upd_same⟩ (okB j mj) (((kA.trans (Kp.of ((sB.trans sG).trans s1))).trans kC).trans (Kp.of sn)) (((tkA.trans (.of ((sB.trans sG).trans s1))).trans tkC).trans (.of sn)) ((tpC.same sn).mono (by omega))
        · exact ⟨by show 1 ≤ sizeLine; decide, fun p hp => mark _ (sG.trans s1) p hp⟩
      · exact itN Bool.false_ne_true ⟨by show 1 ≤ sizeLine; decide, fun p hp => mark _ sG p hp⟩
    · intro rest
      refine ⟨_, rfl, _, _, rfl, rfl, _, rfl, ite2 (fun _ => ?_) (fun _ => ?_)⟩
      · refine ⟨_, rfl, by show 0 ≤ sizeLine; decide, fun p1 h1 => ?_⟩
        have s1 := same_new (o := .lst ([] : List V)) h1
        have hl1 := (sB.trans s1) _ _ hlaA
        refine ⟨_, _, dp_nats hl1, dp_nil upd_same, (gd_ints _).shaped (by decide), gd_nil.shaped (by decide), _, rfl, ite2 (fun hne => ?_) (fun _ => ?_)⟩
        · have hpos := nats_ne hne
          refine ⟨_, rfl, _, rfl, _, rfl, _, _, rfl, .inl (SqL.of hl1), t, l, _, _, rfl, tpB.same s1, by rw [List.length_map]; omega, by rw [List.length_map]; omega, by omega, fun x HC x0 x1 kC tkC tpC => ?_⟩
          rw [List.length_map] at x1
          obtain ⟨v, j, hj, rfl, mj, _⟩ := pickP (nats_pr ks) x0 x1
          refine ⟨_, _, _, _, rfl, rfl, SqL.of (kC _ _ hl1 (by simpa using nlt)), hj, by show 2 ≤ sizeLine; decide, fun p hp => ?_⟩
          have sn := same_new (o := .tup [V.str "hear", natV j]) hp
          exact q _ (.hear j) _ ⟨p, rfl, upd_same⟩ (hok j mj) (((kA.trans (Kp.of (sB.trans s1))).trans kC).trans (Kp.of sn)) (((tkA.trans (.of (sB.trans s1))).trans tkC).trans (.of sn)) ((tpC.same sn).mono (by omega))
        · exact rest _ _ ⟨rfl, s1⟩
      · exact itN Bool.false_ne_true (rest _ _ ⟨rfl, Same.refl _⟩)
end
end Lc
/-! What stands in the heap while the law's houses live. -/
namespace Lc
open PySem PySem.Spec PyProof.Rows L2

/-! ### the dict of a field's rates, made of a list of pairs -/
def RtKv (H : Hp) (kv : Key × V) (h : Hs) : Prop := kv.1 = .inr h.name ∧ ∃ q a b, kv.2 = .ref q ∧ H q = some (.tup [a, b]) ∧ FrAt H a h.slow ∧ FrAt H b h.fast
theorem RtKv.tk {H H' : Hp} {kv : Key × V} {h : Hs} (r : RtKv H kv h) (k : TK H H') : RtKv H' kv h := let ⟨e, q, a, b, e1, e2, e3, e4⟩ := r; ⟨e, q, a, b, e1, k _ _ e2, e3.tk k, e4.tk k⟩
theorem rtkv_keys {H : Hp} : ∀ {kvs : List (Key × V)} {hs : List Hs}, Paired (RtKv H) kvs hs → kvs.map (·.1) = (hs.map (·.name)).map Sum.inr
  | _, _, .nil => rfl
  | _, _, .cons r t => by rw [List.map_cons, List.map_cons, List.map_cons, rtkv_keys t, r.1]
theorem putK_new {kvs : List (Key × V)} {k : Key} {v : V} (h : k ∉ kvs.map (·.1)) : putK kvs k v = kvs ++ [(k, v)] := by
  unfold putK
  rw [if_neg]
  intro e
  rw [List.any_eq_true] at e
  obtain ⟨kv, hm, e⟩ := e
  exact h (List.mem_map.mpr ⟨kv, hm, of_decide_eq_true e⟩)
theorem merge_new : ∀ (more kvs : List (Key × V)), ((kvs ++ more).map (·.1)).Nodup → mergeK kvs more = kvs ++ more
  | [], kvs, _ => by
    rw [List.append_nil]
    rfl
  | (k, v) :: r, kvs, nd => by
    show mergeK (putK kvs k v) r = _
    have hk : k ∉ kvs.map (·.1) := by
      intro hm
      rw [List.map_append] at nd
      exact (List.nodup_append.mp nd).2.2 k hm k (by rw [List.map_cons]; exact List.mem_cons_self) rfl
    rw [putK_new hk, merge_new r (kvs ++ [(k, v)]) (by rw [List.append_assoc]; exact nd), List.append_assoc]
    rfl
theorem inr_nodup {l : List Str} (h : l.Nodup) : (l.map (Sum.inr : Str → Key)).Nodup := by
  rw [List.nodup_iff_pairwise_ne] at *
  exact List.pairwise_map.mpr (h.imp fun ne e => ne (Sum.inr.inj e))
theorem rtkv_merge {H : Hp} {kvs : List (Key × V)} {hs : List Hs} (p : Paired (RtKv H) kvs hs) (nd : (hs.map (·.name)).Nodup) : mergeK [] kvs = kvs :=
  merge_new kvs [] (by rw [List.nil_append, rtkv_keys p]; exact inr_nodup nd)
theorem rtkv_get {H : Hp} : ∀ {kvs : List (Key × V)} {hs : List Hs}, Paired (RtKv H) kvs hs → (hs.map (·.name)).Nodup → ∀ h ∈ hs, ∃ q a b, valV kvs (.inr h.name) = some (.ref q) ∧ H q = some (.tup [a, b]) ∧ FrAt H a h.slow ∧ FrAt H b h.fast
  | _, _, .nil, _, h, hm => by cases hm
  | _, _, .cons r t, nd, h, hm => by
    obtain ⟨ek, q, a, b, e1, e2, e3, e4⟩ := r
    rw [List.map_cons, List.nodup_cons] at nd
    rcases List.mem_cons.mp hm with rfl | hm
    · exact ⟨q, a, b, by rw [valV_pos ek, e1], e2, e3, e4⟩
    · obtain ⟨q, a, b, w1, w2⟩ := rtkv_get t nd.2 h hm
      refine ⟨q, a, b, ?_, w2⟩
      rw [valV_neg (fun z => ?_)]
      · exact w1
      · rw [ek] at z
        exact nd.1 (List.mem_map.mpr ⟨h, hm, (Sum.inr.inj z).symm⟩)
theorem putK_len' {kvs : List (Key × V)} {k : Key} {v x : V} (h : valV kvs k = some x) : (putK kvs k v).length = kvs.length := by
  unfold putK
  rw [if_pos (by rw [valV_any, h]; rfl), List.length_map]
theorem TK.dk {H : Hp} {p : Addr} {kvs : List (Key × V)} {o : HO} (h : H p = some (.dK kvs)) : TK H (upd H p o) := fun a xs e => by
  rw [upd_ne (ne_of e h fun z => by cases z)]
  exact e

/-! ### the clocks -/
def Clk (H : Hp) (kvs : List (Key × V)) (tm : Int) (evs : List Ev) (n : Str) : Prop := ∃ p s τ x, valV kvs (.inr n) = some (.ref p) ∧ H p = some (.tup [.int τ, s]) ∧ FrAt H s x ∧ 0 ≤ τ ∧ τ ≤ tm ∧ Fb 4 (10 + 2 * τ) x ∧ ∀ e ∈ evs, e.house = n → ltF x e.stamp = false
theorem Clk.tk {H H' : Hp} {kvs : List (Key × V)} {tm tm' : Int} {evs : List Ev} {n : Str} (c : Clk H kvs tm evs n) (k : TK H H') (h : tm ≤ tm') : Clk H' kvs tm' evs n :=
  let ⟨p, s, τ, x, h1, h2, h3, h4, h5, h6⟩ := c
  ⟨p, s, τ, x, h1, k _ _ h2, h3.tk k, h4, Int.le_trans h5 h, h6⟩

/-! ### the whole -/
structure LvS (H G : Hp) (t l np hd cd ep hp : Addr) (ys : List Str) (kv0 : List (Key × V)) (fv : V) (f : Fd) (es : List V) (evs : List Ev) (hrs : List Int) (kvs : List (Key × V)) (c : Int) : Prop where
  b : Bs H G t l c
  n : G np = some (.lst (ys.map V.str))
  d : G hd = some (.dK kv0)
  rd : Paired (RtKv G) kv0 f.houses
  fd : FdAt G fv f
  e : G ep = some (.lst es)
  pe : Paired (EvAt G) es evs
  h : G hp = some (.lst (hrs.map V.int))
  k : G cd = some (.dK kvs)
  n0 : H np = none
  d0 : H hd = none
  k0 : H cd = none
  e0 : H ep = none
  h0 : H hp = none
  df : np ≠ ep ∧ np ≠ hp ∧ hd ≠ cd ∧ ep ≠ hp
section
variable {H G G' : Hp} {t l np hd cd ep hp : Addr} {ys : List Str} {kv0 : List (Key × V)} {fv : V} {f : Fd} {es : List V} {evs : List Ev} {hrs : List Int} {kvs : List (Key × V)} {c c' : Int}
theorem LvS.same (x : LvS H G t l np hd cd ep hp ys kv0 fv f es evs hrs kvs c) (s : Same G G') : LvS H G' t l np hd cd ep hp ys kv0 fv f es evs hrs kvs c :=
  ⟨x.b.same s, s _ _ x.n, s _ _ x.d, pr_mono (fun _ _ z => RtKv.tk z (.of s)) x.rd, x.fd.tk (.of s), s _ _ x.e, evs_tk x.pe (.of s), s _ _ x.h, s _ _ x.k, x.n0, x.d0, x.k0, x.e0, x.h0, x.df⟩
theorem LvS.draw (x : LvS H G t l np hd cd ep hp ys kv0 fv f es evs hrs kvs c) (k : Kp [t] G G') (tk : TK G G') (tp : TpAt G' t l c') : LvS H G' t l np hd cd ep hp ys kv0 fv f es evs hrs kvs c' :=
  ⟨x.b.draw k tk tp, x.b.kp k x.n0 x.n, x.b.kp k x.d0 x.d, pr_mono (fun _ _ z => RtKv.tk z tk) x.rd, x.fd.tk tk, x.b.kp k x.e0 x.e, evs_tk x.pe tk, x.b.kp k x.h0 x.h, x.b.kp k x.k0 x.k, x.n0, x.d0, x.k0, x.e0, x.h0, x.df⟩
theorem LvS.mono (x : LvS H G t l np hd cd ep hp ys kv0 fv f es evs hrs kvs c) (h : c ≤ c') : LvS H G t l np hd cd ep hp ys kv0 fv f es evs hrs kvs c' := { x with b := x.b.mono h }
theorem LvS.putC (x : LvS H G t l np hd cd ep hp ys kv0 fv f es evs hrs kvs c) (kvs' : List (Key × V)) : LvS H (upd G cd (.dK kvs')) t l np hd cd ep hp ys kv0 fv f es evs hrs kvs' c := by
  have tk : TK G (upd G cd (.dK kvs')) := TK.dk x.k
  have nn : ∀ {p : Addr} {xs : List V}, G p = some (.lst xs) → (upd G cd (.dK kvs')) p = some (.lst xs) := fun e => by
    rw [upd_ne (ne_of e x.k fun z => by cases z)]
    exact e
  refine ⟨x.b.upd x.k0, nn x.n, ?_, pr_mono (fun _ _ z => RtKv.tk z tk) x.rd, x.fd.tk tk, nn x.e, evs_tk x.pe tk, nn x.h, upd_same, x.n0, x.d0, x.k0, x.e0, x.h0, x.df⟩
  rw [upd_ne x.df.2.2.1]
  exact x.d
theorem LvS.putE (x : LvS H G t l np hd cd ep hp ys kv0 fv f es evs hrs kvs c) {v : V} {e : Ev} (h : EvAt G v e) : LvS H (upd G ep (.lst (es ++ [v]))) t l np hd cd ep hp ys kv0 fv f (es ++ [v]) (evs ++ [e]) hrs kvs c := by
  have tk : TK G (upd G ep (.lst (es ++ [v]))) := TK.lst x.e
  refine ⟨x.b.upd x.e0, ?_, ?_, pr_mono (fun _ _ z => RtKv.tk z tk) x.rd, x.fd.tk tk, upd_same, pr_snoc (evs_tk x.pe tk) (h.tk tk), ?_, ?_, x.n0, x.d0, x.k0, x.e0, x.h0, x.df⟩
  · rw [upd_ne x.df.1]
    exact x.n
  · rw [upd_ne (ne_of x.d x.e fun z => by cases z)]
    exact x.d
  · rw [upd_ne (Ne.symm x.df.2.2.2)]
    exact x.h
  · rw [upd_ne (ne_of x.k x.e fun z => by cases z)]
    exact x.k
theorem LvS.putH (x : LvS H G t l np hd cd ep hp ys kv0 fv f es evs hrs kvs c) (i : Int) : LvS H (upd G hp (.lst (hrs.map V.int ++ [.int i]))) t l np hd cd ep hp ys kv0 fv f es evs (hrs ++ [i]) kvs c := by
  have tk : TK G (upd G hp (.lst (hrs.map V.int ++ [.int i]))) := TK.lst x.h
  refine ⟨x.b.upd x.h0, ?_, ?_, pr_mono (fun _ _ z => RtKv.tk z tk) x.rd, x.fd.tk tk, ?_, evs_tk x.pe tk, ?_, ?_, x.n0, x.d0, x.k0, x.e0, x.h0, x.df⟩
  · rw [upd_ne x.df.2.1]
    exact x.n
  · rw [upd_ne (ne_of x.d x.h fun z => by cases z)]
    exact x.d
  · rw [upd_ne x.df.2.2.2]
    exact x.e
  · rw [upd_same, List.map_append]
    rfl
  · rw [upd_ne (ne_of x.k x.h fun z => by cases z)]
    exact x.k
end
theorem hi_send {f : Fd} {evs : List Ev} (h : HiOk f evs) : SendOk f evs := fun k e l hk hd => by
  have dd := (h k e hk).dd
  rw [hd] at dd
  obtain ⟨lk, h1, _⟩ := dd
  exact ⟨lk, h1⟩
theorem hi_snoc {f : Fd} {evs : List Ev} {e : Ev} (h : HiOk f evs) (he : EvOk f evs e) : HiOk f (evs ++ [e]) := fun k e' hk => by
  by_cases hl : k < evs.length
  · rw [List.getElem?_append_left hl] at hk
    rw [List.take_append_of_le_length (by omega)]
    exact h k e' hk
  · have : k < (evs ++ [e]).length := (List.getElem?_eq_some_iff.mp hk).1
    rw [List.length_append, List.length_singleton] at this
    have ek : k = evs.length := by omega
    subst ek
    rw [at_last] at hk
    cases hk
    rw [take_all]
    exact he
/-- the loop over the names -/
def LvA (H : Hp) (t l np hd cd ep hp : Addr) (ys : List Str) (kv0 : List (Key × V)) (fv : V) (f : Fd) (m bg : Int) (c : Int) (i : Nat) (σ : L2.St) (H2 : Hp) : Prop := ∃ (b10 : Option V) (kvs : List (Key × V)),
  σ = [some (.ref t), some fv, some (.int m), some (.ref hd), some (.ref np), some (.ref cd), some (.int 0), some (.ref ep), some (.ref hp), some (.int bg), b10, none, none, none, none, none, none, none, none, none] ∧
  LvS H H2 t l np hd cd ep hp ys kv0 fv f [] [] [] kvs (c + 1 + (i : Nat)) ∧ kvs.length ≤ i ∧ ∀ n ∈ ys.take i, Clk H2 kvs 0 [] n
/-- the loop over the events -/
def LvB (H : Hp) (t l np hd cd ep hp : Addr) (ys : List Str) (kv0 : List (Key × V)) (fv : V) (f : Fd) (m bg : Int) (c : Int) (i : Nat) (σ : L2.St) (H2 : Hp) : Prop := ∃ (b10 b11 b12 b13 b14 b15 b16 b17 : Option V) (tm : Int) (es : List V) (evs : List Ev) (hrs : List Int) (kvs : List (Key × V)),
  σ = [some (.ref t), some fv, some (.int m), some (.ref hd), some (.ref np), some (.ref cd), some (.int tm), some (.ref ep), some (.ref hp), some (.int bg), b10, b11, b12, b13, b14, b15, b16, b17, none, none] ∧
  LvS H H2 t l np hd cd ep hp ys kv0 fv f es evs hrs kvs (c + 7 + 6 * (i : Nat)) ∧ kvs.length ≤ 6 ∧ (∀ n ∈ ys, Clk H2 kvs tm evs n) ∧ 0 ≤ tm ∧ tm ≤ 2 * (i : Nat) ∧ evs.length = i ∧ hrs.length = i ∧ HiOk f evs ∧ ∀ e ∈ evs, Fb 4 200 e.stamp
end Lc
/-! How the law's houses live. -/
namespace Lc
open PySem PySem.Spec PyProof.Rows L2
def spLived : Sp := fun vs H Q _ => ∃ (t l : Addr) (c : Int) (fv : V) (m : Int) (f : Fd), vs = [.ref t, fv, .int m] ∧ TpAt H t l c ∧ c ≤ 1000 ∧ 0 ≤ m ∧ m ≤ 29 ∧ FdAt H fv f ∧ FOk f ∧
  ∀ p hv lv evs H', H' p = some (.tup [hv, lv]) → HyAt H' hv f evs → HiOk f evs → (∀ e ∈ evs, Fb 4 200 e.stamp) → evs.length = m.toNat → Kp [t] H H' → TK H H' → TpAt H' t l (c + 300) → Q (.ref p) H'
theorem sl3 : ¬ (HT.sIx 3 0 (some (1 : Int)) = 0 ∧ HT.sIx 3 3 (none : Option Int) = 3) := by decide
section
variable {P : Program} {w : World} {K : PySem.W.Frag} {mg : Str → Option Value} {base : Heap}
theorem ok_law_lived (T : Tx K mg) : FnOk P w K mg base CX0 3 T.a_law_lived T.d_law_lived p_law_lived spLived := by
  refine T.law_lived.F.ok sc_law_lived (fun vs H Q E h => ?_) (fun cdv A outer s H vs Q E hr h => ?_)
  · obtain ⟨t, l, c, fv, m, f, rfl, _⟩ := h
    rfl
  · obtain ⟨t, l, c, fv, m, f, rfl, tp, hc, m0, m29, hf, fok, q⟩ := h
    have hr2 : Room 2 _ := hr
    have hr1 : Room 1 _ := hr2.mono (by decide)
    have hu := hu_of hr
    have few := fok.few
    refine ⟨_, PSs.nox ((pss_cons (ps_set (i := 3) sc_law_lived.nd rfl (Or.inl rfl) (pe_callTy (call_dictP rfl) (by rfl) T.bdict (by decide +kernel) (pa_cons (pe_lc (own := [("_law_row", 18)]) (tt := tYes) rfl sc_law_lived.nd (pi_tup (pe_ix ix_tup (pv 1) pe_int (fun _ _ => rfl))) (blkOk_by (N := n_law_lived) (sc := (defScope s_law_lived)) (by decide +kernel)) (fun _ _ _ _ _ => pg_name (i := 18) sc_law_lived.nd rfl (Or.inl rfl) (Or.inr rfl)) (fun _ _ _ _ _ => pts_nil) (fun _ _ _ _ _ => (pe_tup (pa_cons (pe_ix (ix_tupK K rfl) (pv 18) pe_int (fun _ _ => rfl)) (pa_cons (pe_slice (sl_tupAK K rfl) (pv 18) (po_some pe_int) po_none) pa_nil))))) pa_nil)))
      (pss_cons (ps_par3 (i := 4) (j := 5) (l := 6) rfl sc_law_lived.nd rfl rfl rfl (by decide) (by decide) (by decide) rfl rfl rfl (pa_cons (pe_callB (call_sortedD rfl) (by rfl) T.bsorted (by decide +kernel) (pa_cons (pv 3) pa_nil)) (pa_cons pe_dnewK (pa_cons pe_int pa_nil))) (by rfl))
      (pss_cons (ps_asg (pe_tup (pa_cons (pe_lst pa_nil) (pa_cons (pe_lst pa_nil) (pa_cons (pe_op op_sub (pe_call (ok_law_draw T) hr1 rfl T.law_draw.m T.law_draw.F.kp T.law_draw.b .nil pass0 (pa_cons (pv 0) (pa_cons pe_int pa_nil))) pe_int) pa_nil)))) (pg_tup rfl (pgs_cons (pg_name (i := 7) sc_law_lived.nd rfl (Or.inl rfl)) (pgs_cons (pg_name (i := 8) sc_law_lived.nd rfl (Or.inl rfl)) (pgs_cons (pg_name (i := 9) sc_law_lived.nd rfl (Or.inr rfl)) pgs_nil)))))
      (pss_cons (ps_for PassesOwn.never rfl (pi_list (pv 4)) (pg_name (i := 10) sc_law_lived.nd rfl (Or.inl rfl))
        (pss_one (ps_dput hu (pv 5) (pv 10) (pe_tup (pa_cons pe_int (pa_cons (pe_ifExp (pt_cmpR op_ne (pv 10) (pe_ix ix_tup (pv 1) pe_int (fun _ _ => rfl)) (nomark _)) (pe_tup (pa_cons (pe_op op_sub (pe_call (ok_law_draw T) hr1 rfl T.law_draw.m T.law_draw.F.kp T.law_draw.b .nil pass0 (pa_cons (pv 0) (pa_cons pe_int pa_nil))) pe_int) (pa_cons pe_int pa_nil))) (pe_tup (pa_cons (pv 9) (pa_cons pe_int pa_nil)))) pa_nil))) rfl)))
      (pss_cons (ps_for PassesOwn.never rfl (pi_range1 rfl T.brange (pa_cons (pv 2) pa_nil)) (pg_name (i := 11) sc_law_lived.nd rfl (Or.inl rfl))
        (pss_cons (ps_set (i := 6) sc_law_lived.nd rfl (Or.inl rfl) (pe_op op_add (pv 6) (pe_call (ok_law_draw T) hr1 rfl T.law_draw.m T.law_draw.F.kp T.law_draw.b .nil pass0 (pa_cons (pv 0) (pa_cons pe_int pa_nil)))))
        (pss_cons (ps_set (i := 12) sc_law_lived.nd rfl (Or.inl rfl) (pe_ix ix_list (pv 4) (pe_call (ok_law_draw T) hr1 rfl T.law_draw.m T.law_draw.F.kp T.law_draw.b .nil pass0 (pa_cons (pv 0) (pa_cons (pe_callB call_len_seq (by rfl) T.blen (by decide +kernel) (pa_cons (pv 4) pa_nil)) pa_nil))) (fun _ _ => rfl)))
        (pss_cons (ps_asg (pe_dget hu (pv 3) (pv 12) (fun _ _ => rfl)) (pg_tup rfl (pgs_cons (pg_name (i := 13) sc_law_lived.nd rfl (Or.inl rfl)) (pgs_cons (pg_name (i := 14) sc_law_lived.nd rfl (Or.inl rfl)) pgs_nil))))
        (pss_cons (ps_set (i := 15) sc_law_lived.nd rfl (Or.inl rfl) (pe_ix ix_list (pe_lst (pa_cons (pv 13) (pa_cons (pv 14) (pa_cons (pe_tup (pa_cons pe_int (pa_cons pe_int pa_nil))) pa_nil)))) (pe_call (ok_law_draw T) hr1 rfl T.law_draw.m T.law_draw.F.kp T.law_draw.b .nil pass0 (pa_cons (pv 0) (pa_cons pe_int pa_nil))) (fun _ _ => rfl)))
        (pss_cons (ps_set (i := 16) sc_law_lived.nd rfl (Or.inl rfl) (pe_call (ok_law_plus T) hr2 rfl T.law_plus.m T.law_plus.F.kp T.law_plus.b .nil pass0 (pa_cons (pe_ix ix_tup (pe_dget hu (pv 5) (pv 12) (fun _ _ => rfl)) pe_int (fun _ _ => rfl)) (pa_cons (pe_call (ok_law_by T) hr2 rfl T.law_by.m T.law_by.F.kp T.law_by.b .nil pass0 (pa_cons (pv 15) (pa_cons (pe_tup (pa_cons (pe_op op_sub (pv 6) (pe_ix ix_tup (pe_dget hu (pv 5) (pv 12) (fun _ _ => rfl)) pe_int (fun _ _ => rfl))) (pa_cons pe_int pa_nil))) pa_nil))) pa_nil))))
        (pss_cons (ps_set (i := 17) sc_law_lived.nd rfl (Or.inl rfl) (pe_call (ok_law_can_hear T) hr2 rfl T.law_can_hear.m T.law_can_hear.F.kp T.law_can_hear.b .nil pass0 (pa_cons (pv 1) (pa_cons (pv 7) (pa_cons (pv 8) (pa_cons (pv 12) (pa_cons (pv 6) pa_nil)))))))
        (pss_cons (ps_expr (pe_bm PySem.F.plainAttrs_list PySem.F.slot_list_append PySem.F.type_list_append mt_append (pv 7) (pa_cons (pe_tup (pa_cons (pv 12) (pa_cons (pv 16) (pa_cons (pe_call (ok_law_deed T) hr2 rfl T.law_deed.m T.law_deed.F.kp T.law_deed.b .nil pass0 (pa_cons (pv 0) (pa_cons (pv 1) (pa_cons (pv 12) (pa_cons (pv 17) pa_nil))))) pa_nil)))) pa_nil)))
        (pss_cons (ps_expr (pe_bm PySem.F.plainAttrs_list PySem.F.slot_list_append PySem.F.type_list_append mt_append (pv 8) (pa_cons (pv 6) pa_nil)))
        (pss_one (ps_dput hu (pv 5) (pv 12) (pe_tup (pa_cons (pv 6) (pa_cons (pv 16) pa_nil))) rfl)))))))))))
      (pss_one (ps_ret (pe_tup (pa_cons (pe_tup (pa_cons (pv 1) (pa_cons (pe_callTy call_tuple_of (by rfl) T.btuple (by decide +kernel) (pa_cons (pv 7) pa_nil)) pa_nil))) (pa_cons (pe_lc (own := [("_law_one", 19)]) (tt := tYes) rfl sc_law_lived.nd (pi_list (pv 8)) (blkOk_by (N := n_law_lived) (sc := (defScope s_law_lived)) (by decide +kernel)) (fun _ _ _ _ _ => pg_name (i := 19) sc_law_lived.nd rfl (Or.inl rfl) (Or.inr rfl)) (fun _ _ _ _ _ => pts_nil) (fun _ _ _ _ _ => (pe_tup (pa_cons (pe_op op_add (pv 9) (pv 19)) (pa_cons pe_int pa_nil))))) pa_nil))))))))))), ?_⟩
    obtain ⟨fp, fhp, flp, fhs, fls, rfl, c0, c1, c2, c3, c4⟩ := id hf
    have flen := pr_len c2
    -- the dict of the rates
    refine ⟨_, rfl, _, _, _, _, rfl, rfl, SqT.of c0, rfl, fhp, rfl, ⟨fhs, SqT.of c1⟩, fun D hD => ?_⟩
    refine lc_tup (K := K) (a := fhp) (xs := fhs) (fun i H2 => ∃ (ps : List Addr) (kvs : List (Key × V)), Same H H2 ∧ H2 D = some (.lst (ps.map V.ref)) ∧ Paired (fun p (kv : Key × V) => H2 p = some (.tup [kV kv.1, kv.2])) ps kvs ∧ Paired (RtKv H2) kvs (f.houses.take i))
      ⟨[], [], same_new hD, upd_same, .nil, .nil⟩ (fun i H2 _ ⟨_, _, s2, _⟩ => SqT.of (s2 _ _ c1)) ?_ ?_
    · rintro i y H2 hi ⟨ps, kvs, s2, g, pp, pk⟩
      obtain ⟨hh, eh, px, a, b, rfl, r0, r1, r2⟩ := pr_get c2 hi
      have hpl := pr_len pp
      have hkl := pr_len pk
      rw [List.length_take] at hkl
      refine ⟨rfl, _, rfl, _, _, _, _, rfl, rfl, SqT.of (s2 _ _ r0), rfl, _, rfl, _, rfl, _, _, rfl, SqT.of (s2 _ _ r0), (fun z => absurd z sl3), fun _ q1 hq1 => ⟨by show 2 ≤ sizeLine; decide, fun q2 hq2 => ?_⟩⟩
      have s3 := same_new (o := .tup (cutV [V.str hh.name, a, b] (some 1) none)) hq1
      have s4 := same_new (o := .tup [V.str hh.name, .ref q1]) hq2
      have sa := s2.trans (s3.trans s4)
      have g4 := (s3.trans s4) _ _ g
      have tkD := TK.lst (o := .lst (ps.map V.ref ++ [.ref q2])) g4
      refine ⟨_, g4, small1000 (by rw [List.length_map]; omega), ps ++ [q2], kvs ++ [(.inr hh.name, .ref q1)], fun x o e => ?_, ?_, ?_, ?_⟩
      · rw [upd_ne (ne_of_none e hD)]
        exact sa _ _ e
      · rw [upd_same, List.map_append]
        rfl
      · refine pr_snoc (pr_mono (fun p kv e => ?_) pp) ?_
        · exact tkD _ _ ((s3.trans s4) _ _ e)
        · exact tkD _ _ upd_same
      · rw [take_snoc eh]
        have tka : TK H2 _ := (TK.of (s3.trans s4)).trans tkD
        refine pr_snoc (pr_mono (fun _ _ z => RtKv.tk z tka) pk) ⟨rfl, q1, a, b, rfl, ?_, r1.tk ((TK.of s2).trans tka), r2.tk ((TK.of s2).trans tka)⟩
        exact tkD _ _ (s4 _ _ upd_same)
    rintro H1 ⟨ps, kv0, s1, g1, pp, pk⟩
    have elf : f.houses.take fhs.length = f.houses := by
      rw [flen]
      exact List.take_length
    rw [elf] at pk
    have ekl := pr_len pk
    refine ⟨D, ps, kv0, rfl, SqL.of g1, pr_mono (fun p kv e => SqT.of e) pp, fun hd hhd => ?_⟩
    rw [rtkv_merge pk fok.nd]
    have hd0 : H hd = none := s1.free hhd
    have sd := same_new (o := .dK kv0) hhd
    have pk2 : Paired (RtKv (upd H1 hd (.dK kv0))) kv0 f.houses := pr_mono (fun _ _ z => RtKv.tk z (.of sd)) pk
    -- names, clocks, time
    refine ⟨_, rfl, hd, kv0, f.names, rfl, .of upd_same, rtkv_keys pk, ?_, fun ys np py _ hnp => ?_⟩
    · have : f.names.length = f.houses.length := List.length_map _
      omega
    have sn := same_new (o := .lst (ys.map V.str)) hnp
    intro cd hcd
    have sc := same_new (o := .dK []) hcd
    refine ⟨_, _, _, rfl, ?_⟩
    -- events, hours, begun
    refine ⟨by show 0 ≤ sizeLine; decide, fun ep hep => ⟨by show 0 ≤ sizeLine; decide, fun hp hhp => ?_⟩⟩
    have se := same_new (o := .lst ([] : List V)) hep
    have sh := same_new (o := .lst ([] : List V)) hhp
    have sHn := (s1.trans sd)
    have n0 : H np = none := sHn.free hnp
    have k0 : H cd = none := (sHn.trans sn).free hcd
    have e0 : H ep = none := ((sHn.trans sn).trans sc).free hep
    have h0 : H hp = none := (((sHn.trans sn).trans sc).trans se).free hhp
    have gd : (upd H1 hd (.dK kv0)) hd = some (.dK kv0) := upd_same
    have gn := (sc.trans (se.trans sh)) np (.lst (ys.map V.str)) upd_same
    have gc := (se.trans sh) cd (.dK []) upd_same
    have ge := sh ep (.lst []) upd_same
    refine habs (Ψ := fun G => LvS H G t l np hd cd ep hp ys kv0 (.ref fp) f [] [] [] [] c) ⟨(Bs.start tp).same ((((sHn.trans sn).trans sc).trans se).trans sh), gn, (sn.trans (sc.trans (se.trans sh))) _ _ gd, pr_mono (fun _ _ z => RtKv.tk z (.of (sn.trans (sc.trans (se.trans sh))))) pk2, hf.tk (.of ((((sHn.trans sn).trans sc).trans se).trans sh)), ge, .nil, upd_same, gc, n0, hd0, k0, e0, h0, ?_, ?_, ?_, ?_⟩ ?_
    · exact ne_of_none (sc _ _ upd_same) hep
    · exact ne_of_none ((sc.trans se) _ _ upd_same) hhp
    · exact ne_of_none (sn _ _ gd) hcd
    · exact ne_of_none upd_same hhp
    rintro H2 X2
    clear se sh sHn gd gn gc ge hep hhp hcd hnp sc sn sd pk2 hhd pk pp g1 s1 hD
    refine ⟨_, rfl, t, l, 20, c, rfl, X2.b.tp, by decide, by decide, by omega, fun bg H3 bg0 bg20 k3 tk3 tp3 => ?_⟩
    have X3 := X2.draw k3 tk3 tp3
    refine ⟨_, _, rfl, rfl, by show 3 ≤ sizeLine; decide, fun tq htq => ?_⟩
    refine ⟨_, _, rfl, SqT.of upd_same, rfl, _, _, rfl, _, _, rfl, _, _, rfl, rfl, ?_⟩
    refine habs (Ψ := fun G => LvS H G t l np hd cd ep hp ys kv0 (.ref fp) f [] [] [] [] (c + 1)) (X3.same (same_new htq)) ?_
    rintro H5 X5
    clear X3 X2 k3 tk3 tp3 htq
    have ymem : ∀ n, n ∈ ys ↔ n ∈ f.names := fun n => py.mem_iff
    have yl : ys.length = f.houses.length := by
      rw [py.length_eq]
      exact List.length_map _
    have y1 : 1 ≤ ys.length := by
      have := (ymem _).mpr fok.has
      cases ys with
      | nil => cases this
      | cons _ _ => exact Nat.succ_pos _
    -- the clocks
    refine ⟨_, rfl, np, rfl, ⟨_, SqL.of X5.n⟩, for_list (K := K) (a := np) (xs := ys.map V.str) (LvA H t l np hd cd ep hp ys kv0 (.ref fp) f m (bg - 10) c) ⟨none, [], rfl, X5.mono (by omega), Nat.le_refl _, fun n hn => by cases hn⟩ (fun i σ H2 _ ⟨_, _, _, L, _⟩ => SqL.of L.n) ?_ ?_⟩
    · rintro i nv σ H6 hi ⟨b10, kvs, rfl, X6, kl6, ck6⟩
      have hiy : i < ys.length := by
        have := (List.getElem?_eq_some_iff.mp hi).1
        rwa [List.length_map] at this
      have hn : ys[i]? = some ys[i] := List.getElem?_eq_getElem hiy
      generalize ys[i] = n at hn
      rw [List.getElem?_map, hn] at hi
      cases (Option.some.inj hi : V.str n = nv)
      have fin : ∀ (G : Hp) (s : V) (x : Fr) (cc : Int), cc ≤ c + 2 + (i : Nat) → LvS H G t l np hd cd ep hp ys kv0 (.ref fp) f [] [] [] kvs cc → TK H6 G → FrAt G s x → Fb 4 10 x → ∀ q1, G q1 = none →
          (upd G q1 (.tup [.int 0, s])) cd = some (.dK kvs) ∧ kvs.length < sizeLine ∧ LvA H t l np hd cd ep hp ys kv0 (.ref fp) f m (bg - 10) c (i + 1)
            [some (.ref t), some (.ref fp), some (.int m), some (.ref hd), some (.ref np), some (.ref cd), some (.int 0), some (.ref ep), some (.ref hp), some (.int (bg - 10)), some (.str n), none, none, none, none, none, none, none, none, none] (upd (upd G q1 (.tup [.int 0, s])) cd (.dK (putK kvs (.inr n) (.ref q1)))) := by
        intro G s x cc hcc LG tkG fx bx q1 hq1
        have sq := same_new (o := .tup [.int 0, s]) hq1
        have LG2 := LG.same sq
        have tk2 := TK.dk (o := .dK (putK kvs (.inr n) (.ref q1))) LG2.k
        refine ⟨LG2.k, small1000 (by omega), _, _, rfl, (LG2.putC _).mono (by omega), ?_, ?_⟩
        · have := length_putK kvs (.inr n : Key) (.ref q1)
          omega
        · intro n' hn'
          by_cases e : n' = n
          · subst e
            refine ⟨q1, s, 0, x, by rw [valV_put, if_pos rfl], tk2 _ _ upd_same, fx.tk ((TK.of sq).trans tk2), by decide, by decide, bx, fun e he => by cases he⟩
          · rw [take_snoc hn] at hn'
            rcases List.mem_append.mp hn' with hn' | hn'
            · obtain ⟨p, s', τ, x', h1, h2⟩ := (ck6 n' hn').tk (tkG.trans ((TK.of sq).trans tk2)) (Int.le_refl 0)
              refine ⟨p, s', τ, x', ?_, h2⟩
              rw [valV_put, if_neg (fun z => e (Sum.inr.inj z))]
              exact h1
            · exact absurd (List.mem_singleton.mp hn') e
      obtain ⟨fp', fhp', flp', fhs', fls', efp, d0, _⟩ := id X6.fd
      cases efp
      refine ⟨_, rfl, _, rfl, _, _, _, _, rfl, rfl, SqT.of d0, rfl, rfl, _, rfl, ite2 (fun _ => ?_) (fun _ => ?_)⟩
      · refine ⟨_, rfl, t, l, 20, _, rfl, X6.b.tp, by decide, by decide, by omega, fun x H7 x0 x1 k7 tk7 tp7 => ?_⟩
        have X7 := X6.draw k7 tk7 tp7
        refine ⟨_, _, rfl, rfl, by show 2 ≤ sizeLine; decide, fun p hp' => ⟨by show 2 ≤ sizeLine; decide, fun q1 hq1 => ?_⟩⟩
        have sp := same_new (o := .tup [V.int (x - 10), V.int 1]) hp'
        obtain ⟨f1, f2, f3⟩ := fin _ (.ref p) (x - 10, 1) _ (by omega) (X7.same sp) (tk7.trans (.of sp)) ⟨p, rfl, upd_same⟩ ⟨by show (0 : Int) < 1; decide, by show (1 : Int) ∣ 4; decide, by show -(10 * 1) ≤ x - 10; omega, by show x - 10 ≤ 10 * 1; omega⟩ q1 hq1
        exact ⟨_, rfl, _, rfl, cd, _, rfl, .inl ⟨kvs, .inr n, f1, rfl, f2, rfl⟩, f3⟩
      · refine ⟨_, rfl, by show 2 ≤ sizeLine; decide, fun p hp' => ⟨by show 2 ≤ sizeLine; decide, fun q1 hq1 => ?_⟩⟩
        have sp := same_new (o := .tup [V.int (bg - 10), V.int 1]) hp'
        obtain ⟨f1, f2, f3⟩ := fin _ (.ref p) (bg - 10, 1) _ (by omega) (X6.same sp) (.of sp) ⟨p, rfl, upd_same⟩ ⟨by show (0 : Int) < 1; decide, by show (1 : Int) ∣ 4; decide, by show -(10 * 1) ≤ bg - 10; omega, by show bg - 10 ≤ 10 * 1; omega⟩ q1 hq1
        exact ⟨_, rfl, _, rfl, cd, _, rfl, .inl ⟨kvs, .inr n, f1, rfl, f2, rfl⟩, f3⟩
    · rintro σ H6 ⟨b10, kvs, rfl, X6, kl6, ck6⟩
      rw [List.length_map] at X6 kl6 ck6
      rw [List.take_length] at ck6
      clear X5
      refine ⟨_, rfl, _, rfl, by omega, by omega, ?_⟩
      refine for_range (lo := 0) (LvB H t l np hd cd ep hp ys kv0 (.ref fp) f m (bg - 10) c) ⟨b10, none, none, none, none, none, none, none, 0, [], [], [], kvs, rfl, X6.mono (by omega), by omega, ck6, by decide, by decide, rfl, rfl, (fun k e hk => by cases hk), fun e he => by cases he⟩ ?_ ?_
      · rintro i σ H7 hi ⟨b10, b11, b12, b13, b14, b15, b16, b17, tm, es, evs, hrs, kvs, rfl, Y7, kl7, ck7, tm0, tm2, el7, hl7, hiok, hst2⟩
        have i29 : i < 29 := by omega
        -- time
        refine ⟨_, rfl, _, rfl, t, l, 3, _, rfl, Y7.b.tp, by decide, by decide, by omega, fun d H8 d0 d1 k8 tk8 tp8 => ⟨_, _, rfl, rfl, ?_⟩⟩
        have Y8 := Y7.draw k8 tk8 tp8
        -- house
        refine ⟨_, rfl, _, rfl, _, rfl, _, _, rfl, .inl (SqL.of Y8.n), t, l, _, _, rfl, Y8.b.tp, by rw [List.length_map]; omega, by rw [List.length_map]; omega, by omega, fun x H9 x0 x1 k9 tk9 tp9 => ?_⟩
        rw [List.length_map] at x1
        have Y9 := Y8.draw k9 tk9 tp9
        obtain ⟨n, an, mn, _⟩ := pickS (ns := ys) x0 x1
        refine ⟨_, _, _, _, rfl, rfl, SqL.of Y9.n, an, ?_⟩
        -- slow, fast
        have mnf : n ∈ f.names := (ymem n).mp mn
        obtain ⟨hm, hnm⟩ := hsOf_at mnf
        obtain ⟨rq, ra, rb, w0, w1, w2, w3⟩ := rtkv_get Y9.rd fok.nd _ hm
        obtain ⟨rt1, rt2⟩ := fok.rt _ hm
        rw [hnm] at w0
        generalize hsOf f n = hh at *
        refine ⟨_, rfl, _, rfl, _, _, rfl, dget_of Y9.d w0, _, _, rfl, SqT.of w1, rfl, _, _, rfl, _, _, rfl, rfl, ?_⟩
        -- rate
        refine ⟨_, rfl, _, rfl, by show 2 ≤ sizeLine; decide, fun p1 h1 => ⟨by show 3 ≤ sizeLine; decide, fun D hD => ?_⟩⟩
        have sp1 := same_new (o := .tup [V.int 1, V.int 1]) h1
        have sD := same_new (o := .lst [ra, rb, V.ref p1]) hD
        have pA : Paired (FrAt (upd (upd H9 p1 (.tup [V.int 1, V.int 1])) D (.lst [ra, rb, .ref p1]))) [ra, rb, .ref p1] [hh.slow, hh.fast, (1, 1)] := .cons (w2.tk (.of (sp1.trans sD))) (.cons (w3.tk (.of (sp1.trans sD))) (.cons ⟨p1, rfl, sD _ _ upd_same⟩ .nil))
        have hDA : H D = none := Y9.b.free (sp1.free hD)
        have YD := (Y9.same sp1).same sD
        refine ⟨_, rfl, t, l, 3, _, rfl, YD.b.tp, by decide, by decide, by omega, fun y HA y0 y1' kA tkA tpA => ?_⟩
        have YA := YD.draw kA tkA tpA
        obtain ⟨rv, rate, arv, frv, mrv, _⟩ := pickP pA y0 y1'
        have rtR : Rt1 rate := by
          rcases List.mem_cons.mp mrv with rfl | h
          · exact rt1
          rcases List.mem_cons.mp h with rfl | h
          · exact rt2
          rw [List.mem_singleton.mp h]
          exact rt1_of
        refine ⟨_, _, _, _, rfl, rfl, SqL.of (YD.b.kp kA hDA upd_same), arv, ?_⟩
        have frA := frv.tk tkA
        have tk7A : TK H7 HA := ((tk8.trans tk9).trans (.of (sp1.trans sD))).trans tkA
        have ckA : ∀ n ∈ ys, Clk HA kvs (tm + d) evs n := fun n hn => (ck7 n hn).tk tk7A (by omega)
        clear pA YD kA tkA tpA sp1 sD h1 hD w1 w2 w3 Y9 Y8 Y7 k8 tk8 tp8 k9 tk9 tp9 frv arv ck7 tk7A
        obtain ⟨cp, cs, τ, x, v0, v1, v2, t0, t1, xb, xm⟩ := id (ckA n mn)
        have smx : Sm x := xb.sm (by decide) (by decide)
        obtain ⟨smr, r1, r2⟩ := rtR.sm
        have tt : 0 ≤ tm + d - τ := by omega
        have fbw := fb_mul tt rtR
        have fbs : Fb 4 (10 + 2 * (tm + d)) (addF x (mulF rate (tm + d - τ, 1))) := (fb_add (by decide) xb fbw).mono (by omega)
        have ltx : ltF (addF x (mulF rate (tm + d - τ, 1))) x = false := lt_add xb.1 fbw.1 (mul_nn rtR tt)
        -- stamp
        refine ⟨_, rfl, _, rfl, _, _, rfl, dget_of YA.k v0, _, _, _, _, rfl, rfl, SqT.of v1, rfl, ?_⟩
        refine ⟨_, rfl, _, rfl, _, rfl, _, rfl, _, _, rfl, dget_of YA.k v0, _, _, _, _, rfl, rfl, SqT.of v1, rfl, _, _, rfl, rfl, by show 2 ≤ sizeLine; decide, fun p2 hp2 => ?_⟩
        have sp2 := same_new (o := .tup [V.int (tm + d - τ), V.int 1]) hp2
        refine ⟨_, _, rate, (tm + d - τ, 1), rfl, frA.tk (.of sp2), ⟨p2, rfl, upd_same⟩, ⟨⟨smr, by show (0 : Int) < 1; decide, by show (1 : Int) ≤ 30000; decide⟩, r1, r2⟩, fun z1 HB sB fB => ?_⟩
        refine ⟨_, _, x, _, rfl, v2.tk (.of (sp2.trans sB)), fB, ⟨smx, fbw.sm (by decide) (by decide)⟩, fun z HC sC fC => ?_⟩
        have sAC := (sp2.trans sB).trans sC
        have YC := YA.same sAC
        have ckC : ∀ n ∈ ys, Clk HC kvs (tm + d) evs n := fun n hn => (ckA n hn).tk (.of sAC) (Int.le_refl _)
        generalize addF x (mulF rate (tm + d - τ, 1)) = stamp at *
        clear sAC sB sC sp2 hp2 fB frA YA ckA v1 v2
        -- letters
        refine ⟨_, rfl, _, rfl, _, rfl, _, rfl, _, rfl, .ref fp, ep, hp, n, _, f, es, evs, hrs, rfl, YC.fd, fok, YC.e, YC.pe, YC.h, by omega, by omega, hi_send hiok, fun fa ks HD sD fa0 g13 ok13 kl13 => ?_⟩
        have YD := YC.same sD
        have fat : fa ≠ t := by
          obtain ⟨xs, hxs⟩ := YC.b.tp.lst
          exact (ne_of_none hxs fa0).symm
        have fD := fC.tk (.of sD)
        have ckD : ∀ n ∈ ys, Clk HD kvs (tm + d) evs n := fun n hn => (ckC n hn).tk (.of sD) (Int.le_refl _)
        have esl := pr_len YD.pe
        -- events.append
        refine ⟨_, rfl, .inl ⟨rfl, _, SqL.of YD.e⟩, _, rfl, _, rfl, _, rfl, _, rfl, _, rfl, _, rfl, t, l, _, .ref fp, n, fa, ks, f, evs, rfl, YD.b.tp, by omega, YD.fd, fok, g13, fat, kl13, ok13, fun dv dd HE dAt dOk kE tkE tpE => ⟨by show 3 ≤ sizeLine; decide, fun q1 hq1 => ?_⟩⟩
        have YE := YD.draw kE tkE tpE
        have sq := same_new (o := .tup [V.str n, z, dv]) hq1
        have YF := YE.same sq
        have eAt : EvAt (upd HE q1 (.tup [V.str n, z, dv])) (.ref q1) ⟨n, stamp, dd⟩ := ⟨q1, z, dv, rfl, upd_same, fD.tk (tkE.trans (.of sq)), dAt.tk (.of sq)⟩
        refine ⟨_, _, _, rfl, rfl, YF.e, small1000 (by omega), ?_⟩
        have tkF := TK.lst (o := .lst (es ++ [.ref q1])) YF.e
        refine habs (Ψ := fun G => LvS H G t l np hd cd ep hp ys kv0 (.ref fp) f (es ++ [.ref q1]) (evs ++ [⟨n, stamp, dd⟩]) hrs kvs (c + 7 + 6 * ((i + 1 : Nat) : Int)) ∧ (∀ n ∈ ys, Clk G kvs (tm + d) evs n) ∧ FrAt G z stamp) ⟨(YF.putE eAt).mono (by omega), fun n hn => (ckD n hn).tk ((tkE.trans (.of sq)).trans tkF) (Int.le_refl _), fD.tk ((tkE.trans (.of sq)).trans tkF)⟩ ?_
        rintro G ⟨YG, ckG, fG⟩
        clear tkF eAt YF sq YE hq1 dAt kE tkE tpE YD fD ckD g13 fa0 sD YC ckC fC
        -- hours.append
        refine ⟨_, rfl, .inl ⟨rfl, _, SqL.of YG.h⟩, _, rfl, _, _, _, rfl, rfl, YG.h, small1000 (by rw [List.length_map]; omega), ?_⟩
        have tkH := TK.lst (o := .lst (hrs.map V.int ++ [.int (tm + d)])) YG.h
        refine habs (Ψ := fun G => LvS H G t l np hd cd ep hp ys kv0 (.ref fp) f (es ++ [.ref q1]) (evs ++ [⟨n, stamp, dd⟩]) (hrs ++ [tm + d]) kvs (c + 7 + 6 * ((i + 1 : Nat) : Int)) ∧ (∀ n ∈ ys, Clk G kvs (tm + d) evs n) ∧ FrAt G z stamp) ⟨YG.putH _, fun n hn => (ckG n hn).tk tkH (Int.le_refl _), fG.tk tkH⟩ ?_
        rintro G2 ⟨YK, ckK, fK⟩
        clear YG ckG fG tkH
        -- the clock
        refine ⟨_, rfl, _, rfl, by show 2 ≤ sizeLine; decide, fun q2 hq2 => ?_⟩
        have sq := same_new (o := .tup [V.int (tm + d), z]) hq2
        have YL := YK.same sq
        have tkL := TK.dk (o := .dK (putK kvs (.inr n) (.ref q2))) YL.k
        refine ⟨_, rfl, _, rfl, cd, _, rfl, .inl ⟨kvs, .inr n, YL.k, rfl, small1000 (by omega), rfl⟩, ?_⟩
        refine ⟨_, _, _, _, _, _, _, _, tm + d, _, _, _, _, rfl, YL.putC _, ?_, ?_, by omega, by omega, ?_, ?_, hi_snoc hiok ⟨mnf, fbs.mono (by omega), ?_, ?_⟩, ?_⟩
        · rw [putK_len' v0]
          exact kl7
        · intro n' hn'
          by_cases e : n' = n
          · subst e
            refine ⟨q2, z, tm + d, stamp, by rw [valV_put, if_pos rfl], tkL _ _ upd_same, fK.tk ((TK.of sq).trans tkL), by omega, Int.le_refl _, fbs, fun e he eh => ?_⟩
            rcases List.mem_append.mp he with he | he
            · have hst : 0 < e.stamp.2 := by
                obtain ⟨j, hj, ej⟩ := List.getElem_of_mem he
                have := (hiok j e (by rw [List.getElem?_eq_getElem hj, ej])).st
                exact this.1
              exact le_trans2 hst xb.1 fbs.1 (xm e he eh) ltx
            · rw [List.mem_singleton.mp he]
              exact lt_self _
          · obtain ⟨p, s', τ', x', h1, h2, h3, h4, h5, h6, h7⟩ := (ckK n' hn').tk ((TK.of sq).trans tkL) (Int.le_refl _)
            refine ⟨p, s', τ', x', ?_, h2, h3, h4, h5, h6, fun e' he' eh' => ?_⟩
            · rw [valV_put, if_neg (fun z => e (Sum.inr.inj z))]
              exact h1
            · rcases List.mem_append.mp he' with he' | he'
              · exact h7 e' he' eh'
              · rw [List.mem_singleton.mp he'] at eh'
                exact absurd eh'.symm e
        · rw [List.length_append, el7]
          rfl
        · rw [List.length_append, hl7]
          rfl
        · unfold DeedOk at dOk
          cases dd with
          | mark => trivial
          | send k => exact dOk
          | hear k => exact dOk
        · intro e' he' eh'
          have hst : 0 < e'.stamp.2 := by
            obtain ⟨j, hj, ej⟩ := List.getElem_of_mem he'
            have := (hiok j e' (by rw [List.getElem?_eq_getElem hj, ej])).st
            exact this.1
          exact le_trans2 hst xb.1 fbs.1 (xm e' he' eh') ltx
        · intro e' he'
          rcases List.mem_append.mp he' with he' | he'
          · exact hst2 e' he'
          · rw [List.mem_singleton.mp he']
            exact fbs.mono (by omega)
      · rintro σ H7 ⟨b10, b11, b12, b13, b14, b15, b16, b17, tm, es, evs, hrs, kvs, rfl, Y7, kl7, ck7, tm0, tm2, el7, hl7, hiok, hst2⟩
        refine ⟨_, rfl, _, rfl, _, _, rfl, .inl ⟨SqL.of Y7.e, fun et het => ?_⟩⟩
        have s1 := same_new (o := .tup es) het
        refine ⟨by show 2 ≤ sizeLine; decide, fun hv hhv => ?_⟩
        have s2 := same_new (o := .tup [.ref fp, .ref et]) hhv
        have s12 := s1.trans s2
        refine ⟨_, rfl, hp, rfl, ⟨_, SqL.of (s12 _ _ Y7.h)⟩, fun D hD => ?_⟩
        have sD := same_new (o := .lst ([] : List V)) hD
        refine lc_list (K := K) (a := hp) (xs := hrs.map V.int) (fun i H2 => Same H7 H2 ∧ H2 hv = some (.tup [.ref fp, .ref et]) ∧ H2 et = some (.tup es) ∧ ∃ xs, H2 D = some (.lst xs) ∧ xs.length ≤ i) ⟨s12.trans sD, sD _ _ upd_same, sD _ _ (s2 _ _ upd_same), [], upd_same, Nat.le_refl _⟩ (fun i H2 _ ⟨s, _⟩ => SqL.of (s _ _ Y7.h)) ?_ ?_
        · rintro i y H2 hi ⟨s, gv, ge, xs, gx, lx⟩
          have hil := (List.getElem?_eq_some_iff.mp hi).1
          rw [List.length_map] at hil
          have hr' : hrs[i]? = some hrs[i] := List.getElem?_eq_getElem hil
          rw [List.getElem?_map, hr'] at hi
          cases (Option.some.inj hi : V.int hrs[i] = y)
          refine ⟨rfl, _, rfl, _, rfl, _, _, rfl, rfl, by show 2 ≤ sizeLine; decide, fun q1 hq1 => ?_⟩
          have sq := same_new (o := .tup [V.int (bg - 10 + hrs[i]), V.int 1]) hq1
          have gx' := sq _ _ gx
          have tkx := TK.lst (o := .lst (xs ++ [.ref q1])) gx'
          refine ⟨_, gx', small1000 (by omega), fun a o e => ?_, tkx _ _ (sq _ _ gv), tkx _ _ (sq _ _ ge), _, upd_same, ?_⟩
          · rw [upd_ne (ne_of_none e (s12.free hD))]
            exact sq _ _ (s _ _ e)
          · rw [List.length_append]
            exact Nat.succ_le_succ lx
        · rintro H8 ⟨s, gv, ge, xs, gx, lx⟩
          refine ⟨by show 2 ≤ sizeLine; decide, fun p hp' => ?_⟩
          have sp := same_new (o := .tup [.ref hv, .ref D]) hp'
          have sa := s.trans sp
          have YZ := Y7.same sa
          exact q p (.ref hv) (.ref D) evs _ upd_same ⟨hv, .ref fp, et, es, rfl, sp _ _ gv, YZ.fd, sp _ _ ge, YZ.pe⟩ hiok hst2 (by omega) YZ.b.k YZ.b.tk (YZ.b.tp.mono (by omega))
end
end Lc
/-! What the law asks of the pairs, in plain Lean. -/
namespace Lc
open PySem PySem.Spec PyProof.Rows L2

theorem lastK_after {evs : List Ev} {n : Str} : ∀ {k j : Nat}, lastK evs n k = some j → ∀ i e, j < i → i < k → evs[i]? = some e → e.house ≠ n
  | 0, _, h, _, _, _, hk, _ => absurd hk (Nat.not_lt_zero _)
  | k + 1, j, h, i, e, hji, hik, he => by
    by_cases c : (evs[k]?.map (·.house)) = some n
    · unfold lastK at h
      rw [if_pos c] at h
      cases h
      omega
    · unfold lastK at h
      rw [if_neg c] at h
      by_cases ei : i = k
      · subst ei
        intro z
        rw [he] at c
        exact c (congrArg some z)
      · exact lastK_after h i e hji (by omega) he
/-- the last event of a house has its greatest stamp -/
theorem last_max {f : Fd} {evs : List Ev} {n : Str} {j : Nat} {ej : Ev} (hi : HiOk f evs) (h : lastK evs n evs.length = some j) (he : evs[j]? = some ej) : ∀ e ∈ evs, e.house = n → ltF ej.stamp e.stamp = false := by
  intro e hm hn
  obtain ⟨i, hil, ei⟩ := List.getElem_of_mem hm
  have hie : evs[i]? = some e := by rw [List.getElem?_eq_getElem hil, ei]
  obtain ⟨hj, ej', hej', hnj⟩ := lastK_some h
  rw [he] at hej'
  cases hej'
  by_cases c : i < j
  · refine (hi j ej he).mo e ?_ (hn.trans hnj.symm)
    have : (evs.take j)[i]? = some e := by rw [List.getElem?_take_of_lt c, hie]
    exact List.mem_of_getElem? this
  · by_cases c2 : i = j
    · subst c2
      rw [hie] at he
      cases he
      exact lt_self _
    · exact absurd hn (lastK_after h i e (by omega) hil hie)
theorem last_ex {evs : List Ev} {e : Ev} (h : e ∈ evs) : ∃ j ej, lastK evs e.house evs.length = some j ∧ evs[j]? = some ej ∧ ej.house = e.house := by
  cases q : lastK evs e.house evs.length with
  | none =>
    obtain ⟨i, hil, ei⟩ := List.getElem_of_mem h
    exact absurd rfl (lastK_none q i e hil (by rw [List.getElem?_eq_getElem hil, ei]))
  | some j =>
    obtain ⟨hj, ej, he, hn⟩ := lastK_some q
    exact ⟨j, ej, rfl, he, hn⟩

/-- a pair asked for at a house, at a stamp -/
theorem now_pair {f : Fd} {evs : List Ev} {n : Str} {x : Fr} {ps : List Pr} {j : Nat} {ej : Ev} (hs : n ≠ f.source) (h : lastK evs n evs.length = some j) (he : evs[j]? = some ej) :
    pairF f evs ⟨n, x, .mark⟩ ps = (movedF (prOf ps j).1 (some (divF (subF x ej.stamp) (hsOf f n).fast)), movedF (prOf ps j).2 (some (divF (subF x ej.stamp) (hsOf f n).slow))) := by
  unfold pairF
  rw [if_neg hs]
  have e : nextsF f evs ⟨n, x, .mark⟩ = [(j, divF (subF x ej.stamp) (hsOf f n).fast, some (divF (subF x ej.stamp) (hsOf f n).slow))] := by
    unfold nextsF
    have h1 := goOn_some (f := f) (e := ⟨n, x, .mark⟩) (Nat.le_refl _) h he
    rw [List.take_length] at h1
    rw [h1]
    rfl
  rw [e]
  rfl
theorem moved_drift {o : Option Fr} {l w r : Fr} (ho : ∀ p, o = some p → 0 < p.2) (hl : 0 < l.2) (hw : 0 < w.2) (hr : 0 < r.1) :
    movedF o (some (divF (subF (addF l w) l) r)) = movedF (movedF o (some (divF (subF l l) r))) (some (divF w r)) := by
  cases o with
  | none => rfl
  | some p =>
    show some (addF p _) = some (addF (addF p _) _)
    rw [drift (ho p rfl) hl hw hr]
/-- THE LAW: what is asked w later is what is asked now, and the width that w makes -/
theorem now_drift {f : Fd} {evs : List Ev} {n : Str} {ps : List Pr} {j : Nat} {ej : Ev} {a b c : Int} (fok : FOk f) (hn : n ∈ f.names) (h : lastK evs n evs.length = some j) (he : evs[j]? = some ej) (hst : 0 < ej.stamp.2) (hb : 0 < b) (hp : PrB c (prOf ps j)) :
    pairF f evs ⟨n, addF ej.stamp (rat a b), .mark⟩ ps =
      (movedF (pairF f evs ⟨n, ej.stamp, .mark⟩ ps).1 (some (divF (rat a b) (hsOf f n).fast)), movedF (pairF f evs ⟨n, ej.stamp, .mark⟩ ps).2 (some (divF (rat a b) (hsOf f n).slow))) := by
  obtain ⟨hm, hnm⟩ := hsOf_at hn
  obtain ⟨r1, r2⟩ := fok.rt _ hm
  by_cases hs : n = f.source
  · obtain ⟨e1, e2⟩ := fok.src _ hm (hnm.trans hs)
    rw [e1, e2]
    have e : ∀ x : Fr, pairF f evs ⟨n, x, .mark⟩ ps = (some x, some x) := fun x => by
      unfold pairF
      rw [if_pos hs]
    rw [e, e]
    show (some _, some _) = (some _, some _)
    rw [drift_src (a := a) (b := b) hst hb rfl]
  · rw [now_pair hs h he, now_pair hs h he]
    rw [moved_drift (fun p e => (hp.1 p e).1) hst (rat_pos hb) r2.n0, moved_drift (fun p e => (hp.2 p e).1) hst (rat_pos hb) r1.n0]

/-! ### a pair, shown -/
theorem fb_big {N c : Int} {x : Fr} (h : Fb N c x) (hN : 0 < N) (hN2 : N ≤ 1000) (hc : 0 ≤ c) (hc2 : c ≤ 1000000) : x.1.natAbs < 10 ^ 12 ∧ x.2.natAbs < 10 ^ 12 := by
  have h2 := h.le hN
  obtain ⟨h3, _, h4, h5⟩ := h
  have k : c * x.2 ≤ 1000000 * 1000 := Int.mul_le_mul hc2 (by omega) (Int.le_of_lt h3) (by decide)
  omega
theorem log_le {n : Nat} (h : n < 10 ^ 12) : n.log2 < 40 := by
  by_cases h0 : n = 0
  · subst h0
    decide
  · exact (Nat.log2_lt h0).mpr (Nat.lt_trans h (by decide))
def Short (x : Fr) : Prop := x.1.natAbs < 10 ^ 12 ∧ x.2.natAbs < 10 ^ 12
theorem short_leaves : ∀ {o : Option Fr}, (∀ x, o = some x → Short x) → (dO o).leavesShort 13 = true ∧ (dO o).weight ≤ 100 ∧ (dO o).showable = true ∧ (dO o).hasDict = false ∧ (dO o).depth ≤ 1
  | none, _ => ⟨rfl, by decide, rfl, rfl, by decide⟩
  | some x, h => by
    obtain ⟨h1, h2⟩ := h x rfl
    refine ⟨?_, ?_, ?_, ?_, (gd_fr x).2⟩
    · have e1 := PyData.shown_int_le h1
      have e2 := PyData.shown_int_le h2
      show (decide _ && (decide _ && true)) = true
      rw [decide_eq_true e1, decide_eq_true e2]
      rfl
    · show PyData.weightAll [.int x.1, .int x.2] ≤ 100
      have l1 := log_le h1
      have l2 := log_le h2
      simp only [PyData.weightAll, PyData.weight]
      split <;> split <;> omega
    · have l1 := log_le h1
      have l2 := log_le h2
      show (decide _ && (decide _ && true)) = true
      rw [decide_eq_true (show x.1.natAbs.log2 < 1920 by omega), decide_eq_true (show x.2.natAbs.log2 < 1920 by omega)]
      rfl
    · rfl
theorem pr_shown {q : Pr} (h1 : ∀ x, q.1 = some x → Short x) (h2 : ∀ x, q.2 = some x → Short x) : (dPr q).showable = true ∧ (dPr q).hasDict = false ∧ (dPr q).depth ≤ 60 ∧ (dPr q).shown.length ≤ sizeLine := by
  obtain ⟨a1, a2, a3, a4, a5⟩ := short_leaves h1
  obtain ⟨b1, b2, b3, b4, b5⟩ := short_leaves h2
  refine ⟨?_, ?_, Nat.le_trans (gd_pr q).2 (by decide), PyData.shown_fits (B := 13) (by decide) (by decide) ?_ ?_⟩
  · simp [dPr, PyData.showable, PyData.showableAll, a3, b3]
  · simp [dPr, PyData.hasDict, PyData.hasDictAll, a4, b4]
  · simp [dPr, PyData.leavesShort, PyData.leavesShortAll, a1, b1]
  · have : (dPr q).weight ≤ 1000 := by
      show PyData.weightAll [dO q.1, dO q.2] ≤ 1000
      simp only [PyData.weightAll]
      omega
    exact Nat.le_trans this (by decide)
theorem prb_short {c : Int} {q : Pr} (h : PrB c q) (hc : 0 ≤ c) (hc2 : c ≤ 1000000) : (∀ x, q.1 = some x → Short x) ∧ ∀ x, q.2 = some x → Short x :=
  ⟨fun x e => fb_big (h.1 x e) (by decide) (by decide) hc hc2, fun x e => fb_big (h.2 x e) (by decide) (by decide) hc hc2⟩
theorem atI_last {l : List V} {v : V} : atI (l ++ [v]) (-1) = some v := by
  have e : ixN (l ++ [v]).length (-1) = some l.length := by
    unfold ixN
    rw [if_neg (by decide), List.length_append, List.length_singleton]
    simp
    omega
  unfold atI
  rw [e]
  exact at_last
end Lc
/-! now is right. -/
namespace Lc
open PySem PySem.Spec PyProof.Rows L2
/-- what stands while the law asks -/
structure NwS (C : Addr) (H G : Hp) (t l p np pp ea d : Addr) (f : Fd) (es : List V) (evs : List Ev) (ps : List Pr) (kv0 : List (Key × V)) (c : Int) : Prop where
  b : Bs H G t l c
  kp : KpAt C G p np pp f evs ps
  e : G ea = some (.tup es)
  pe : Paired (EvAt G) es evs
  d : G d = some (.dK kv0)
  rd : Paired (RtKv G) kv0 f.houses
  nt : np ≠ t ∧ pp ≠ t
section
variable {C : Addr} {H G G' : Hp} {t l p np pp ea d : Addr} {f : Fd} {es : List V} {evs : List Ev} {ps : List Pr} {kv0 : List (Key × V)} {c c' : Int}
theorem NwS.same (x : NwS C H G t l p np pp ea d f es evs ps kv0 c) (s : Same G G') : NwS C H G' t l p np pp ea d f es evs ps kv0 c :=
  ⟨x.b.same s, x.kp.same s, s _ _ x.e, evs_tk x.pe (.of s), s _ _ x.d, pr_mono (fun _ _ z => RtKv.tk z (.of s)) x.rd, x.nt⟩
theorem NwS.mono (x : NwS C H G t l p np pp ea d f es evs ps kv0 c) (h : c ≤ c') : NwS C H G t l p np pp ea d f es evs ps kv0 c' := { x with b := x.b.mono h }
theorem NwS.draw (x : NwS C H G t l p np pp ea d f es evs ps kv0 c) (k : Kp [t] G G') (tk : TK G G') (tp : TpAt G' t l c') : NwS C H G' t l p np pp ea d f es evs ps kv0 c' := by
  obtain ⟨xs, hxs⟩ := x.b.tp.lst
  have ⟨⟨dx, fv, o1, o2⟩, _, _, _⟩ := x.kp
  have n1 : p ≠ t := ne_of o1 hxs fun z => by cases z
  have n2 : d ≠ t := ne_of x.d hxs fun z => by cases z
  exact ⟨x.b.draw k tk tp, x.kp.keep k tk (by simpa using n1) (by simpa using x.nt.1) (by simpa using x.nt.2), tk _ _ x.e, evs_tk x.pe tk, k _ _ x.d (by simpa using n2), pr_mono (fun _ _ z => RtKv.tk z tk) x.rd, x.nt⟩
end
def spNowRight (C : Addr) : Sp := fun vs H Q _ => ∃ (t l p np pp ea d : Addr) (f : Fd) (es : List V) (evs : List Ev) (ps : List Pr) (kv0 : List (Key × V)) (c k : Int), vs = [.ref t, .ref p, .ref ea, .ref d] ∧ NwS C H H t l p np pp ea d f es evs ps kv0 c ∧ c ≤ 10000 ∧
  FOk f ∧ HiOk f evs ∧ (∀ e ∈ evs, Fb 4 200 e.stamp) ∧ 0 < evs.length ∧ evs.length < 39 ∧ ps.length = evs.length ∧ 0 ≤ k ∧ k ≤ 100000 ∧ (∀ j, j < evs.length → PrB k (prOf ps j)) ∧ ∀ H', Kp [t] H H' → TK H H' → Q (.bl true) H'
/-- the stamps at a house so far -/
def LsAt (H : Hp) (evs : List Ev) (n : Str) (i : Nat) (ls : List V) : Prop := match lastK evs n i with
  | none => ls = []
  | some j => ∃ l' v e, ls = l' ++ [v] ∧ evs[j]? = some e ∧ FrAt H v e.stamp
theorem LsAt.tk {H H' : Hp} {evs : List Ev} {n : Str} {i : Nat} {ls : List V} (h : LsAt H evs n i ls) (k : TK H H') : LsAt H' evs n i ls := by
  unfold LsAt at *
  split
  · rename_i q
    rw [q] at h
    exact h
  · rename_i j q
    rw [q] at h
    obtain ⟨l', v, e, h1, h2, h3⟩ := h
    exact ⟨l', v, e, h1, h2, h3.tk k⟩
theorem some_of {α : Type} {o : Option α} (h : ¬ o.isNone = true) : ∃ y, o = some y := by
  cases o with
  | none => exact absurd rfl h
  | some y => exact ⟨y, rfl⟩
theorem if_non {c : Prop} [Decidable c] {tb : TE} {σ : L2.St} {H : Hp} {Q : VK} (Ψ : V → Hp → Prop) (rest : ∀ v H, Ψ v H → Q v H) (h1 : c → Ψ .non H) (h2 : ¬ c → (∀ v H, Ψ v H → Q v H) → tb σ H Q) : if c then tC V.non σ H Q else tb σ H Q := by
  by_cases hc : c
  · rw [if_pos hc]
    exact rest _ _ (h1 hc)
  · rw [if_neg hc]
    exact h2 hc rest
section
variable {P : Program} {w : World} {K : PySem.W.Frag} {mg : Str → Option Value} {base : Heap}
theorem ok_law_now_right (T : Tx K mg) : FnG P w K mg base 7 T.a_law_now_right T.d_law_now_right p_law_now_right (spNowRight T.C) := by
  refine okG T.law_now_right.F sc_law_now_right (fun vs H Q E h => ?_) (fun cdv A outer s H vs Q E hr hA h => ?_)
  · obtain ⟨t, l, p, np, pp, ea, d, f, es, evs, ps, kv0, c, k, rfl, _⟩ := h
    rfl
  · obtain ⟨t, l, p, np, pp, ea, d, f, es, evs, ps, kv0, c, k, rfl, X0, hc, fok, hiok, hst, h0, h39, hpl, k0, k1, hpb, q⟩ := h
    have hr6 : Room 6 _ := hr
    have hr2 : Room 2 _ := hr6.mono (by decide)
    have hr1 : Room 1 _ := hr6.mono (by decide)
    have hu := hu_of hr
    refine ⟨_, PSs.nox ((pss_cons (ps_set (i := 4) sc_law_now_right.nd rfl (Or.inr rfl) (pe_ix ix_tup (pe_ix ix_tup (pv 2) (pe_call (ok_law_draw T) hr1 rfl T.law_draw.m T.law_draw.F.kp T.law_draw.b .nil pass0 (pa_cons (pv 0) (pa_cons (pe_callB call_len_seq (by rfl) T.blen (by decide +kernel) (pa_cons (pv 2) pa_nil)) pa_nil))) (fun _ _ => rfl)) pe_int (fun _ _ => rfl)))
      (pss_cons (ps_set (i := 5) sc_law_now_right.nd rfl (Or.inl rfl) (pe_ix ix_list (pe_lc (own := [("_law_event", 14)]) rfl sc_law_now_right.nd (pi_tup (pv 2)) (blkOk_by (N := n_law_now_right) (sc := (defScope s_law_now_right)) (by decide +kernel)) (fun _ _ _ _ _ => pg_name (i := 14) sc_law_now_right.nd rfl (Or.inl rfl) (Or.inr rfl)) (fun _ _ _ _ _ => (pts_one (pt_cmpR op_eq (pe_ix (ix_tupK K rfl) (pv 14) pe_int (fun _ _ => rfl)) (pv 4) (nomark _)))) (fun _ _ _ _ _ => (pe_ix (ix_tupK K rfl) (pv 14) pe_int (fun _ _ => rfl)))) (pe_un un_neg pe_int) (fun _ _ => rfl)))
      (pss_cons (ps_asg (pe_meth (pv 1) T.cl T.now.me (ok_now T) hr6 T.now.b .nil pass0 (pa_cons (pv 4) (pa_cons (pv 5) pa_nil))) (pg_tup rfl (pgs_cons (pg_name (i := 6) sc_law_now_right.nd rfl (Or.inl rfl)) (pgs_cons (pg_name (i := 7) sc_law_now_right.nd rfl (Or.inl rfl)) pgs_nil))))
      (pss_cons (ps_for PassesOwn.never rfl (pi_range1 rfl T.brange (pa_cons pe_int pa_nil)) (pg_name (i := 8) sc_law_now_right.nd rfl (Or.inl rfl))
        (pss_cons (ps_set (i := 9) sc_law_now_right.nd rfl (Or.inl rfl) (pe_tup (pa_cons (pe_op op_add pe_int (pe_call (ok_law_draw T) hr1 rfl T.law_draw.m T.law_draw.F.kp T.law_draw.b .nil pass0 (pa_cons (pv 0) (pa_cons pe_int pa_nil)))) (pa_cons (pe_op op_add pe_int (pe_call (ok_law_draw T) hr1 rfl T.law_draw.m T.law_draw.F.kp T.law_draw.b .nil pass0 (pa_cons (pv 0) (pa_cons pe_int pa_nil)))) pa_nil))))
        (pss_cons (ps_set (i := 9) sc_law_now_right.nd rfl (Or.inl rfl) (pe_call (ok_law_low T) hr1 rfl T.law_low.m T.law_low.F.kp T.law_low.b .nil pass0 (pa_cons (pe_ix ix_tup (pv 9) pe_int (fun _ _ => rfl)) (pa_cons (pe_ix ix_tup (pv 9) pe_int (fun _ _ => rfl)) pa_nil))))
        (pss_cons (ps_asg (pe_dget hu (pv 3) (pv 4) (fun _ _ => rfl)) (pg_tup rfl (pgs_cons (pg_name (i := 10) sc_law_now_right.nd rfl (Or.inl rfl)) (pgs_cons (pg_name (i := 11) sc_law_now_right.nd rfl (Or.inl rfl)) pgs_nil))))
        (pss_cons (ps_set (i := 12) sc_law_now_right.nd rfl (Or.inl rfl) (pe_meth (pv 1) T.cl T.now.me (ok_now T) hr6 T.now.b .nil pass0 (pa_cons (pv 4) (pa_cons (pe_call (ok_law_plus T) hr2 rfl T.law_plus.m T.law_plus.F.kp T.law_plus.b .nil pass0 (pa_cons (pv 5) (pa_cons (pv 9) pa_nil))) pa_nil))))
        (pss_cons (ps_set (i := 13) sc_law_now_right.nd rfl (Or.inl rfl) (pe_lst (pa_cons (pe_ifExp (pt_cmpR op_isN (pv 6) pe_non (nomark _)) pe_non (pe_call (ok_law_plus T) hr2 rfl T.law_plus.m T.law_plus.F.kp T.law_plus.b .nil pass0 (pa_cons (pv 6) (pa_cons (pe_call (ok_law_over T) hr2 rfl T.law_over.m T.law_over.F.kp T.law_over.b .nil pass0 (pa_cons (pv 9) (pa_cons (pv 11) pa_nil))) pa_nil)))) pa_nil)))
        (pss_cons (ps_expr (pe_bm PySem.F.plainAttrs_list PySem.F.slot_list_append PySem.F.type_list_append mt_append (pv 13) (pa_cons (pe_ifExp (pt_cmpR op_isN (pv 7) pe_non (nomark _)) pe_non (pe_call (ok_law_plus T) hr2 rfl T.law_plus.m T.law_plus.F.kp T.law_plus.b .nil pass0 (pa_cons (pv 7) (pa_cons (pe_call (ok_law_over T) hr2 rfl T.law_over.m T.law_over.F.kp T.law_over.b .nil pass0 (pa_cons (pv 9) (pa_cons (pv 10) pa_nil))) pa_nil)))) pa_nil)))
        (pss_one (ps_if (pt_cmpR op_ne (pe_callB (call_repr hA hr) (by rfl) T.brepr (by decide +kernel) (pa_cons (pv 12) pa_nil)) (pe_callB (call_repr hA hr) (by rfl) T.brepr (by decide +kernel) (pa_cons (pe_callTy call_tuple_of (by rfl) T.btuple (by decide +kernel) (pa_cons (pv 13) pa_nil)) pa_nil)) (nomark _))
          (pss_one (ps_ret pe_bl))
          pss_nil)))))))))
      (pss_one (ps_ret pe_bl))))))), ?_⟩
    have esl := pr_len X0.pe
    -- the house
    refine ⟨_, rfl, _, rfl, _, rfl, _, _, rfl, .inr (SqT.of X0.e), t, l, _, _, rfl, X0.b.tp, by omega, by omega, by omega, fun x H1 x0 x1 k1' tk1 tp1 => ?_⟩
    have X1 := X0.draw k1' tk1 tp1
    rw [esl] at x1
    obtain ⟨xe, ev, axe, ⟨pe, sv, dv, rfl, v0, v1, v2⟩, mev, _⟩ := pickP X1.pe x0 x1
    refine ⟨_, _, _, _, rfl, rfl, SqT.of X1.e, axe, _, _, _, _, rfl, rfl, SqT.of v0, rfl, ?_⟩
    obtain ⟨j, ej, hj, hej, hnj⟩ := last_ex mev
    have hnn : ev.house ∈ f.names := by
      obtain ⟨i, hil, ei⟩ := List.getElem_of_mem mev
      exact (hiok i ev (by rw [List.getElem?_eq_getElem hil, ei])).hs
    generalize ev.house = n at *
    clear v0 v1 v2 axe
    have hjl : j < evs.length := (lastK_some hj).1
    have mej : ej ∈ evs := List.mem_of_getElem? hej
    have bst := hst _ mej
    have hmax := last_max hiok (hnj ▸ hj) hej
    rw [hnj] at hmax
    -- the last stamp there
    refine ⟨_, rfl, ea, rfl, ⟨_, SqT.of X1.e⟩, fun D hD => ?_⟩
    refine lc_tup (K := K) (a := ea) (xs := es) (fun i H2 => Same H1 H2 ∧ ∃ ls, H2 D = some (.lst ls) ∧ ls.length ≤ i ∧ LsAt H2 evs n i ls) ⟨same_new hD, [], upd_same, Nat.le_refl _, rfl⟩ (fun i H2 _ ⟨s2, _⟩ => SqT.of (s2 _ _ X1.e)) ?_ ?_
    · rintro i y H2 hi ⟨s2, ls, g, ll, la⟩
      obtain ⟨e, he, px, a, b, rfl, r0, r1, r2⟩ := pr_get X1.pe hi
      have hil := (List.getElem?_eq_some_iff.mp hi).1
      refine ⟨rfl, _, rfl, _, _, _, _, rfl, rfl, SqT.of (s2 _ _ r0), rfl, _, rfl, rfl, _, rfl, ite2 (fun hc => ?_) (fun hc => ?_)⟩
      · have heq : e.house = n := V.str.inj (of_decide_eq_true hc)
        have tkD := TK.lst (o := .lst (ls ++ [a])) g
        refine ⟨_, rfl, _, _, _, _, rfl, rfl, SqT.of (s2 _ _ r0), rfl, _, g, small1000 (by omega), fun c o ee => ?_, _, upd_same, ?_, ?_⟩
        · rw [upd_ne (ne_of_none ee hD)]
          exact s2 _ _ ee
        · rw [List.length_append]
          exact Nat.succ_le_succ ll
        · unfold LsAt
          rw [lastK_hit he heq]
          exact ⟨ls, a, e, rfl, he, r1.tk ((TK.of s2).trans tkD)⟩
      · have hne : e.house ≠ n := fun z => hc (decide_eq_true (congrArg V.str z))
        refine ⟨s2, ls, g, by omega, ?_⟩
        unfold LsAt at *
        rw [lastK_miss he hne]
        exact la
    rintro H2 ⟨s2, ls, g2, ll, la⟩
    unfold LsAt at la
    rw [esl, hj] at la
    obtain ⟨l', lv, ej', rfl, hej', fl⟩ := la
    rw [hej] at hej'
    cases hej'
    have X2 := X1.same s2
    refine ⟨_, rfl, _, _, _, _, rfl, rfl, SqL.of g2, atI_last, ?_⟩
    clear ll g2 X1 s2 hD k1' tk1 tp1
    -- now
    have ⟨⟨dx, fv, o1, o2⟩, _, _, _⟩ := X2.kp
    have kst : ∀ e' ∈ evs, Fb 4 300 e'.stamp := fun e' he' => (hst e' he').mono (by decide)
    have eok : ∀ x : Fr, Fb 4 300 x → ltF x ej.stamp = false → EvOk f evs ⟨n, x, .mark⟩ := fun x bx hx => ⟨hnn, bx, trivial, fun e' he' eh' => le_trans2 (hst e' he').1 bst.1 bx.1 (hmax e' he' eh') hx⟩
    refine ⟨_, rfl, p, dx, _, rfl, o1, rfl, _, rfl, _, rfl, p, np, pp, f, evs, ps, n, ej.stamp, lv, k, rfl, X2.kp, fok, fl, eok _ (bst.mono (by decide)) (lt_self _), kst, hpl, k0, hpb, h39, fun z H3 s3 pz => ?_⟩
    obtain ⟨zp, za, zb, rfl, z0, z1, z2⟩ := pz
    refine ⟨_, _, rfl, SqT.of z0, rfl, _, _, rfl, _, _, rfl, rfl, ?_⟩
    have X3 := X2.same s3
    have fl3 := fl.tk (.of s3)
    have pb0 : PrB (k + 1200) (pairF f evs ⟨n, ej.stamp, .mark⟩ ps) := by
      have := pairF_b (f := f) (es := evs) (e := ⟨n, ej.stamp, .mark⟩) (k := evs.length) (c := k) (ps := ps) k0 fok (Nat.le_refl _) (fun i e' _ hi => kst e' (List.mem_of_getElem? hi)) (by rw [List.take_length]; exact eok _ (bst.mono (by decide)) (lt_self _)) hpb
      rw [List.take_length] at this
      exact this
    have drift : ∀ a b : Int, 0 < b → pairF f evs ⟨n, addF ej.stamp (rat a b), .mark⟩ ps =
      (movedF (pairF f evs ⟨n, ej.stamp, .mark⟩ ps).1 (some (divF (rat a b) (hsOf f n).fast)), movedF (pairF f evs ⟨n, ej.stamp, .mark⟩ ps).2 (some (divF (rat a b) (hsOf f n).slow))) :=
      fun a b hb => now_drift fok hnn hj hej bst.1 hb (hpb j hjl)
    generalize pairF f evs ⟨n, ej.stamp, .mark⟩ ps = q0 at *
    obtain ⟨hm, hnm⟩ := hsOf_at hnn
    obtain ⟨r1, r2⟩ := fok.rt _ hm
    generalize hsOf f n = hh at *
    have mq : ∀ {H' : Hp}, Kp [t] H H' → TK H H' → Q (.bl true) H' := fun a b => q _ a b
    -- three times
    refine ⟨_, rfl, by decide, by decide, ?_⟩
    refine for_range (lo := 0) (fun i σ G => ∃ (b8 b9 b10 b11 b12 b13 : Option V), σ = [some (.ref t), some (.ref p), some (.ref ea), some (.ref d), some (.str n), some lv, some za, some zb, b8, b9, b10, b11, b12, b13, none] ∧ NwS T.C H G t l p np pp ea d f es evs ps kv0 (c + 1 + 2 * (i : Nat)) ∧ FrAt G lv ej.stamp ∧ OFrAt G za q0.1 ∧ OFrAt G zb q0.2)
      ⟨none, none, none, none, none, none, rfl, X3.mono (by omega), fl3, z1, z2⟩ ?_ ?_
    · rintro i σ G hi ⟨b8, b9, b10, b11, b12, b13, rfl, Y0, gl, ga, gb⟩
      have hi3 : i < 3 := hi
      -- went
      refine ⟨_, rfl, t, l, 9, _, rfl, Y0.b.tp, by decide, by decide, by omega, fun a G1 a0 a9 kA tkA tpA => ⟨_, _, rfl, rfl, ?_⟩⟩
      have Y1 := Y0.draw kA tkA tpA
      refine ⟨_, rfl, t, l, 2, _, rfl, Y1.b.tp, by decide, by decide, by omega, fun b G2 b0 b2 kB tkB tpB => ⟨_, _, rfl, rfl, by show 2 ≤ sizeLine; decide, fun wp hwp => ?_⟩⟩
      have Y2 := Y1.draw kB tkB tpB
      have sw := same_new (o := .tup [V.int (1 + a), V.int (1 + b)]) hwp
      refine ⟨_, rfl, _, _, _, _, rfl, rfl, SqT.of upd_same, rfl, _, rfl, _, _, _, _, rfl, rfl, SqT.of upd_same, rfl, _, _, rfl, by omega, by omega, fun w G3 s3' fw => ?_⟩
      have Y3 := (Y2.same sw).same s3'
      have tk3 : TK G G3 := ((tkA.trans tkB).trans (.of sw)).trans (.of s3')
      have gl3 := gl.tk tk3
      have ga3 := ga.tk tk3
      have gb3 := gb.tk tk3
      have bw : Fb 4 10 (rat (1 + a) (1 + b)) := by
        have hb : 1 + b = 1 ∨ 1 + b = 2 := by omega
        refine fb_rat (by omega) ?_ (by omega) (by omega)
        rcases hb with h | h
        · rw [h]
          decide
        · rw [h]
          decide
      have w0 : 0 ≤ (rat (1 + a) (1 + b)).1 := by
        have v := rat_val (a := 1 + a) (b := 1 + b) (by omega)
        have pz := rat_pos (a := 1 + a) (b := 1 + b) (by omega)
        by_cases c : 0 ≤ (rat (1 + a) (1 + b)).1
        · exact c
        · have n1 : (rat (1 + a) (1 + b)).1 * (1 + b) < 0 := Int.mul_neg_of_neg_of_pos (by omega) (by omega)
          have n2 : 0 ≤ (1 + a) * (rat (1 + a) (1 + b)).2 := Int.mul_nonneg (by omega) (by omega)
          omega
      have dr := drift (1 + a) (1 + b) (by omega)
      generalize rat (1 + a) (1 + b) = wt at *
      have smw : Sm wt := bw.sm (by decide) (by decide)
      clear kA tkA tpA kB tkB tpB Y1 Y2 Y0 sw s3' hwp gl ga gb
      -- slow, fast
      obtain ⟨rq, ra, rb, u0, u1, u2, u3⟩ := rtkv_get Y3.rd fok.nd _ hm
      rw [hnm] at u0
      refine ⟨_, rfl, _, rfl, _, _, rfl, dget_of Y3.d u0, _, _, rfl, SqT.of u1, rfl, _, _, rfl, _, _, rfl, rfl, ?_⟩
      -- told
      have ⟨⟨dx3, fv3, o13, o23⟩, _, _, _⟩ := Y3.kp
      refine ⟨_, rfl, p, dx3, _, rfl, o13, rfl, _, rfl, _, rfl, _, rfl, _, _, ej.stamp, wt, rfl, gl3, fw, ⟨bst.sm (by decide) (by decide), smw⟩, fun z4 G4 s4 f4 => ?_⟩
      have Y4 := Y3.same s4
      refine ⟨p, np, pp, f, evs, ps, n, _, z4, k, rfl, Y4.kp, fok, f4, eok _ ((fb_add (by decide) bst bw).mono (by decide)) (lt_add bst.1 bw.1 w0), kst, hpl, k0, hpb, h39, fun z5 G5 s5 p5 => ?_⟩
      rw [dr] at p5
      have Y5 := Y4.same s5
      have s35 := s4.trans s5
      have fw5 := fw.tk (.of s35)
      have ra5 := u2.tk (.of s35)
      have rb5 := u3.tk (.of s35)
      have ga5 := ga3.tk (.of s35)
      have gb5 := gb3.tk (.of s35)
      have gl5 := gl3.tk (.of s35)
      have bdf := fb_div (by decide) bw r2
      have bds := fb_div (by decide) bw r1
      have mb1 : ∀ x, movedF q0.1 (some (divF wt hh.fast)) = some x → Fb 120 (k + 1200 + 20) x := moved_fb pb0.1 fun y e => by rw [← Option.some.inj e]; exact bdf
      have mb2 : ∀ x, movedF q0.2 (some (divF wt hh.slow)) = some x → Fb 120 (k + 1200 + 20) x := moved_fb pb0.2 fun y e => by rw [← Option.some.inj e]; exact bds
      have shw := pr_shown (q := (movedF q0.1 (some (divF wt hh.fast)), movedF q0.2 (some (divF wt hh.slow)))) (fun x e => fb_big (mb1 x e) (by decide) (by decide) (by omega) (by omega)) (fun x e => fb_big (mb2 x e) (by decide) (by decide) (by omega) (by omega))
      clear Y4 Y3 s4 f4 s5 gl3 fw u1 u2 u3 ga3 gb3 s35 tk3
      obtain ⟨h1, h2, h3, h4⟩ := shw
      obtain ⟨zq, qa, qb, rfl, p50, p51, p52⟩ := p5
      -- due
      refine ⟨_, rfl, rfl, _, rfl, ?_⟩
      rw [ofr_none ga5]
      refine if_non (Ψ := fun v G => Same G5 G ∧ OFrAt G v (movedF q0.1 (some (divF wt hh.fast)))) ?_ ?_ ?_
      · rintro v G6 ⟨s6, f6⟩
        refine ⟨by show 1 ≤ sizeLine; decide, fun D2 hD2 => ?_⟩
        have sD := same_new (o := .lst [v]) hD2
        refine ⟨_, rfl, .inl ⟨rfl, _, SqL.of upd_same⟩, _, rfl, rfl, _, rfl, ?_⟩
        rw [ofr_none gb5]
        refine if_non (Ψ := fun v2 G => Same (upd G6 D2 (.lst [v])) G ∧ OFrAt G v2 (movedF q0.2 (some (divF wt hh.slow)))) ?_ ?_ ?_
        · rintro v2 G7 ⟨s7, f7⟩
          have gD7 := s7 _ _ upd_same
          refine ⟨_, _, _, rfl, rfl, gD7, by show 1 < sizeLine; decide, ?_⟩
          have tk7 := TK.lst (o := .lst [v, v2]) gD7
          have sAll : Same G6 (upd G7 D2 (.lst [v, v2])) := fun b o e => by
            rw [upd_ne (ne_of_none e hD2)]
            exact s7 _ _ (sD _ _ e)
          refine habs (Ψ := fun G => Same G5 G ∧ G D2 = some (.lst [v, v2]) ∧ OFrAt G v (movedF q0.1 (some (divF wt hh.fast))) ∧ OFrAt G v2 (movedF q0.2 (some (divF wt hh.slow)))) ⟨s6.trans sAll, upd_same, f6.tk (.of sAll), f7.tk tk7⟩ ?_
          rintro G8 ⟨s8, g8, f8, f82⟩
          refine ⟨_, rfl, zq, _, rfl, (show PrAt G8 (.ref zq) (movedF q0.1 (some (divF wt hh.fast)), movedF q0.2 (some (divF wt hh.slow))) from ⟨zq, qa, qb, rfl, s8 _ _ p50, p51.tk (.of s8), p52.tk (.of s8)⟩).dp, h1, h2, h3, h4, ?_⟩
          refine ⟨_, rfl, _, _, rfl, .inl ⟨SqL.of g8, fun tt htt => ?_⟩⟩
          have st := same_new (o := .tup [v, v2]) htt
          refine ⟨tt, _, rfl, (show PrAt (upd G8 tt (.tup [v, v2])) (.ref tt) (movedF q0.1 (some (divF wt hh.fast)), movedF q0.2 (some (divF wt hh.slow))) from ⟨tt, v, v2, rfl, upd_same, f8.tk (.of st), f82.tk (.of st)⟩).dp, h1, h2, h3, h4, ?_⟩
          refine ⟨rfl, _, rfl, itN (by simp) ?_⟩
          have s9 := s8.trans st
          exact ⟨_, _, _, _, _, _, rfl, (Y5.same s9).mono (by omega), gl5.tk (.of s9), ga5.tk (.of s9), gb5.tk (.of s9)⟩
        · intro hn
          refine ⟨Same.refl _, ?_⟩
          cases hq : q0.2 with
          | none => exact rfl
          | some y =>
            rw [hq] at hn
            cases hn
        · intro hn rest
          obtain ⟨y, hq⟩ := some_of hn
          have s65 := s6.trans sD
          have fy := gb5.tk (.of s65)
          rw [hq] at fy
          have smy : Sm y := (pb0.2 y hq).sm (by decide) (by decide)
          refine ⟨_, rfl, _, rfl, _, rfl, _, _, wt, hh.slow, rfl, fw5.tk (.of s65), ra5.tk (.of s65), ⟨smw, r1.sm⟩, fun z G7 s7 f7 => ?_⟩
          refine ⟨_, _, y, _, rfl, fy.tk (.of s7), f7, ⟨smy, bds.sm (by decide) (by decide)⟩, fun z2 G8 s8 f8 => rest z2 G8 ⟨s7.trans s8, ?_⟩⟩
          rw [hq]
          exact f8
      · intro hn
        refine ⟨Same.refl _, ?_⟩
        cases hq : q0.1 with
        | none => exact rfl
        | some y =>
          rw [hq] at hn
          cases hn
      · intro hn rest
        obtain ⟨y, hq⟩ := some_of hn
        have fy := ga5
        rw [hq] at fy
        have smy : Sm y := (pb0.1 y hq).sm (by decide) (by decide)
        refine ⟨_, rfl, _, rfl, _, rfl, _, _, wt, hh.fast, rfl, fw5, rb5, ⟨smw, r2.sm⟩, fun z G7 s7 f7 => ?_⟩
        refine ⟨_, _, y, _, rfl, fy.tk (.of s7), f7, ⟨smy, bdf.sm (by decide) (by decide)⟩, fun z2 G8 s8 f8 => rest z2 G8 ⟨s7.trans s8, ?_⟩⟩
        rw [hq]
        exact f8
    · rintro σ G ⟨b8, b9, b10, b11, b12, b13, rfl, Y0, gl, ga, gb⟩
      exact mq Y0.b.k Y0.b.tk
end
end Lc
/-! The law's own def. -/
namespace Lc
open PySem PySem.Spec PyProof.Rows L2
/-- the scope of the comprehension over the rows of a field -/
abbrev lawRowScope : Scope := { kind := .function, names := [(".0", .local), ("_law_row", .cell), ("str", .globalImplicit), ("len", .globalImplicit), ("_law_events", .cell)], isGenerator := false, isCoroutine := false }
section
variable {X : Cx}
theorem op_neDK (K : PySem.W.Frag) (h : X.K = K) (hu : X.A.units + 64 < cLine) : OpR X (compareOp .NotEq) (rNeD K) := h ▸ op_neD hu
end
def spLaw (C : Addr) (K : PySem.W.Frag) : Sp := fun vs H Q _ => ∃ (a : Addr) (ns : List Int), vs = [.ref a] ∧ SqL K H a (ns.map V.int) ∧ ns.length ≤ 63 ∧ ∀ H', Q (.bl true) H'
theorem eqvAll_len : ∀ {xs ys : List PyData}, xs.length ≠ ys.length → PyData.eqvAll xs ys = false
  | [], [], h => absurd rfl h
  | [], _ :: _, _ => by simp [PyData.eqvAll]
  | _ :: _, [], _ => by simp [PyData.eqvAll]
  | x :: xs, y :: ys, h => by
    rw [PyData.eqvAll, eqvAll_len (xs := xs) (ys := ys) fun e => h (by rw [List.length_cons, List.length_cons, e])]
    simp
theorem eqv_tup (a b : List PyData) : PyData.eqv (.tuple a) (.tuple b) = PyData.eqvAll a b := by simp [PyData.eqv]
/-- the third keeper's field -/
def cutF (f : Fd) : Fd := { f with links := f.links.dropLast }
theorem cut_ok {f : Fd} (h : FOk f) : FOk (cutF f) :=
  ⟨h.nd, h.inp, h.rt, h.src, h.has, fun l hl => h.lk l (List.mem_of_mem_take (by rw [show (cutF f).links = f.links.dropLast from rfl, List.dropLast_eq_take] at hl; exact hl)), h.few, by
    show f.links.dropLast.length ≤ 8
    rw [List.length_dropLast]
    have := h.fewL
    omega⟩
theorem eqv_other {f g : Fd} {a b : List Ev} (h : a.length ≠ b.length) : PyData.eqv (dHy f a) (dHy g b) = false := by
  have e : PyData.eqvAll (a.map dEv) (b.map dEv) = false := eqvAll_len (by rw [List.length_map, List.length_map]; exact h)
  simp [dHy, dEvs, eqv_tup, PyData.eqvAll, e]
theorem eqv_cut {f : Fd} (h : FOk f) : PyData.eqv (dHy f []) (dHy (cutF f) []) = PyData.eqv (.tuple (f.links.map dLk)) (.tuple []) ∧ PyData.eqv (dHy (cutF f) []) (dHy f []) = PyData.eqv (.tuple (f.links.map dLk)) (.tuple []) := by
  by_cases hl : f.links = []
  · have e : cutF f = f := by
      unfold cutF
      rw [hl]
      cases f
      simp at hl
      subst hl
      rfl
    have r := (h.gdHy (l := []) (fun e he => by cases he)).refl
    rw [e, r, hl]
    simp [eqv_tup, PyData.eqvAll]
  · have hp : 0 < f.links.length := List.length_pos_iff.mpr hl
    have e1 : PyData.eqvAll (f.links.map dLk) [] = false := eqvAll_len (by rw [List.length_map, List.length_nil]; omega)
    have e2 : PyData.eqvAll (f.links.map dLk) (f.links.dropLast.map dLk) = false := eqvAll_len (by rw [List.length_map, List.length_map, List.length_dropLast]; omega)
    have e3 : PyData.eqvAll (f.links.dropLast.map dLk) (f.links.map dLk) = false := eqvAll_len (by rw [List.length_map, List.length_map, List.length_dropLast]; omega)
    constructor
    · rw [eqv_tup, e1]
      have z : PyData.eqv (dFd f) (dFd (cutF f)) = false := by
        show PyData.eqv (.tuple _) (.tuple _) = false
        rw [eqv_tup, PyData.eqvAll, PyData.eqvAll, eqv_tup (f.links.map dLk), show (cutF f).links = f.links.dropLast from rfl, e2]
        simp
      show PyData.eqv (.tuple _) (.tuple _) = false
      rw [eqv_tup, PyData.eqvAll, z]
      rfl
    · rw [eqv_tup, e1]
      have z : PyData.eqv (dFd (cutF f)) (dFd f) = false := by
        show PyData.eqv (.tuple _) (.tuple _) = false
        rw [eqv_tup, PyData.eqvAll, PyData.eqvAll, eqv_tup _ (f.links.map dLk), show (cutF f).links = f.links.dropLast from rfl, e3]
        simp
      show PyData.eqv (.tuple _) (.tuple _) = false
      rw [eqv_tup, PyData.eqvAll, z]
      rfl
theorem dl_cut (n : Nat) : HT.sIx n n (some (-1 : Int)) = n - 1 := by
  show (if (-1 : Int) < 0 then ((-1 : Int) + (n : Int)).toNat else min (-1 : Int).toNat n) = n - 1
  rw [if_pos (by decide)]
  omega
theorem gd_links {f : Fd} (h : FOk f) : Gd 3 (.tuple (f.links.map dLk)) :=
  gd_map fun a ha => gd_lk (pool_ok (h.inp _ (h.lk a ha).1)) (pool_ok (h.inp _ (h.lk a ha).2.1))
theorem own_two {C : Addr} {K : PySem.W.Frag} {G : Hp} {x n p x2 n2 p2 : Addr} {f f2 : Fd} {e e2 : List Ev} {q q2 : List Pr} (k1 : KpAt C G x n p f e q) (g1 : Gd 5 (dHy f e)) (k2 : KpAt C G x2 n2 p2 f2 e2 q2) (g2 : Gd 5 (dHy f2 e2)) {Q : VK}
    (h : ∀ H', Same G H' → Q (.bl (PyData.eqv (dHy f e) (dHy f2 e2))) H') : rEqOwn K C (spEq C K) (.ref x) (.ref x2) G Q := by
  have ⟨⟨dx, _, o1, _⟩, _, _, _⟩ := k1
  have ⟨⟨dx2, _, o2, _⟩, _, _, _⟩ := k2
  exact ⟨x, dx, _, rfl, o1, .inl ⟨x2, dx2, _, rfl, o2⟩, x, n, p, f, e, q, .ref x2, rfl, k1, g1, .inl ⟨x2, n2, p2, f2, e2, q2, rfl, k2, g2, fun H' s' => ⟨_, rfl, h H' s'⟩⟩⟩
theorem ne_two {C : Addr} {K : PySem.W.Frag} {G : Hp} {x n p x2 n2 p2 : Addr} {f f2 : Fd} {e e2 : List Ev} {q q2 : List Pr} (k1 : KpAt C G x n p f e q) (g1 : Gd 5 (dHy f e)) (k2 : KpAt C G x2 n2 p2 f2 e2 q2) (g2 : Gd 5 (dHy f2 e2)) {Q : VK}
    (h : ∀ H', Same G H' → Q (.bl (!PyData.eqv (dHy f e) (dHy f2 e2))) H') : rNeOwn K C (spEq C K) (.ref x) (.ref x2) G Q := by
  have ⟨⟨dx, _, o1, _⟩, _, _, _⟩ := k1
  have ⟨⟨dx2, _, o2, _⟩, _, _, _⟩ := k2
  exact ⟨x, dx, _, rfl, o1, .inl ⟨x2, dx2, _, rfl, o2⟩, x, n, p, f, e, q, .ref x2, rfl, k1, g1, .inl ⟨x2, n2, p2, f2, e2, q2, rfl, k2, g2, fun H' s' => ⟨_, rfl, h H' s'⟩⟩⟩
theorem own_thing {C : Addr} {K : PySem.W.Frag} {G : Hp} {x n p : Addr} {f : Fd} {e : List Ev} {q : List Pr} {y : V} {ty : String} (k1 : KpAt C G x n p f e q) (g1 : Gd 5 (dHy f e)) (hm : ty ∈ (["NoneType", "int", "bool", "list", "tuple", "str"] : List String)) (hy : TyOf K G y (.type ty))
    (hs : PySem.W.subIn K (.type ty) (.ref C) = some false) {Q : VK} (h : Q (.bl false) G) : rEqOwn K C (spEq C K) (.ref x) y G Q := by
  have ⟨⟨dx, _, o1, _⟩, _, _, _⟩ := k1
  exact ⟨x, dx, _, rfl, o1, .inr ⟨ty, hy, hs⟩, x, n, p, f, e, q, y, rfl, k1, g1, .inr ⟨ty, hm, .base hy, ⟨_, rfl, h⟩⟩⟩
theorem ne_thing {C : Addr} {K : PySem.W.Frag} {G : Hp} {x n p : Addr} {f : Fd} {e : List Ev} {q : List Pr} {y : V} {ty : String} (k1 : KpAt C G x n p f e q) (g1 : Gd 5 (dHy f e)) (hm : ty ∈ (["NoneType", "int", "bool", "list", "tuple", "str"] : List String)) (hy : TyOf K G y (.type ty))
    (hs : PySem.W.subIn K (.type ty) (.ref C) = some false) {Q : VK} (h : Q (.bl true) G) : rNeOwn K C (spEq C K) (.ref x) y G Q := by
  have ⟨⟨dx, _, o1, _⟩, _, _, _⟩ := k1
  exact ⟨x, dx, _, rfl, o1, .inr ⟨ty, hy, hs⟩, x, n, p, f, e, q, y, rfl, k1, g1, .inr ⟨ty, hm, .base hy, ⟨_, rfl, h⟩⟩⟩
theorem pr_dl {α β : Type} {R : α → β → Prop} {xs : List α} {ys : List β} (h : Paired R xs ys) : Paired R xs.dropLast ys.dropLast := by
  rw [List.dropLast_eq_take, List.dropLast_eq_take, pr_len h]
  exact pr_take _ h
theorem sl_via {K : PySem.W.Frag} {x : V} {lo hi : Option Int} {H : Hp} {Q : VK} (Ψ : V → Hp → Prop) (rest : ∀ v H, Ψ v H → Q v H) (h : (∀ v H, Ψ v H → Q v H) → rSlA K x lo hi H Q) : rSlA K x lo hi H Q := h rest
/-- what stands in the law's heap -/
structure LwS (C : Addr) (G : Hp) (t l : Addr) (fv : V) (f : Fd) (yp : Addr) (yfv : V) (ea : Addr) (es : List V) (evs : List Ev) (hd : Addr) (kv0 : List (Key × V)) (x1 n1 p1 x2 n2 p2 : Addr) (e1 : List Ev) (q1 : List Pr) (e2 : List Ev) (q2 : List Pr) : Prop where
  tp : TpAt G t l 1000
  fd : FdAt G fv f
  y0 : G yp = some (.tup [yfv, .ref ea])
  y1 : FdAt G yfv f
  y2 : G ea = some (.tup es)
  y3 : Paired (EvAt G) es evs
  d : G hd = some (.dK kv0)
  rd : Paired (RtKv G) kv0 f.houses
  k1 : KpAt C G x1 n1 p1 f e1 q1
  k2 : KpAt C G x2 n2 p2 f e2 q2
  df : n1 ≠ n2 ∧ n1 ≠ p2 ∧ p1 ≠ n2 ∧ p1 ≠ p2
  dt : (n1 ≠ t ∧ p1 ≠ t ∧ n1 ≠ l ∧ p1 ≠ l) ∧ n2 ≠ t ∧ p2 ≠ t ∧ n2 ≠ l ∧ p2 ≠ l
section
variable {C : Addr} {G G' : Hp} {t l : Addr} {fv : V} {f : Fd} {yp : Addr} {yfv : V} {ea : Addr} {es : List V} {evs : List Ev} {hd : Addr} {kv0 : List (Key × V)} {x1 n1 p1 x2 n2 p2 : Addr} {e1 : List Ev} {q1 : List Pr} {e2 : List Ev} {q2 : List Pr}
theorem LwS.same (x : LwS C G t l fv f yp yfv ea es evs hd kv0 x1 n1 p1 x2 n2 p2 e1 q1 e2 q2) (s : Same G G') : LwS C G' t l fv f yp yfv ea es evs hd kv0 x1 n1 p1 x2 n2 p2 e1 q1 e2 q2 :=
  ⟨x.tp.same s, x.fd.tk (.of s), s _ _ x.y0, x.y1.tk (.of s), s _ _ x.y2, evs_tk x.y3 (.of s), s _ _ x.d, pr_mono (fun _ _ z => RtKv.tk z (.of s)) x.rd, x.k1.same s, x.k2.same s, x.df, x.dt⟩
theorem LwS.hy (x : LwS C G t l fv f yp yfv ea es evs hd kv0 x1 n1 p1 x2 n2 p2 e1 q1 e2 q2) : HyAt G (.ref yp) f evs := ⟨yp, yfv, ea, es, rfl, x.y0, x.y1, x.y2, x.y3⟩
theorem not_in2 {a b c : Addr} (h1 : a ≠ b) (h2 : a ≠ c) : a ∉ [b, c] := by simp [h1, h2]
theorem LwS.note1 (x : LwS C G t l fv f yp yfv ea es evs hd kv0 x1 n1 p1 x2 n2 p2 e1 q1 e2 q2) {e1' : List Ev} {q1' : List Pr} (k : Kp [n1, p1] G G') (h : KpAt C G' x1 n1 p1 f e1' q1') : LwS C G' t l fv f yp yfv ea es evs hd kv0 x1 n1 p1 x2 n2 p2 e1' q1' e2 q2 := by
  have tk := x.k1.tk k
  have ⟨⟨_, _, o1, _⟩, ⟨_, a1, _⟩, ⟨_, b1, _⟩, _⟩ := x.k1
  have ⟨⟨_, _, o2, _⟩, _, _, _⟩ := x.k2
  refine ⟨x.tp.keep k (not_in2 (Ne.symm x.dt.1.1) (Ne.symm x.dt.1.2.1)) (not_in2 (Ne.symm x.dt.1.2.2.1) (Ne.symm x.dt.1.2.2.2)), x.fd.tk tk, tk _ _ x.y0, x.y1.tk tk, tk _ _ x.y2, evs_tk x.y3 tk, k _ _ x.d (not_in2 (ne_of x.d a1 fun z => by cases z) (ne_of x.d b1 fun z => by cases z)),
    pr_mono (fun _ _ z => RtKv.tk z tk) x.rd, h, x.k2.keep k tk (not_in2 (ne_of o2 a1 fun z => by cases z) (ne_of o2 b1 fun z => by cases z)) (not_in2 (Ne.symm x.df.1) (Ne.symm x.df.2.2.1)) (not_in2 (Ne.symm x.df.2.1) (Ne.symm x.df.2.2.2)), x.df, x.dt⟩
theorem LwS.upd {lt : Addr} {xs ys : List V} (x : LwS C G t l fv f yp yfv ea es evs hd kv0 x1 n1 p1 x2 n2 p2 e1 q1 e2 q2) (h : G lt = some (.lst xs)) (d1 : lt ≠ t ∧ lt ≠ l) (d2 : (lt ≠ n1 ∧ lt ≠ p1) ∧ lt ≠ n2 ∧ lt ≠ p2) : LwS C (L2.upd G lt (.lst ys)) t l fv f yp yfv ea es evs hd kv0 x1 n1 p1 x2 n2 p2 e1 q1 e2 q2 := by
  have tk : TK G (L2.upd G lt (.lst ys)) := TK.lst h
  have k : Kp [lt] G (L2.upd G lt (.lst ys)) := Kp.upd (List.mem_singleton.mpr rfl)
  have ⟨⟨_, _, o1, _⟩, _, _, _⟩ := x.k1
  have ⟨⟨_, _, o2, _⟩, _, _, _⟩ := x.k2
  have n1' : ∀ {b : Addr}, lt ≠ b → b ∉ [lt] := fun hb => by simpa using Ne.symm hb
  exact ⟨x.tp.keep k (n1' d1.1) (n1' d1.2), x.fd.tk tk, tk _ _ x.y0, x.y1.tk tk, tk _ _ x.y2, evs_tk x.y3 tk, k _ _ x.d (n1' (ne_of h x.d fun z => by cases z)), pr_mono (fun _ _ z => RtKv.tk z tk) x.rd,
    x.k1.keep k tk (n1' (ne_of h o1 fun z => by cases z)) (n1' d2.1.1) (n1' d2.1.2), x.k2.keep k tk (n1' (ne_of h o2 fun z => by cases z)) (n1' d2.2.1) (n1' d2.2.2), x.df, x.dt⟩
theorem LwS.swap (x : LwS C G t l fv f yp yfv ea es evs hd kv0 x1 n1 p1 x2 n2 p2 e1 q1 e2 q2) : LwS C G t l fv f yp yfv ea es evs hd kv0 x2 n2 p2 x1 n1 p1 e2 q2 e1 q1 :=
  ⟨x.tp, x.fd, x.y0, x.y1, x.y2, x.y3, x.d, x.rd, x.k2, x.k1, ⟨Ne.symm x.df.1, Ne.symm x.df.2.2.1, Ne.symm x.df.2.1, Ne.symm x.df.2.2.2⟩, x.dt.2, x.dt.1⟩
end
def LwA (C : Addr) (t l : Addr) (fv : V) (f : Fd) (yp : Addr) (yfv : V) (ea : Addr) (es : List V) (evs : List Ev) (hd : Addr) (kv0 : List (Key × V)) (x1 n1 p1 x2 n2 p2 a x3 lt : Addr) (lv : V) (i : Nat) (σ : L2.St) (G : Hp) : Prop := ∃ (b11 : Option V) (ts : List V),
  σ = [some (.ref a), some (.ref t), some fv, some (.ref yp), some lv, some (.ref hd), some (.ref ea), some (.ref x1), some (.ref x2), some (.ref x3), some (.ref lt), b11, none, none, none, none, none] ∧
  LwS C G t l fv f yp yfv ea es evs hd kv0 x1 n1 p1 x2 n2 p2 (evs.take i) (pairsF f evs i) [] [] ∧ G lt = some (.lst ts) ∧ Paired (PrAt G) ts (pairsF f evs i)
theorem prb_at {f : Fd} {evs : List Ev} (fok : FOk f) (hi : HiOk f evs) (h39 : evs.length < 39) {k : Nat} (hk : k ≤ evs.length) : ∀ j, j < k → PrB 48000 (prOf (pairsF f evs k) j) := fun j hj => (pairsF_b fok hi hk j hj).mono (by omega)
theorem cnt_snoc {evs : List Ev} {e : Ev} {n : Str} : cnt (evs ++ [e]) n = cnt evs n + if e.house = n then 1 else 0 := by
  unfold cnt
  rw [List.countP_append, List.countP_cons, List.countP_nil]
  simp
section
variable {P : Program} {w : World} {K : PySem.W.Frag} {mg : Str → Option Value} {base : Heap}
theorem ok_law (T : Tx K mg) : FnG P w K mg base 8 T.a_law T.d_law p_law (spLaw T.C K) := by
  refine okG T.law.F sc_law (fun vs H Q E h => ?_) (fun cdv A outer s H vs Q E hr hA h => ?_)
  · obtain ⟨a, ns, rfl, _⟩ := h
    rfl
  · obtain ⟨a, ns, rfl, hs, hl, q⟩ := h
    have hr7 : Room 7 _ := hr
    have hr6 : Room 6 _ := hr7.mono (by decide)
    have hr3 : Room 3 _ := hr7.mono (by decide)
    have hr2 : Room 2 _ := hr7.mono (by decide)
    have hr1 : Room 1 _ := hr7.mono (by decide)
    refine ⟨_, PSs.nox ((pss_cons (ps_set (i := 1) sc_law.nd rfl (Or.inl rfl) (pe_call (ok_law_tape T) hr1 rfl T.law_tape.m T.law_tape.F.kp T.law_tape.b .nil pass0 (pa_cons (pv 0) pa_nil)))
      (pss_cons (ps_set (i := 2) sc_law.nd rfl (Or.inl rfl) (pe_call (ok_law_field T) hr3 rfl T.law_field.m T.law_field.F.kp T.law_field.b .nil pass0 (pa_cons (pv 1) pa_nil)))
      (pss_cons (ps_asg (pe_call (ok_law_lived T) hr3 rfl T.law_lived.m T.law_lived.F.kp T.law_lived.b .nil pass0 (pa_cons (pv 1) (pa_cons (pv 2) (pa_cons (pe_op op_add pe_int (pe_call (ok_law_draw T) hr1 rfl T.law_draw.m T.law_draw.F.kp T.law_draw.b .nil pass0 (pa_cons (pv 1) (pa_cons pe_int pa_nil)))) pa_nil)))) (pg_tup rfl (pgs_cons (pg_name (i := 3) sc_law.nd rfl (Or.inl rfl)) (pgs_cons (pg_name (i := 4) sc_law.nd rfl (Or.inl rfl)) pgs_nil))))
      (pss_cons (ps_asg (pe_tup (pa_cons (pe_callTy (call_dictP rfl) (by rfl) T.bdict (by decide +kernel) (pa_cons (pe_lc (own := [("_law_row", 15)]) (tt := tYes) rfl sc_law.nd (pi_tup (pe_ix ix_tup (pv 2) pe_int (fun _ _ => rfl))) (blkOk_by (N := n_law) (sc := (defScope s_law)) (by decide +kernel)) (fun _ _ _ _ _ => pg_name (i := 15) sc_law.nd rfl (Or.inl rfl) (Or.inr rfl)) (fun _ _ _ _ _ => pts_nil) (fun _ _ _ _ _ => (pe_tup (pa_cons (pe_ix (ix_tupK K rfl) (pv 15) pe_int (fun _ _ => rfl)) (pa_cons (pe_slice (sl_tupAK K rfl) (pv 15) (po_some pe_int) po_none) pa_nil))))) pa_nil)) (pa_cons (pe_ix ix_tup (pv 3) pe_int (fun _ _ => rfl)) pa_nil))) (pg_tup rfl (pgs_cons (pg_name (i := 5) sc_law.nd rfl (Or.inl rfl)) (pgs_cons (pg_name (i := 6) sc_law.nd rfl (Or.inr rfl)) pgs_nil))))
      (pss_cons (ps_asg (pe_tup (pa_cons (pe_make T.mkK (ok_init T) hr2 rfl T.mKeeper T.init.b .nil pass0 (pa_cons (pv 2) pa_nil)) (pa_cons (pe_make T.mkK (ok_init T) hr2 rfl T.mKeeper T.init.b .nil pass0 (pa_cons (pv 2) pa_nil)) (pa_cons (pe_make T.mkK (ok_init T) hr2 rfl T.mKeeper T.init.b .nil pass0 (pa_cons (pe_tup (pa_cons (pe_ix ix_tup (pv 2) pe_int (fun _ _ => rfl)) (pa_cons (pe_slice sl_tupA (pe_ix ix_tup (pv 2) pe_int (fun _ _ => rfl)) po_none (po_some (pe_un un_neg pe_int))) (pa_cons (pe_ix ix_tup (pv 2) pe_int (fun _ _ => rfl)) pa_nil)))) pa_nil)) pa_nil)))) (pg_tup rfl (pgs_cons (pg_name (i := 7) sc_law.nd rfl (Or.inr rfl)) (pgs_cons (pg_name (i := 8) sc_law.nd rfl (Or.inl rfl)) (pgs_cons (pg_name (i := 9) sc_law.nd rfl (Or.inl rfl)) pgs_nil)))))
      (pss_cons (ps_if (PW.pt (pw_or (pt_cmpR op_notBl (pe_cmpR (op_eqOwn (ok_eq T) hr2 T.eq.b T.eq.me.at_ T.eq.me.fn) (pv 7) (pv 8) (nomark _)) pe_bl (nomark _)) (pw_or (pt_cmpR op_ne (pe_cmpR (op_eqOwn (ok_eq T) hr2 T.eq.b T.eq.me.at_ T.eq.me.fn) (pv 7) (pv 9) (nomark _)) (pe_cmpR (op_eqD hr.units) (pe_ix ix_tup (pv 2) pe_int (fun _ _ => rfl)) (pe_tup pa_nil) (nomark _)) (nomark _)) (pw_or1 (pt_cmpR op_ne (pe_cmpR (op_neOwn (ok_eq T) hr3 T.eq.b T.mkK.makes T.hne T.eq.me.at_ T.eq.me.fn) (pv 9) (pv 7) (nomark _)) (pe_cmpR (op_neD hr.units) (pe_ix ix_tup (pv 2) pe_int (fun _ _ => rfl)) (pe_tup pa_nil) (nomark _)) (nomark _))))))
        (pss_one (ps_ret pe_bl))
        pss_nil)
      (pss_cons (ps_set (i := 10) sc_law.nd rfl (Or.inr rfl) (pe_lst pa_nil))
      (pss_cons (ps_for PassesOwn.never rfl (pi_range1 rfl T.brange (pa_cons (pe_callB call_len_seq (by rfl) T.blen (by decide +kernel) (pa_cons (pv 6) pa_nil)) pa_nil)) (pg_name (i := 11) sc_law.nd rfl (Or.inl rfl))
        (pss_cons (ps_expr (pe_meth (pv 7) T.cl T.note.me (ok_note T) hr6 T.note.b .nil pass0 (pa_cons (pe_ix ix_tup (pe_ix ix_tup (pv 6) (pv 11) (fun _ _ => rfl)) pe_int (fun _ _ => rfl)) (pa_cons (pe_ix ix_tup (pe_ix ix_tup (pv 6) (pv 11) (fun _ _ => rfl)) pe_int (fun _ _ => rfl)) (pa_cons (pe_ix ix_tup (pe_ix ix_tup (pv 6) (pv 11) (fun _ _ => rfl)) pe_int (fun _ _ => rfl)) pa_nil)))))
        (pss_cons (ps_expr (pe_bm PySem.F.plainAttrs_list PySem.F.slot_list_append PySem.F.type_list_append mt_append (pv 10) (pa_cons (pe_meth (pv 7) T.cl T.pair.me (ok_pair T) hr1 T.pair.b .nil pass0 (pa_cons (pv 11) pa_nil)) pa_nil)))
        (pss_cons (ps_if (PW.pt (pw_or (pt_cmpR op_notBl (pe_cmpR (op_eqOwn (ok_eq T) hr2 T.eq.b T.eq.me.at_ T.eq.me.fn) (pv 7) (pv 8) (nomark _)) pe_bl (nomark _)) (pw_or1 (pt_cmpR op_notBl (pe_cmpR (op_neOwn (ok_eq T) hr3 T.eq.b T.mkK.makes T.hne T.eq.me.at_ T.eq.me.fn) (pv 7) (pv 8) (nomark _)) pe_bl (nomark _)))))
          (pss_one (ps_ret pe_bl))
          pss_nil)
        (pss_one (ps_if (pt_cmpR (op_neD hr.units) (pe_lc (own := [("_law_j", 16)]) rfl sc_law.nd (pi_range1 rfl T.brange (pa_cons (pe_op op_add (pv 11) pe_int) pa_nil)) (blkOk_by (N := n_law) (sc := (defScope s_law)) (by decide +kernel)) (fun _ _ _ _ _ => pg_name (i := 16) sc_law.nd rfl (Or.inl rfl) (Or.inr rfl)) (fun _ _ _ _ _ => (pts_one (pt_cmpR (op_neDK K rfl hr.units) (pe_meth (pv 7) T.cl T.pair.me (ok_pair T) hr1 T.pair.b .nil pass0 (pa_cons (pv 16) pa_nil)) (pe_ix (ix_listK K rfl) (pv 10) (pv 16) (fun _ _ => rfl)) (nomark _)))) (fun _ _ _ _ _ => (pv 16))) (pe_lst pa_nil) (nomark _))
          (pss_one (ps_ret pe_bl))
          pss_nil))))))
      (pss_cons (ps_if (PW.pt (pw_or (pt_cmpR (op_neD hr.units) (pe_callTy call_tuple_of (by rfl) T.btuple (by decide +kernel) (pa_cons (pv 10) pa_nil)) (pe_call (ok_kept_pairs T) hr6 rfl T.kept_pairs.m T.kept_pairs.F.kp T.kept_pairs.b .nil pass0 (pa_cons (pv 3) pa_nil)) (nomark _)) (pw_or1 (pt_cmpR (op_neD hr.units) (pe_meth0 (pv 7) T.cl T.history.me (ok_history T) hr1 T.history.b .nil pass0) (pv 3) (nomark _)))))
        (pss_one (ps_ret pe_bl))
        pss_nil)
      (pss_cons (ps_for PassesOwn.never rfl (pi_tup (pv 6)) (pg_name (i := 12) sc_law.nd rfl (Or.inl rfl))
        (pss_one (ps_expr (pe_meth (pv 8) T.cl T.note.me (ok_note T) hr6 T.note.b .nil pass0 (pa_cons (pe_ix ix_tup (pv 12) pe_int (fun _ _ => rfl)) (pa_cons (pe_ix ix_tup (pv 12) pe_int (fun _ _ => rfl)) (pa_cons (pe_ix ix_tup (pv 12) pe_int (fun _ _ => rfl)) pa_nil)))))))
      (pss_cons (ps_if (PW.pt (pw_or (pt_cmpR op_notBl (pe_cmpR (op_eqOwn (ok_eq T) hr2 T.eq.b T.eq.me.at_ T.eq.me.fn) (pv 7) (pv 8) (nomark _)) pe_bl (nomark _)) (pw_or1 (pt_cmpR op_notBl (pe_cmpR (op_neOwn (ok_eq T) hr3 T.eq.b T.mkK.makes T.hne T.eq.me.at_ T.eq.me.fn) (pv 7) (pv 8) (nomark _)) pe_bl (nomark _)))))
        (pss_one (ps_ret pe_bl))
        pss_nil)
      (pss_cons (ps_for PassesOwn.never rfl (pi_tup (pe_tup (pa_cons pe_non (pa_cons pe_int (pa_cons pe_bl (pa_cons (pe_lst pa_nil) (pa_cons (pe_tup pa_nil) (pa_cons (pv 3) (pa_cons pe_str pa_nil))))))))) (pg_name (i := 13) sc_law.nd rfl (Or.inl rfl))
        (pss_one (ps_if (PW.pt (pw_or (pt_cmpR op_notBl (pe_cmpR (op_eqOwn (ok_eq T) hr2 T.eq.b T.eq.me.at_ T.eq.me.fn) (pv 7) (pv 13) (nomark _)) pe_bl (nomark _)) (pw_or1 (pt_cmpR op_notBl (pe_cmpR (op_neOwn (ok_eq T) hr3 T.eq.b T.mkK.makes T.hne T.eq.me.at_ T.eq.me.fn) (pv 7) (pv 13) (nomark _)) pe_bl (nomark _)))))
          (pss_one (ps_ret pe_bl))
          pss_nil)))
      (pss_cons (ps_if (pt_not (pt_val (pe_callG (ok_law_now_right T) hr7 hA rfl T.law_now_right.m T.law_now_right.F.kp T.law_now_right.b (pa_cons (pv 1) (pa_cons (pv 7) (pa_cons (pv 6) (pa_cons (pv 5) pa_nil)))))))
        (pss_one (ps_ret pe_bl))
        pss_nil)
      (pss_cons (ps_setLc (i := 14) (own := [("_law_row", 15)]) (tt := tYes) rfl sc_law.nd rfl rfl (sw_true rfl rfl rfl (by decide +kernel)) (pi_tup (pe_ix ix_tup (pv 2) pe_int (fun _ _ => rfl))) (blkOk_by (N := n_law) (sc := (defScope s_law)) (by decide +kernel)) (fun _ _ _ _ _ => pg_name (i := 15) sc_law.nd rfl (Or.inr rfl) (Or.inl rfl)) (fun _ _ _ _ _ => pts_nil) (fun _ _ _ _ _ => (pe_op op_add_str (pe_op op_add_str (pe_ix (ix_tupK K rfl) (pv 15) pe_int (fun _ _ => rfl)) pe_str) (pe_callTy call_str_int (by rfl) T.bstr (by decide +kernel) (pa_cons (pe_callB (call_len_seqK K rfl) (by rfl) T.blen (by decide +kernel) (pa_cons (pe_lc (own := [("_law_event", 12)]) rfl sc_law.nd (pi_tupK K rfl (pv 6)) (blkOk_by (N := n_law) (sc := lawRowScope) (by decide +kernel)) (fun _ _ _ _ _ => pg_name (i := 12) sc_law.nd rfl (Or.inl rfl) (Or.inr rfl)) (fun _ _ _ _ _ => (pts_one (pt_cmpR op_eq (pe_ix (ix_tupK K rfl) (pv 12) pe_int (fun _ _ => rfl)) (pe_ix (ix_tupK K rfl) (pv 15) pe_int (fun _ _ => rfl)) (nomark _)))) (fun _ _ _ _ _ => (pv 12))) pa_nil)) pa_nil)))))
      (pss_one (ps_ret (pe_and (pe_cmpR op_eq (pe_callTy (call_strOwn (ok_str T) hr3 T.str.b T.str.me.at_ T.str.me.fn) (by rfl) T.bstr (by decide +kernel) (pa_cons (pv 7) pa_nil)) (pe_join pe_str (pv 14)) (nomark _)) (pe_and (pe_cmpR (op_eqD hr.units) (pe_meth0 (pv 7) T.cl T.history.me (ok_history T) hr1 T.history.b .nil pass0) (pv 3) (nomark _)) (pe_one (pe_cmpR op_eq (pe_callB (call_lenOwn (ok_len T) hr2 T.len.b T.len.me.at_ T.len.me.fn) (by rfl) T.blen (by decide +kernel) (pa_cons (pv 7) pa_nil)) (pe_callB call_len_seq (by rfl) T.blen (by decide +kernel) (pa_cons (pv 6) pa_nil)) (nomark _)))))))))))))))))))))), ?_⟩
    refine ⟨_, rfl, a, ns, rfl, hs, hl, fun t l H1 s1 t0 l0 tp1 => ?_⟩
    clear s1 t0 l0 hs
    -- the field
    refine ⟨_, rfl, t, l, 0, rfl, tp1, by decide, fun fv f H2 fok fd2 _ _ tp2 => ?_⟩
    -- lived
    refine ⟨_, rfl, _, rfl, _, rfl, t, l, 29, _, rfl, tp2, by decide, by decide, by decide, fun m H3 m0 m29 k3 tk3 tp3 => ⟨_, _, rfl, rfl, ?_⟩⟩
    refine ⟨t, l, _, fv, _, f, rfl, tp3, by decide, by omega, by omega, fd2.tk tk3, fok, fun lp hv lv evs H4 g4 hy4 hiok hst el k4 tk4 tp4 => ?_⟩
    have fd4 := (fd2.tk tk3).tk tk4
    have el1 : 0 < evs.length := by omega
    have el2 : evs.length < 39 := by omega
    refine ⟨_, _, rfl, SqT.of g4, rfl, _, _, rfl, _, _, rfl, rfl, ?_⟩
    clear el tk3 k3 tp3 tk4 k4 fd2 tp2 tp1 m0 m29 g4
    have few := fok.few
    obtain ⟨fp, fhp, flp, fhs, fls, rfl, c0, c1, c2, c3, c4⟩ := id fd4
    obtain ⟨yp, yfv, ea, es, rfl, y0, y1, y2, y3⟩ := id hy4
    have flen := pr_len c2
    -- the dict of the rates
    refine ⟨_, rfl, _, _, _, _, rfl, rfl, SqT.of c0, rfl, fhp, rfl, ⟨fhs, SqT.of c1⟩, fun D hD => ?_⟩
    refine lc_tup (K := K) (a := fhp) (xs := fhs) (fun i H2 => ∃ (ps : List Addr) (kvs : List (Key × V)), Same H4 H2 ∧ H2 D = some (.lst (ps.map V.ref)) ∧ Paired (fun p (kv : Key × V) => H2 p = some (.tup [kV kv.1, kv.2])) ps kvs ∧ Paired (RtKv H2) kvs (f.houses.take i))
      ⟨[], [], same_new hD, upd_same, .nil, .nil⟩ (fun i H2 _ ⟨_, _, s2, _⟩ => SqT.of (s2 _ _ c1)) ?_ ?_
    · rintro i y H2 hi ⟨ps, kvs, s2, g, pp, pk⟩
      obtain ⟨hh, eh, px, a, b, rfl, r0, r1, r2⟩ := pr_get c2 hi
      have hpl := pr_len pp
      have hkl := pr_len pk
      rw [List.length_take] at hkl
      refine ⟨rfl, _, rfl, _, _, _, _, rfl, rfl, SqT.of (s2 _ _ r0), rfl, _, rfl, _, rfl, _, _, rfl, SqT.of (s2 _ _ r0), (fun z => absurd z sl3), fun _ q1 hq1 => ⟨by show 2 ≤ sizeLine; decide, fun q2 hq2 => ?_⟩⟩
      have s3 := same_new (o := .tup (cutV [V.str hh.name, a, b] (some 1) none)) hq1
      have s4 := same_new (o := .tup [V.str hh.name, .ref q1]) hq2
      have sa := s2.trans (s3.trans s4)
      have g4 := (s3.trans s4) _ _ g
      have tkD := TK.lst (o := .lst (ps.map V.ref ++ [.ref q2])) g4
      refine ⟨_, g4, small1000 (by rw [List.length_map]; omega), ps ++ [q2], kvs ++ [(.inr hh.name, .ref q1)], fun x o e => ?_, ?_, ?_, ?_⟩
      · rw [upd_ne (ne_of_none e hD)]
        exact sa _ _ e
      · rw [upd_same, List.map_append]
        rfl
      · refine pr_snoc (pr_mono (fun p kv e => ?_) pp) ?_
        · exact tkD _ _ ((s3.trans s4) _ _ e)
        · exact tkD _ _ upd_same
      · rw [take_snoc eh]
        have tka : TK H2 _ := (TK.of (s3.trans s4)).trans tkD
        refine pr_snoc (pr_mono (fun _ _ z => RtKv.tk z tka) pk) ⟨rfl, q1, a, b, rfl, ?_, r1.tk ((TK.of s2).trans tka), r2.tk ((TK.of s2).trans tka)⟩
        exact tkD _ _ (s4 _ _ upd_same)
    rintro H5 ⟨ps, kv0, s5, g5, pp, pk⟩
    have elf : f.houses.take fhs.length = f.houses := by
      rw [flen]
      exact List.take_length
    rw [elf] at pk
    refine ⟨D, ps, kv0, rfl, SqL.of g5, pr_mono (fun p kv e => SqT.of e) pp, fun hd hhd => ?_⟩
    rw [rtkv_merge pk fok.nd]
    have sd := same_new (o := .dK kv0) hhd
    have s6 := s5.trans sd
    refine ⟨_, rfl, _, _, _, _, rfl, rfl, SqT.of (s6 _ _ y0), rfl, by show 2 ≤ sizeLine; decide, fun tq htq => ?_⟩
    have st := same_new (o := .tup [V.ref hd, V.ref ea]) htq
    refine ⟨_, _, rfl, SqT.of upd_same, rfl, _, _, rfl, _, _, rfl, rfl, ?_⟩
    have s7 := s6.trans st
    refine habs (Ψ := fun G => TpAt G t l 1000 ∧ FdAt G (.ref fp) f ∧ G yp = some (.tup [yfv, .ref ea]) ∧ FdAt G yfv f ∧ G ea = some (.tup es) ∧ Paired (EvAt G) es evs ∧ G hd = some (.dK kv0) ∧ Paired (RtKv G) kv0 f.houses)
      ⟨(tp4.same s7).mono (by decide), fd4.tk (.of s7), s7 _ _ y0, y1.tk (.of s7), s7 _ _ y2, evs_tk y3 (.of s7), st _ _ upd_same, pr_mono (fun _ _ z => RtKv.tk z (.of (sd.trans st))) pk⟩ ?_
    clear s7 st htq s6 sd hhd pk pp g5 elf s5 hD y0 y1 y2 y3 c0 c1 c2 c3 c4 flen fd4 hy4 tp4
    rintro G0 ⟨tp0, fd0, y0, y1, y2, y3, d0, rd0⟩
    -- the keepers
    refine ⟨_, rfl, fun x1 dx1 hx1 hdx1 ndx1 => ?_⟩
    have a1 : Same G0 (upd (upd G0 dx1 (.own x1)) x1 (.ins T.C dx1 [])) := fun b o e => by
      rw [upd_ne (ne_of_none e hx1), upd_ne (ne_of_none e hdx1)]
      exact e
    refine ⟨x1, dx1, _, f, rfl, upd_same, fd0.tk (.of a1), fun n1 p1 G1 kp1 b1 nn1 np1 => ⟨rfl, ?_⟩⟩
    have e1 : Same G0 G1 := fun b o e => b1 b o (a1 b o e) (ne_of_none e hx1)
    refine ⟨_, rfl, fun x2 dx2 hx2 hdx2 ndx2 => ?_⟩
    have a2 : Same G1 (upd (upd G1 dx2 (.own x2)) x2 (.ins T.C dx2 [])) := fun b o e => by
      rw [upd_ne (ne_of_none e hx2), upd_ne (ne_of_none e hdx2)]
      exact e
    refine ⟨x2, dx2, _, f, rfl, upd_same, (fd0.tk (.of e1)).tk (.of a2), fun n2 p2 G2 kp2 b2 nn2 np2 => ⟨rfl, ?_⟩⟩
    have e2 : Same G1 G2 := fun b o e => b2 b o (a2 b o e) (ne_of_none e hx2)
    have fd2 := (fd0.tk (.of e1)).tk (.of e2)
    obtain ⟨fp', fhp', flp', fhs', fls', efp, c0, c1, c2, c3, c4⟩ := id fd2
    cases efp
    -- the third
    refine ⟨_, rfl, _, _, _, _, rfl, rfl, SqT.of c0, rfl, _, rfl, _, _, _, _, rfl, rfl, SqT.of c0, rfl, _, rfl, _, rfl, ?_⟩
    refine sl_via (Ψ := fun v G => ∃ la xs, v = .ref la ∧ Same G2 G ∧ G la = some (.tup xs) ∧ Paired (LkAt G) xs (cutF f).links) ?_ ?_
    · rintro v G3 ⟨la, xs, rfl, s3, gla, pla⟩
      refine ⟨_, rfl, _, _, _, _, rfl, rfl, SqT.of (s3 _ _ c0), rfl, by show 3 ≤ sizeLine; decide, fun fq hfq => ?_⟩
      have sf := same_new (o := .tup [.ref fhp', .ref la, .str f.source]) hfq
      have s4 := s3.trans sf
      have fd3 : FdAt (upd G3 fq (.tup [.ref fhp', .ref la, .str f.source])) (.ref fq) (cutF f) := ⟨fq, fhp', la, fhs', xs, rfl, upd_same, s4 _ _ c1, pr_mono (fun _ _ z => HsAt.tk z (.of s4)) c2, sf _ _ gla, pr_mono (fun _ _ z => LkAt.tk z (.of sf)) pla⟩
      refine fun x3 dx3 hx3 hdx3 ndx3 => ?_
      have a3 : Same (upd G3 fq (.tup [.ref fhp', .ref la, .str f.source])) (upd (upd (upd G3 fq (.tup [.ref fhp', .ref la, .str f.source])) dx3 (.own x3)) x3 (.ins T.C dx3 [])) := fun b o e => by
        rw [upd_ne (ne_of_none e hx3), upd_ne (ne_of_none e hdx3)]
        exact e
      refine ⟨x3, dx3, _, cutF f, rfl, upd_same, fd3.tk (.of a3), fun n3 p3 G4 kp3 b3 nn3 np3 => ⟨rfl, ?_⟩⟩
      have e3 : Same G2 G4 := fun b o e => b3 b o (a3 b o (s4 b o e)) (ne_of_none (s4 b o e) hx3)
      refine ⟨by show 3 ≤ sizeLine; decide, fun kq hkq => ?_⟩
      have sk := same_new (o := .tup [V.ref x1, V.ref x2, V.ref x3]) hkq
      refine ⟨_, _, rfl, SqT.of upd_same, rfl, _, _, rfl, _, _, rfl, _, _, rfl, rfl, ?_⟩
      have e12 := e1.trans e2
      have eA := (e12.trans e3).trans sk
      have hn1 : G0 n1 = none := a1.free nn1
      have hp1 : G0 p1 = none := a1.free np1
      have hn2 : G1 n2 = none := a2.free nn2
      have hp2 : G1 p2 = none := a2.free np2
      have hn20 : G0 n2 = none := e1.free hn2
      have hp20 : G0 p2 = none := e1.free hp2
      have ⟨_, ⟨_, z1, _⟩, ⟨_, z2, _⟩, _⟩ := kp1
      obtain ⟨tns, ta, td, tn, tt1, tt2, _⟩ := id tp0
      refine habs (Ψ := fun G => LwS T.C G t l (.ref fp) f yp yfv ea es evs hd kv0 x1 n1 p1 x2 n2 p2 [] [] [] [] ∧ KpAt T.C G x3 n3 p3 (cutF f) [] [])
        ⟨⟨tp0.same eA, fd0.tk (.of eA), eA _ _ y0, y1.tk (.of eA), eA _ _ y2, evs_tk y3 (.of eA), eA _ _ d0, pr_mono (fun _ _ z => RtKv.tk z (.of eA)) rd0, kp1.same ((e2.trans e3).trans sk), kp2.same (e3.trans sk), ?_, ?_⟩, kp3.same sk⟩ ?_
      · exact ⟨ne_of_none z1 hn2, ne_of_none z1 hp2, ne_of_none z2 hn2, ne_of_none z2 hp2⟩
      · exact ⟨⟨(ne_of_none tt1 hn1).symm, (ne_of_none tt1 hp1).symm, (ne_of_none tt2 hn1).symm, (ne_of_none tt2 hp1).symm⟩, (ne_of_none tt1 hn20).symm, (ne_of_none tt1 hp20).symm, (ne_of_none tt2 hn20).symm, (ne_of_none tt2 hp20).symm⟩
      clear eA e12 hn1 hp1 hn2 hp2 hn20 hp20 z1 z2 tt1 tt2 sk hkq e3 kp3 b3 nn3 np3 a3 hx3 hdx3 ndx3 fd3 s4 sf hfq gla pla s3 c0 c1 c2 c3 c4 fd2 e2 kp2 b2 nn2 np2 a2 hx2 hdx2 ndx2 e1 kp1 b1 nn1 np1 a1 hx1 hdx1 ndx1 tp0 fd0 y0 y1 y2 y3 d0 rd0
      rintro G ⟨L, kp3⟩
      have gd0 : Gd 5 (dHy f []) := fok.gdHy fun e he => by cases he
      have gd3 : Gd 5 (dHy (cutF f) []) := (cut_ok fok).gdHy fun e he => by cases he
      have evn : ∀ e ∈ evs, e.house ∈ f.names := fun e he => by
        obtain ⟨j, hj, ej⟩ := List.getElem_of_mem he
        exact (hiok j e (by rw [List.getElem?_eq_getElem hj, ej])).hs
      have gdk : ∀ k, Gd 5 (dHy f (evs.take k)) := fun k => fok.gdHy fun e he => evn e (List.mem_of_mem_take he)
      have gdA : Gd 5 (dHy f evs) := fok.gdHy evn
      have cutE := eqv_cut fok
      -- the first test
      refine ⟨_, rfl, _, rfl, own_two L.k1 gd0 L.k2 gd0 fun Ga sa => ⟨_, _, rfl, rfl, _, rfl, itN (by rw [gd0.refl]; decide) ?_⟩⟩
      have La := L.same sa
      have k3a := kp3.same sa
      obtain ⟨_, fhp1, flp1, fhs1, fls1, efp, c0, c1, c2, c3, c4⟩ := id La.fd
      cases efp
      refine ⟨_, rfl, _, rfl, own_two La.k1 gd0 k3a gd3 fun Gb sb => ?_⟩
      refine ⟨_, rfl, _, _, _, _, rfl, rfl, SqT.of (sb _ _ c0), rfl, by show 0 ≤ sizeLine; decide, fun t1 ht1 => ?_⟩
      have sb1 := sb.trans (same_new (o := .tup ([] : List V)) ht1)
      have gdl := gd_links fok
      refine ⟨_, _, Dp.tup (SqT.of (sb1 _ _ c3)) (dp_all (fun _ _ z => LkAt.dp (LkAt.tk z (.of sb1))) c4), Dp.tup (SqT.of upd_same) .nil, gdl.shaped (by decide), rfl, rfl, _, rfl, itN (by rw [cutE.1]; simp) ?_⟩
      have Lb := La.same sb1
      have k3b := k3a.same sb1
      obtain ⟨_, fhp2, flp2, fhs2, fls2, efp, c0, c1, c2, c3, c4⟩ := id Lb.fd
      cases efp
      refine ⟨_, rfl, _, rfl, ne_two k3b gd3 Lb.k1 gd0 fun Gc sc => ?_⟩
      refine ⟨_, rfl, _, _, _, _, rfl, rfl, SqT.of (sc _ _ c0), rfl, by show 0 ≤ sizeLine; decide, fun t2 ht2 => ?_⟩
      have sc1 := sc.trans (same_new (o := .tup ([] : List V)) ht2)
      refine ⟨_, _, Dp.tup (SqT.of (sc1 _ _ c3)) (dp_all (fun _ _ z => LkAt.dp (LkAt.tk z (.of sc1))) c4), Dp.tup (SqT.of upd_same) .nil, gdl.shaped (by decide), rfl, rfl, _, rfl, itN (by rw [cutE.2]; simp) ?_⟩
      have Lc := Lb.same sc1
      refine habs (Ψ := fun G => LwS T.C G t l (.ref fp) f yp yfv ea es evs hd kv0 x1 n1 p1 x2 n2 p2 [] [] [] []) Lc ?_
      clear Lc sc1 ht2 c0 c1 c2 c3 c4 k3b Lb gdl sb1 ht1 sb La k3a sa sc cutE gd3
      rintro G5 L5
      have elen := pr_len L5.y3
      have kst : ∀ e ∈ evs, Fb 4 300 e.stamp := fun e he => (hst e he).mono (by decide)
      -- the first keeper notes all
      refine ⟨by show 0 ≤ sizeLine; decide, fun lt hlt => ?_⟩
      have sl := same_new (o := .lst ([] : List V)) hlt
      obtain ⟨dl1, dl2⟩ : (lt ≠ t ∧ lt ≠ l) ∧ (lt ≠ n1 ∧ lt ≠ p1) ∧ lt ≠ n2 ∧ lt ≠ p2 := by
        obtain ⟨_, _, _, _, u1, u2, _⟩ := L5.tp
        have ⟨_, ⟨_, u3, _⟩, ⟨_, u4, _⟩, _⟩ := L5.k1
        have ⟨_, ⟨_, u5, _⟩, ⟨_, u6, _⟩, _⟩ := L5.k2
        exact ⟨⟨(ne_of_none u1 hlt).symm, (ne_of_none u2 hlt).symm⟩, ⟨(ne_of_none u3 hlt).symm, (ne_of_none u4 hlt).symm⟩, (ne_of_none u5 hlt).symm, (ne_of_none u6 hlt).symm⟩
      have L6 := L5.same sl
      refine ⟨_, rfl, _, _, rfl, .inr (SqT.of L6.y2), _, rfl, by omega, by omega, ?_⟩
      refine for_range (lo := 0) (n := es.length) (LwA T.C t l (.ref fp) f yp yfv ea es evs hd kv0 x1 n1 p1 x2 n2 p2 a x3 lt lv) ⟨none, [], rfl, L6, upd_same, .nil⟩ ?_ ?_
      · rintro i σ G6 hi ⟨b11, ts, rfl, M, gt, pt⟩
        rw [Int.zero_add]
        have hil : i < evs.length := by omega
        have hei : evs[i]? = some evs[i] := List.getElem?_eq_getElem hil
        obtain ⟨xe, hxe, pe, sv, dv, rfl, v0, v1, v2⟩ := pr_get' M.y3 hei
        generalize evs[i] = e at *
        have aat := atI_nat hxe
        have ⟨⟨dx, fv1, o1, o2⟩, ⟨w1, w2, _⟩, ⟨w3, w4, _⟩, _⟩ := M.k1
        have plen : (pairsF f evs i).length = i := pairsF_len (by omega)
        have tl : (evs.take i).length = i := by rw [List.length_take]; omega
        refine ⟨_, rfl, x1, dx, _, rfl, o1, rfl, _, rfl, _, rfl, _, _, _, _, rfl, rfl, SqT.of M.y2, aat, _, _, _, _, rfl, rfl, SqT.of v0, rfl, _, rfl, _, rfl, _, _, _, _, rfl, rfl, SqT.of M.y2, aat, _, _, _, _, rfl, rfl, SqT.of v0, rfl,
          _, rfl, _, rfl, _, _, _, _, rfl, rfl, SqT.of M.y2, aat, _, _, _, _, rfl, rfl, SqT.of v0, rfl, ?_⟩
        refine ⟨x1, n1, p1, f, evs.take i, pairsF f evs i, e, sv, dv, 48000, rfl, M.k1, fok, v1, v2, hiok i e hei, fun e' he' => kst e' (List.mem_of_mem_take he'), by rw [plen, tl], by decide, by rw [tl]; exact prb_at fok hiok el2 (by omega), by rw [tl]; omega, fun G7 k7 kp7 => ?_⟩
        rw [← take_snoc hei, ← pairsF_succ hei] at kp7
        have tk7 := M.k1.tk k7
        have M7 := M.note1 k7 kp7
        have gt7 : G7 lt = some (.lst ts) := k7 _ _ gt (not_in2 dl2.1.1 dl2.1.2)
        have pt7 := prs_tk pt tk7
        clear aat v0 v1 v2 o1 o2 w2 w4 M k7 kp7 tk7
        -- told.append
        have ⟨⟨dx, fv1, o1, o2⟩, _, ⟨m, m1, m2⟩, _⟩ := M7.k1
        have hpi : (pairsF f evs (i + 1))[i]? = some (pairF f (evs.take i) e (pairsF f evs i)) := by
          rw [pairsF_succ hei, List.getElem?_append_right (by omega), plen, Nat.sub_self]
          rfl
        have plen1 : (pairsF f evs (i + 1)).length = i + 1 := pairsF_len (by omega)
        have tl1 : (evs.take (i + 1)).length = i + 1 := by rw [List.length_take]; omega
        refine ⟨_, rfl, .inl ⟨rfl, _, SqL.of gt7⟩, _, rfl, x1, dx, _, rfl, o1, rfl, _, rfl, x1, n1, p1, f, _, _, i, _, rfl, M7.k1, by rw [plen1, tl1], hpi, fun v hv => ?_⟩
        have ptl := pr_len pt7
        refine ⟨_, _, _, rfl, rfl, gt7, small1000 (by omega), ?_⟩
        have tkt := TK.lst (o := .lst (ts ++ [v])) gt7
        have ptn : Paired (PrAt (upd G7 lt (.lst (ts ++ [v])))) (ts ++ [v]) (pairsF f evs (i + 1)) := by
          rw [pairsF_succ hei]
          exact pr_snoc (prs_tk pt7 tkt) (hv.tk tkt)
        refine habs (Ψ := fun G => LwS T.C G t l (.ref fp) f yp yfv ea es evs hd kv0 x1 n1 p1 x2 n2 p2 (evs.take (i + 1)) (pairsF f evs (i + 1)) [] [] ∧ G lt = some (.lst (ts ++ [v])) ∧ Paired (PrAt G) (ts ++ [v]) (pairsF f evs (i + 1))) ⟨M7.upd gt7 dl1 dl2, upd_same, ptn⟩ ?_
        clear ptn tkt ptl hv o1 o2 m1 m2 M7 gt7 pt7
        rintro G8 ⟨M8, gt8, pt8⟩
        -- the tests
        have ev0 : PyData.eqv (dHy f (evs.take (i + 1))) (dHy f []) = false := eqv_other (by rw [tl1]; simp)
        refine ⟨_, rfl, _, rfl, own_two M8.k1 (gdk _) M8.k2 gd0 fun Ga sa => ⟨_, _, rfl, rfl, _, rfl, itN (by rw [ev0]; decide) ?_⟩⟩
        have Ma := M8.same sa
        refine ⟨_, rfl, _, rfl, ne_two Ma.k1 (gdk _) Ma.k2 gd0 fun Gb sb => ⟨_, _, rfl, rfl, _, rfl, itN (by rw [ev0]; decide) ?_⟩⟩
        have Mb := Ma.same sb
        have sab := sa.trans sb
        have gtb := sab _ _ gt8
        have ptb := prs_tk pt8 (.of sab)
        clear Ma M8 gt8 pt8 sa sb
        -- no pair changed
        refine ⟨_, rfl, _, _, rfl, rfl, _, rfl, by omega, by omega, fun D hD => ?_⟩
        refine lc_range (lo := 0) (fun j H2 => Same Gb H2 ∧ H2 D = some (.lst [])) ⟨same_new hD, upd_same⟩ ?_ ?_
        · rintro j H2 hj ⟨s2, gD⟩
          rw [Int.zero_add]
          have hji : j < i + 1 := by omega
          have M2 := Mb.same s2
          have ⟨⟨dx, fv1, o1, o2⟩, _, _, _⟩ := M2.k1
          have hpj : (pairsF f evs (i + 1))[j]? = some (pairsF f evs (i + 1))[j] := List.getElem?_eq_getElem (by omega)
          obtain ⟨xt, hxt, pxt⟩ := pr_get' ptb hpj
          generalize (pairsF f evs (i + 1))[j] = qj at *
          refine ⟨rfl, _, rfl, x1, dx, _, rfl, o1, rfl, _, rfl, x1, n1, p1, f, _, _, j, _, rfl, M2.k1, by rw [plen1, tl1], hpj, fun v hv => ?_⟩
          refine ⟨_, rfl, _, rfl, _, _, _, _, rfl, rfl, SqL.of (s2 _ _ gtb), atI_nat hxt, _, _, hv.dp, (pxt.tk (.of s2)).dp, (gd_pr qj).shaped (by decide), (gd_pr qj).shaped (by decide), _, rfl, itN (by rw [(gd_pr qj).refl]; decide) ⟨s2, gD⟩⟩
        rintro H2 ⟨s2, gD⟩
        refine ⟨by show 0 ≤ sizeLine; decide, fun e1 he1 => ?_⟩
        have se := same_new (o := .lst ([] : List V)) he1
        refine ⟨_, _, dp_nil (se _ _ gD), dp_nil upd_same, rfl, rfl, _, rfl, itN (by decide +kernel) ?_⟩
        have sz := s2.trans se
        exact ⟨_, ts ++ [v], rfl, Mb.same sz, sz _ _ gtb, prs_tk ptb (.of sz)⟩
      · rintro σ G6 ⟨b11, ts, rfl, M, gt, pt⟩
        rw [elen] at M pt
        rw [List.take_length] at M
        clear L6 sl L5 hlt
        -- told, history
        refine ⟨_, rfl, _, _, rfl, .inl ⟨SqL.of gt, fun tt htt => ?_⟩⟩
        have s1 := same_new (o := .tup ts) htt
        have M1 := M.same s1
        refine ⟨_, rfl, .ref yp, f, evs, rfl, M1.hy, fok, by omega, hiok, fun t2 xs2 G7 s7 g7 p7 => ?_⟩
        have sA := s1.trans s7
        refine ⟨_, _, prs_dp (s7 _ _ upd_same) (prs_tk pt (.of sA)), prs_dp g7 p7, (gd_prs _).shaped (by decide), (gd_prs _).shaped (by decide), _, rfl, itN (by rw [(gd_prs _).refl]; decide) ?_⟩
        have M2 := M.same sA
        have ⟨⟨dx, fv1, o1, o2⟩, _, _, _⟩ := M2.k1
        refine ⟨_, rfl, x1, dx, _, rfl, o1, rfl, x1, n1, p1, f, evs, _, rfl, M2.k1, fun hv3 G8 s8 h8 => ?_⟩
        have M3 := M2.same s8
        refine ⟨_, rfl, _, _, h8.dp, M3.hy.dp, gdA.shaped (by decide), gdA.shaped (by decide), _, rfl, itN (by rw [gdA.refl]; decide) ?_⟩
        clear h8 s8 M2 sA g7 p7 s7 M1 s1 htt M gt pt o1 o2
        -- the second keeper notes all
        refine ⟨_, rfl, ea, rfl, ⟨_, SqT.of M3.y2⟩, for_tup (K := K) (a := ea) (xs := es) (fun i σ G => ∃ b12 : Option V, σ = [some (.ref a), some (.ref t), some (.ref fp), some (.ref yp), some lv, some (.ref hd), some (.ref ea), some (.ref x1), some (.ref x2), some (.ref x3), some (.ref lt), b11, b12, none, none, none, none] ∧
          LwS T.C G t l (.ref fp) f yp yfv ea es evs hd kv0 x1 n1 p1 x2 n2 p2 evs (pairsF f evs evs.length) (evs.take i) (pairsF f evs i)) ⟨none, rfl, M3⟩ (fun i σ H2 _ ⟨_, _, m⟩ => SqT.of m.y2) ?_ ?_⟩
        · rintro i y σ G6 hi ⟨b12, rfl, M⟩
          obtain ⟨e, hei, pe, sv, dv, rfl, v0, v1, v2⟩ := pr_get M.y3 hi
          have hil : i < evs.length := (List.getElem?_eq_some_iff.mp hei).1
          have ⟨⟨dx, fv1, o1, o2⟩, _, _, _⟩ := M.k2
          have plen : (pairsF f evs i).length = i := pairsF_len (by omega)
          have tl : (evs.take i).length = i := by rw [List.length_take]; omega
          refine ⟨_, rfl, x2, dx, _, rfl, o1, rfl, _, rfl, _, _, _, _, rfl, rfl, SqT.of v0, rfl, _, rfl, _, _, _, _, rfl, rfl, SqT.of v0, rfl, _, rfl, _, _, _, _, rfl, rfl, SqT.of v0, rfl, ?_⟩
          refine ⟨x2, n2, p2, f, evs.take i, pairsF f evs i, e, sv, dv, 48000, rfl, M.k2, fok, v1, v2, hiok i e hei, fun e' he' => kst e' (List.mem_of_mem_take he'), by rw [plen, tl], by decide, by rw [tl]; exact prb_at fok hiok el2 (by omega), by rw [tl]; omega, fun G7 k7 kp7 => ?_⟩
          rw [← take_snoc hei, ← pairsF_succ hei] at kp7
          exact ⟨_, rfl, (M.swap.note1 k7 kp7).swap⟩
        · rintro σ G6 ⟨b12, rfl, M⟩
          rw [elen, List.take_length] at M
          clear M3
          refine ⟨_, rfl, _, rfl, own_two M.k1 gdA M.k2 gdA fun Ga sa => ⟨_, _, rfl, rfl, _, rfl, itN (by rw [gdA.refl]; decide) ?_⟩⟩
          have Ma := M.same sa
          refine ⟨_, rfl, _, rfl, ne_two Ma.k1 gdA Ma.k2 gdA fun Gb sb => ⟨_, _, rfl, rfl, _, rfl, itN (by rw [gdA.refl]; decide) ?_⟩⟩
          have Mb := Ma.same sb
          clear Ma M sa sb
          -- other things
          refine ⟨by show 0 ≤ sizeLine; decide, fun z1 h1 => ⟨by show 0 ≤ sizeLine; decide, fun z2 h2 => ⟨_, rfl, by show 7 ≤ sizeLine; decide, fun zt hzt => ?_⟩⟩⟩
          have s1 := same_new (o := .lst ([] : List V)) h1
          have s2 := same_new (o := .tup ([] : List V)) h2
          have s3 := same_new (o := .tup [V.non, .int 0, .bl true, .ref z1, .ref z2, .ref yp, .str "keeper"]) hzt
          have Mc := ((Mb.same s1).same s2).same s3
          refine habs (Ψ := fun G => LwS T.C G t l (.ref fp) f yp yfv ea es evs hd kv0 x1 n1 p1 x2 n2 p2 evs (pairsF f evs evs.length) evs (pairsF f evs evs.length) ∧ G zt = some (.tup [V.non, .int 0, .bl true, .ref z1, .ref z2, .ref yp, .str "keeper"]) ∧ G z1 = some (.lst []) ∧ G z2 = some (.tup [])) ⟨Mc, upd_same, s3 _ _ (s2 _ _ upd_same), s3 _ _ upd_same⟩ ?_
          clear Mc s3 s2 s1 h1 h2 hzt Mb
          rintro Gz ⟨Mz, gzt, gz1, gz2⟩
          have all : ∀ x ∈ ([V.non, .int 0, .bl true, .ref z1, .ref z2, .ref yp, .str "keeper"] : List V), ∃ ty ∈ (["NoneType", "int", "bool", "list", "tuple", "str"] : List String), TyOf K Gz x (.type ty) := by
            intro x hx
            simp only [List.mem_cons, List.not_mem_nil, or_false] at hx
            rcases hx with rfl | rfl | rfl | rfl | rfl | rfl | rfl
            · exact ⟨"NoneType", by simp, .non⟩
            · exact ⟨"int", by simp, .int _⟩
            · exact ⟨"bool", by simp, .bl _⟩
            · exact ⟨"list", by simp, .lst gz1⟩
            · exact ⟨"tuple", by simp, .tup gz2⟩
            · exact ⟨"tuple", by simp, .tup Mz.y0⟩
            · exact ⟨"str", by simp, .str _⟩
          refine ⟨zt, rfl, ⟨_, SqT.of gzt⟩, for_tup (K := K) (a := zt) (xs := [V.non, .int 0, .bl true, .ref z1, .ref z2, .ref yp, .str "keeper"]) (fun i σ G => G = Gz ∧ ∃ b13 : Option V, σ = [some (.ref a), some (.ref t), some (.ref fp), some (.ref yp), some lv, some (.ref hd), some (.ref ea), some (.ref x1), some (.ref x2), some (.ref x3), some (.ref lt), b11, b12, b13, none, none, none]) ⟨rfl, none, rfl⟩ (fun i σ H2 _ ⟨e, _⟩ => e ▸ SqT.of gzt) ?_ ?_⟩
          · rintro i x σ G hx ⟨rfl, b13, rfl⟩
            obtain ⟨ty, hm, hty⟩ := all x (List.mem_of_getElem? hx)
            refine ⟨_, rfl, _, rfl, own_thing Mz.k1 gdA hm hty (T.sub ty hm) ⟨_, _, rfl, rfl, _, rfl, itN (by decide) ?_⟩⟩
            refine ⟨_, rfl, _, rfl, ne_thing Mz.k1 gdA hm hty (T.sub ty hm) ⟨_, _, rfl, rfl, _, rfl, itN (by decide) ?_⟩⟩
            exact ⟨rfl, _, rfl⟩
          · rintro σ G ⟨rfl, b13, rfl⟩
            clear all gzt gz1 gz2
            -- now
            have ⟨⟨dx, fv1, o1, o2⟩, _, _, _⟩ := Mz.k1
            have plen : (pairsF f evs evs.length).length = evs.length := pairsF_len (Nat.le_refl _)
            refine ⟨_, rfl, _, rfl, _, rfl, _, rfl, t, l, x1, n1, p1, ea, hd, f, es, evs, _, kv0, 1000, 48000, rfl, ⟨Bs.start Mz.tp, Mz.k1, Mz.y2, Mz.y3, Mz.d, Mz.rd, Mz.dt.1.1, Mz.dt.1.2.1⟩, by decide, fok, hiok, hst, el1, el2, plen, by decide, by decide, prb_at fok hiok el2 (Nat.le_refl _), fun H9 k9 tk9 => ?_⟩
            refine ⟨_, rfl, itN (by decide) ?_⟩
            obtain ⟨_, _, _, _, tt1, _⟩ := Mz.tp
            have K9 := Mz.k1.keep k9 tk9 (by simpa using ne_of o1 tt1 fun z => by cases z) (by simpa using Mz.dt.1.1) (by simpa using Mz.dt.1.2.1)
            have F9 := Mz.fd.tk tk9
            have Y9 := Mz.hy.tk tk9
            have E9 := tk9 _ _ Mz.y2
            have P9 := evs_tk Mz.y3 tk9
            clear Mz o1 o2 k9 tk9 tt1
            obtain ⟨_, fhp1, flp1, fhs1, fls1, efp, c0, c1, c2, c3, c4⟩ := id F9
            cases efp
            have flen1 := pr_len c2
            -- the lines
            refine ⟨_, rfl, _, _, _, _, rfl, rfl, SqT.of c0, rfl, fhp1, rfl, ⟨_, SqT.of c1⟩, fun D hD => ?_⟩
            refine lc_tup (K := K) (a := fhp1) (xs := fhs1) (fun i H2 => Same H9 H2 ∧ H2 D = some (.lst ((f.names.take i).map fun n => V.str (rowT evs n)))) ⟨same_new hD, upd_same⟩ (fun i H2 _ ⟨s2, _⟩ => SqT.of (s2 _ _ c1)) ?_ ?_
            · rintro i y H2 hi ⟨s2, g2⟩
              obtain ⟨hh, eh, px, xa, xb, rfl, r0, r1, r2⟩ := pr_get c2 hi
              have en : f.names[i]? = some hh.name := by
                unfold Fd.names
                rw [List.getElem?_map, eh]
                rfl
              have hp : hh.name ∈ pool := fok.inp _ (List.mem_of_getElem? en)
              have hl8 := pool_len hp
              have hcl := natText_le (Nat.le_trans (cnt_le evs hh.name) (show evs.length ≤ 40 by omega))
              have h3 : Str.length (":" : Str) = 1 := by decide +kernel
              have l2 : (hh.name ++ (":" : Str)).length ≤ 9 := by
                rw [Str.length_append]
                omega
              refine ⟨rfl, _, rfl, _, _, _, _, rfl, rfl, SqT.of (s2 _ _ r0), rfl, _, _, rfl, rfl, Nat.le_trans (show hh.name.length + Str.length (":" : Str) ≤ 9 by omega) (show 9 ≤ sizeLine by decide), ?_⟩
              refine ⟨_, rfl, ea, rfl, ⟨_, SqT.of (s2 _ _ E9)⟩, fun D2 hD2 => ?_⟩
              refine lc_tup (K := K) (a := ea) (xs := es) (fun j H3 => Same H2 H3 ∧ ∃ ls, H3 D2 = some (.lst ls) ∧ ls.length = cnt (evs.take j) hh.name ∧ ls.length ≤ j) ⟨same_new hD2, [], upd_same, rfl, Nat.le_refl _⟩ (fun j H3 _ ⟨s3, _⟩ => SqT.of (s3 _ _ (s2 _ _ E9))) ?_ ?_
              · rintro j y H3 hj ⟨s3, ls, g3, c3', l3⟩
                obtain ⟨e, hej, pe, sv, dv, rfl, v0, v1, v2⟩ := pr_get P9 hj
                have hjl : j < evs.length := (List.getElem?_eq_some_iff.mp hej).1
                have s23 := s2.trans s3
                refine ⟨rfl, _, rfl, _, _, _, _, rfl, rfl, SqT.of (s23 _ _ v0), rfl, _, rfl, _, _, _, _, rfl, rfl, SqT.of (s23 _ _ r0), rfl, rfl, _, rfl, ite2 (fun hc => ?_) (fun hc => ?_)⟩
                · have heq : e.house = hh.name := V.str.inj (of_decide_eq_true hc)
                  refine ⟨_, rfl, _, g3, small1000 (by omega), fun c o ee => ?_, _, upd_same, ?_, ?_⟩
                  · rw [upd_ne (ne_of_none ee hD2)]
                    exact s3 _ _ ee
                  · rw [take_snoc hej, cnt_snoc, if_pos heq, List.length_append, c3']
                    rfl
                  · rw [List.length_append]
                    exact Nat.succ_le_succ l3
                · have hne : ¬ e.house = hh.name := fun z => hc (decide_eq_true (congrArg V.str z))
                  refine ⟨s3, ls, g3, ?_, by omega⟩
                  rw [take_snoc hej, cnt_snoc, if_neg hne, c3']
                  rfl
              rintro H3 ⟨s3, ls, g3, c3', l3⟩
              rw [elen, List.take_length] at c3'
              refine ⟨_, _, rfl, .inl (SqL.of g3), _, rfl, ?_, ?_⟩
              · rw [c3', Int.natAbs_natCast]
                have h1 : (cnt evs hh.name).log2 ≤ cnt evs hh.name := Nat.log2_le_self _
                have h2 := cnt_le evs hh.name
                omega
              rw [c3']
              have l4 : (hh.name ++ (":" : Str)).length + (natText (cnt evs hh.name)).length ≤ 22 := by omega
              refine ⟨_, _, rfl, rfl, Nat.le_trans l4 (show 22 ≤ sizeLine by decide), _, s3 _ _ g2, ?_, ?_, ?_⟩
              · refine small1000 ?_
                have h1 : (f.names.take i).length ≤ f.names.length := List.length_take_le' _ _
                have h2 : f.names.length = f.houses.length := List.length_map _
                rw [List.length_map]
                omega
              · exact fun c o e => by
                  rw [upd_ne (ne_of_none e hD)]
                  exact s3 _ _ (s2 _ _ e)
              · rw [upd_same, take_snoc en, List.map_append]
                rfl
            rintro H2 ⟨s2, g2⟩
            have eln : f.names.take fhs1.length = f.names := by
              have : fhs1.length = f.names.length := by rw [flen1]; exact (List.length_map _).symm
              rw [this]
              exact List.take_length
            rw [eln] at g2
            -- the last row
            have K2 := K9.same s2
            have ⟨⟨dx, fv1, o1, o2⟩, _, _, _⟩ := K2
            refine ⟨_, rfl, x1, dx, _, rfl, o1, x1, n1, p1, f, evs, _, rfl, K2, fok, by omega, fun H3 s3 => ⟨_, rfl, ?_⟩⟩
            refine ⟨⟨_, rfl⟩, _, rfl, _, D, f.names.map (rowT evs), rfl, rfl, .inl ?_, ?_, rfl, true, ?_, ?_⟩
            · rw [List.map_map]
              exact SqL.of (s3 _ _ g2)
            · have h1 := rows_le (evs := evs) (l := f.names) fun n hn => row_le (by omega) (fok.inp n hn)
              have h2 : f.names.length = f.houses.length := List.length_map _
              have h3 : Str.length (" " : Str) = 1 := by decide +kernel
              rw [List.length_map, h3]
              omega
            · exact congrArg V.bl (decide_eq_true rfl)
            have K3 := K2.same s3
            have ⟨⟨dx3, fv3, o13, o23⟩, _, _, _⟩ := K3
            refine itP rfl ⟨_, rfl, x1, dx3, _, rfl, o13, rfl, x1, n1, p1, f, evs, _, rfl, K3, fun hv4 H4 s4 h4 => ?_⟩
            have s24 := (s2.trans s3).trans s4
            have K4 := K3.same s4
            have ⟨⟨dx4, fv4, o14, o24⟩, _, _, _⟩ := K4
            refine ⟨_, rfl, _, _, h4.dp, (Y9.tk (.of s24)).dp, gdA.shaped (by decide), gdA.shaped (by decide), true, congrArg V.bl gdA.refl, itP rfl ?_⟩
            refine ⟨_, rfl, x1, dx4, _, rfl, o14, x1, n1, p1, f, evs, _, rfl, K4, evs.length, rfl, Nat.lt_of_lt_of_le el2 (by decide), ?_⟩
            refine ⟨_, rfl, _, _, rfl, .inr (SqT.of (s24 _ _ E9)), rfl, ?_⟩
            rw [elen]
            have z : decide (V.int ((evs.length : Nat) : Int) = V.int ((evs.length : Nat) : Int)) = true := decide_eq_true rfl
            rw [z]
            exact q _
    · intro rest
      refine ⟨_, _, rfl, SqT.of c3, fun z => rest _ _ ⟨flp', fls', rfl, Same.refl _, c3, ?_⟩, fun _ p hp => rest _ _ ⟨p, _, rfl, same_new hp, upd_same, ?_⟩⟩
      · have hz : fls' = [] := by
          have z2 := z.2
          rw [dl_cut] at z2
          exact List.length_eq_zero_iff.mp (by omega)
        subst hz
        have : f.links = [] := List.length_eq_zero_iff.mp (pr_len c4).symm
        show Paired _ [] f.links.dropLast
        rw [this]
        exact .nil
      · have ec : cutV fls' none (some (-1)) = fls'.dropLast := by
          unfold cutV
          rw [HT.sIx_none, dl_cut, List.drop_zero, Nat.sub_zero, List.dropLast_eq_take]
        rw [ec]
        exact pr_mono (fun _ _ z => LkAt.tk z (TK.new hp)) (pr_dl c4)
end
end Lc
/-! The head's facts, the walk's Tx, the law's end (printed by genhead.py). -/
namespace Lc
open PySem PySem.Spec PyProof.Rows L2

def df_common_divisor : He.DefD := ⟨("common_divisor", none), "common_divisor", "common_divisor", defArgs s_common_divisor, defBody s_common_divisor, defScope s_common_divisor, [], []⟩
def df_ratio : He.DefD := ⟨("ratio", none), "ratio", "ratio", defArgs s_ratio, defBody s_ratio, defScope s_ratio, [], []⟩
def df_added : He.DefD := ⟨("added", none), "added", "added", defArgs s_added, defBody s_added, defScope s_added, [], []⟩
def df_less : He.DefD := ⟨("less", none), "less", "less", defArgs s_less, defBody s_less, defScope s_less, [], []⟩
def df_parted : He.DefD := ⟨("parted", none), "parted", "parted", defArgs s_parted, defBody s_parted, defScope s_parted, [], []⟩
def df_is_below : He.DefD := ⟨("is_below", none), "is_below", "is_below", defArgs s_is_below, defBody s_is_below, defScope s_is_below, [], []⟩
def df_rates : He.DefD := ⟨("rates", none), "rates", "rates", defArgs s_rates, defBody s_rates, defScope s_rates, [], []⟩
def df_nexts_of : He.DefD := ⟨("nexts_of", none), "nexts_of", "nexts_of", defArgs s_nexts_of, defBody s_nexts_of, defScope s_nexts_of, [], []⟩
def df_moved : He.DefD := ⟨("moved", none), "moved", "moved", defArgs s_moved, defBody s_moved, defScope s_moved, [], []⟩
def df_greater_low : He.DefD := ⟨("greater_low", none), "greater_low", "greater_low", defArgs s_greater_low, defBody s_greater_low, defScope s_greater_low, [], []⟩
def df_lesser_high : He.DefD := ⟨("lesser_high", none), "lesser_high", "lesser_high", defArgs s_lesser_high, defBody s_lesser_high, defScope s_lesser_high, [], []⟩
def df_pair_of : He.DefD := ⟨("pair_of", none), "pair_of", "pair_of", defArgs s_pair_of, defBody s_pair_of, defScope s_pair_of, [], []⟩
def df_kept_pairs : He.DefD := ⟨("kept_pairs", none), "kept_pairs", "kept_pairs", defArgs s_kept_pairs, defBody s_kept_pairs, defScope s_kept_pairs, [], []⟩
def df_init : He.DefD := ⟨("Keeper", some "__init__"), "__init__", "Keeper.__init__", defArgs s_init, defBody s_init, defScope s_init, [], []⟩
def df_len : He.DefD := ⟨("Keeper", some "__len__"), "__len__", "Keeper.__len__", defArgs s_len, defBody s_len, defScope s_len, [], []⟩
def df_eq : He.DefD := ⟨("Keeper", some "__eq__"), "__eq__", "Keeper.__eq__", defArgs s_eq, defBody s_eq, defScope s_eq, [], []⟩
def df_str : He.DefD := ⟨("Keeper", some "__str__"), "__str__", "Keeper.__str__", defArgs s_str, defBody s_str, defScope s_str, [], []⟩
def df_history : He.DefD := ⟨("Keeper", some "history"), "history", "Keeper.history", defArgs s_history, defBody s_history, defScope s_history, [], []⟩
def df_ask_house : He.DefD := ⟨("Keeper", some "ask_house"), "ask_house", "Keeper.ask_house", defArgs s_ask_house, defBody s_ask_house, defScope s_ask_house, [], []⟩
def df_ask_deed : He.DefD := ⟨("Keeper", some "ask_deed"), "ask_deed", "Keeper.ask_deed", defArgs s_ask_deed, defBody s_ask_deed, defScope s_ask_deed, [], []⟩
def df_note : He.DefD := ⟨("Keeper", some "note"), "note", "Keeper.note", defArgs s_note, defBody s_note, defScope s_note, [], []⟩
def df_pair : He.DefD := ⟨("Keeper", some "pair"), "pair", "Keeper.pair", defArgs s_pair, defBody s_pair, defScope s_pair, [], []⟩
def df_now : He.DefD := ⟨("Keeper", some "now"), "now", "Keeper.now", defArgs s_now, defBody s_now, defScope s_now, [], []⟩
def df_law_tape : He.DefD := ⟨("_law_tape", none), "_law_tape", "_law_tape", defArgs s_law_tape, defBody s_law_tape, defScope s_law_tape, [], []⟩
def df_law_draw : He.DefD := ⟨("_law_draw", none), "_law_draw", "_law_draw", defArgs s_law_draw, defBody s_law_draw, defScope s_law_draw, [], []⟩
def df_law_low : He.DefD := ⟨("_law_low", none), "_law_low", "_law_low", defArgs s_law_low, defBody s_law_low, defScope s_law_low, [], []⟩
def df_law_plus : He.DefD := ⟨("_law_plus", none), "_law_plus", "_law_plus", defArgs s_law_plus, defBody s_law_plus, defScope s_law_plus, [], []⟩
def df_law_by : He.DefD := ⟨("_law_by", none), "_law_by", "_law_by", defArgs s_law_by, defBody s_law_by, defScope s_law_by, [], []⟩
def df_law_over : He.DefD := ⟨("_law_over", none), "_law_over", "_law_over", defArgs s_law_over, defBody s_law_over, defScope s_law_over, [], []⟩
def df_law_is_less : He.DefD := ⟨("_law_is_less", none), "_law_is_less", "_law_is_less", defArgs s_law_is_less, defBody s_law_is_less, defScope s_law_is_less, [], []⟩
def df_law_field : He.DefD := ⟨("_law_field", none), "_law_field", "_law_field", defArgs s_law_field, defBody s_law_field, defScope s_law_field, [], []⟩
def df_law_can_hear : He.DefD := ⟨("_law_can_hear", none), "_law_can_hear", "_law_can_hear", defArgs s_law_can_hear, defBody s_law_can_hear, defScope s_law_can_hear, [], []⟩
def df_law_deed : He.DefD := ⟨("_law_deed", none), "_law_deed", "_law_deed", defArgs s_law_deed, defBody s_law_deed, defScope s_law_deed, [], []⟩
def df_law_lived : He.DefD := ⟨("_law_lived", none), "_law_lived", "_law_lived", defArgs s_law_lived, defBody s_law_lived, defScope s_law_lived, [], []⟩
def df_law_now_right : He.DefD := ⟨("_law_now_right", none), "_law_now_right", "_law_now_right", defArgs s_law_now_right, defBody s_law_now_right, defScope s_law_now_right, [], []⟩
def df_law : He.DefD := ⟨("law", none), "law", "law", defArgs s_law, defBody s_law, defScope s_law, [], []⟩
def fn : List He.DefD := [df_common_divisor, df_ratio, df_added, df_less, df_parted, df_is_below, df_rates, df_nexts_of, df_moved, df_greater_low, df_lesser_high, df_pair_of, df_kept_pairs, df_init, df_len, df_eq, df_str, df_history, df_ask_house, df_ask_deed, df_note, df_pair, df_now, df_law_tape, df_law_draw, df_law_low, df_law_plus, df_law_by, df_law_over, df_law_is_less, df_law_field, df_law_can_hear, df_law_deed, df_law_lived, df_law_now_right, df_law]
def fa : List He.Fa := [.glo "common_divisor", .glo "ratio", .glo "added", .glo "less", .glo "parted", .glo "is_below", .glo "rates", .glo "nexts_of", .glo "moved", .glo "greater_low", .glo "lesser_high", .glo "pair_of", .glo "kept_pairs", .meth "Keeper" "__init__", .meth "Keeper" "__len__", .meth "Keeper" "__eq__", .meth "Keeper" "__str__", .meth "Keeper" "history", .meth "Keeper" "ask_house", .meth "Keeper" "ask_deed", .meth "Keeper" "note", .meth "Keeper" "pair", .meth "Keeper" "now", .glo "_law_tape", .glo "_law_draw", .glo "_law_low", .glo "_law_plus", .glo "_law_by", .glo "_law_over", .glo "_law_is_less", .glo "_law_field", .glo "_law_can_hear", .glo "_law_deed", .glo "_law_lived", .glo "_law_now_right", .glo "law", .free "len", .free "abs", .free "range", .free "reversed", .free "tuple", .free "isinstance", .free "sorted", .free "dict", .free "repr", .free "str", .cls "Keeper", .mkr "Keeper", .noat "Keeper" "own_field", .noat "Keeper" "noted", .noat "Keeper" "pairs", .int "LOW" 0, .int "HIGH" 1, .glo "Keeper"]
def names1 : List PySem.Str := (["ClockError", "LackError", "NoEvent", "NoHouse", "NoLink", "NoNumber", "common_divisor", "ratio", "added", "less", "parted", "is_below", "LOW", "HIGH", "rates", "nexts_of", "moved"] : List PySem.Str)
def names2 : List PySem.Str := (["greater_low", "lesser_high", "pair_of", "kept_pairs", "Keeper", "_law_tape", "_law_draw", "_law_low", "_law_plus", "_law_by", "_law_over", "_law_is_less", "_law_field", "_law_can_hear", "_law_deed", "_law_lived", "_law_now_right"] : List PySem.Str)
def names : List PySem.Str := names1 ++ names2
def kinds : List String := ["NoneType", "int", "bool", "list", "tuple", "str"]
/-- what else is asked of the class -/
def extra (K : PySem.W.Frag) : Bool := He.eqO (PySem.W.findIn K (.ref (He.ga K "Keeper")) "__ne__") (some (some (.builtin "object.__ne__"))) && (He.eqO (PySem.W.findIn K (.ref (He.ga K "Keeper")) "__class__") (some (some (.builtin "object.__class__"))) &&
  (He.eqO (PySem.W.specialIn K (.builtin "object.__class__") "__get__") (some (some (.builtin "getset_descriptor.__get__"))) && (decide (PySem.W.takesIn K (.builtin "object.__class__") = some true) && (decide (PySem.W.mroIn K (He.ga K "Keeper") (.type "object") = some true) &&
  (decide (PySem.W.kitOne K (.ref (He.ga K "Keeper")) (.ref (He.ga K "Keeper")) = some true) && ((kinds.all fun T => decide (PySem.W.kitOne K (.type T) (.ref (He.ga K "Keeper")) = some false)) && (kinds.all fun T => decide (PySem.W.subIn K (.type T) (.ref (He.ga K "Keeper")) = some false))))))))
theorem extra_ok {K : PySem.W.Frag} (h : extra K = true) : PySem.W.findIn K (.ref (He.ga K "Keeper")) "__ne__" = some (some (.builtin "object.__ne__")) ∧ PySem.W.findIn K (.ref (He.ga K "Keeper")) "__class__" = some (some (.builtin "object.__class__")) ∧
    PySem.W.specialIn K (.builtin "object.__class__") "__get__" = some (some (.builtin "getset_descriptor.__get__")) ∧ PySem.W.takesIn K (.builtin "object.__class__") = some true ∧ PySem.W.mroIn K (He.ga K "Keeper") (.type "object") = some true ∧
    PySem.W.kitOne K (.ref (He.ga K "Keeper")) (.ref (He.ga K "Keeper")) = some true ∧ (∀ T ∈ kinds, PySem.W.kitOne K (.type T) (.ref (He.ga K "Keeper")) = some false) ∧ ∀ T ∈ kinds, PySem.W.subIn K (.type T) (.ref (He.ga K "Keeper")) = some false := by
  obtain ⟨h1, h⟩ := He.ba h
  obtain ⟨h2, h⟩ := He.ba h
  obtain ⟨h3, h⟩ := He.ba h
  obtain ⟨h4, h⟩ := He.ba h
  obtain ⟨h5, h⟩ := He.ba h
  obtain ⟨h6, h⟩ := He.ba h
  obtain ⟨h7, h8⟩ := He.ba h
  exact ⟨He.eqO_ok h1, He.eqO_ok h2, He.eqO_ok h3, of_decide_eq_true h4, of_decide_eq_true h5, of_decide_eq_true h6, fun T hT => of_decide_eq_true (List.all_eq_true.mp h7 T hT), fun T hT => of_decide_eq_true (List.all_eq_true.mp h8 T hT)⟩
abbrev AlX : Type := Bool × He.AlD
def obsX (K : PySem.W.Frag) : AlX := (extra K, He.obsD fa fn K)
def obsXG (g : Addr → Option Obj) : AlX := obsX (He.frG g (He.asD g 5))
def hk : PySem.W.Hook where
  α := AlX
  obs := fun s => obsXG s.heap.get?
  val := fun _ => (true, He.valD fn)
  says := fun _ h => ∃ K : PySem.W.Frag, K.In h ∧ extra K = true ∧ He.SaysD fa fn K
  of := fun _ _ e => ⟨_, He.frG_in, congrArg (fun z : AlX => z.1) e, congrArg (fun z : AlX => z.2) e⟩
  keeps := fun _ _ _ ⟨K, hK, c⟩ k => ⟨K, PySem.W.Frag.In.keeps hK k, c⟩
def ob (s : PySem.W.SharedT) : AlX := obsXG (HandSHeadRun.getT s)
theorem ob_eq (s : PySem.W.SharedT) : ob s = hk.obs s.abs := by
  have e : HandSHeadRun.getT s = s.abs.heap.get? := funext (HandSHeadRun.getT_eq s)
  show obsXG (HandSHeadRun.getT s) = obsXG s.abs.heap.get?
  rw [e]
abbrev R : PySem.W.OpenRow := PySem.W.OpenLaw.row PySem.Challenge.rw_ledclocks_k44_whole_keeper_as_kept
theorem run (w : World) : HandSHeadRun.RunEq R (PySem.W.view R.prog [39]) hk ob 4000 names w := by
  intro os
  kernel_rfl

theorem mk_tx {K : PySem.W.Frag} {h : Heap} {mg : Str → Option Value} (X : K.In h) (G : h.Ns mainGlobals mg) (xt : extra K = true) (c : He.SaysD fa fn K) : ∃ T : Tx K mg, T.C = He.ga K "Keeper" ∧ T.a_law = He.ga K "law" := by
  obtain ⟨d0, F0⟩ := c.def_ 0 (d := df_common_divisor) rfl
  obtain ⟨d1, F1⟩ := c.def_ 1 (d := df_ratio) rfl
  obtain ⟨d2, F2⟩ := c.def_ 2 (d := df_added) rfl
  obtain ⟨d3, F3⟩ := c.def_ 3 (d := df_less) rfl
  obtain ⟨d4, F4⟩ := c.def_ 4 (d := df_parted) rfl
  obtain ⟨d5, F5⟩ := c.def_ 5 (d := df_is_below) rfl
  obtain ⟨d6, F6⟩ := c.def_ 6 (d := df_rates) rfl
  obtain ⟨d7, F7⟩ := c.def_ 7 (d := df_nexts_of) rfl
  obtain ⟨d8, F8⟩ := c.def_ 8 (d := df_moved) rfl
  obtain ⟨d9, F9⟩ := c.def_ 9 (d := df_greater_low) rfl
  obtain ⟨d10, F10⟩ := c.def_ 10 (d := df_lesser_high) rfl
  obtain ⟨d11, F11⟩ := c.def_ 11 (d := df_pair_of) rfl
  obtain ⟨d12, F12⟩ := c.def_ 12 (d := df_kept_pairs) rfl
  obtain ⟨d13, F13⟩ := c.def_ 13 (d := df_init) rfl
  obtain ⟨d14, F14⟩ := c.def_ 14 (d := df_len) rfl
  obtain ⟨d15, F15⟩ := c.def_ 15 (d := df_eq) rfl
  obtain ⟨d16, F16⟩ := c.def_ 16 (d := df_str) rfl
  obtain ⟨d17, F17⟩ := c.def_ 17 (d := df_history) rfl
  obtain ⟨d18, F18⟩ := c.def_ 18 (d := df_ask_house) rfl
  obtain ⟨d19, F19⟩ := c.def_ 19 (d := df_ask_deed) rfl
  obtain ⟨d20, F20⟩ := c.def_ 20 (d := df_note) rfl
  obtain ⟨d21, F21⟩ := c.def_ 21 (d := df_pair) rfl
  obtain ⟨d22, F22⟩ := c.def_ 22 (d := df_now) rfl
  obtain ⟨d23, F23⟩ := c.def_ 23 (d := df_law_tape) rfl
  obtain ⟨d24, F24⟩ := c.def_ 24 (d := df_law_draw) rfl
  obtain ⟨d25, F25⟩ := c.def_ 25 (d := df_law_low) rfl
  obtain ⟨d26, F26⟩ := c.def_ 26 (d := df_law_plus) rfl
  obtain ⟨d27, F27⟩ := c.def_ 27 (d := df_law_by) rfl
  obtain ⟨d28, F28⟩ := c.def_ 28 (d := df_law_over) rfl
  obtain ⟨d29, F29⟩ := c.def_ 29 (d := df_law_is_less) rfl
  obtain ⟨d30, F30⟩ := c.def_ 30 (d := df_law_field) rfl
  obtain ⟨d31, F31⟩ := c.def_ 31 (d := df_law_can_hear) rfl
  obtain ⟨d32, F32⟩ := c.def_ 32 (d := df_law_deed) rfl
  obtain ⟨d33, F33⟩ := c.def_ 33 (d := df_law_lived) rfl
  obtain ⟨d34, F34⟩ := c.def_ 34 (d := df_law_now_right) rfl
  obtain ⟨d35, F35⟩ := c.def_ 35 (d := df_law) rfl
  obtain ⟨tl, ml⟩ := He.int_ok X G (c.fact 51 (f := .int "LOW" 0) rfl)
  obtain ⟨th, mh⟩ := He.int_ok X G (c.fact 52 (f := .int "HIGH" 1) rfl)
  obtain ⟨x1, x2, x3, x4, x5, x8, x6, x7⟩ := extra_ok xt
  exact ⟨{
    C := He.ga K "Keeper",
    a_common_divisor := He.ga K "common_divisor",
    d_common_divisor := d0,
    common_divisor := ⟨F0, He.glo_ok X G (c.fact 0 (f := .glo "common_divisor") rfl), (F0.bindsN (ps := p_common_divisor) fun _ _ _ _ _ _ us hl => match us, hl with | [_, _], _ => rfl)⟩,
    a_ratio := He.ga K "ratio",
    d_ratio := d1,
    ratio := ⟨F1, He.glo_ok X G (c.fact 1 (f := .glo "ratio") rfl), (F1.bindsN (ps := p_ratio) fun _ _ _ _ _ _ us hl => match us, hl with | [_, _], _ => rfl)⟩,
    a_added := He.ga K "added",
    d_added := d2,
    added := ⟨F2, He.glo_ok X G (c.fact 2 (f := .glo "added") rfl), (F2.bindsN (ps := p_added) fun _ _ _ _ _ _ us hl => match us, hl with | [_, _], _ => rfl)⟩,
    a_less := He.ga K "less",
    d_less := d3,
    less := ⟨F3, He.glo_ok X G (c.fact 3 (f := .glo "less") rfl), (F3.bindsN (ps := p_less) fun _ _ _ _ _ _ us hl => match us, hl with | [_, _], _ => rfl)⟩,
    a_parted := He.ga K "parted",
    d_parted := d4,
    parted := ⟨F4, He.glo_ok X G (c.fact 4 (f := .glo "parted") rfl), (F4.bindsN (ps := p_parted) fun _ _ _ _ _ _ us hl => match us, hl with | [_, _], _ => rfl)⟩,
    a_is_below := He.ga K "is_below",
    d_is_below := d5,
    is_below := ⟨F5, He.glo_ok X G (c.fact 5 (f := .glo "is_below") rfl), (F5.bindsN (ps := p_is_below) fun _ _ _ _ _ _ us hl => match us, hl with | [_, _], _ => rfl)⟩,
    a_rates := He.ga K "rates",
    d_rates := d6,
    rates := ⟨F6, He.glo_ok X G (c.fact 6 (f := .glo "rates") rfl), (F6.bindsN (ps := p_rates) fun _ _ _ _ _ _ us hl => match us, hl with | [_], _ => rfl)⟩,
    a_nexts_of := He.ga K "nexts_of",
    d_nexts_of := d7,
    nexts_of := ⟨F7, He.glo_ok X G (c.fact 7 (f := .glo "nexts_of") rfl), (F7.bindsN (ps := p_nexts_of) fun _ _ _ _ _ _ us hl => match us, hl with | [_, _], _ => rfl)⟩,
    a_moved := He.ga K "moved",
    d_moved := d8,
    moved := ⟨F8, He.glo_ok X G (c.fact 8 (f := .glo "moved") rfl), (F8.bindsN (ps := p_moved) fun _ _ _ _ _ _ us hl => match us, hl with | [_, _], _ => rfl)⟩,
    a_greater_low := He.ga K "greater_low",
    d_greater_low := d9,
    greater_low := ⟨F9, He.glo_ok X G (c.fact 9 (f := .glo "greater_low") rfl), (F9.bindsN (ps := p_greater_low) fun _ _ _ _ _ _ us hl => match us, hl with | [_, _], _ => rfl)⟩,
    a_lesser_high := He.ga K "lesser_high",
    d_lesser_high := d10,
    lesser_high := ⟨F10, He.glo_ok X G (c.fact 10 (f := .glo "lesser_high") rfl), (F10.bindsN (ps := p_lesser_high) fun _ _ _ _ _ _ us hl => match us, hl with | [_, _], _ => rfl)⟩,
    a_pair_of := He.ga K "pair_of",
    d_pair_of := d11,
    pair_of := ⟨F11, He.glo_ok X G (c.fact 11 (f := .glo "pair_of") rfl), (F11.bindsN (ps := p_pair_of) fun _ _ _ _ _ _ us hl => match us, hl with | [_, _, _], _ => rfl)⟩,
    a_kept_pairs := He.ga K "kept_pairs",
    d_kept_pairs := d12,
    kept_pairs := ⟨F12, He.glo_ok X G (c.fact 12 (f := .glo "kept_pairs") rfl), (F12.bindsN (ps := p_kept_pairs) fun _ _ _ _ _ _ us hl => match us, hl with | [_], _ => rfl)⟩,
    a_init := He.ma K (He.ga K "Keeper") "__init__",
    d_init := d13,
    init := ⟨F13, He.meth_ok (c.fact 13 (f := .meth "Keeper" "__init__") rfl), (F13.bindsN (ps := p_init) fun _ _ _ _ _ _ us hl => match us, hl with | [_, _], _ => rfl)⟩,
    a_len := He.ma K (He.ga K "Keeper") "__len__",
    d_len := d14,
    len := ⟨F14, He.meth_ok (c.fact 14 (f := .meth "Keeper" "__len__") rfl), (F14.bindsN (ps := p_len) fun _ _ _ _ _ _ us hl => match us, hl with | [_], _ => rfl)⟩,
    a_eq := He.ma K (He.ga K "Keeper") "__eq__",
    d_eq := d15,
    eq := ⟨F15, He.meth_ok (c.fact 15 (f := .meth "Keeper" "__eq__") rfl), (F15.bindsN (ps := p_eq) fun _ _ _ _ _ _ us hl => match us, hl with | [_, _], _ => rfl)⟩,
    a_str := He.ma K (He.ga K "Keeper") "__str__",
    d_str := d16,
    str := ⟨F16, He.meth_ok (c.fact 16 (f := .meth "Keeper" "__str__") rfl), (F16.bindsN (ps := p_str) fun _ _ _ _ _ _ us hl => match us, hl with | [_], _ => rfl)⟩,
    a_history := He.ma K (He.ga K "Keeper") "history",
    d_history := d17,
    history := ⟨F17, He.meth_ok (c.fact 17 (f := .meth "Keeper" "history") rfl), (F17.bindsN (ps := p_history) fun _ _ _ _ _ _ us hl => match us, hl with | [_], _ => rfl)⟩,
    a_ask_house := He.ma K (He.ga K "Keeper") "ask_house",
    d_ask_house := d18,
    ask_house := ⟨F18, He.meth_ok (c.fact 18 (f := .meth "Keeper" "ask_house") rfl), (F18.bindsN (ps := p_ask_house) fun _ _ _ _ _ _ us hl => match us, hl with | [_, _, _], _ => rfl)⟩,
    a_ask_deed := He.ma K (He.ga K "Keeper") "ask_deed",
    d_ask_deed := d19,
    ask_deed := ⟨F19, He.meth_ok (c.fact 19 (f := .meth "Keeper" "ask_deed") rfl), (F19.bindsN (ps := p_ask_deed) fun _ _ _ _ _ _ us hl => match us, hl with | [_, _, _], _ => rfl)⟩,
    a_note := He.ma K (He.ga K "Keeper") "note",
    d_note := d20,
    note := ⟨F20, He.meth_ok (c.fact 20 (f := .meth "Keeper" "note") rfl), (F20.bindsN (ps := p_note) fun _ _ _ _ _ _ us hl => match us, hl with | [_, _, _, _], _ => rfl)⟩,
    a_pair := He.ma K (He.ga K "Keeper") "pair",
    d_pair := d21,
    pair := ⟨F21, He.meth_ok (c.fact 21 (f := .meth "Keeper" "pair") rfl), (F21.bindsN (ps := p_pair) fun _ _ _ _ _ _ us hl => match us, hl with | [_, _], _ => rfl)⟩,
    a_now := He.ma K (He.ga K "Keeper") "now",
    d_now := d22,
    now := ⟨F22, He.meth_ok (c.fact 22 (f := .meth "Keeper" "now") rfl), (F22.bindsN (ps := p_now) fun _ _ _ _ _ _ us hl => match us, hl with | [_, _, _], _ => rfl)⟩,
    a_law_tape := He.ga K "_law_tape",
    d_law_tape := d23,
    law_tape := ⟨F23, He.glo_ok X G (c.fact 23 (f := .glo "_law_tape") rfl), (F23.bindsN (ps := p_law_tape) fun _ _ _ _ _ _ us hl => match us, hl with | [_], _ => rfl)⟩,
    a_law_draw := He.ga K "_law_draw",
    d_law_draw := d24,
    law_draw := ⟨F24, He.glo_ok X G (c.fact 24 (f := .glo "_law_draw") rfl), (F24.bindsN (ps := p_law_draw) fun _ _ _ _ _ _ us hl => match us, hl with | [_, _], _ => rfl)⟩,
    a_law_low := He.ga K "_law_low",
    d_law_low := d25,
    law_low := ⟨F25, He.glo_ok X G (c.fact 25 (f := .glo "_law_low") rfl), (F25.bindsN (ps := p_law_low) fun _ _ _ _ _ _ us hl => match us, hl with | [_, _], _ => rfl)⟩,
    a_law_plus := He.ga K "_law_plus",
    d_law_plus := d26,
    law_plus := ⟨F26, He.glo_ok X G (c.fact 26 (f := .glo "_law_plus") rfl), (F26.bindsN (ps := p_law_plus) fun _ _ _ _ _ _ us hl => match us, hl with | [_, _], _ => rfl)⟩,
    a_law_by := He.ga K "_law_by",
    d_law_by := d27,
    law_by := ⟨F27, He.glo_ok X G (c.fact 27 (f := .glo "_law_by") rfl), (F27.bindsN (ps := p_law_by) fun _ _ _ _ _ _ us hl => match us, hl with | [_, _], _ => rfl)⟩,
    a_law_over := He.ga K "_law_over",
    d_law_over := d28,
    law_over := ⟨F28, He.glo_ok X G (c.fact 28 (f := .glo "_law_over") rfl), (F28.bindsN (ps := p_law_over) fun _ _ _ _ _ _ us hl => match us, hl with | [_, _], _ => rfl)⟩,
    a_law_is_less := He.ga K "_law_is_less",
    d_law_is_less := d29,
    law_is_less := ⟨F29, He.glo_ok X G (c.fact 29 (f := .glo "_law_is_less") rfl), (F29.bindsN (ps := p_law_is_less) fun _ _ _ _ _ _ us hl => match us, hl with | [_, _], _ => rfl)⟩,
    a_law_field := He.ga K "_law_field",
    d_law_field := d30,
    law_field := ⟨F30, He.glo_ok X G (c.fact 30 (f := .glo "_law_field") rfl), (F30.bindsN (ps := p_law_field) fun _ _ _ _ _ _ us hl => match us, hl with | [_], _ => rfl)⟩,
    a_law_can_hear := He.ga K "_law_can_hear",
    d_law_can_hear := d31,
    law_can_hear := ⟨F31, He.glo_ok X G (c.fact 31 (f := .glo "_law_can_hear") rfl), (F31.bindsN (ps := p_law_can_hear) fun _ _ _ _ _ _ us hl => match us, hl with | [_, _, _, _, _], _ => rfl)⟩,
    a_law_deed := He.ga K "_law_deed",
    d_law_deed := d32,
    law_deed := ⟨F32, He.glo_ok X G (c.fact 32 (f := .glo "_law_deed") rfl), (F32.bindsN (ps := p_law_deed) fun _ _ _ _ _ _ us hl => match us, hl with | [_, _, _, _], _ => rfl)⟩,
    a_law_lived := He.ga K "_law_lived",
    d_law_lived := d33,
    law_lived := ⟨F33, He.glo_ok X G (c.fact 33 (f := .glo "_law_lived") rfl), (F33.bindsN (ps := p_law_lived) fun _ _ _ _ _ _ us hl => match us, hl with | [_, _, _], _ => rfl)⟩,
    a_law_now_right := He.ga K "_law_now_right",
    d_law_now_right := d34,
    law_now_right := ⟨F34, He.glo_ok X G (c.fact 34 (f := .glo "_law_now_right") rfl), (F34.bindsN (ps := p_law_now_right) fun _ _ _ _ _ _ us hl => match us, hl with | [_, _, _, _], _ => rfl)⟩,
    a_law := He.ga K "law",
    d_law := d35,
    law := ⟨F35, He.glo_ok X G (c.fact 35 (f := .glo "law") rfl), (F35.bindsN (ps := p_law) fun _ _ _ _ _ _ us hl => match us, hl with | [_], _ => rfl)⟩,
    blen := He.free_ok X G (c.fact 36 (f := .free "len") rfl),
    babs := He.free_ok X G (c.fact 37 (f := .free "abs") rfl),
    brange := He.free_ok X G (c.fact 38 (f := .free "range") rfl),
    breversed := He.free_ok X G (c.fact 39 (f := .free "reversed") rfl),
    btuple := He.free_ok X G (c.fact 40 (f := .free "tuple") rfl),
    bisinstance := He.free_ok X G (c.fact 41 (f := .free "isinstance") rfl),
    bsorted := He.free_ok X G (c.fact 42 (f := .free "sorted") rfl),
    bdict := He.free_ok X G (c.fact 43 (f := .free "dict") rfl),
    brepr := He.free_ok X G (c.fact 44 (f := .free "repr") rfl),
    bstr := He.free_ok X G (c.fact 45 (f := .free "str") rfl),
    cl := He.cls_ok (c.fact 46 (f := .cls "Keeper") rfl),
    mkK := He.mkr_ok (c.fact 47 (f := .mkr "Keeper") rfl),
    nf := He.noat_ok (c.fact 48 (f := .noat "Keeper" "own_field") rfl),
    nn := He.noat_ok (c.fact 49 (f := .noat "Keeper" "noted") rfl),
    np := He.noat_ok (c.fact 50 (f := .noat "Keeper" "pairs") rfl),
    tLOW := tl,
    mLOW := ml,
    tHIGH := th,
    mHIGH := mh,
    mKeeper := He.glo_ok X G (c.fact 53 (f := .glo "Keeper") rfl),
    hne := x1,
    ca := x2,
    cn := x3,
    ct := x4,
    kit := x6,
    co := x5,
    kitC := x8,
    sub := x7 }, rfl, rfl⟩
theorem facts {P : Program} {w : World} {K : PySem.W.Frag} {h : Heap} {mg : Str → Option Value} {f : Addr} (X : K.In h) (G : h.Ns mainGlobals mg) (hfa : mg ("law" : Str) = some (.ref f)) (xt : extra K = true) (c : He.SaysD fa fn K) :
    ∃ fd : FuncData, (∀ (s : Shared) (v : Value), BindsTo s fd ⟨[v], []⟩ [("_law_script", v)]) ∧ ∀ base : Heap, FnG P w K mg base 8 f fd ["_law_script"] (spLaw (He.ga K "Keeper") K) := by
  obtain ⟨T, hC, hL⟩ := mk_tx X G xt c
  have e : f = T.a_law := by
    have z := hfa.symm.trans T.law.m
    cases z
    rfl
  subst e
  have b := FunD.bindsA (ps := ["_law_script"]) T.law.F fun _ _ _ _ _ _ us hl => match us, hl with | [_], _ => rfl
  exact ⟨T.d_law, fun s v => b s [v] rfl, fun base => hC ▸ ok_law T⟩
end Lc
open PySem PySem.W PySem.Calls PyProof.Rows
theorem PySem.Challenge.cw_ledclocks_k44_whole_keeper_as_kept_holds : PySem.Challenge.rw_ledclocks_k44_whole_keeper_as_kept.Holds := by
  w_on; o_law
  refine HandSHeadRun.head_any (r := OpenLaw.row PySem.Challenge.rw_ledclocks_k44_whole_keeper_as_kept) (q := view (OpenLaw.row PySem.Challenge.rw_ledclocks_k44_whole_keeper_as_kept).prog [39]) (H := Lc.hk) (ob := Lc.ob) (M := 4000) (loose := Lc.names) (d := HandSHeadRun.topDef (OpenLaw.row PySem.Challenge.rw_ledclocks_k44_whole_keeper_as_kept).prog 39) (kwd := []) Lc.ob_eq
    (by kernel_rfl) (fun s => by kernel_rfl) Lc.run (by kernel_rfl) (by kernel_rfl) (by kernel_rfl) (by rfl) (by first | assumption | decide +kernel) (by decide +kernel) ⟨rfl, rfl, rfl, rfl, rfl, by decide +kernel⟩ ?hw ?hc
  case hw => w_witness2
  case hc =>
    refine Lc.walk_G (l := PySem.Challenge.rw_ledclocks_k44_whole_keeper_as_kept) (n := 63) (k := 8) (x := "_law_script") rfl (by decide) (by kernel_rfl) ⟨rfl, by decide, by decide⟩ ?F
    intro w mg fa h Y G hmg0
    obtain ⟨K, KX, xt, c⟩ := Y
    have hmg : mg ("law" : PySem.Str) = some (.ref fa) := by
      have e : (HandSHeadRun.topDef (OpenLaw.row PySem.Challenge.rw_ledclocks_k44_whole_keeper_as_kept).prog 39).name = ("law" : PySem.Str) := by kernel_rfl
      rw [← e]
      exact hmg0
    obtain ⟨fd, hb, hF⟩ := Lc.facts (P := (PySem.Challenge.rw_ledclocks_k44_whole_keeper_as_kept).prog) (w := w) KX G hmg xt c
    exact ⟨K, fd, Lc.spLaw (He.ga K "Keeper") K, KX, hb, fun H a ns hl _ hS => ⟨a, ns, rfl, hS, hl, fun _ => rfl⟩, fun base _ _ => hF base⟩
