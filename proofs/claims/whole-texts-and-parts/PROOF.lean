import PyProof.Rows.All
import Wide.All
import OpenK.AllK
import Wide.FinOn
import PyProof.EqAt
import PyProof.EqKinds
import PyProof.TupleCall
import PyProof.InstNe
import KE.GoesEnum
import KE.KCallOwn
import KE.KFmtOwn
import HandS.ForMost
import HandS.WordsExc
import HandS.SlotsOwn
import KE.KStateDown
import Lean
import HandS.Head0
import HandS.Head1
import HandS.Head2
import HandS.HeadEnd
import HandS.HeadNt
import HandS.Codes
import HandS.IsInst
import HandS.FStr
import HandS.TupAny
import HandS.Style
import HandS.Flow
import HandS.Defaults
import PySem.Challenge.RW_hastypage_k20_whole_texts_and_parts
set_option Elab.async false
set_option linter.all false
set_option maxRecDepth 100000
set_option maxHeartbeats 4000000
/-! Own special methods of plain instances (len, str, +, !=, []), enumerate over a tuple. -/
namespace HkLow
open PySem PySem.W PySem.Spec PySem.Calls PyProof.Rows
section
variable {prog : Program} {w : World} {A : Around} {E : Value → Shared → Prop} {s : Shared} {K : PySem.W.Frag} {x y C f : Addr} {ox oy : Obj} {od od' : Option Obj}
open Builtin in
theorem ne_entry {Q : Fin → Shared → Prop} (X : K.In s.heap) (I : InstAt s.heap x ox C od) (he : findIn K (.ref C) "__eq__" = some (some (.ref f))) (hf : isFn K (.ref f) = true) (hu : A.units < cLine)
    (h : wpAny (model prog w) A (call (.ref f) [.ref x, .ref y]) (fun v s' => ∃ b, v = .bool b ∧ Q (.done (.ret (.bool (!b)))) s') E s) :
    wpAny (model prog w) A (Builtin.«object.__ne__» ⟨[.ref x, .ref y], []⟩) Q E s := by
  unfold Builtin.«object.__ne__»
  repeat (first
    | with_reducible refine wpAny_cRoomFor hu ?_
    | (refine wpAny_bind (m := callSpecialIfBound? (.ref x) (Str.ofString "__eq__") [.ref y])
        (ifBound_K X I he hf (wpAny_mono h (fun r s' hr => by
          obtain ⟨b, rfl, hq⟩ := hr
          repeat (first | exact hq | exact wpAny_pure hq | exact wpAny_truthy_bool hq | (refine wpAny_bind (m := truthy (.bool _)) (wpAny_truthy_bool ?_)) | wp_step)) fun _ _ e => e)))
    | wp_step)
theorem ifBound_B {M : Model} {name : Str} {id : String} {args : List Value} {Q : Option Value → Shared → Prop} (X : K.In s.heap) (I : InstAt s.heap x ox C od) (hs : findIn K (.ref C) name = some (some (.builtin id)))
    (hb : ∀ self, bindSpecial (.builtin id) self = pure (.builtin id, [self])) (h : wpAny M A (call (.builtin id) (.ref x :: args)) (fun v => Q (some v)) E s) : wpAny M A (callSpecialIfBound? (.ref x) name args) Q E s := by
  simp only [callSpecialIfBound?, bindSpecialIfBound?]
  refine wpAny_holding (wpAny_bind (wpAny_bind (wpAny_bind (I.type.here ((looks_findIn X hs).here ?_)))))
  refine wpAny_bind (wpAny_askSetting (wpAny_ite ?_))
  have fin : wpAny M A (call (.builtin id) ([.ref x] ++ args) >>= fun v => pure (some v)) Q E s := wpAny_bind (wpAny_mono h (fun v s' h' => wpAny_pure h') fun _ _ h' => h')
  split
  · exact wpAny_bind ((Looks.of_pure (hb _)).here (wpAny_pure (by exact fin)))
  · exact wpAny_tryCatch (wpAny_bind ((Looks.of_pure (hb _)).here (wpAny_pure (by exact fin))))
theorem ne_K {Q : Value → Shared → Prop} (X : K.In s.heap) (I : InstAt s.heap x ox C od) (J : InstAt s.heap y oy C od') (hn : findIn K (.ref C) "__ne__" = some (some (.builtin "object.__ne__"))) (he : findIn K (.ref C) "__eq__" = some (some (.ref f))) (hf : isFn K (.ref f) = true)
    (hm : mroIn K C (.type "object") = some true) (hu : A.units + 1 < cLine)
    (h : wpAny (model prog w) A.in1 (call (.ref f) [.ref x, .ref y]) (fun v s' => ∃ b, v = .bool b ∧ Q (.bool (!b)) s') E s) : wpAny (model prog w) A (richCompare .NotEq (.ref x) (.ref y)) Q E s := by
  have one : wpAny (model prog w) A (tryCompare (.ref x) "__ne__" (.ref y)) (fun r s' => ∃ v, r = some v ∧ Q v s') E s := by
    unfold tryCompare
    refine wpAny_bind (ifBound_B X I hn PySem.F.cmp_object.ne.bind (wpAny_call (codeAny_call_builtin PySem.F.cmp_object.ne.plain PySem.F.cmpEntry_ne
      (check_slot (i := "object.__ne__") (owner := "object") (n := "__ne__") PySem.F.cmpKind_ne PySem.F.cmpSplit_ne (I.type.andThen (looks_mroIn X hm)) (PySem.F.cmpArgs_ne _ _) ?_))))
    refine ne_entry (A := A.in1) X I he hf hu (wpAny_mono h (fun v s' hv => ?_) fun _ _ e => e)
    obtain ⟨b, rfl, hq⟩ := hv
    first | exact ⟨b, rfl, wpAny_pure ⟨_, rfl, hq⟩⟩ | exact ⟨b, rfl, wpAny_pure (wpAny_pure ⟨_, rfl, hq⟩)⟩ | exact ⟨b, rfl, _, rfl, wpAny_pure ⟨_, rfl, hq⟩⟩
  unfold richCompare
  simp only [oneThing_ref]
  refine wpAny_holding (wpAny_bind (wpAny_cRoomFor (Nat.lt_of_succ_lt hu) ?_))
  refine wpAny_bind (I.type.here (wpAny_bind (J.type.here ?_)))
  rw [show (Value.ref C != Value.ref C) = false from by simp]
  simp only [Bool.false_eq_true, if_false]
  refine wpAny_bind (wpAny_pure ?_)
  simp only [Bool.false_eq_true, if_false]
  refine wpAny_bind (wpAny_mono one (fun r s' z => ?_) fun _ _ e => e)
  obtain ⟨v, rfl, hq⟩ := z
  exact wpAny_pure hq
end
end HkLow

namespace Hk
open PySem PySem.Spec PyProof.Rows L2
section
variable {X : Cx} {CX : CXT} {C g : Addr} {n : Nat} {sp : Sp} {E : XK}
theorem ins_inst {pins : List (Addr × Obj)} {σ : L2.St} {H : Hp} {s : Shared} {a dx : Addr} {fs : List (Str × V)} (I : Inv X pins σ H s) (h : H a = some (.ins C dx fs)) : ∃ od, PySem.W.InstAt s.heap a (PySem.W.instObj C dx) C (some od) := by
  obtain ⟨mA, J, _⟩ := ins_get I.hok h
  obtain ⟨od, J, _⟩ := J.look
  exact ⟨od, J⟩
/-- len(x) by an own __len__ -/
def rLenO (C : Addr) (sp : Sp) (E : XK) : List V → Hp → VK → Prop := fun xs H Q => ∃ a dx fs, xs = [V.ref a] ∧ H a = some (.ins C dx fs) ∧ sp [.ref a] H (fun z H' => ∃ i : Int, z = .int i ∧ 0 ≤ i ∧ i < 2 ^ 63 ∧ Q z H') E
theorem call_lenO (hs : PySem.W.findIn X.K (.ref C) "__len__" = some (some (.ref g))) (hf : PySem.W.isFn X.K (.ref g) = true) (F : FnR X.prog X.w X.K X.mg X.base CX n g sp) (hr : Room (n + 1) X.A) (hx : Passes CX X E) : CallR X (.builtin "len") (rLenO C sp E) := by
  intro pins s σ H xs us Q I r h
  obtain ⟨a, dx, fs, rfl, ha, q⟩ := h
  obtain ⟨u, rfl, ru⟩ := r.one
  cases (show u = Value.ref a from ru)
  obtain ⟨od, J⟩ := ins_inst I ha
  obtain ⟨m, hF⟩ := I.fr
  refine PySem.W.len_K hF I.ok.mod.kin J hs hf (wpAny_mono (wpAny_call (SlX.run_at (us := [.ref a]) (ws := [.ref a]) F hr.in1 I.env0.in1 hx I (.cons rfl .nil) q)) (fun w s' z => ?_) fun _ _ x => x)
  obtain ⟨z', H', I', rz, i, ei, h0, h1, qz⟩ := z
  subst ei
  obtain ⟨t, e⟩ := (show ∃ t, w = Value.int i t from rz)
  cases e
  exact ⟨⟨h0, h1⟩, .int i, H', I'.tok _, ⟨_, rfl⟩, qz⟩
/-- str(x) by an own __str__ -/
def rStrO (C : Addr) (sp : Sp) (E : XK) : List V → Hp → VK → Prop := fun xs H Q => ∃ a dx fs, xs = [V.ref a] ∧ H a = some (.ins C dx fs) ∧ sp [.ref a] H (fun z H' => ∃ y : Str, z = .str y ∧ Q z H') E
theorem call_strO (hs : PySem.W.findIn X.K (.ref C) "__str__" = some (some (.ref g))) (hf : PySem.W.isFn X.K (.ref g) = true) (F : FnR X.prog X.w X.K X.mg X.base CX n g sp) (hr : Room (n + 2) X.A) (hx : Passes CX X E) : CallR X (.type "str") (rStrO C sp E) := by
  intro pins s σ H xs us Q I r h
  obtain ⟨a, dx, fs, rfl, ha, q⟩ := h
  obtain ⟨u, rfl, ru⟩ := r.one
  cases (show u = Value.ref a from ru)
  obtain ⟨od, J⟩ := ins_inst I ha
  have hr2 : Room n X.A.in1.in1 := (show Room (n + 1) X.A.in1 from Room.in1 hr).in1
  refine PySem.W.kso_call hr2.units0 I.kIn J hs hf (wpAny_mono (wpAny_call (SlX.run_at (us := [.ref a]) (ws := [.ref a]) F hr2 I.env0.in1.in1 hx I (.cons rfl .nil) q)) (fun w s' z => ?_) fun _ _ x => x)
  obtain ⟨z', H', I', rz, y, ey, qz⟩ := z
  subst ey
  obtain ⟨t, e⟩ := (show ∃ t, w = Value.str y t from rz)
  cases e
  exact ⟨.str y, H', I', ⟨_, rfl⟩, qz⟩
/-- x + y by an own __add__, both of the class at C -/
def rAddO (C : Addr) (sp : Sp) (E : XK) : R2 := fun x y H Q => ∃ a dx fs b dy gs, x = .ref a ∧ y = .ref b ∧ H a = some (.ins C dx fs) ∧ H b = some (.ins C dy gs) ∧ sp [x, y] H Q E
theorem op_addO (hc : PySem.W.selfFirst X.K C = true) (hs : PySem.W.findIn X.K (.ref C) (PySem.dunder Operator.Add.info.2) = some (some (.ref g))) (hf : PySem.W.isFn X.K (.ref g) = true) (F : FnR X.prog X.w X.K X.mg X.base CX n g sp)
    (hr : Room n X.A) (hx : Passes CX X E) : OpR X (binaryOp .Add) (rAddO C sp E) := by
  intro pins s σ H x y v u Q I rx ry h
  obtain ⟨a, dx, fs, b, dy, gs, rfl, rfl, ha, hb, q⟩ := h
  cases (show v = Value.ref a from rx)
  cases (show u = Value.ref b from ry)
  obtain ⟨od, J⟩ := ins_inst I ha
  obtain ⟨od', J'⟩ := ins_inst I hb
  obtain ⟨m, hF⟩ := I.fr
  refine PySem.W.binop_K hF I.ok.mod.kin J J'.type hc hs hf ?_
  refine wpAny_mono (wpAny_call (run_fnR (us := [.ref a, .ref b]) (vs := [.ref a, .ref b]) F hr hx I (.cons rfl (.cons rfl .nil)) q)) (fun w s' z => ?_) fun _ _ x => x
  obtain ⟨z', H', I', rz, qz⟩ := z
  exact SlX.cmpback rz ⟨z', H', I', rz, qz⟩
/-- x == y by an own __eq__ -/
theorem op_eqO (hs : PySem.W.findIn X.K (.ref C) "__eq__" = some (some (.ref g))) (hf : PySem.W.isFn X.K (.ref g) = true) (F : FnR X.prog X.w X.K X.mg X.base CX n g sp)
    (hr : Room n X.A) (hx : Passes CX X E) : OpR X (compareOp .Eq) (rAddO C sp E) := by
  intro pins s σ H x y v u Q I rx ry h
  obtain ⟨a, dx, fs, b, dy, gs, rfl, rfl, ha, hb, q⟩ := h
  cases (show v = Value.ref a from rx)
  cases (show u = Value.ref b from ry)
  obtain ⟨od, J⟩ := ins_inst I ha
  obtain ⟨od', J'⟩ := ins_inst I hb
  obtain ⟨m, hF⟩ := I.fr
  show wpAny (model X.prog X.w) X.A (richCompare .Eq (.ref a) (.ref b)) _ _ s
  refine PySem.W.cmp_K (op := .Eq) (tb := .ref C) hr.units0 hF I.ok.mod.kin J J'.type (by simp [PySem.W.notFirst]) hs hf ?_
  refine wpAny_mono (wpAny_call (run_fnR (us := [.ref a, .ref b]) (vs := [.ref a, .ref b]) F hr hx I (.cons rfl (.cons rfl .nil)) q)) (fun w s' z => ?_) fun _ _ x => x
  obtain ⟨z', H', I', rz, qz⟩ := z
  exact SlX.cmpback rz ⟨z', H', I', rz, qz⟩
/-- x != y, the class has an own __eq__ and no own __ne__ -/
def rNeO (C : Addr) (sp : Sp) (E : XK) : R2 := fun x y H Q => ∃ a dx fs b dy gs, x = .ref a ∧ y = .ref b ∧ H a = some (.ins C dx fs) ∧ H b = some (.ins C dy gs) ∧ sp [x, y] H (fun z H' => ∃ k, z = .bl k ∧ Q (.bl (!k)) H') E
theorem op_neO (hn : PySem.W.findIn X.K (.ref C) "__ne__" = some (some (.builtin "object.__ne__"))) (hs : PySem.W.findIn X.K (.ref C) "__eq__" = some (some (.ref g))) (hf : PySem.W.isFn X.K (.ref g) = true)
    (hm : PySem.W.mroIn X.K C (.type "object") = some true) (F : FnR X.prog X.w X.K X.mg X.base CX n g sp) (hr : Room (n + 1) X.A) (hx : Passes CX X E) : OpR X (compareOp .NotEq) (rNeO C sp E) := by
  intro pins s σ H x y v u Q I rx ry h
  obtain ⟨a, dx, fs, b, dy, gs, rfl, rfl, ha, hb, q⟩ := h
  cases (show v = Value.ref a from rx)
  cases (show u = Value.ref b from ry)
  obtain ⟨od, J⟩ := ins_inst I ha
  obtain ⟨od', J'⟩ := ins_inst I hb
  show wpAny (model X.prog X.w) X.A (richCompare .NotEq (.ref a) (.ref b)) _ _ s
  refine HkLow.ne_K I.kIn J J' hn hs hf hm (hu_of hr) ?_
  refine wpAny_mono (wpAny_call (SlX.run_at (us := [.ref a, .ref b]) (ws := [.ref a, .ref b]) F hr.in1 I.env0.in1 hx I (.cons rfl (.cons rfl .nil)) q)) (fun w s' z => ?_) fun _ _ x => x
  obtain ⟨z', H', I', rz, k, ek, qz⟩ := z
  subst ek
  cases (show w = Value.bool k from rz)
  exact ⟨k, rfl, .bl (!k), H', I', rfl, qz⟩
/-- x[i] by an own __getitem__ -/
def rIxO (C : Addr) (sp : Sp) (E : XK) : R2 := fun x y H Q => ∃ a dx fs, x = .ref a ∧ H a = some (.ins C dx fs) ∧ sp [x, y] H Q E
theorem pe_ixO {a b : Expr} {ta tb : TE} {pos : Pos} (hs : PySem.W.findIn X.K (.ref C) "__getitem__" = some (some (.ref g))) (hfn : PySem.W.fnIn X.K g = true) (hf : PySem.W.isFn X.K (.ref g) = true) (F : FnR X.prog X.w X.K X.mg X.base CX n g sp) (hr : Room (n + 1) X.A) (hx : Passes CX X E)
    (ha : PE X a ta) (hb : PE X b tb) (hsl : ∀ x i, subscripted b true x i = runValue (.builtin "lifetime.subscript" ⟨[x, i], []⟩) := by intro _ _; with_unfolding_all rfl) : PE X (.Subscript a b pos) (tOp (rIxO C sp E) ta tb) := by
  refine ⟨fun pins s σ H Q I h => ?_⟩
  refine Subscript_ (binT ha hb I h fun v u s2 x y H2 I2 rx ry q => ?_)
  obtain ⟨a', dx, fs, rfl, ea, q⟩ := q
  cases (show v = Value.ref a' from rx)
  obtain ⟨od, J⟩ := ins_inst I2 ea
  obtain ⟨m, hF⟩ := I2.fr
  exact PySem.W.sub_K hF I2.ok.mod.kin J hs hfn hf (wpAny_call (SlX.run_at (us := [.ref a', u]) (ws := [.ref a', y]) F hr.in1 I2.env0.in1 hx I2 (.cons rfl (.cons ry .nil)) q)) (hsl _ _)
end

/-! ### enumerate of a tuple -/
def IteT (K : PySem.W.Frag) (a : Addr) : It :=
  ⟨fun i H => ∃ (xs : List V) (x : V), SqT K H a xs ∧ xs[i]? = some x, fun i H v H' => ∃ T x, v = .ref T ∧ H T = none ∧ H' = upd H T (.tup [.int (i : Nat), x]) ∧ ∀ xs, SqT K H a xs → xs[i]? = some x, fun i H => ∃ xs : List V, SqT K H a xs ∧ i = xs.length⟩
end Hk

set_option Elab.async false
set_option linter.all false
set_option maxRecDepth 100000
set_option maxHeartbeats 4000000
/-! enumerate over a list or a tuple. -/
namespace Hk
open PySem PySem.Spec PyProof.Rows L2
theorem turn_enumT {P : Program} {w : World} {K : PySem.W.Frag} {elts : List Expr} {kk : Nat} {tpos : Pos} (a e it : Addr) :
    Turn P w K (.Tuple elts kk tpos) (IteT K a) [e, it] e (fun i h => (∃ old, IsEnum h e it ((i : Nat) : Int) old) ∧ h.IsTupleIter it a i ∧ e ≠ it) where
  mem := by simp
  obj := fun i h st b hb => by
    obtain ⟨⟨old, he⟩, ⟨o, ho, hc, hd⟩, _⟩ := st
    have e' : b = e ∨ b = it := by simpa using hb
    rcases e' with z | z
    · rw [z]; exact ⟨_, he, fun v q => nomatch q⟩
    · rw [z]; exact ⟨o, ho, fun v q => by rw [hd] at q; cases q⟩
  keep := fun i h h' st k => by
    obtain ⟨⟨old, he⟩, ⟨o, ho, hc, hd⟩, hne⟩ := st
    exact ⟨⟨old, k e (by simp) _ he⟩, ⟨o, k it (by simp) _ ho, hc, hd⟩, hne⟩
  item := by
    intro X hP hw hK hc i pins s σ H E I hf st hg
    subst hP hw hK
    obtain ⟨⟨old, he⟩, hit, hne⟩ := st
    obtain ⟨xs, x, hq, hx⟩ := hg
    obtain ⟨its, rv, p, hz⟩ := I.tuple hq
    obtain ⟨u, hu, ru⟩ := rv.get hx
    have hel : e < s.heap.objs.size := Heap.lt_size he
    have hil : it < s.heap.objs.size := by obtain ⟨_, q, _⟩ := hit; exact Heap.lt_size q
    have hil' : i < its.toArray.size := by
      have q := (List.getElem?_eq_some_iff.mp hu).1
      simpa using q
    have hai : a ≠ it := by
      intro z
      subst z
      obtain ⟨o1, e1, c1, d1⟩ := hit
      obtain ⟨o2, e2, c2, n2, d2⟩ := p
      rw [e1] at e2
      cases e2
      rw [d1] at d2
      cases d2
    have hea : e ≠ a := by
      intro z
      subst z
      obtain ⟨o2, e2, c2, n2, d2⟩ := p
      rw [show s.heap.get? e = some _ from he] at e2
      cases e2
      cases d2
    have D := Draws.tuple (prog := X.prog) (w := X.w) (A := X.A.in1) (I.ok.hd hc) it a hai its.toArray
    refine wpAny_pyNext_enum_itemC D he ⟨hit, p⟩ hil' hne (by simp [hne, hea]) fun v h' tk hv ho hst hT hsz hk => ?_
    have hv : its.toArray[i]? = some v := hv
    have ev : v = u := by
      have q : its.toArray[i]? = some u := by simpa using hu
      rw [hv] at q
      exact Option.some.inj q
    subst ev
    refine ⟨_, rfl, wpAny_letOwnedTupleGo_enum (s := { s with heap := h', toks := tk + 1 }) ho fun h'' he' sb => ?_⟩
    have hT2 : h''.get? s.heap.objs.size = some { cls := .type "tuple", data := .seq #[.int i tk, v] } := (sb.2 _ (Nat.ne_of_gt hel)).trans hT
    have new : ObjOk X.prog X.w (upd H s.heap.objs.size (.tup [.int (i : Nat), x])) h'' s.heap.objs.size (.tup [.int (i : Nat), x]) :=
      ⟨by show 2 ≤ sizeLine; decide, [.int i tk, v], .cons ⟨_, rfl⟩ (.cons ru .nil), ⟨_, hT2, rfl, _, rfl⟩⟩
    have I1 : Inv X pins σ (upd H s.heap.objs.size (.tup [.int (i : Nat), x])) { s with heap := h'', toks := tk + 1 } :=
      I.turnedNew (ch := [e, it]) (fun b ob hb q => (sb.2 b (fun z => hb (by simp [z]))).trans (hk b ob (fun z => hb (by simp [z])) (fun z => hb (by simp [z])) q)) hf (Nat.le_refl _) new
    obtain ⟨o3, e3, c3, d3⟩ := hst.1
    refine ⟨.ref s.heap.objs.size, _, I1, rfl, ⟨_, x, rfl, I.hok.fresh (Nat.le_refl _), rfl, fun ys hy => by rw [I.tuple_inj hy hq]; exact hx⟩, ⟨⟨v, ?_⟩, ⟨o3, (sb.2 it (Ne.symm hne)).trans e3, c3, d3⟩, hne⟩, fun b hb => ?_⟩
    · have e1 : ((i + 1 : Nat) : Int) = (i : Int) + 1 := by omega
      rw [e1]; exact he'
    · have hb' : b < s.heap.objs.size := by
        have e' : b = e ∨ b = it := by simpa using hb
        rcases e' with z | z
        · rw [z]; exact hel
        · rw [z]; exact hil
      rw [upd_ne (Nat.ne_of_lt hb')]
      exact (hf b hb).1
  done := by
    intro X hP hw hK hc i pins s σ H E I hf st hg
    subst hP hw hK
    obtain ⟨⟨old, he⟩, hit, hne⟩ := st
    obtain ⟨xs, hq, hx⟩ := hg
    obtain ⟨its, rv, p, hz⟩ := I.tuple hq
    obtain ⟨f0, f1, f2, f3, f4, f5⟩ := hf it (by simp)
    have hai : a ≠ it := by
      intro z
      subst z
      obtain ⟨o1, e1, c1, d1⟩ := hit
      obtain ⟨o2, e2, c2, n2, d2⟩ := p
      rw [e1] at e2
      cases e2
      rw [d1] at d2
      cases d2
    have D := Draws.tuple (prog := X.prog) (w := X.w) (A := X.A.in1) (I.ok.hd hc) it a hai its.toArray
    have hsz : i = its.toArray.size := by rw [List.size_toArray, ← rv.length]; exact hx
    exact wpAny_pyNext_enum_endD D he (hsz ▸ ⟨hit, p⟩) fun h' eb => ⟨rfl, I.turned (t' := s.toks) (fun b o hb q => eb b o hb q) f0 f1 f3 f4 f5⟩
  self := fun A i s Q E st h => let ⟨⟨_, he⟩, _⟩ := st; wpAny_pyIter_enum he h
end Hk
namespace HkLow
open PySem PySem.Spec PyProof.Rows
open Sem (wp)
theorem meets_enum_one {v : Value} {o : Obj} {H : Heap → Prop} (B : Begins v o H) :
    Meets (Builtin.«enumerate.__new__» ⟨[.type "enumerate", v], []⟩) (fun _ R s => H s.heap ∧
      R (.ok (.ret (.ref (s.heap.push o).objs.size))) { s with heap := (s.heap.push o).push { cls := .type "enumerate", data := .fields #[.none, .bool false, .ref s.heap.objs.size, rawInt 0, .none, .none] } }) :=
  .of_wp fun prog w A R s h => by
    obtain ⟨hp, g, d, tk, os⟩ := s; obtain ⟨h1, h⟩ := h
    have hsub := sub_enumerate
    have q1 : ∀ {A' : Around} {E : Value → Shared → Prop} {Q : Value → Shared → Prop}, Q (.ref hp.objs.size) ⟨hp.push o, g, d, tk, os⟩ → wpAny (model prog w) A' (pyIter v) Q E ⟨hp, g, d, tk, os⟩ :=
      fun q => B.iter prog w _ _ ⟨hp, g, d, tk, os⟩ _ h1 q
    wp_walk using q1
    refine wpAny_stack_any fun st => wpAny_pure ?_
    split
    · rename_i c _ _ _ _ _
      cases (c == Value.type "enumerate")
      · wp_walk using q1
        exact ⟨_, rfl, h⟩
      · wp_walk using q1
        exact ⟨_, rfl, h⟩
    · wp_walk using q1
      exact ⟨_, rfl, h⟩
theorem call_enum_one {prog : Program} {w : World} {A : Around} {E : Value → Shared → Prop} {s : Shared} {v : Value} {o : Obj} {H : Heap → Prop} {Q : Value → Shared → Prop} (B : Begins v o H) (h1 : H s.heap)
    (h : ∀ h', IsEnum h' (s.heap.objs.size + 1) s.heap.objs.size 0 .none → h'.get? s.heap.objs.size = some o → h'.objs.size = s.heap.objs.size + 2 →
      (∀ b o, s.heap.get? b = some o → h'.get? b = some o) → Q (.ref (s.heap.objs.size + 1)) { s with heap := h' }) :
    wpAny (model prog w) A (call (.type "enumerate") [v]) Q E s := by
  refine callType_new F.called_enumerate (by decide) (F.typeCall_enumerate_1 _) (F.newCall_enumerate_1 _) (fun obj => F.args_object_init_2 obj _) F.entry_enumerate_new
    (meets_enum_one B) ⟨h1, ?_⟩
  have hz : (s.heap.push o).objs.size = s.heap.objs.size + 1 := Heap.size_push ..
  show _ ∧ _
  rw [hz]
  have he : IsEnum ((s.heap.push o).push { cls := .type "enumerate", data := .fields #[.none, .bool false, .ref s.heap.objs.size, rawInt 0, .none, .none] }) (s.heap.objs.size + 1) s.heap.objs.size 0 .none := by
    have := Heap.get?_push_size (s.heap.push o) (o := { cls := .type "enumerate", data := .fields #[.none, .bool false, .ref s.heap.objs.size, rawInt 0, .none, .none] }) rfl
    rw [hz] at this; exact this
  refine ⟨⟨_, he, rfl⟩, h _ he (Heap.get?_push_of_some _ (Heap.get?_push_size _ B.free)) (by rw [Heap.size_push, hz]) fun b o x => Heap.get?_push_of_some _ (Heap.get?_push_of_some _ x)⟩
end HkLow
namespace Hk
open PySem PySem.Spec PyProof.Rows L2
/-- enumerate of a list or of a tuple -/
def iEnumA (K : PySem.W.Frag) (ta : TA) : TI := fun σ H R => ta σ H fun vs H1 => ∃ a xs, vs = [.ref a] ∧ ((SqL K H1 a xs ∧ R (Ite K a) H1) ∨ (SqT K H1 a xs ∧ R (IteT K a) H1))
theorem pi_enumA {X : Cx} {e : Expr} {ta : TA} {p pos tpos : Pos} {elts : List Expr} {kk : Nat} (hg : Gl X "enumerate") (hm : X.mg "enumerate" = none) (ha : PA X [e] ta) (hs : starEach [e] X.env = [(false, eval e X.env)] := by rfl) :
    PI X (.Tuple elts kk tpos) (.Call (.Name "enumerate" p) [e] [] pos) (iEnumA X.K ta) := by
  refine ⟨fun pins s σ H R I h => ?_⟩
  refine Call_ (ld_blt I hg hm boot_enumerate (PyProof.Rows.callWith_type1 (thn (ha.run pos pins s σ H _ I h) fun us s1 ⟨vs, H1, I1, r1, q1⟩ => ?_) hs rfl))
  obtain ⟨a, xs, ex, q⟩ := q1
  subst ex
  cases r1 with
  | cons r rr =>
    cases rr
    cases r
    have fpk : ∀ b ∈ [s1.heap.objs.size + 1, s1.heap.objs.size], s1.heap.objs.size ≤ b := fun b hb => by
      have e' : b = s1.heap.objs.size + 1 ∨ b = s1.heap.objs.size := by simpa using hb
      rcases e' with z | z
      · rw [z]; exact Nat.le_add_right _ _
      · rw [z]; exact Nat.le_refl _
    rcases q with ⟨hq, q⟩ | ⟨hq, q⟩
    · obtain ⟨its, rv, p', hz⟩ := I1.list hq
      refine call_enumerate_list p'.isList fun h' he hit hsz hk => wpAny_pyIter_enum he ?_
      have I2 : Inv X pins σ H1 { s1 with heap := h' } := I1.kept (t' := s1.toks) hk
      exact ⟨s1.heap.objs.size + 1, [s1.heap.objs.size + 1, s1.heap.objs.size], _, _, H1, rfl, I2, turn_enum a (s1.heap.objs.size + 1) s1.heap.objs.size, ⟨⟨.none, he⟩, hit, Nat.succ_ne_self _⟩,
        fun b hb => I1.fpOk (fpk b hb) (I1.hok.fresh (fpk b hb)), q⟩
    · obtain ⟨its, rv, p', hz⟩ := I1.tuple hq
      refine HkLow.call_enum_one (begins_tuple a its.toArray) p' fun h' he hit hsz hk => wpAny_pyIter_enum he ?_
      have I2 : Inv X pins σ H1 { s1 with heap := h' } := I1.kept (t' := s1.toks) hk
      exact ⟨s1.heap.objs.size + 1, [s1.heap.objs.size + 1, s1.heap.objs.size], _, _, H1, rfl, I2, turn_enumT a (s1.heap.objs.size + 1) s1.heap.objs.size, ⟨⟨.none, he⟩, ⟨_, hit, rfl, rfl⟩, Nat.succ_ne_self _⟩,
        fun b hb => I1.fpOk (fpk b hb) (I1.hok.fresh (fpk b hb)), q⟩
/-- the loop over enumerate(list) by an invariant -/
theorem for_enumL {K : PySem.W.Frag} {a : Addr} {xs : List V} {g : TG} {tb : TS} {D : Ends} {σ : L2.St} {H : Hp} (Pv : Nat → L2.St → Hp → Prop) (h0 : Pv 0 σ H) (hl : ∀ i σ H, i ≤ xs.length → Pv i σ H → SqL K H a xs)
    (hs : ∀ i x T σ H, xs[i]? = some x → Pv i σ H → H T = none → g (.ref T) σ (upd H T (.tup [.int (i : Nat), x])) fun σ' H' => tb { D with nx := Pv (i + 1), ct := Pv (i + 1), bk := D.nx } σ' H') (hd : ∀ σ H, Pv xs.length σ H → D.nx σ H) :
    ∃ W : Nat → Nat → L2.St → Hp → Prop, (∃ m, W 0 m σ H) ∧ ∀ i m σ H, W i m σ H →
      ((Ite K a).stop i H ∧ D.nx σ H) ∨ ((Ite K a).go i H ∧ ∃ Nx : L2.St → Hp → Prop, (∀ σ' H', Nx σ' H' → ∃ m', m' < m ∧ W (i + 1) m' σ' H') ∧ ∀ x H', (Ite K a).yld i H x H' → g x σ H' fun σ2 H2 => tb { D with nx := Nx, ct := Nx, bk := D.nx } σ2 H2) := by
  refine ⟨fun i m σ H => m = xs.length - i ∧ i ≤ xs.length ∧ Pv i σ H, ⟨xs.length, by simp, Nat.zero_le _, h0⟩, ?_⟩
  rintro i m σ H ⟨rfl, hi, p⟩
  have q := hl i σ H hi p
  by_cases hlt : i < xs.length
  · refine .inr ⟨⟨xs, xs[i], q, by simp [hlt]⟩, Pv (i + 1), fun σ' H' p' => ⟨xs.length - (i + 1), by omega, rfl, hlt, p'⟩, fun x H' y => ?_⟩
    obtain ⟨T, z, ex, hT, eH, hz⟩ := y
    subst ex eH
    exact hs i z T _ _ (hz xs q) p hT
  · have e : i = xs.length := by omega
    subst e
    exact .inl ⟨⟨xs, q, Nat.le_refl _⟩, hd σ H p⟩
theorem for_enumT {K : PySem.W.Frag} {a : Addr} {xs : List V} {g : TG} {tb : TS} {D : Ends} {σ : L2.St} {H : Hp} (Pv : Nat → L2.St → Hp → Prop) (h0 : Pv 0 σ H) (hl : ∀ i σ H, i ≤ xs.length → Pv i σ H → SqT K H a xs)
    (hs : ∀ i x T σ H, xs[i]? = some x → Pv i σ H → H T = none → g (.ref T) σ (upd H T (.tup [.int (i : Nat), x])) fun σ' H' => tb { D with nx := Pv (i + 1), ct := Pv (i + 1), bk := D.nx } σ' H') (hd : ∀ σ H, Pv xs.length σ H → D.nx σ H) :
    ∃ W : Nat → Nat → L2.St → Hp → Prop, (∃ m, W 0 m σ H) ∧ ∀ i m σ H, W i m σ H →
      ((IteT K a).stop i H ∧ D.nx σ H) ∨ ((IteT K a).go i H ∧ ∃ Nx : L2.St → Hp → Prop, (∀ σ' H', Nx σ' H' → ∃ m', m' < m ∧ W (i + 1) m' σ' H') ∧ ∀ x H', (IteT K a).yld i H x H' → g x σ H' fun σ2 H2 => tb { D with nx := Nx, ct := Nx, bk := D.nx } σ2 H2) := by
  refine ⟨fun i m σ H => m = xs.length - i ∧ i ≤ xs.length ∧ Pv i σ H, ⟨xs.length, by simp, Nat.zero_le _, h0⟩, ?_⟩
  rintro i m σ H ⟨rfl, hi, p⟩
  have q := hl i σ H hi p
  by_cases hlt : i < xs.length
  · refine .inr ⟨⟨xs, xs[i], q, by simp [hlt]⟩, Pv (i + 1), fun σ' H' p' => ⟨xs.length - (i + 1), by omega, rfl, hlt, p'⟩, fun x H' y => ?_⟩
    obtain ⟨T, z, ex, hT, eH, hz⟩ := y
    subst ex eH
    exact hs i z T _ _ (hz xs q) p hT
  · have e : i = xs.length := by omega
    subst e
    exact .inl ⟨⟨xs, q, rfl⟩, hd σ H p⟩
/-- either -/
theorem for_enumA {K : PySem.W.Frag} {a : Addr} {xs : List V} {g : TG} {tb : TS} {D : Ends} {σ : L2.St} {H : Hp} (hq : SqL K H a xs ∨ SqT K H a xs) (Pv : Nat → L2.St → Hp → Prop) (h0 : Pv 0 σ H) (hsame : ∀ i σ' H', i ≤ xs.length → Pv i σ' H' → ∀ b o, H b = some o → H' b = some o)
    (hs : ∀ i x T σ H, xs[i]? = some x → Pv i σ H → H T = none → g (.ref T) σ (upd H T (.tup [.int (i : Nat), x])) fun σ' H' => tb { D with nx := Pv (i + 1), ct := Pv (i + 1), bk := D.nx } σ' H') (hd : ∀ σ H, Pv xs.length σ H → D.nx σ H) :
    (SqL K H a xs ∧ ∃ W : Nat → Nat → L2.St → Hp → Prop, (∃ m, W 0 m σ H) ∧ ∀ i m σ H, W i m σ H →
      ((Ite K a).stop i H ∧ D.nx σ H) ∨ ((Ite K a).go i H ∧ ∃ Nx : L2.St → Hp → Prop, (∀ σ' H', Nx σ' H' → ∃ m', m' < m ∧ W (i + 1) m' σ' H') ∧ ∀ x H', (Ite K a).yld i H x H' → g x σ H' fun σ2 H2 => tb { D with nx := Nx, ct := Nx, bk := D.nx } σ2 H2)) ∨
    (SqT K H a xs ∧ ∃ W : Nat → Nat → L2.St → Hp → Prop, (∃ m, W 0 m σ H) ∧ ∀ i m σ H, W i m σ H →
      ((IteT K a).stop i H ∧ D.nx σ H) ∨ ((IteT K a).go i H ∧ ∃ Nx : L2.St → Hp → Prop, (∀ σ' H', Nx σ' H' → ∃ m', m' < m ∧ W (i + 1) m' σ' H') ∧ ∀ x H', (IteT K a).yld i H x H' → g x σ H' fun σ2 H2 => tb { D with nx := Nx, ct := Nx, bk := D.nx } σ2 H2)) := by
  rcases hq with q | q
  · exact .inl ⟨q, for_enumL Pv h0 (fun i σ' H' hi p => (show Same H H' from hsame i σ' H' hi p).seq q) hs hd⟩
  · refine .inr ⟨q, for_enumT Pv h0 (fun i σ' H' hi p => ?_) hs hd⟩
    have e : Same H H' := hsame i σ' H' hi p
    rcases q with (h | ⟨o, h⟩) | h
    · exact .inl (.inl (e _ _ h))
    · exact .inl (.inr ⟨o, e _ _ h⟩)
    · exact .inr h
/-- tFor's shape -/
example (wi : TI) (g : TG) (tb : TS) (D : Ends) (σ : L2.St) (H : Hp) : tFor wi g tb D σ H = wi σ H fun J H1 => ∃ W : Nat → Nat → L2.St → Hp → Prop, (∃ m, W 0 m σ H1) ∧ ∀ i m σ H, W i m σ H →
      (J.stop i H ∧ D.nx σ H) ∨ (J.go i H ∧ ∃ Nx : L2.St → Hp → Prop, (∀ σ' H', Nx σ' H' → ∃ m', m' < m ∧ W (i + 1) m' σ' H') ∧ ∀ x H', J.yld i H x H' → g x σ H' fun σ2 H2 => tb { D with nx := Nx, ct := Nx, bk := D.nx } σ2 H2) := rfl
end Hk

set_option Elab.async false
set_option linter.all false
set_option maxRecDepth 100000
set_option maxHeartbeats 4000000
/-! The program's text by places; the facts of the head; promises without their bodies. (Printed by gen_text.py.) -/
namespace Hk
open PySem PySem.Spec PyProof.Rows L2
def top (i : Nat) : Stmt := PySem.Challenge.pw_hastypage_k20_whole_texts_and_parts.main.body.getD i (.Pass ⟨0, 0, 0, 0⟩)
abbrev s_is_name : Stmt := top 10
abbrev s_is_sequence : Stmt := top 11
abbrev s_is_decimal : Stmt := top 12
abbrev s_event_in : Stmt := top 14
abbrev s_fits_letter : Stmt := top 21
abbrev s_is_test : Stmt := top 22
abbrev s_is_deed : Stmt := top 23
abbrev s__law_deal : Stmt := top 28
abbrev s__law_draw : Stmt := top 29
abbrev s__law_row : Stmt := top 30
abbrev s__law_few_clicks : Stmt := top 32
abbrev s_law : Stmt := top 33
abbrev s_Weaving_init : Stmt := inClass (top 15) 0
abbrev s_Weaving_read : Stmt := inClass (top 15) 1
abbrev s_Weaving_upto : Stmt := inClass (top 15) 2
abbrev s_Weaving_add : Stmt := inClass (top 15) 4
abbrev s_Weaving_eq : Stmt := inClass (top 15) 5
abbrev s_Weaving_str : Stmt := inClass (top 15) 6
abbrev s_Row_init : Stmt := inClass (top 24) 0
abbrev s_Row_read : Stmt := inClass (top 24) 1
abbrev s_Row_eq : Stmt := inClass (top 24) 2
abbrev s_Row_str : Stmt := inClass (top 24) 3
abbrev s_Page_init : Stmt := inClass (top 26) 0
abbrev s_Page_read : Stmt := inClass (top 26) 1
abbrev s_Page_need_row : Stmt := inClass (top 26) 2
abbrev s_Page_without : Stmt := inClass (top 26) 3
abbrev s_Page_len : Stmt := inClass (top 26) 4
abbrev s_Page_getitem : Stmt := inClass (top 26) 5
abbrev s_Page_add : Stmt := inClass (top 26) 7
abbrev s_Page_eq : Stmt := inClass (top 26) 8
abbrev s_Page_str : Stmt := inClass (top 26) 9
/-- a def as it stands: some function object at f -/
def FD (K : PySem.W.Frag) (x qual : Str) (st : Stmt) (dvs : List V) (f : Addr) : Prop := ∃ fd, FunD K x qual (defArgs st) (defBody st) (defScope st) dvs [] f fd
/-- an own special method -/
structure Own (K : PySem.W.Frag) (C : Addr) (m : Str) (g : Addr) : Prop where
  at_ : PySem.W.findIn K (.ref C) m = some (some (.ref g))
  fn : PySem.W.isFn K (.ref g) = true
  fi : PySem.W.fnIn K g = true
def ownB (K : PySem.W.Frag) (C : Addr) (m : Str) : Bool := He.eqO (PySem.W.findIn K (.ref C) m) (some (some (.ref (He.ma K C m)))) && (PySem.W.isFn K (.ref (He.ma K C m)) && PySem.W.fnIn K (He.ma K C m))
theorem ownB_ok {K : PySem.W.Frag} {C : Addr} {m : Str} (h : ownB K C m = true) : Own K C m (He.ma K C m) := by
  obtain ⟨h1, h2⟩ := He.ba h
  obtain ⟨h3, h4⟩ := He.ba h2
  exact ⟨He.eqO_ok h1, h3, h4⟩
/-- what isinstance and != ask of a class -/
structure IsiT (K : PySem.W.Frag) (C : Addr) : Prop where
  ca : PySem.W.findIn K (.ref C) "__class__" = some (some (.builtin "object.__class__"))
  cn : PySem.W.specialIn K (.builtin "object.__class__") "__get__" = some (some (.builtin "getset_descriptor.__get__"))
  ct : PySem.W.takesIn K (.builtin "object.__class__") = some true
  cm : PySem.W.mroIn K C (.type "object") = some true
  kit : PySem.W.kitOne K (.ref C) (.ref C) = some true
  ne : PySem.W.findIn K (.ref C) "__ne__" = some (some (.builtin "object.__ne__"))
  sf : PySem.W.selfFirst K C = true
def isiB (K : PySem.W.Frag) (C : Addr) : Bool := He.eqO (PySem.W.findIn K (.ref C) "__class__") (some (some (.builtin "object.__class__"))) && (He.eqO (PySem.W.specialIn K (.builtin "object.__class__") "__get__") (some (some (.builtin "getset_descriptor.__get__"))) &&
  (decide (PySem.W.takesIn K (.builtin "object.__class__") = some true) && (decide (PySem.W.mroIn K C (.type "object") = some true) && (decide (PySem.W.kitOne K (.ref C) (.ref C) = some true) &&
  (He.eqO (PySem.W.findIn K (.ref C) "__ne__") (some (some (.builtin "object.__ne__"))) && PySem.W.selfFirst K C)))))
theorem isiB_ok {K : PySem.W.Frag} {C : Addr} (h : isiB K C = true) : IsiT K C := by
  obtain ⟨h1, h⟩ := He.ba h
  obtain ⟨h2, h⟩ := He.ba h
  obtain ⟨h3, h⟩ := He.ba h
  obtain ⟨h4, h⟩ := He.ba h
  obtain ⟨h5, h⟩ := He.ba h
  obtain ⟨h6, h7⟩ := He.ba h
  exact ⟨He.eqO_ok h1, He.eqO_ok h2, of_decide_eq_true h3, of_decide_eq_true h4, of_decide_eq_true h5, He.eqO_ok h6, h7⟩
/-- a classmethod of C -/
structure CmT (K : PySem.W.Frag) (C : Addr) (m : Str) (p g : Addr) : Prop where
  rd : ClX.CRead K C (.type "type")
  me : ClX.CMet K C (.type "type") m p g
def cmB (K : PySem.W.Frag) (C : Addr) (m : Str) : Bool := PySem.W.readsIn K C (.type "type") && (He.eqO (PySem.W.specialIn K (.ref C) "__getattribute__") (some (some (.builtin "type.__getattribute__"))) &&
  (He5.wrapB K C "classmethod" "classmethod.__get__" m && PySem.W.fnIn K (He5.wf K C "classmethod" m)))
theorem cmB_ok {K : PySem.W.Frag} {C : Addr} {m : Str} (h : cmB K C m = true) : CmT K C m (He.ma K C m) (He5.wf K C "classmethod" m) := by
  obtain ⟨h1, h⟩ := He.ba h
  obtain ⟨h2, h⟩ := He.ba h
  obtain ⟨h3, h4⟩ := He.ba h
  exact ⟨⟨h1, He.eqO_ok h2⟩, He5.cmet_of h3 h4⟩
/-- the facts, each a Bool -/
def facts : List (PySem.W.Frag → Bool) := [
  (He.Fa.glo "is_name").ok,
  (He.Fa.glo "is_sequence").ok,
  (He.Fa.glo "is_decimal").ok,
  (He.Fa.glo "event_in").ok,
  (He.Fa.glo "fits_letter").ok,
  (He.Fa.glo "is_test").ok,
  (He.Fa.glo "is_deed").ok,
  (He.Fa.glo "_law_deal").ok,
  (He.Fa.glo "_law_draw").ok,
  (He.Fa.glo "_law_row").ok,
  (He.Fa.glo "_law_few_clicks").ok,
  (He.Fa.glo "law").ok,
  (He.Fa.glo "Weaving").ok,
  (He.Fa.glo "Row").ok,
  (He.Fa.glo "Page").ok,
  (He.Fa.glo "InvalidRow").ok,
  (He.Fa.glo "InvalidText").ok,
  (He.Fa.free "isinstance").ok,
  (He.Fa.free "str").ok,
  (He.Fa.free "len").ok,
  (He.Fa.free "all").ok,
  (He.Fa.free "list").ok,
  (He.Fa.free "tuple").ok,
  (He.Fa.free "int").ok,
  (He.Fa.free "enumerate").ok,
  (He.Fa.free "range").ok,
  (He.Fa.free "abs").ok,
  (He.Fa.free "min").ok,
  (He.Fa.str "SMALL" "abcdefghijklmnopqrstuvwxyz").ok,
  (He.Fa.glo "BARRED").ok,
  (fun K => He.tupB K "BARRED" [.str "no", .str "yes", .str "do", .str "if", .str "and", .str "not", .str "then"]),
  (He.Fa.glo "LETTERS").ok,
  (fun K => He.tupB K "LETTERS" [.str "yes", .str "no", .str "list"]),
  (He.Fa.glo "TESTS").ok,
  (fun K => He.tupB K "TESTS" [.str "old", .str "all", .str "open", .str "same", .str "first", .str "gone"]),
  (He.Fa.glo "DEEDS").ok,
  (fun K => He.tupB K "DEEDS" [.str "take", .str "do", .str "drop", .str "sweep", .str "clear"]),
  (He.Fa.glo "OF_ANSWERS").ok,
  (fun K => He.tupB K "OF_ANSWERS" [.str "first", .str "gone", .str "do", .str "drop"]),
  (He.Fa.cls "Weaving").ok,
  (He.Fa.mkr "Weaving").ok,
  (fun K => isiB K (He.ga K "Weaving")),
  (fun K => cmB K (He.ga K "Weaving") "read"),
  (He.Fa.noat "Weaving" "events").ok,
  (He.Fa.meth "Weaving" "upto").ok,
  (fun K => ownB K (He.ga K "Weaving") "__add__"),
  (fun K => ownB K (He.ga K "Weaving") "__eq__"),
  (fun K => ownB K (He.ga K "Weaving") "__str__"),
  (He.Fa.cls "Row").ok,
  (He.Fa.mkr "Row").ok,
  (fun K => isiB K (He.ga K "Row")),
  (fun K => cmB K (He.ga K "Row") "read"),
  (He.Fa.noat "Row" "letter").ok,
  (He.Fa.noat "Row" "tests").ok,
  (He.Fa.noat "Row" "deeds").ok,
  (fun K => ownB K (He.ga K "Row") "__eq__"),
  (fun K => ownB K (He.ga K "Row") "__str__"),
  (He.Fa.cls "Page").ok,
  (He.Fa.mkr "Page").ok,
  (fun K => isiB K (He.ga K "Page")),
  (fun K => cmB K (He.ga K "Page") "read"),
  (He.Fa.noat "Page" "rows").ok,
  (He.Fa.meth "Page" "need_row").ok,
  (He.Fa.meth "Page" "without").ok,
  (fun K => ownB K (He.ga K "Page") "__len__"),
  (fun K => ownB K (He.ga K "Page") "__getitem__"),
  (fun K => ownB K (He.ga K "Page") "__add__"),
  (fun K => ownB K (He.ga K "Page") "__eq__"),
  (fun K => ownB K (He.ga K "Page") "__str__"),
  (fun K => He.eqO (PySem.W.findIn K (.ref (He.ga K "Weaving")) (PySem.dunder Operator.Add.info.2)) (some (some (.ref (He.ma K (He.ga K "Weaving") "__add__"))))),
  (fun K => He.eqO (PySem.W.findIn K (.ref (He.ga K "Page")) (PySem.dunder Operator.Add.info.2)) (some (some (.ref (He.ma K (He.ga K "Page") "__add__")))))]
/-- the defs -/
def d_is_name : He5.DefA := { at_ := fun K => He.ga K "is_name", name := "is_name", qual := "is_name", params := defArgs s_is_name, body := defBody s_is_name, scope := defScope s_is_name }
def d_is_sequence : He5.DefA := { at_ := fun K => He.ga K "is_sequence", name := "is_sequence", qual := "is_sequence", params := defArgs s_is_sequence, body := defBody s_is_sequence, scope := defScope s_is_sequence }
def d_is_decimal : He5.DefA := { at_ := fun K => He.ga K "is_decimal", name := "is_decimal", qual := "is_decimal", params := defArgs s_is_decimal, body := defBody s_is_decimal, scope := defScope s_is_decimal }
def d_event_in : He5.DefA := { at_ := fun K => He.ga K "event_in", name := "event_in", qual := "event_in", params := defArgs s_event_in, body := defBody s_event_in, scope := defScope s_event_in }
def d_fits_letter : He5.DefA := { at_ := fun K => He.ga K "fits_letter", name := "fits_letter", qual := "fits_letter", params := defArgs s_fits_letter, body := defBody s_fits_letter, scope := defScope s_fits_letter }
def d_is_test : He5.DefA := { at_ := fun K => He.ga K "is_test", name := "is_test", qual := "is_test", params := defArgs s_is_test, body := defBody s_is_test, scope := defScope s_is_test }
def d_is_deed : He5.DefA := { at_ := fun K => He.ga K "is_deed", name := "is_deed", qual := "is_deed", params := defArgs s_is_deed, body := defBody s_is_deed, scope := defScope s_is_deed }
def d__law_deal : He5.DefA := { at_ := fun K => He.ga K "_law_deal", name := "_law_deal", qual := "_law_deal", params := defArgs s__law_deal, body := defBody s__law_deal, scope := defScope s__law_deal }
def d__law_draw : He5.DefA := { at_ := fun K => He.ga K "_law_draw", name := "_law_draw", qual := "_law_draw", params := defArgs s__law_draw, body := defBody s__law_draw, scope := defScope s__law_draw }
def d__law_row : He5.DefA := { at_ := fun K => He.ga K "_law_row", name := "_law_row", qual := "_law_row", params := defArgs s__law_row, body := defBody s__law_row, scope := defScope s__law_row }
def d__law_few_clicks : He5.DefA := { at_ := fun K => He.ga K "_law_few_clicks", name := "_law_few_clicks", qual := "_law_few_clicks", params := defArgs s__law_few_clicks, body := defBody s__law_few_clicks, scope := defScope s__law_few_clicks }
def d_law : He5.DefA := { at_ := fun K => He.ga K "law", name := "law", qual := "law", params := defArgs s_law, body := defBody s_law, scope := defScope s_law }
def d_Weaving_init : He5.DefA := { at_ := fun K => He.ma K (He.ga K "Weaving") "__init__", name := "__init__", qual := "Weaving.__init__", params := defArgs s_Weaving_init, body := defBody s_Weaving_init, scope := defScope s_Weaving_init, dfl := [.adr (He.dflAt ("Weaving", some "__init__") 0)] }
def d_Weaving_read : He5.DefA := { at_ := fun K => He5.wf K (He.ga K "Weaving") "classmethod" "read", name := "read", qual := "Weaving.read", params := defArgs s_Weaving_read, body := defBody s_Weaving_read, scope := defScope s_Weaving_read }
def d_Weaving_upto : He5.DefA := { at_ := fun K => He.ma K (He.ga K "Weaving") "upto", name := "upto", qual := "Weaving.upto", params := defArgs s_Weaving_upto, body := defBody s_Weaving_upto, scope := defScope s_Weaving_upto }
def d_Weaving_add : He5.DefA := { at_ := fun K => He.ma K (He.ga K "Weaving") "__add__", name := "__add__", qual := "Weaving.__add__", params := defArgs s_Weaving_add, body := defBody s_Weaving_add, scope := defScope s_Weaving_add }
def d_Weaving_eq : He5.DefA := { at_ := fun K => He.ma K (He.ga K "Weaving") "__eq__", name := "__eq__", qual := "Weaving.__eq__", params := defArgs s_Weaving_eq, body := defBody s_Weaving_eq, scope := defScope s_Weaving_eq }
def d_Weaving_str : He5.DefA := { at_ := fun K => He.ma K (He.ga K "Weaving") "__str__", name := "__str__", qual := "Weaving.__str__", params := defArgs s_Weaving_str, body := defBody s_Weaving_str, scope := defScope s_Weaving_str }
def d_Row_init : He5.DefA := { at_ := fun K => He.ma K (He.ga K "Row") "__init__", name := "__init__", qual := "Row.__init__", params := defArgs s_Row_init, body := defBody s_Row_init, scope := defScope s_Row_init, dfl := [.adr (He.dflAt ("Row", some "__init__") 0), .adr (He.dflAt ("Row", some "__init__") 1)] }
def d_Row_read : He5.DefA := { at_ := fun K => He5.wf K (He.ga K "Row") "classmethod" "read", name := "read", qual := "Row.read", params := defArgs s_Row_read, body := defBody s_Row_read, scope := defScope s_Row_read }
def d_Row_eq : He5.DefA := { at_ := fun K => He.ma K (He.ga K "Row") "__eq__", name := "__eq__", qual := "Row.__eq__", params := defArgs s_Row_eq, body := defBody s_Row_eq, scope := defScope s_Row_eq }
def d_Row_str : He5.DefA := { at_ := fun K => He.ma K (He.ga K "Row") "__str__", name := "__str__", qual := "Row.__str__", params := defArgs s_Row_str, body := defBody s_Row_str, scope := defScope s_Row_str }
def d_Page_init : He5.DefA := { at_ := fun K => He.ma K (He.ga K "Page") "__init__", name := "__init__", qual := "Page.__init__", params := defArgs s_Page_init, body := defBody s_Page_init, scope := defScope s_Page_init, dfl := [.adr (He.dflAt ("Page", some "__init__") 0)] }
def d_Page_read : He5.DefA := { at_ := fun K => He5.wf K (He.ga K "Page") "classmethod" "read", name := "read", qual := "Page.read", params := defArgs s_Page_read, body := defBody s_Page_read, scope := defScope s_Page_read }
def d_Page_need_row : He5.DefA := { at_ := fun K => He.ma K (He.ga K "Page") "need_row", name := "need_row", qual := "Page.need_row", params := defArgs s_Page_need_row, body := defBody s_Page_need_row, scope := defScope s_Page_need_row }
def d_Page_without : He5.DefA := { at_ := fun K => He.ma K (He.ga K "Page") "without", name := "without", qual := "Page.without", params := defArgs s_Page_without, body := defBody s_Page_without, scope := defScope s_Page_without }
def d_Page_len : He5.DefA := { at_ := fun K => He.ma K (He.ga K "Page") "__len__", name := "__len__", qual := "Page.__len__", params := defArgs s_Page_len, body := defBody s_Page_len, scope := defScope s_Page_len }
def d_Page_getitem : He5.DefA := { at_ := fun K => He.ma K (He.ga K "Page") "__getitem__", name := "__getitem__", qual := "Page.__getitem__", params := defArgs s_Page_getitem, body := defBody s_Page_getitem, scope := defScope s_Page_getitem }
def d_Page_add : He5.DefA := { at_ := fun K => He.ma K (He.ga K "Page") "__add__", name := "__add__", qual := "Page.__add__", params := defArgs s_Page_add, body := defBody s_Page_add, scope := defScope s_Page_add }
def d_Page_eq : He5.DefA := { at_ := fun K => He.ma K (He.ga K "Page") "__eq__", name := "__eq__", qual := "Page.__eq__", params := defArgs s_Page_eq, body := defBody s_Page_eq, scope := defScope s_Page_eq }
def d_Page_str : He5.DefA := { at_ := fun K => He.ma K (He.ga K "Page") "__str__", name := "__str__", qual := "Page.__str__", params := defArgs s_Page_str, body := defBody s_Page_str, scope := defScope s_Page_str }
def defs : List He5.DefA := [d_is_name, d_is_sequence, d_is_decimal, d_event_in, d_fits_letter, d_is_test, d_is_deed, d__law_deal, d__law_draw, d__law_row, d__law_few_clicks, d_law, d_Weaving_init, d_Weaving_read, d_Weaving_upto, d_Weaving_add, d_Weaving_eq, d_Weaving_str, d_Row_init, d_Row_read, d_Row_eq, d_Row_str, d_Page_init, d_Page_read, d_Page_need_row, d_Page_without, d_Page_len, d_Page_getitem, d_Page_add, d_Page_eq, d_Page_str]
/-- all of it, over what stands behind the top -/
def obsM (K : PySem.W.Frag) : He.AlD := ((facts.all fun f => f K) && defs.all fun d => d.ok K, defs.map fun d => He5.fnA K (d.at_ K))
def valM : He.AlD := (true, defs.map He5.DefA.val)
def SaysM (K : PySem.W.Frag) : Prop := obsM K = valM
theorem SaysM.fact {K : PySem.W.Frag} (c : SaysM K) (i : Nat) {f : PySem.W.Frag → Bool} (h : facts[i]? = some f := by rfl) : f K = true := by
  have c1 := (He.ba (show ((facts.all fun f => f K) && defs.all fun d => d.ok K) = true from congrArg (fun z : He.AlD => z.1) c)).1
  exact List.all_eq_true.mp c1 f (List.mem_of_getElem? h)
theorem SaysM.def_ {K : PySem.W.Frag} (c : SaysM K) (i : Nat) {d : He5.DefA} (h : defs[i]? = some d := by rfl) : ∃ fd, L2.FunD K d.name d.qual d.params d.body d.scope (d.dvs K) (d.kws K) (d.at_ K) fd := by
  have c2 := (He.ba (show ((facts.all fun f => f K) && defs.all fun d => d.ok K) = true from congrArg (fun z : He.AlD => z.1) c)).2
  have e : defs.map (fun d => He5.fnA K (d.at_ K)) = defs.map He5.DefA.val := congrArg (fun z : He.AlD => z.2) c
  have e2 : (defs.map fun d => He5.fnA K (d.at_ K))[i]? = (defs.map He5.DefA.val)[i]? := by rw [e]
  rw [List.getElem?_map, List.getElem?_map, h] at e2
  exact He5.DefA.funD (Option.some.inj e2) (List.all_eq_true.mp c2 d (List.mem_of_getElem? h))
/-- what the walks lean on -/
structure Txt (K : PySem.W.Frag) (mg : Str → Option Value) : Prop where
  g_is_name : mg "is_name" = some (.ref (He.ga K "is_name"))
  g_is_sequence : mg "is_sequence" = some (.ref (He.ga K "is_sequence"))
  g_is_decimal : mg "is_decimal" = some (.ref (He.ga K "is_decimal"))
  g_event_in : mg "event_in" = some (.ref (He.ga K "event_in"))
  g_fits_letter : mg "fits_letter" = some (.ref (He.ga K "fits_letter"))
  g_is_test : mg "is_test" = some (.ref (He.ga K "is_test"))
  g_is_deed : mg "is_deed" = some (.ref (He.ga K "is_deed"))
  g__law_deal : mg "_law_deal" = some (.ref (He.ga K "_law_deal"))
  g__law_draw : mg "_law_draw" = some (.ref (He.ga K "_law_draw"))
  g__law_row : mg "_law_row" = some (.ref (He.ga K "_law_row"))
  g__law_few_clicks : mg "_law_few_clicks" = some (.ref (He.ga K "_law_few_clicks"))
  g_law : mg "law" = some (.ref (He.ga K "law"))
  g_Weaving : mg "Weaving" = some (.ref (He.ga K "Weaving"))
  g_Row : mg "Row" = some (.ref (He.ga K "Row"))
  g_Page : mg "Page" = some (.ref (He.ga K "Page"))
  g_InvalidRow : mg "InvalidRow" = some (.ref (He.ga K "InvalidRow"))
  g_InvalidText : mg "InvalidText" = some (.ref (He.ga K "InvalidText"))
  f_isinstance : mg "isinstance" = none
  f_str : mg "str" = none
  f_len : mg "len" = none
  f_all : mg "all" = none
  f_list : mg "list" = none
  f_tuple : mg "tuple" = none
  f_int : mg "int" = none
  f_enumerate : mg "enumerate" = none
  f_range : mg "range" = none
  f_abs : mg "abs" = none
  f_min : mg "min" = none
  v_SMALL : ∃ t, mg "SMALL" = some (.str "abcdefghijklmnopqrstuvwxyz" t)
  g_BARRED : mg "BARRED" = some (.ref (He.ga K "BARRED"))
  t_BARRED : ∀ H : Hp, SqT K H (He.ga K "BARRED") [V.str "no", V.str "yes", V.str "do", V.str "if", V.str "and", V.str "not", V.str "then"]
  g_LETTERS : mg "LETTERS" = some (.ref (He.ga K "LETTERS"))
  t_LETTERS : ∀ H : Hp, SqT K H (He.ga K "LETTERS") [V.str "yes", V.str "no", V.str "list"]
  g_TESTS : mg "TESTS" = some (.ref (He.ga K "TESTS"))
  t_TESTS : ∀ H : Hp, SqT K H (He.ga K "TESTS") [V.str "old", V.str "all", V.str "open", V.str "same", V.str "first", V.str "gone"]
  g_DEEDS : mg "DEEDS" = some (.ref (He.ga K "DEEDS"))
  t_DEEDS : ∀ H : Hp, SqT K H (He.ga K "DEEDS") [V.str "take", V.str "do", V.str "drop", V.str "sweep", V.str "clear"]
  g_OF_ANSWERS : mg "OF_ANSWERS" = some (.ref (He.ga K "OF_ANSWERS"))
  t_OF_ANSWERS : ∀ H : Hp, SqT K H (He.ga K "OF_ANSWERS") [V.str "first", V.str "gone", V.str "do", V.str "drop"]
  c_Weaving : Cls K (He.ga K "Weaving")
  m_Weaving : Mk K (He.ga K "Weaving") (He.ma K (He.ga K "Weaving") "__init__")
  i_Weaving : IsiT K (He.ga K "Weaving")
  r_Weaving : CmT K (He.ga K "Weaving") "read" (He.ma K (He.ga K "Weaving") "read") (He5.wf K (He.ga K "Weaving") "classmethod" "read")
  n_Weaving_events : NoAttr K (He.ga K "Weaving") "events"
  h_Weaving_upto : Meth K (He.ga K "Weaving") "upto" (He.ma K (He.ga K "Weaving") "upto")
  o_Weaving_add : Own K (He.ga K "Weaving") "__add__" (He.ma K (He.ga K "Weaving") "__add__")
  o_Weaving_eq : Own K (He.ga K "Weaving") "__eq__" (He.ma K (He.ga K "Weaving") "__eq__")
  o_Weaving_str : Own K (He.ga K "Weaving") "__str__" (He.ma K (He.ga K "Weaving") "__str__")
  c_Row : Cls K (He.ga K "Row")
  m_Row : Mk K (He.ga K "Row") (He.ma K (He.ga K "Row") "__init__")
  i_Row : IsiT K (He.ga K "Row")
  r_Row : CmT K (He.ga K "Row") "read" (He.ma K (He.ga K "Row") "read") (He5.wf K (He.ga K "Row") "classmethod" "read")
  n_Row_letter : NoAttr K (He.ga K "Row") "letter"
  n_Row_tests : NoAttr K (He.ga K "Row") "tests"
  n_Row_deeds : NoAttr K (He.ga K "Row") "deeds"
  o_Row_eq : Own K (He.ga K "Row") "__eq__" (He.ma K (He.ga K "Row") "__eq__")
  o_Row_str : Own K (He.ga K "Row") "__str__" (He.ma K (He.ga K "Row") "__str__")
  c_Page : Cls K (He.ga K "Page")
  m_Page : Mk K (He.ga K "Page") (He.ma K (He.ga K "Page") "__init__")
  i_Page : IsiT K (He.ga K "Page")
  r_Page : CmT K (He.ga K "Page") "read" (He.ma K (He.ga K "Page") "read") (He5.wf K (He.ga K "Page") "classmethod" "read")
  n_Page_rows : NoAttr K (He.ga K "Page") "rows"
  h_Page_need_row : Meth K (He.ga K "Page") "need_row" (He.ma K (He.ga K "Page") "need_row")
  h_Page_without : Meth K (He.ga K "Page") "without" (He.ma K (He.ga K "Page") "without")
  o_Page_len : Own K (He.ga K "Page") "__len__" (He.ma K (He.ga K "Page") "__len__")
  o_Page_getitem : Own K (He.ga K "Page") "__getitem__" (He.ma K (He.ga K "Page") "__getitem__")
  o_Page_add : Own K (He.ga K "Page") "__add__" (He.ma K (He.ga K "Page") "__add__")
  o_Page_eq : Own K (He.ga K "Page") "__eq__" (He.ma K (He.ga K "Page") "__eq__")
  o_Page_str : Own K (He.ga K "Page") "__str__" (He.ma K (He.ga K "Page") "__str__")
  a_Weaving : PySem.W.findIn K (.ref (He.ga K "Weaving")) (PySem.dunder Operator.Add.info.2) = some (some (.ref (He.ma K (He.ga K "Weaving") "__add__")))
  a_Page : PySem.W.findIn K (.ref (He.ga K "Page")) (PySem.dunder Operator.Add.info.2) = some (some (.ref (He.ma K (He.ga K "Page") "__add__")))
  d_is_name : FD K "is_name" "is_name" s_is_name [] (He.ga K "is_name")
  d_is_sequence : FD K "is_sequence" "is_sequence" s_is_sequence [] (He.ga K "is_sequence")
  d_is_decimal : FD K "is_decimal" "is_decimal" s_is_decimal [] (He.ga K "is_decimal")
  d_event_in : FD K "event_in" "event_in" s_event_in [] (He.ga K "event_in")
  d_fits_letter : FD K "fits_letter" "fits_letter" s_fits_letter [] (He.ga K "fits_letter")
  d_is_test : FD K "is_test" "is_test" s_is_test [] (He.ga K "is_test")
  d_is_deed : FD K "is_deed" "is_deed" s_is_deed [] (He.ga K "is_deed")
  d__law_deal : FD K "_law_deal" "_law_deal" s__law_deal [] (He.ga K "_law_deal")
  d__law_draw : FD K "_law_draw" "_law_draw" s__law_draw [] (He.ga K "_law_draw")
  d__law_row : FD K "_law_row" "_law_row" s__law_row [] (He.ga K "_law_row")
  d__law_few_clicks : FD K "_law_few_clicks" "_law_few_clicks" s__law_few_clicks [] (He.ga K "_law_few_clicks")
  d_law : FD K "law" "law" s_law [] (He.ga K "law")
  d_Weaving_init : FD K "__init__" "Weaving.__init__" s_Weaving_init [V.ref (He.dflAt ("Weaving", some "__init__") 0 K)] (He.ma K (He.ga K "Weaving") "__init__")
  d_Weaving_read : FD K "read" "Weaving.read" s_Weaving_read [] (He5.wf K (He.ga K "Weaving") "classmethod" "read")
  d_Weaving_upto : FD K "upto" "Weaving.upto" s_Weaving_upto [] (He.ma K (He.ga K "Weaving") "upto")
  d_Weaving_add : FD K "__add__" "Weaving.__add__" s_Weaving_add [] (He.ma K (He.ga K "Weaving") "__add__")
  d_Weaving_eq : FD K "__eq__" "Weaving.__eq__" s_Weaving_eq [] (He.ma K (He.ga K "Weaving") "__eq__")
  d_Weaving_str : FD K "__str__" "Weaving.__str__" s_Weaving_str [] (He.ma K (He.ga K "Weaving") "__str__")
  d_Row_init : FD K "__init__" "Row.__init__" s_Row_init [V.ref (He.dflAt ("Row", some "__init__") 0 K), V.ref (He.dflAt ("Row", some "__init__") 1 K)] (He.ma K (He.ga K "Row") "__init__")
  d_Row_read : FD K "read" "Row.read" s_Row_read [] (He5.wf K (He.ga K "Row") "classmethod" "read")
  d_Row_eq : FD K "__eq__" "Row.__eq__" s_Row_eq [] (He.ma K (He.ga K "Row") "__eq__")
  d_Row_str : FD K "__str__" "Row.__str__" s_Row_str [] (He.ma K (He.ga K "Row") "__str__")
  d_Page_init : FD K "__init__" "Page.__init__" s_Page_init [V.ref (He.dflAt ("Page", some "__init__") 0 K)] (He.ma K (He.ga K "Page") "__init__")
  d_Page_read : FD K "read" "Page.read" s_Page_read [] (He5.wf K (He.ga K "Page") "classmethod" "read")
  d_Page_need_row : FD K "need_row" "Page.need_row" s_Page_need_row [] (He.ma K (He.ga K "Page") "need_row")
  d_Page_without : FD K "without" "Page.without" s_Page_without [] (He.ma K (He.ga K "Page") "without")
  d_Page_len : FD K "__len__" "Page.__len__" s_Page_len [] (He.ma K (He.ga K "Page") "__len__")
  d_Page_getitem : FD K "__getitem__" "Page.__getitem__" s_Page_getitem [] (He.ma K (He.ga K "Page") "__getitem__")
  d_Page_add : FD K "__add__" "Page.__add__" s_Page_add [] (He.ma K (He.ga K "Page") "__add__")
  d_Page_eq : FD K "__eq__" "Page.__eq__" s_Page_eq [] (He.ma K (He.ga K "Page") "__eq__")
  d_Page_str : FD K "__str__" "Page.__str__" s_Page_str [] (He.ma K (He.ga K "Page") "__str__")
theorem txt_of {K : PySem.W.Frag} {h : Heap} {mg : Str → Option Value} (X : K.In h) (G : h.Ns mainGlobals mg) (c : SaysM K) : Txt K mg where
  g_is_name := He.glo_ok X G (c.fact 0)
  g_is_sequence := He.glo_ok X G (c.fact 1)
  g_is_decimal := He.glo_ok X G (c.fact 2)
  g_event_in := He.glo_ok X G (c.fact 3)
  g_fits_letter := He.glo_ok X G (c.fact 4)
  g_is_test := He.glo_ok X G (c.fact 5)
  g_is_deed := He.glo_ok X G (c.fact 6)
  g__law_deal := He.glo_ok X G (c.fact 7)
  g__law_draw := He.glo_ok X G (c.fact 8)
  g__law_row := He.glo_ok X G (c.fact 9)
  g__law_few_clicks := He.glo_ok X G (c.fact 10)
  g_law := He.glo_ok X G (c.fact 11)
  g_Weaving := He.glo_ok X G (c.fact 12)
  g_Row := He.glo_ok X G (c.fact 13)
  g_Page := He.glo_ok X G (c.fact 14)
  g_InvalidRow := He.glo_ok X G (c.fact 15)
  g_InvalidText := He.glo_ok X G (c.fact 16)
  f_isinstance := He.free_ok X G (c.fact 17)
  f_str := He.free_ok X G (c.fact 18)
  f_len := He.free_ok X G (c.fact 19)
  f_all := He.free_ok X G (c.fact 20)
  f_list := He.free_ok X G (c.fact 21)
  f_tuple := He.free_ok X G (c.fact 22)
  f_int := He.free_ok X G (c.fact 23)
  f_enumerate := He.free_ok X G (c.fact 24)
  f_range := He.free_ok X G (c.fact 25)
  f_abs := He.free_ok X G (c.fact 26)
  f_min := He.free_ok X G (c.fact 27)
  v_SMALL := He.str_ok X G (c.fact 28)
  g_BARRED := He.glo_ok X G (c.fact 29)
  t_BARRED := fun H => He.tupB_ok (c.fact 30) H
  g_LETTERS := He.glo_ok X G (c.fact 31)
  t_LETTERS := fun H => He.tupB_ok (c.fact 32) H
  g_TESTS := He.glo_ok X G (c.fact 33)
  t_TESTS := fun H => He.tupB_ok (c.fact 34) H
  g_DEEDS := He.glo_ok X G (c.fact 35)
  t_DEEDS := fun H => He.tupB_ok (c.fact 36) H
  g_OF_ANSWERS := He.glo_ok X G (c.fact 37)
  t_OF_ANSWERS := fun H => He.tupB_ok (c.fact 38) H
  c_Weaving := He.cls_ok (c.fact 39)
  m_Weaving := He.mkr_ok (c.fact 40)
  i_Weaving := isiB_ok (c.fact 41)
  r_Weaving := cmB_ok (c.fact 42)
  n_Weaving_events := He.noat_ok (c.fact 43)
  h_Weaving_upto := He.meth_ok (c.fact 44)
  o_Weaving_add := ownB_ok (c.fact 45)
  o_Weaving_eq := ownB_ok (c.fact 46)
  o_Weaving_str := ownB_ok (c.fact 47)
  c_Row := He.cls_ok (c.fact 48)
  m_Row := He.mkr_ok (c.fact 49)
  i_Row := isiB_ok (c.fact 50)
  r_Row := cmB_ok (c.fact 51)
  n_Row_letter := He.noat_ok (c.fact 52)
  n_Row_tests := He.noat_ok (c.fact 53)
  n_Row_deeds := He.noat_ok (c.fact 54)
  o_Row_eq := ownB_ok (c.fact 55)
  o_Row_str := ownB_ok (c.fact 56)
  c_Page := He.cls_ok (c.fact 57)
  m_Page := He.mkr_ok (c.fact 58)
  i_Page := isiB_ok (c.fact 59)
  r_Page := cmB_ok (c.fact 60)
  n_Page_rows := He.noat_ok (c.fact 61)
  h_Page_need_row := He.meth_ok (c.fact 62)
  h_Page_without := He.meth_ok (c.fact 63)
  o_Page_len := ownB_ok (c.fact 64)
  o_Page_getitem := ownB_ok (c.fact 65)
  o_Page_add := ownB_ok (c.fact 66)
  o_Page_eq := ownB_ok (c.fact 67)
  o_Page_str := ownB_ok (c.fact 68)
  a_Weaving := He.eqO_ok (c.fact 69)
  a_Page := He.eqO_ok (c.fact 70)
  d_is_name := c.def_ 0 (d := Hk.d_is_name) rfl
  d_is_sequence := c.def_ 1 (d := Hk.d_is_sequence) rfl
  d_is_decimal := c.def_ 2 (d := Hk.d_is_decimal) rfl
  d_event_in := c.def_ 3 (d := Hk.d_event_in) rfl
  d_fits_letter := c.def_ 4 (d := Hk.d_fits_letter) rfl
  d_is_test := c.def_ 5 (d := Hk.d_is_test) rfl
  d_is_deed := c.def_ 6 (d := Hk.d_is_deed) rfl
  d__law_deal := c.def_ 7 (d := Hk.d__law_deal) rfl
  d__law_draw := c.def_ 8 (d := Hk.d__law_draw) rfl
  d__law_row := c.def_ 9 (d := Hk.d__law_row) rfl
  d__law_few_clicks := c.def_ 10 (d := Hk.d__law_few_clicks) rfl
  d_law := c.def_ 11 (d := Hk.d_law) rfl
  d_Weaving_init := c.def_ 12 (d := Hk.d_Weaving_init) rfl
  d_Weaving_read := c.def_ 13 (d := Hk.d_Weaving_read) rfl
  d_Weaving_upto := c.def_ 14 (d := Hk.d_Weaving_upto) rfl
  d_Weaving_add := c.def_ 15 (d := Hk.d_Weaving_add) rfl
  d_Weaving_eq := c.def_ 16 (d := Hk.d_Weaving_eq) rfl
  d_Weaving_str := c.def_ 17 (d := Hk.d_Weaving_str) rfl
  d_Row_init := c.def_ 18 (d := Hk.d_Row_init) rfl
  d_Row_read := c.def_ 19 (d := Hk.d_Row_read) rfl
  d_Row_eq := c.def_ 20 (d := Hk.d_Row_eq) rfl
  d_Row_str := c.def_ 21 (d := Hk.d_Row_str) rfl
  d_Page_init := c.def_ 22 (d := Hk.d_Page_init) rfl
  d_Page_read := c.def_ 23 (d := Hk.d_Page_read) rfl
  d_Page_need_row := c.def_ 24 (d := Hk.d_Page_need_row) rfl
  d_Page_without := c.def_ 25 (d := Hk.d_Page_without) rfl
  d_Page_len := c.def_ 26 (d := Hk.d_Page_len) rfl
  d_Page_getitem := c.def_ 27 (d := Hk.d_Page_getitem) rfl
  d_Page_add := c.def_ 28 (d := Hk.d_Page_add) rfl
  d_Page_eq := c.def_ 29 (d := Hk.d_Page_eq) rfl
  d_Page_str := c.def_ 30 (d := Hk.d_Page_str) rfl
end Hk

set_option Elab.async false
set_option linter.all false
set_option maxRecDepth 100000
set_option maxHeartbeats 4000000
/-! Promises; what stands in the heap; small readings. -/
namespace Hk
open PySem PySem.Spec PyProof.Rows L2
/-! ### a def that keeps a promise -/
structure Ok (P : Program) (w : World) (K : PySem.W.Frag) (mg : Str → Option Value) (base : Heap) (k : Nat) (f : Addr) (ps : List Str) (sp : Sp) : Prop where
  ex : ∃ fd, FnOk P w K mg base L2.CX0 k f fd ps sp ∧ Binds K fd ps [] ∧ PySem.W.keepIn K (.ref f) = true
section
variable {P : Program} {w : World} {K : PySem.W.Frag} {mg : Str → Option Value} {base : Heap}
theorem ok_mk {x qual : Str} {st : Stmt} {dvs : List V} {f : Addr} {N ps : List Str} {k : Nat} {sp : Sp} (D : FD K x qual st dvs f) (S : FnScope N ps (defScope st))
    (len : ∀ vs H Q E, sp vs H Q E → vs.length = ps.length) (hb : ∀ fd, FunD K x qual (defArgs st) (defBody st) (defScope st) dvs [] f fd → Binds K fd ps [])
    (hbody : ∀ (cdv : Value) (A : Around) (outer : List Env) (s : Shared) (H : Hp) (vs : List V) (Q : VK) (E : XK), Room k (A.deeper (envOfC qual (defScope st) s.heap.objs.size f cdv)) → sp vs H Q E →
      ∃ t, PSs (cxOf L2.CX0 P w K mg base N qual (defScope st) f cdv A outer s H E).nox (defBody st) t ∧ t { nx := fun _ H' => Q .non H', rt := Q } (L2.start N vs) H) : Ok P w K mg base (k + 1) f ps sp := by
  obtain ⟨fd, F⟩ := D
  refine ⟨fd, F.ok S len fun cdv A outer s H vs Q E hr h => ?_, hb fd F, F.kp⟩
  obtain ⟨t, h1, h2⟩ := hbody cdv A outer s H vs Q E hr h
  exact ⟨t, h1.nox, h2⟩
/-- defaults stand, but every parameter is given -/
theorem binds_full {x qual : Str} {params : Arguments} {body : List Stmt} {scope : Scope} {dvs : List V} {f : Addr} {fd : FuncData} {ps : List Str} (F : FunD K x qual params body scope dvs [] f fd) (hd : dvs ≠ [])
    (h : ∀ (T : Addr) (kV doc pm : Value) (an : Option Addr) (cdv ct : Value) (us its : List Value), us.length = ps.length → its.length = dvs.length →
      ∃ k, bindArgs (PySem.W.fnOf x qual params body scope (.ref T) kV doc pm an cdv ct) ⟨us, []⟩ = seqItems? (.ref T) >>= k ∧ k (some its.toArray) = pure (ps.zip us)) : Binds K fd ps [] := by
  obtain ⟨ds, hds, b⟩ := F.binds1 (ps := ps) ps.length dvs.length hd (by omega) (fun T kV doc pm an cdv ct us its h1 h2 => by
    obtain ⟨k, e1, e2⟩ := h T kV doc pm an cdv ct us its h1 h2
    refine ⟨k, e1, ?_⟩
    rw [e2, show its.drop dvs.length = [] from by rw [← h2, List.drop_length], List.append_nil])
  rw [List.drop_length] at hds
  cases hds
  exact b
variable {k : Nat} {f C : Addr} {ps : List Str} {sp : Sp} {x m : Str}
theorem Ok.cal (o : Ok P w K mg base k f ps sp) (hm : mg x = some (.ref f)) : C8.Cal P w K mg base k x sp [] := by
  obtain ⟨fd, F, b, kp⟩ := o.ex
  exact ⟨f, fd, ps, [], F, hm, kp, b, .nil⟩
theorem Ok.met (o : Ok P w K mg base k f ps sp) (c : Cls K C) (h : Meth K C m f) : C8.Met P w K mg base k C m sp [] := by
  obtain ⟨fd, F, b, kp⟩ := o.ex
  exact ⟨f, fd, ps, [], c, h, F, b, .nil⟩
theorem Ok.mak (o : Ok P w K mg base k f ps sp) (M : Mk K C f) (hm : mg x = some (.ref C)) : C8.Mak P w K mg base k x C sp [] := by
  obtain ⟨fd, F, b, kp⟩ := o.ex
  exact ⟨f, fd, ps, [], M, F, hm, b, .nil⟩
theorem Ok.raw (o : Ok P w K mg base k f ps sp) : FnR P w K mg base L2.CX0 k f sp := by
  obtain ⟨fd, F, b, kp⟩ := o.ex
  exact (F.raw b .nil).imp fun vs H Q E h => by rw [List.append_nil]; exact h
theorem Ok.mono {j : Nat} (o : Ok P w K mg base j f ps sp) (h : j ≤ k) : Ok P w K mg base k f ps sp := by
  obtain ⟨fd, F, b, kp⟩ := o.ex
  exact ⟨fd, F.mono h, b, kp⟩
end
/-! ### heaps -/
theorem sqT_same {K : PySem.W.Frag} {H H' : Hp} {a : Addr} {xs : List V} (e : Same H H') (h : SqT K H a xs) : SqT K H' a xs := by
  rcases h with (h | ⟨o, h⟩) | h
  · exact .inl (.inl (e _ _ h))
  · exact .inl (.inr ⟨o, e _ _ h⟩)
  · exact .inr h
theorem same_new {H : Hp} {p : Addr} {o : HO} (h : H p = none) : Same H (upd H p o) := fun b u e => by
  rw [upd_ne (ne_of_none e h)]
  exact e
/-- a new object, later changed -/
theorem same_chg {H0 H : Hp} {p : Addr} {o : HO} (e : Same H0 H) (h : H0 p = none) : Same H0 (upd H p o) := fun b u q => by
  rw [upd_ne (ne_of_none q h)]
  exact e _ _ q
/-- a list or a tuple -/
def Sq (K : PySem.W.Frag) (H : Hp) (a : Addr) (xs : List V) : Prop := SqL K H a xs ∨ SqT K H a xs
theorem Sq.same {K : PySem.W.Frag} {H H' : Hp} {a : Addr} {xs : List V} (h : Sq K H a xs) (e : Same H H') : Sq K H' a xs := h.elim (fun h => .inl (e.seq h)) fun h => .inr (sqT_same e h)
theorem ty_L {K : PySem.W.Frag} {H : Hp} {a : Addr} {xs : List V} (h : SqL K H a xs) : TyX K H (.ref a) (.type "list") := by
  rcases h with (h | ⟨o, h⟩) | ⟨o, its, n, h1, h2, _⟩
  · exact .base (.lst h)
  · exact .base (.frz h)
  · exact .kList h1 h2
theorem ty_T {K : PySem.W.Frag} {H : Hp} {a : Addr} {xs : List V} (h : SqT K H a xs) : TyX K H (.ref a) (.type "tuple") := by
  rcases h with (h | ⟨o, h⟩) | ⟨o, its, n, h1, h2, _⟩
  · exact .base (.tup h)
  · exact .fTuple h
  · exact .kTuple h1 h2
theorem ty_ins {K : PySem.W.Frag} {H : Hp} {a C dx : Addr} {fs : List (Str × V)} (h : H a = some (.ins C dx fs)) (c : Cls K C) (i : IsiT K C) : TyX K H (.ref a) (.ref C) := .base (.ins h c i.ca i.cn i.ct i.cm)
theorem paired_map {α β : Type} {R S : α → β → Prop} : ∀ {l : List α} {m : List β}, Paired R l m → (∀ a b, R a b → S a b) → Paired S l m
  | _, _, .nil, _ => .nil
  | _, _, .cons r t, f => .cons (f _ _ r) (paired_map t f)
theorem paired_take {α β : Type} {R : α → β → Prop} : ∀ {l : List α} {m : List β} (n : Nat), Paired R l m → Paired R (l.take n) (m.take n)
  | _, _, 0, _ => .nil
  | _, _, _ + 1, .nil => .nil
  | _, _, n + 1, .cons r t => .cons r (paired_take n t)
theorem paired_drop {α β : Type} {R : α → β → Prop} : ∀ {l : List α} {m : List β} (n : Nat), Paired R l m → Paired R (l.drop n) (m.drop n)
  | _, _, 0, h => h
  | _, _, _ + 1, .nil => .nil
  | _, _, n + 1, .cons _ t => paired_drop n t
theorem paired_append {α β : Type} {R : α → β → Prop} : ∀ {l l' : List α} {m m' : List β}, Paired R l m → Paired R l' m' → Paired R (l ++ l') (m ++ m')
  | _, _, _, _, .nil, s => s
  | _, _, _, _, .cons r t, s => .cons r (paired_append t s)
theorem paired_len {α β : Type} {R : α → β → Prop} : ∀ {l : List α} {m : List β}, Paired R l m → l.length = m.length
  | _, _, .nil => rfl
  | _, _, .cons _ t => congrArg Nat.succ (paired_len t)
theorem paired_get {α β : Type} {R : α → β → Prop} : ∀ {l : List α} {m : List β} {i : Nat} {a : α}, Paired R l m → l[i]? = some a → ∃ b, m[i]? = some b ∧ R a b
  | _, _, i, a, .nil, e => by simp at e
  | _, _, 0, a, .cons r t, e => by
    simp at e
    subst e
    exact ⟨_, rfl, r⟩
  | _, _, i + 1, a, .cons r t, e => by
    obtain ⟨b, h1, h2⟩ := paired_get (i := i) (a := a) t (by simpa using e)
    exact ⟨b, by simpa using h1, h2⟩
/-! ### the data -/
structure RowD where
  letter : Str
  tests : List Str
  deeds : List Str
def tx (xs : List Str) : List V := xs.map V.str
def ad (xs : List Addr) : List V := xs.map V.ref
abbrev cW (K : PySem.W.Frag) : Addr := He.ga K "Weaving"
abbrev cR (K : PySem.W.Frag) : Addr := He.ga K "Row"
abbrev cP (K : PySem.W.Frag) : Addr := He.ga K "Page"
/-- the fields of a page, of a weaving: one; of a row: three -/
def oneF (f : Str) (t : Addr) : List (Str × V) := putF f (.ref t) []
theorem oneF_at (f : Str) (t : Addr) : (oneF f t).lookup f = some (.ref t) := by
  unfold oneF
  rw [lookup_putF, if_pos rfl]
theorem oneF_no {f g : Str} (t : Addr) (h : ¬ g = f) : (oneF f t).lookup g = none := by
  unfold oneF
  rw [lookup_putF, if_neg h] <;> rfl
def rowF (l : Str) (t d : Addr) : List (Str × V) := putF "deeds" (.ref d) (putF "tests" (.ref t) (putF "letter" (.str l) []))
theorem rowF_deeds (l : Str) (t d : Addr) : (rowF l t d).lookup ("deeds" : Str) = some (.ref d) := by
  unfold rowF
  rw [lookup_putF, if_pos rfl]
theorem rowF_tests (l : Str) (t d : Addr) : (rowF l t d).lookup ("tests" : Str) = some (.ref t) := by
  unfold rowF
  rw [lookup_putF, if_neg (by decide +kernel), lookup_putF, if_pos rfl]
theorem rowF_letter (l : Str) (t d : Addr) : (rowF l t d).lookup ("letter" : Str) = some (.str l) := by
  unfold rowF
  rw [lookup_putF, if_neg (by decide +kernel), lookup_putF, if_neg (by decide +kernel), lookup_putF, if_pos rfl]
def RowAt (K : PySem.W.Frag) (H : Hp) (r : Addr) (d : RowD) : Prop := ∃ dx t1 t2, H r = some (.ins (cR K) dx (rowF d.letter t1 t2)) ∧ SqT K H t1 (tx d.tests) ∧ SqT K H t2 (tx d.deeds)
def PageAt (K : PySem.W.Frag) (H : Hp) (p : Addr) (ds : List RowD) : Prop := ∃ dx t rs, H p = some (.ins (cP K) dx (oneF "rows" t)) ∧ SqT K H t (ad rs) ∧ Paired (RowAt K H) rs ds
def WovAt (K : PySem.W.Frag) (H : Hp) (p : Addr) (es : List Str) : Prop := ∃ dx t, H p = some (.ins (cW K) dx (oneF "events" t)) ∧ SqT K H t (tx es)
theorem RowAt.same {K : PySem.W.Frag} {H H' : Hp} {r : Addr} {d : RowD} (h : RowAt K H r d) (e : Same H H') : RowAt K H' r d := by
  obtain ⟨dx, t1, t2, h1, h2, h3⟩ := h
  exact ⟨dx, t1, t2, e _ _ h1, sqT_same e h2, sqT_same e h3⟩
theorem PageAt.same {K : PySem.W.Frag} {H H' : Hp} {p : Addr} {ds : List RowD} (h : PageAt K H p ds) (e : Same H H') : PageAt K H' p ds := by
  obtain ⟨dx, t, rs, h1, h2, h3⟩ := h
  exact ⟨dx, t, rs, e _ _ h1, sqT_same e h2, paired_map h3 fun _ _ q => q.same e⟩
theorem WovAt.same {K : PySem.W.Frag} {H H' : Hp} {p : Addr} {es : List Str} (h : WovAt K H p es) (e : Same H H') : WovAt K H' p es := by
  obtain ⟨dx, t, h1, h2⟩ := h
  exact ⟨dx, t, e _ _ h1, sqT_same e h2⟩
/-! ### a comprehension over a text -/
theorem lc_str {z : Str} {g : TG} {tt : TT} {te : TE} {vs : List Nat} {σ : L2.St} {H1 : Hp} {D : Addr} {Qd : Hp → Prop} (Pv : Nat → Hp → Prop) (h0 : Pv 0 (upd H1 D (.lst [])))
    (hs : ∀ i c H, z.cps[i]? = some c → Pv i H → g (.str ⟨#[c]⟩) (wipe σ vs) H fun σ2 H2 => wipe σ2 vs = wipe σ vs ∧ tt σ2 H2 fun b H3 =>
      if b = true then te σ2 H3 fun y H4 => ∃ acc, H4 D = some (.lst acc) ∧ acc.length < sizeLine ∧ Pv (i + 1) (upd H4 D (.lst (acc ++ [y]))) else Pv (i + 1) H3) (hd : ∀ H, Pv z.cps.size H → Qd H) :
    ∃ W : Nat → Nat → Hp → Prop, (∃ m, W 0 m (upd H1 D (.lst []))) ∧ ∀ i m H, W i m H →
      ((Its z).stop i H ∧ Qd H) ∨ ((Its z).go i H ∧ ∃ Nx : Hp → Prop, (∀ H', Nx H' → ∃ m', m' < m ∧ W (i + 1) m' H') ∧ ∀ x H', (Its z).yld i H x H' → g x (wipe σ vs) H' fun σ2 H2 => wipe σ2 vs = wipe σ vs ∧ tt σ2 H2 fun b H3 =>
        if b = true then te σ2 H3 fun y H4 => ∃ acc, H4 D = some (.lst acc) ∧ acc.length < sizeLine ∧ Nx (upd H4 D (.lst (acc ++ [y]))) else Nx H3) := by
  refine ⟨fun i m H => m = z.cps.size - i ∧ i ≤ z.cps.size ∧ Pv i H, ⟨z.cps.size, by simp, Nat.zero_le _, h0⟩, ?_⟩
  rintro i m H ⟨rfl, hi, p⟩
  by_cases hlt : i < z.cps.size
  · refine .inr ⟨hlt, Pv (i + 1), fun H' p' => ⟨z.cps.size - (i + 1), by omega, rfl, hlt, p'⟩, fun x H' y => ?_⟩
    obtain ⟨e, c, hc, ex⟩ := y
    subst e ex
    exact hs i c _ hc p
  · have e : i = z.cps.size := by omega
    subst e
    exact .inl ⟨Nat.le_refl _, hd H p⟩
/-- tuple(x), x a list or a tuple -/
def rTupA (K : PySem.W.Frag) : List V → Hp → VK → Prop := fun xs H Q => ∃ p ys, xs = [.ref p] ∧ ((SqL K H p ys ∧ ∀ l, H l = none → Q (.ref l) (upd H l (.tup ys))) ∨ (SqT K H p ys ∧ Q (.ref p) H))
theorem call_tupA {X : Cx} : CallR X (.type "tuple") (rTupA X.K) := call_tuple_of
theorem go_tup {K : PySem.W.Frag} {H : Hp} {a : Addr} {xs : List V} {Q : VK} {σ : L2.St} {i : Nat} (hσ : σ[i]? = some (some (.ref a))) (hq : Sq K H a xs) (h : ∀ t H', Same H H' → SqT K H' t xs → Q (.ref t) H') :
    tCB (rTupA K) (tCons (tVar i) tNil) σ H Q := by
  refine ⟨_, hσ, ?_⟩
  rcases hq with q | q
  · exact ⟨a, xs, rfl, .inl ⟨q, fun l hl => h l _ (same_new hl) (SqT.of upd_same)⟩⟩
  · exact ⟨a, xs, rfl, .inr ⟨q, h a H (Same.refl _) q⟩⟩
/-- an instance is changed: tuples stand -/
theorem sqT_upd {K : PySem.W.Frag} {H : Hp} {a x C dx : Addr} {xs : List V} {fs : List (Str × V)} {o : HO} (hx : H x = some (.ins C dx fs)) (h : SqT K H a xs) : SqT K (upd H x o) a xs := by
  rcases h with (h | ⟨u, h⟩) | h
  · exact .inl (.inl (by rw [upd_ne (ne_of h hx (by intro z; cases z))]; exact h))
  · exact .inl (.inr ⟨u, by rw [upd_ne (ne_of h hx (by intro z; cases z))]; exact h⟩)
  · exact .inr h
/-! ### tuples: slices, sums -/
theorem cut_to (xs : List V) (n : Nat) : cutV xs none (some (n : Int)) = xs.take n := by
  show (xs.drop 0).take (HT.sIx xs.length xs.length (some (n : Int)) - 0) = xs.take n
  rw [HT.sIx_nat, List.drop_zero, Nat.sub_zero]
  rcases Nat.le_total n xs.length with h | h
  · rw [Nat.min_eq_left h]
  · rw [Nat.min_eq_right h, List.take_length, List.take_of_length_le h]
theorem cut_from (xs : List V) (n : Nat) : cutV xs (some (n : Int)) none = xs.drop n := by
  show (xs.drop (HT.sIx xs.length 0 (some (n : Int)))).take (xs.length - HT.sIx xs.length 0 (some (n : Int))) = xs.drop n
  rw [HT.sIx_nat]
  rcases Nat.le_total n xs.length with h | h
  · rw [Nat.min_eq_left h, List.take_of_length_le (by rw [List.length_drop] <;> omega)]
  · rw [Nat.min_eq_right h, List.drop_of_length_le h, List.drop_of_length_le (Nat.le_refl _), List.take_nil]
theorem cut_all {xs : List V} {lo hi : Option Int} (h : HT.sIx xs.length 0 lo = 0 ∧ HT.sIx xs.length xs.length hi = xs.length) : cutV xs lo hi = xs := by
  unfold cutV
  rw [h.1, h.2, List.drop_zero, Nat.sub_zero, List.take_length]
theorem go_cutT {K : PySem.W.Frag} {H : Hp} {a : Addr} {xs : List V} {lo hi : Option Int} {Q : VK} (h : SqT K H a xs) (k : ∀ t H', Same H H' → SqT K H' t (cutV xs lo hi) → Q (.ref t) H') : rSlA K (.ref a) lo hi H Q :=
  ⟨a, xs, rfl, h, fun hw => k a H (Same.refl _) (by rw [cut_all hw]; exact h), fun _ p hp => k p _ (same_new hp) (SqT.of upd_same)⟩
theorem go_catT {K : PySem.W.Frag} {H : Hp} {a b : Addr} {xs ys : List V} {Q : VK} (h : SqT K H a xs) (h' : SqT K H b ys) (hl : xs.length + ys.length ≤ sizeLine) (k : ∀ t H', Same H H' → SqT K H' t (xs ++ ys) → Q (.ref t) H') : rCatA K (.ref a) (.ref b) H Q :=
  ⟨a, b, xs, ys, rfl, rfl, h, h', hl, fun e => k b H (Same.refl _) (by rw [e]; exact h'), fun _ e => k a H (Same.refl _) (by rw [e, List.append_nil]; exact h), fun _ _ p hp => k p _ (same_new hp) (SqT.of upd_same)⟩
theorem lc_yes {σ : L2.St} {H : Hp} {F G : Hp → Prop} (h : F H) : tYes σ H (fun b H3 => if b = true then F H3 else G H3) := by
  show (if true = true then F H else G H)
  rw [if_pos rfl]
  exact h
/-- what is walked: a list or a tuple -/
def iSq (K : PySem.W.Frag) (tl : TE) : TI := fun σ H R => tl σ H fun x H1 => ∃ a xs, x = .ref a ∧ ((SqL K H1 a xs ∧ R (Itl K a) H1) ∨ (SqT K H1 a xs ∧ R (Itt K a) H1))
theorem pi_sq {X : Cx} {tg l : Expr} {tl : TE} (hl : PE X l tl) : PI X tg l (iSq X.K tl) := by
  refine ⟨fun pins s σ H R I h => ?_⟩
  refine thn (hl.run pins s σ H _ I h) fun v s1 ⟨x, H1, I1, r1, a, xs, ex, q1⟩ => ?_
  subst ex
  cases r1
  have fpk : ∀ b ∈ [s1.heap.objs.size], FpOk X pins H1 b := fun b hb => by
    have e : b = s1.heap.objs.size := by simpa using hb
    rw [e]
    exact I1.fpOk (Nat.le_refl _) (I1.hok.fresh (Nat.le_refl _))
  rcases q1 with ⟨hq, q⟩ | ⟨hq, q⟩
  · obtain ⟨its, rv, p, hz⟩ := I1.list hq
    exact wpAny_pyIter_list p.isList ⟨_, [s1.heap.objs.size], _, _, H1, rfl, I1.kept (t' := s1.toks) fun b o e => Heap.get?_push_of_some _ e, turn_list a _, ⟨_, Heap.get?_push_size _ rfl, rfl, rfl⟩, fpk, q⟩
  · obtain ⟨its, rv, p, hz⟩ := I1.tuple hq
    exact wpAny_pyIter_tuple (show s1.heap.IsTuple a its.toArray from p) ⟨_, [s1.heap.objs.size], _, _, H1, rfl, I1.kept (t' := s1.toks) fun b o e => Heap.get?_push_of_some _ e, turn_tuple a _, ⟨_, Heap.get?_push_size _ rfl, rfl, rfl⟩, fpk, q⟩
theorem reps_map (n : Nat) : (List.replicate n true).map V.bl = List.replicate n (V.bl true) := List.map_replicate
theorem reps_all (n : Nat) : (List.replicate n true).all id = true := by
  rw [List.all_eq_true]
  intro x hx
  rw [(List.mem_replicate.mp hx).2] <;> rfl
theorem reps_snoc (n : Nat) : List.replicate n (V.bl true) ++ [V.bl true] = List.replicate (n + 1) (V.bl true) := by
  rw [List.replicate_succ'] 
/-! ### all([.. for x in xs]) where every item answers True -/
theorem go_all {K : PySem.W.Frag} {σ : L2.St} {H : Hp} {a : Addr} {i j : Nat} {xs : List V} {te : TE} {Q : VK} (hσ : σ[i]? = some (some (.ref a))) (hq : Sq K H a xs) (hl : xs.length < sizeLine)
    (hs : ∀ x H', x ∈ xs → Same H H' → ∀ Q' : VK, (∀ H'', Same H' H'' → Q' (.bl true) H'') → te ((wipe σ [j]).set j (some x)) H' Q') (k : ∀ H', Same H H' → Q (.bl true) H') :
    tCB (rAll K) (tCons (tLc (iSq K (tVar i)) (gName j) tYes te [j]) tNil) σ H Q := by
  have hw' : ∀ x : V, wipe ((wipe σ [j]).set j (some x)) [j] = wipe σ [j] := fun x => by
    show ((σ.set j none).set j (some x)).set j none = σ.set j none
    rw [List.set_set, List.set_set]
  have hs' : ∀ D, H D = none → ∀ (i : Nat) x H', xs[i]? = some x → (Same H H' ∧ H' D = some (.lst (List.replicate i (.bl true)))) → gName j x (wipe σ [j]) H' fun σ2 H2 => wipe σ2 [j] = wipe σ [j] ∧ tYes σ2 H2 fun b H3 =>
      if b = true then te σ2 H3 fun y H4 => ∃ acc, H4 D = some (.lst acc) ∧ acc.length < sizeLine ∧ (Same H (upd H4 D (.lst (acc ++ [y]))) ∧ (upd H4 D (.lst (acc ++ [y]))) D = some (.lst (List.replicate (i + 1) (.bl true)))) else (Same H H3 ∧ H3 D = some (.lst (List.replicate (i + 1) (.bl true)))) := by
    rintro D hD i x H' hx ⟨s1, hd⟩
    refine ⟨hw' x, lc_yes ?_⟩
    refine hs x H' (List.mem_of_getElem? hx) s1 _ fun H'' s2 => ?_
    refine ⟨_, s2 _ _ hd, ?_, same_chg (s1.trans s2) hD, ?_⟩
    · rw [List.length_replicate]
      exact Nat.lt_trans (List.getElem?_eq_some_iff.mp hx).1 hl
    · rw [upd_same, reps_snoc]
  have fin : ∀ D, H D = none → ∀ H', (Same H H' ∧ H' D = some (.lst (List.replicate xs.length (.bl true)))) → rAll K [.ref D] H' Q := by
    rintro D hD H' ⟨s1, hd⟩
    refine ⟨D, List.replicate xs.length true, rfl, SqL.of (by rw [reps_map]; exact hd), ?_⟩
    rw [reps_all]
    exact k H' s1
  refine ⟨_, hσ, a, xs, rfl, ?_⟩
  rcases hq with q | q
  · exact .inl ⟨q, fun D hD => lc_list (K := K) (a := a) (xs := xs) (fun i H' => Same H H' ∧ H' D = some (.lst (List.replicate i (.bl true)))) ⟨same_new hD, upd_same⟩ (fun i H' _ p => p.1.seq q) (hs' D hD) (fin D hD)⟩
  · exact .inr ⟨q, fun D hD => lc_tup (K := K) (a := a) (xs := xs) (fun i H' => Same H H' ∧ H' D = some (.lst (List.replicate i (.bl true)))) ⟨same_new hD, upd_same⟩ (fun i H' _ p => sqT_same p.1 q) (hs' D hD) (fin D hD)⟩
/-! ### t.split(sep) if mark != '' else [] -/
def rSplit : V → List V → Hp → VK → Prop := fun x xs H Q => ∃ a b, x = .str a ∧ xs = [.str b] ∧ (b.length == 0) = false ∧ a.length + 2 ≤ sizeLine ∧ rNewStrs (Txt.split a b) H Q
theorem pe_splitN {X : Cx} {o e : Expr} {to te : TE} {apos pos : Pos} (ho : PE X o to) (he : PE X e te) (hs : starEach [e] X.env = [(false, eval e X.env)] := by rfl) (hbase : attributeBase o "split" X.env (eval o X.env) = eval o X.env := by rfl) (hline : (apos.endLine == pos.line) = true := by rfl) :
    PE X (.Call (.Attribute o "split" apos) [e] [] pos) (tM1 rSplit to te) := pe_split ho he hs hbase hline
theorem go_split {σ : L2.St} {H : Hp} {m t : Nat} {mk tl sep : Str} {xs : List Str} {Q : VK} (hm : σ[m]? = some (some (.str mk))) (ht : σ[t]? = some (some (.str tl))) (h0 : mk = "" → xs = []) (h1 : mk ≠ "" → Txt.split tl sep = xs)
    (hsep : (sep.length == 0) = false) (hl : tl.length + 2 ≤ sizeLine) (k : ∀ l H', Same H H' → H' l = some (.lst (tx xs)) → Q (.ref l) H') :
    tIf (tTest (tOp rNe (tVar m) (tC (.str "")))) (tM1 rSplit (tVar t) (tC (.str sep))) (tLst tNil) σ H Q := by
  by_cases e : mk = ""
  · refine ⟨_, hm, rfl, false, by rw [decide_eq_true (by rw [e])] <;> rfl, iteF ?_⟩
    rw [h0 e] at k
    exact ⟨Nat.zero_le _, fun l hl => k l _ (same_new hl) upd_same⟩
  · refine ⟨_, hm, rfl, true, by rw [decide_eq_false fun q => e (V.str.inj q)] <;> rfl, iteT ?_⟩
    refine ⟨_, ht, ⟨_, rfl⟩, _, _, rfl, rfl, hsep, hl, fun l hl => ?_⟩
    exact k l _ (same_new hl) (by rw [upd_same, h1 e] <;> rfl)
/-! ### f" if {' and '.join(self.f)}" if len(self.f) > 0 else '' -/
def rLenSq (K : PySem.W.Frag) : List V → Hp → VK → Prop := fun xs H Q => ∃ p ys, xs = [.ref p] ∧ (SqL K H p ys ∨ SqT K H p ys) ∧ Q (.int ys.length) H
theorem call_lenSq {X : Cx} : CallR X (.builtin "len") (rLenSq X.K) := call_len_seq
def rJoin (K : PySem.W.Frag) : V → List V → Hp → VK → Prop := fun x xs H Q => ∃ a p, ∃ ys : List Str, x = .str a ∧ xs = [.ref p] ∧ (SqL K H p (ys.map V.str) ∨ SqT K H p (ys.map V.str)) ∧ (ys.map (·.length)).sum + ys.length * a.length ≤ 16777216 ∧ Q (.str (Txt.join a ys)) H
theorem pe_joinN {X : Cx} {o e : Expr} {to te : TE} {apos pos : Pos} (ho : PE X o to) (he : PE X e te) (hs : starEach [e] X.env = [(false, eval e X.env)] := by rfl) (hbase : attributeBase o "join" X.env (eval o X.env) = eval o X.env := by rfl) (hline : (apos.endLine == pos.line) = true := by rfl) :
    PE X (.Call (.Attribute o "join" apos) [e] [] pos) (tM1 (rJoin X.K) to te) := pe_join ho he hs hbase hline
theorem take_snoc {α : Type} {l : List α} {i : Nat} {x : α} (h : l[i]? = some x) : l.take (i + 1) = l.take i ++ [x] := by
  rw [List.take_add_one, h] <;> rfl
theorem inV_mem {x : Str} : ∀ {l : List Str}, x ∈ l → inV (.str x) (tx l) = true
  | a :: l, h => by
    show (eqV (.str a) (.str x) || inV (.str x) (tx l)) = true
    rcases List.mem_cons.mp h with e | h
    · subst e
      have : eqV (.str x) (.str x) = true := by show (x == x) = true; exact beq_self_eq_true x
      rw [this, Bool.true_or]
    · rw [inV_mem h, Bool.or_true]
theorem inV_not {x : Str} : ∀ {l : List Str}, x ∉ l → inV (.str x) (tx l) = false
  | [], _ => rfl
  | a :: l, h => by
    show (eqV (.str a) (.str x) || inV (.str x) (tx l)) = false
    have h1 : eqV (.str a) (.str x) = false := by
      show (a == x) = false
      cases q : a == x with
      | false => rfl
      | true => exact absurd (List.mem_cons.mpr (.inl (eq_of_beq q).symm)) h
    rw [h1, inV_not fun m => h (List.mem_cons_of_mem _ m)] <;> rfl
theorem flat_tx : ∀ l : List Str, (tx l).all flatV = true
  | [] => rfl
  | a :: l => flat_tx l
end Hk

set_option Elab.async false
set_option linter.all false
set_option maxRecDepth 100000
set_option maxHeartbeats 4000000
namespace Hk
open PySem PySem.Spec PyProof.Rows L2
section
variable {P : Program} {w : World} {K : PySem.W.Frag} {mg : Str → Option Value} {base : Heap}
/-! ### is_sequence -/
def spSeq (K : PySem.W.Frag) : Sp := fun vs H Q _ => ∃ a xs, vs = [.ref a] ∧ Sq K H a xs ∧ ∀ H', Same H H' → Q (.bl true) H'
theorem sc_seq : FnScope ["value"] ["value"] (defScope s_is_sequence) := ⟨rfl, rfl, rfl, by decide +kernel, rfl, by decide +kernel, by decide +kernel⟩
theorem kit_seqL : PySem.W.kitAny K (.type "list") [.type "list", .type "tuple"] = some true := kitAny_cons (kit_ty (r := true) (by decide +kernel)) (fun z => nomatch z) fun _ => rfl
theorem kit_seqT : PySem.W.kitAny K (.type "tuple") [.type "list", .type "tuple"] = some true := kitAny_cons (kit_ty (r := false) (by decide +kernel)) (fun _ => kitAny_cons (kit_ty (r := true) (by decide +kernel)) (fun z => nomatch z) fun _ => rfl) fun z => nomatch z
theorem ok_seq (T : Txt K mg) : Ok P w K mg base 1 (He.ga K "is_sequence") ["value"] (spSeq K) := by
  refine ok_mk T.d_is_sequence sc_seq (fun vs H Q E h => ?_) (fun fd F => F.bindsN fun _ _ _ _ _ _ us hl => match us, hl with | [_], _ => rfl) (fun cdv A outer s H vs Q E hr h => ?_)
  · obtain ⟨a, xs, rfl, _⟩ := h
    rfl
  · obtain ⟨a, xs, rfl, hq, k⟩ := h
    refine ⟨_, pss_one (ps_ret (pe_callB call_isiT (by rfl) T.f_isinstance boot_isinstance (pa_cons (pv 0) (pa_cons (pe_tup (pa_cons (pe_bltn (v := .ty "list") (by rfl) T.f_list boot_list rfl) (pa_cons (pe_bltn (v := .ty "tuple") (by rfl) T.f_tuple boot_tuple rfl) pa_nil))) pa_nil)))), ?_⟩
    refine ⟨_, rfl, by show 2 ≤ sizeLine; decide, fun p hp => ?_⟩
    rcases hq with hq | hq
    · exact ⟨_, p, _, _, _, true, rfl, upd_same, .cons (.ty _) (.cons (.ty _) .nil), ty_L ((same_new hp).seq hq), kit_seqL, k _ (same_new hp)⟩
    · exact ⟨_, p, _, _, _, true, rfl, upd_same, .cons (.ty _) (.cons (.ty _) .nil), ty_T (sqT_same (same_new hp) hq), kit_seqT, k _ (same_new hp)⟩
/-! ### is_name -/
theorem dlet {i j : Int} (h : i ≤ j) : V.bl (decide (i ≤ j)) = .bl true := by rw [decide_eq_true h]
theorem dltt {i j : Int} (h : i < j) : V.bl (decide (i < j)) = .bl true := by rw [decide_eq_true h]
structure NameOk (v : Str) : Prop where
  one : 1 ≤ v.length
  four : v.length ≤ 4
  bar : v ∉ (["no", "yes", "do", "if", "and", "not", "then"] : List Str)
  small : ∀ c ∈ v.cps.toList, c ∈ ("abcdefghijklmnopqrstuvwxyz" : Str).cps.toList
def spName : Sp := fun vs H Q _ => ∃ v, vs = [.str v] ∧ NameOk v ∧ ∀ H', Same H H' → Q (.bl true) H'
theorem sc_name : FnScope ["value", "letter"] ["value"] (defScope s_is_name) := ⟨rfl, rfl, rfl, by decide +kernel, rfl, by decide +kernel, by decide +kernel⟩
theorem ok_name (T : Txt K mg) : Ok P w K mg base 1 (He.ga K "is_name") ["value"] spName := by
  obtain ⟨tk, hS⟩ := T.v_SMALL
  refine ok_mk T.d_is_name sc_name (fun vs H Q E h => ?_) (fun fd F => F.bindsN fun _ _ _ _ _ _ us hl => match us, hl with | [_], _ => rfl) (fun cdv A outer s H vs Q E hr h => ?_)
  · obtain ⟨v, rfl, _⟩ := h
    rfl
  · obtain ⟨v, rfl, ok, k⟩ := h
    refine ⟨_, pss_cons (ps_if (PW.pt (pw_or (pt_not (pt_val (pe_callB call_isi (by rfl) T.f_isinstance boot_isinstance (pa_cons (pv 0) (pa_cons (pe_bltn (v := .ty "str") (by rfl) T.f_str boot_str rfl) pa_nil)))))
        (pw_or (pt_not (pt_chain op_le op_le pe_int (pe_callB call_len_str (by rfl) T.f_len boot_len (pa_cons (pv 0) pa_nil)) pe_int))
        (pw_or1 (pt_cmpR op_in_seq (pv 0) (pe_glob (v := .ref (He.ga K "BARRED")) (by rfl) T.g_BARRED rfl) (by rfl)))))) (pss_one (ps_ret pe_bl)) pss_nil)
      (pss_one (ps_ret (pe_callB (cr_all rfl) (by rfl) T.f_all boot_all (pa_cons (pe_lc (own := [("letter", 1)]) (g := gName 1) (tt := tYes) rfl sc_name.nd (pi_str (pv 0)) (blkOk_by (N := ["value", "letter"]) (sc := defScope s_is_name) (by decide +kernel))
        (fun _ _ _ _ _ => pg_name (i := 1) sc_name.nd rfl (Or.inl rfl)) (fun _ _ _ _ _ => pts_nil) (fun _ _ _ _ _ => pe_cmpR op_in_sign (pv 1) (pe_glob (v := .str "abcdefghijklmnopqrstuvwxyz") (by rfl) hS ⟨tk, rfl⟩) (by rfl))) pa_nil)))), ?_⟩
    have l1 : (1 : Int) ≤ (v.length : Int) := by have := ok.one; omega
    have l4 : (v.length : Int) ≤ 4 := by have := ok.four; omega
    have lz : v.length ≤ sizeLine := Nat.le_trans ok.four (by decide)
    refine ⟨_, rfl, _, _, _, _, true, rfl, .ty _, .base (.str v), kit_ty (by decide +kernel), true, rfl, iteF ?_⟩
    refine ⟨_, rfl, v, rfl, lz, _, _, rfl, rfl, true, dlet l1, iteT ⟨_, _, rfl, rfl, true, dlet l4, iteF ?_⟩⟩
    refine ⟨_, rfl, _, _, rfl, .inr (T.t_BARRED H), rfl, rfl, false, ?_, iteF ?_⟩
    · show V.bl (inV (.str v) (tx ["no", "yes", "do", "if", "and", "not", "then"])) = _
      rw [inV_not ok.bar]
    refine ⟨_, rfl, v, rfl, fun D hD => lc_str (z := v) (fun i H' => Same H H' ∧ H' D = some (.lst (List.replicate i (.bl true)))) ⟨same_new hD, upd_same⟩ ?_ ?_⟩
    · rintro i c H' hc ⟨s1, hd⟩
      have hm : c ∈ v.cps.toList := by
        rw [← Array.getElem?_toList] at hc
        exact List.mem_of_getElem? hc
      have hi : i < v.length := by
        rw [← Array.getElem?_toList] at hc
        have := (List.getElem?_eq_some_iff.mp hc).1
        simpa [Str.length] using this
      refine ⟨rfl, lc_yes ?_⟩
      refine ⟨_, rfl, c, _, rfl, rfl, _, hd, ?_, same_chg s1 hD, ?_⟩
      · rw [List.length_replicate]
        exact Nat.lt_of_lt_of_le hi lz
      · rw [upd_same, decide_eq_true (ok.small c hm), reps_snoc]
    · rintro H' ⟨s1, hd⟩
      refine ⟨D, List.replicate v.cps.size true, rfl, SqL.of (by rw [reps_map]; exact hd), ?_⟩
      rw [reps_all]
      exact k H' s1
end
end Hk

set_option Elab.async false
set_option linter.all false
set_option maxRecDepth 100000
set_option maxHeartbeats 4000000
namespace Hk
open PySem PySem.Spec PyProof.Rows L2
section
variable {P : Program} {w : World} {K : PySem.W.Frag} {mg : Str → Option Value} {base : Heap}
/-! ### is_decimal -/
structure DecOk (v : Str) : Prop where
  ne : v ≠ ""
  four : v.length ≤ 4
  digs : ∀ c ∈ v.cps.toList, c ∈ ("0123456789" : Str).cps.toList
  head : v = "0" ∨ ∃ c, v.cps.toList[0]? = some c ∧ (⟨#[c]⟩ : Str) ≠ "0"
def spDec : Sp := fun vs H Q _ => ∃ v, vs = [.str v] ∧ DecOk v ∧ ∀ H', Same H H' → Q (.bl true) H'
theorem sc_dec : FnScope ["text", "sign"] ["text"] (defScope s_is_decimal) := ⟨rfl, rfl, rfl, by decide +kernel, rfl, by decide +kernel, by decide +kernel⟩
theorem dstrT {a b : Str} (h : a = b) : V.bl (decide (V.str a = V.str b)) = .bl true := by rw [decide_eq_true (by rw [h])]
theorem dstrF {a b : Str} (h : a ≠ b) : V.bl (decide (V.str a = V.str b)) = .bl false := by rw [decide_eq_false fun q => h (V.str.inj q)]
theorem dstrNT {a b : Str} (h : a ≠ b) : V.bl (!decide (V.str a = V.str b)) = .bl true := by rw [decide_eq_false fun q => h (V.str.inj q)] <;> rfl
theorem dstrNF {a b : Str} (h : a = b) : V.bl (!decide (V.str a = V.str b)) = .bl false := by rw [decide_eq_true (by rw [h])] <;> rfl
theorem ok_dec (T : Txt K mg) : Ok P w K mg base 1 (He.ga K "is_decimal") ["text"] spDec := by
  refine ok_mk T.d_is_decimal sc_dec (fun vs H Q E h => ?_) (fun fd F => F.bindsN fun _ _ _ _ _ _ us hl => match us, hl with | [_], _ => rfl) (fun cdv A outer s H vs Q E hr h => ?_)
  · obtain ⟨v, rfl, _⟩ := h
    rfl
  · obtain ⟨v, rfl, ok, k⟩ := h
    refine ⟨_, pss_cons (ps_if (PW.pt (pw_or (pt_cmpR op_eq (pv 0) pe_str (nomark _)) (pw_or1 (pt_not (pt_val (pe_callB (cr_all rfl) (by rfl) T.f_all boot_all (pa_cons (pe_lc (own := [("sign", 1)]) (g := gName 1) (tt := tYes) rfl sc_dec.nd (pi_str (pv 0))
        (blkOk_by (N := ["text", "sign"]) (sc := defScope s_is_decimal) (by decide +kernel)) (fun _ _ _ _ _ => pg_name (i := 1) sc_dec.nd rfl (Or.inl rfl)) (fun _ _ _ _ _ => pts_nil) (fun _ _ _ _ _ => pe_cmpR op_in_sign (pv 1) pe_str (by rfl))) pa_nil)))))))
        (pss_one (ps_ret pe_bl)) pss_nil)
      (pss_one (ps_ret (pe_or (pe_cmpR op_eq (pv 0) pe_str (nomark _)) (pe_one (pe_cmpR op_ne (pe_ix ix_str (pv 0) pe_int (fun _ _ => rfl)) pe_str (nomark _)))))), ?_⟩
    have lz : v.length ≤ sizeLine := Nat.le_trans ok.four (by decide)
    refine ⟨_, rfl, rfl, false, dstrF ok.ne, iteF ?_⟩
    refine ⟨_, rfl, v, rfl, fun D hD => lc_str (z := v) (fun i H' => Same H H' ∧ H' D = some (.lst (List.replicate i (.bl true)))) ⟨same_new hD, upd_same⟩ ?_ ?_⟩
    · rintro i c H' hc ⟨s1, hd⟩
      have hm : c ∈ v.cps.toList := by
        rw [← Array.getElem?_toList] at hc
        exact List.mem_of_getElem? hc
      have hi : i < v.length := by
        rw [← Array.getElem?_toList] at hc
        have := (List.getElem?_eq_some_iff.mp hc).1
        simpa [Str.length] using this
      refine ⟨rfl, lc_yes ?_⟩
      refine ⟨_, rfl, c, _, rfl, rfl, _, hd, ?_, same_chg s1 hD, ?_⟩
      · rw [List.length_replicate]
        exact Nat.lt_of_lt_of_le hi lz
      · rw [upd_same, decide_eq_true (ok.digs c hm), reps_snoc]
    · rintro H' ⟨s1, hd⟩
      refine ⟨D, List.replicate v.cps.size true, rfl, SqL.of (by rw [reps_map]; exact hd), true, by rw [reps_all], iteF ?_⟩
      rcases ok.head with e | ⟨c, hc, hn⟩
      · exact ⟨_, rfl, rfl, true, dstrT e, iteT (k H' s1)⟩
      · by_cases e : v = "0"
        · exact ⟨_, rfl, rfl, true, dstrT e, iteT (k H' s1)⟩
        · refine ⟨_, rfl, rfl, false, dstrF e, iteF ⟨_, rfl, v, 0, c, rfl, rfl, lz, atI_nat (j := 0) hc, rfl, ?_⟩⟩
          rw [dstrNT hn]
          exact k H' s1
/-! ### event_in -/
inductive EvOk (t : Str) : Prop where
  | word (a b : Str) (h : Txt.partition t " " = (t, a, b)) (m : t ∈ (["serve", "refuse"] : List Str))
  | name (x b r : Str) (h : Txt.partition t " " = (x, b, r)) (m : t ∉ (["serve", "refuse"] : List Str)) (mx : x ∈ (["click", "other"] : List Str)) (n : NameOk r)
  | num (x b r : Str) (n : Int) (h : Txt.partition t " " = (x, b, r)) (m : t ∉ (["serve", "refuse"] : List Str)) (mx : x ∉ (["click", "other"] : List Str)) (my : x ∈ (["answer", "list"] : List Str)) (d : DecOk r) (ne : t ≠ "answer 0") (i : intText? r = some n)
def spEv : Sp := fun vs H Q _ => ∃ t, vs = [.str t] ∧ EvOk t ∧ t.length ≤ 100 ∧ ∀ p H', Same H H' → Q (.ref p) H'
theorem sc_ev : FnScope ["text", "word", "blank", "rest"] ["text"] (defScope s_event_in) := ⟨rfl, rfl, rfl, by decide +kernel, rfl, by decide +kernel, by decide +kernel⟩
theorem inVT {x : Str} {l : List Str} (h : x ∈ l) : V.bl (if false = true then !inV (.str x) (tx l) else inV (.str x) (tx l)) = .bl true := by
  show V.bl (inV (.str x) (tx l)) = _
  rw [inV_mem h]
theorem inVF {x : Str} {l : List Str} (h : x ∉ l) : V.bl (if false = true then !inV (.str x) (tx l) else inV (.str x) (tx l)) = .bl false := by
  show V.bl (inV (.str x) (tx l)) = _
  rw [inV_not h]
theorem ninVF {x : Str} {l : List Str} (h : x ∈ l) : V.bl (if true = true then !inV (.str x) (tx l) else inV (.str x) (tx l)) = .bl false := by
  show V.bl (!inV (.str x) (tx l)) = _
  rw [inV_mem h] <;> rfl
theorem ninVT {x : Str} {l : List Str} (h : x ∉ l) : V.bl (if true = true then !inV (.str x) (tx l) else inV (.str x) (tx l)) = .bl true := by
  show V.bl (!inV (.str x) (tx l)) = _
  rw [inV_not h] <;> rfl
theorem ok_ev (T : Txt K mg) : Ok P w K mg base 2 (He.ga K "event_in") ["text"] spEv := by
  have GN := (ok_name (P := P) (w := w) (base := base) T).cal T.g_is_name
  have GD := (ok_dec (P := P) (w := w) (base := base) T).cal T.g_is_decimal
  refine ok_mk T.d_event_in sc_ev (fun vs H Q E h => ?_) (fun fd F => F.bindsN fun _ _ _ _ _ _ us hl => match us, hl with | [_], _ => rfl) (fun cdv A outer s H vs Q E hr h => ?_)
  · obtain ⟨v, rfl, _⟩ := h
    rfl
  · obtain ⟨v, rfl, ok, hl, k⟩ := h
    refine ⟨_, pss_cons (ps_if (pt_not (pt_val (pe_callB call_isi (by rfl) T.f_isinstance boot_isinstance (pa_cons (pv 0) (pa_cons (pe_bltn (v := .ty "str") (by rfl) T.f_str boot_str rfl) pa_nil))))) (pss_one (ps_ret pe_non)) pss_nil)
      (pss_cons (ps_asg (pe_partition (pv 0) pe_str) (pg_tup (by rfl) (pgs_cons (pg_name (i := 1) sc_ev.nd rfl (.inl rfl)) (pgs_cons (pg_name (i := 2) sc_ev.nd rfl (.inl rfl)) (pgs_cons (pg_name (i := 3) sc_ev.nd rfl (.inl rfl)) pgs_nil)))))
      (pss_cons (ps_if (pt_cmpR op_in_seq (pv 0) (pe_tup (pa_cons pe_str (pa_cons pe_str pa_nil))) (by rfl)) (pss_one (ps_ret (pe_tup (pa_cons (pv 0) (pa_cons pe_str pa_nil))))) pss_nil)
      (pss_cons (ps_if (pt_cmpR op_in_seq (pv 1) (pe_tup (pa_cons pe_str (pa_cons pe_str pa_nil))) (by rfl)) (pss_one (ps_ret (pe_ifExp (pt_val (C8.pe_c GN hr (by decide) (by rfl) (pa_cons (pv 3) pa_nil))) (pe_tup (pa_cons (pv 1) (pa_cons (pv 3) pa_nil))) pe_non))) pss_nil)
      (pss_cons (ps_if (PW.pt (pw_or (pt_cmpR op_notIn_seq (pv 1) (pe_tup (pa_cons pe_str (pa_cons pe_str pa_nil))) (by rfl)) (pw_or (pt_not (pt_val (C8.pe_c GD hr (by decide) (by rfl) (pa_cons (pv 3) pa_nil))))
          (pw_or (pt_cmpR op_gt (pe_callB call_len_str (by rfl) T.f_len boot_len (pa_cons (pv 3) pa_nil)) pe_int (nomark _)) (pw_or1 (pt_cmpR op_eq (pv 0) pe_str (nomark _))))))) (pss_one (ps_ret pe_non)) pss_nil)
      (pss_one (ps_ret (pe_tup (pa_cons (pv 1) (pa_cons (pe_callTy call_int_str (by rfl) T.f_int boot_int (pa_cons (pv 3) pa_nil)) pa_nil))))))))), ?_⟩
    have lz : v.length ≤ sizeLine := Nat.le_trans hl (by decide)
    refine ⟨_, rfl, _, _, _, _, true, rfl, .ty _, .base (.str v), kit_ty (by decide +kernel), true, rfl, iteF ?_⟩
    refine ⟨_, rfl, ⟨_, rfl⟩, _, _, rfl, rfl, by decide +kernel, lz, fun p hp => ?_⟩
    refine ⟨p, _, rfl, SqT.of upd_same, rfl, _, _, rfl, _, _, rfl, _, _, rfl, rfl, ?_⟩
    have s1 := same_new (o := .tup [.str (Txt.partition v " ").1, .str (Txt.partition v " ").2.1, .str (Txt.partition v " ").2.2]) hp
    refine ⟨_, rfl, by show 2 ≤ sizeLine; decide, fun p2 hp2 => ?_⟩
    have s2 := s1.trans (same_new (o := .tup [V.str "serve", V.str "refuse"]) hp2)
    refine ⟨p2, tx ["serve", "refuse"], rfl, .inr (SqT.of upd_same), rfl, rfl, ?_⟩
    cases ok with
    | word a b h m =>
      refine ⟨true, inVT m, iteT ?_⟩
      exact ⟨_, rfl, by show 2 ≤ sizeLine; decide, fun p3 hp3 => k _ _ (s2.trans (same_new hp3))⟩
    | name x b r h m mx n =>
      rw [h]
      refine ⟨false, inVF m, iteF ?_⟩
      refine ⟨_, rfl, by show 2 ≤ sizeLine; decide, fun p3 hp3 => ?_⟩
      have s3 := same_new (o := .tup [V.str "click", V.str "other"]) hp3
      refine ⟨p3, tx ["click", "other"], rfl, .inr (SqT.of upd_same), rfl, rfl, true, inVT mx, iteT ?_⟩
      refine ⟨_, rfl, r, rfl, n, fun H4 s4 => ⟨true, rfl, iteT ?_⟩⟩
      rw [h] at s2
      exact ⟨_, rfl, _, rfl, by show 2 ≤ sizeLine; decide, fun p5 hp5 => k _ _ (((s2.trans s3).trans s4).trans (same_new hp5))⟩
    | num x b r n h m mx my d ne i =>
      rw [h]
      rw [h] at s2
      refine ⟨false, inVF m, iteF ?_⟩
      refine ⟨_, rfl, by show 2 ≤ sizeLine; decide, fun p3 hp3 => ?_⟩
      have s3 := same_new (o := .tup [V.str "click", V.str "other"]) hp3
      refine ⟨p3, tx ["click", "other"], rfl, .inr (SqT.of upd_same), rfl, rfl, false, inVF mx, iteF ?_⟩
      refine ⟨_, rfl, by show 2 ≤ sizeLine; decide, fun p4 hp4 => ?_⟩
      have s4 := same_new (o := .tup [V.str "answer", V.str "list"]) hp4
      refine ⟨p4, tx ["answer", "list"], rfl, .inr (SqT.of upd_same), rfl, rfl, false, ninVF my, iteF ?_⟩
      refine ⟨_, rfl, r, rfl, d, fun H5 s5 => ⟨true, rfl, iteF ?_⟩⟩
      refine ⟨_, rfl, r, rfl, Nat.le_trans d.four (by decide), _, _, rfl, rfl, false, ?_, iteF ?_⟩
      · have h4 := d.four
        show V.bl (decide ((4 : Int) < (r.length : Int))) = V.bl false
        rw [decide_eq_false (by omega)]
      refine ⟨_, rfl, rfl, false, dstrF ne, iteF ?_⟩
      exact ⟨_, rfl, _, rfl, r, n, rfl, i, Nat.le_trans d.four (by decide), by show 2 ≤ sizeLine; decide, fun p6 hp6 => k _ _ ((((s2.trans s3).trans s4).trans s5).trans (same_new hp6))⟩
end
end Hk

set_option Elab.async false
set_option linter.all false
set_option maxRecDepth 100000
set_option maxHeartbeats 4000000
/-! Plain mathematics: the texts of rows, pages and weavings are read back. -/
namespace Hk
open PySem PySem.Spec PyProof.Rows L2
/-! ### two signs that never stand side by side -/
def noAdj (a b : Nat) : List Nat → Bool
  | [] => true
  | [_] => true
  | x :: y :: r => !(x == a && y == b) && noAdj a b (y :: r)
theorem pre_two {a b c d : Nat} {S r : List Nat} (h : (c == a && d == b) = false) : TL.pre (a :: b :: S) (c :: d :: r) = false := by
  unfold TL.pre
  simp only [List.length_cons, List.take_succ_cons]
  show ((c == a) && ((d == b) && _)) = false
  rw [← Bool.and_assoc, h, Bool.false_and]
theorem pre_short {a b c : Nat} {S : List Nat} : TL.pre (a :: b :: S) [c] = false := by
  unfold TL.pre
  simp only [List.length_cons, List.take_succ_cons, List.take_nil]
  show ((c == a) && false) = false
  rw [Bool.and_false]
theorem noAdj_pre {a b : Nat} {S : List Nat} : ∀ {p : List Nat}, noAdj a b p = true → ∀ i, i < p.length → TL.pre (a :: b :: S) (p.drop i) = false
  | [], _, i, hi => absurd hi (Nat.not_lt_zero _)
  | [c], _, i, hi => by
    have e : i = 0 := by simp at hi; exact hi
    subst e
    exact pre_short
  | x :: y :: r, h, i, hi => by
    have h1 : (!(x == a && y == b) && noAdj a b (y :: r)) = true := h
    rw [Bool.and_eq_true, Bool.not_eq_true'] at h1
    cases i with
    | zero => exact pre_two h1.1
    | succ i => exact noAdj_pre (p := y :: r) h1.2 i (Nat.lt_of_succ_lt_succ hi)
theorem noAdj_free {a b : Nat} {S : List Nat} (hab : a ≠ b) : ∀ {p : List Nat}, noAdj a b p = true → SX.free (a :: b :: S) p = true
  | [], _ => rfl
  | [c], _ => by
    show (!(TL.pre (a :: b :: S) (c :: ([] ++ (a :: b :: S)))) && true) = true
    rw [List.nil_append, pre_two (by rw [show (a == b) = false from by simp [hab], Bool.and_false])]
    rfl
  | x :: y :: r, h => by
    have h1 : (!(x == a && y == b) && noAdj a b (y :: r)) = true := h
    rw [Bool.and_eq_true, Bool.not_eq_true'] at h1
    show (!(TL.pre (a :: b :: S) (x :: y :: (r ++ (a :: b :: S)))) && SX.free (a :: b :: S) (y :: r)) = true
    rw [pre_two h1.1, noAdj_free hab h1.2]
    rfl
theorem noAdj_app {a b : Nat} {q : List Nat} (hq : noAdj a b q = true) (hh : q.head? ≠ some b) : ∀ {p : List Nat}, noAdj a b p = true → noAdj a b (p ++ q) = true
  | [], _ => hq
  | [c], _ => by
    cases q with
    | nil => rfl
    | cons d r =>
      have hd : (d == b) = false := by
        cases e : d == b with
        | false => rfl
        | true => exact absurd (by rw [eq_of_beq e]; rfl) hh
      show (!(c == a && d == b) && noAdj a b (d :: r)) = true
      rw [hd, Bool.and_false, hq] <;> rfl
  | x :: y :: r, h => by
    have h1 : (!(x == a && y == b) && noAdj a b (y :: r)) = true := h
    rw [Bool.and_eq_true] at h1
    show (!(x == a && y == b) && noAdj a b ((y :: r) ++ q)) = true
    rw [h1.1, noAdj_app hq hh h1.2] <;> rfl
/-! ### joined texts -/
theorem join_cons2 (y x z : Str) (r : List Str) : Txt.join y (x :: z :: r) = x ++ y ++ Txt.join y (z :: r) := by
  rw [TL.join_eq, TL.join_eq] <;> rfl
theorem join_one (y x : Str) : Txt.join y [x] = x := by
  rw [TL.join_eq] <;> rfl
theorem join_nil (y : Str) : Txt.join y [] = "" := by
  rw [TL.join_eq] <;> rfl
theorem len_app (x y : Str) : (x ++ y).length = x.length + y.length := by
  rw [TL.len_tl, TL.len_tl, TL.len_tl, TL.tl_append, List.length_append]
theorem empty_app (x : Str) : Str.empty ++ x = x := TL.ext_tl (by rw [TL.tl_append] <;> rfl)
theorem empty_app' (x : Str) : ("" : Str) ++ x = x := TL.ext_tl (by rw [TL.tl_append] <;> rfl)
theorem app_empty (x : Str) : x ++ ("" : Str) = x := TL.ext_tl (by rw [TL.tl_append]; exact List.append_nil _)
theorem app_assoc (x y z : Str) : x ++ y ++ z = x ++ (y ++ z) := TL.ext_tl (by simp only [TL.tl_append, List.append_assoc])
theorem join_len (y : Str) (n : Nat) : ∀ xs : List Str, (∀ x ∈ xs, x.length ≤ n) → (Txt.join y xs).length ≤ xs.length * (n + y.length)
  | [], _ => by rw [join_nil]; exact Nat.zero_le _
  | [x], h => by
    rw [join_one]
    have := h x (List.mem_singleton.mpr rfl)
    simp only [List.length_singleton]
    omega
  | x :: z :: r, h => by
    rw [join_cons2, len_app, len_app]
    have h1 := h x (List.mem_cons_self ..)
    have h2 := join_len y n (z :: r) fun q hq => h q (List.mem_cons_of_mem _ hq)
    rw [List.length_cons, Nat.succ_mul]
    omega
theorem sum_len (n : Nat) : ∀ xs : List Str, (∀ x ∈ xs, x.length ≤ n) → (xs.map (·.length)).sum ≤ xs.length * n
  | [], _ => Nat.zero_le _
  | x :: r, h => by
    have h1 := h x (List.mem_cons_self ..)
    have h2 := sum_len n r fun q hq => h q (List.mem_cons_of_mem _ hq)
    rw [List.map_cons, List.sum_cons, List.length_cons, Nat.succ_mul]
    omega
/-! ### words of rows -/
def tA : List Str := ["old", "all", "open", "same", "first", "gone", "not old", "not all", "not open", "not same", "not first", "not gone"]
def tL : List Str := ["old", "all", "open", "same", "not old", "not all", "not open", "not same"]
def dA : List Str := ["take", "do", "drop", "sweep", "clear"]
def dL : List Str := ["take", "sweep", "clear"]
def lets : List Str := ["yes", "no", "list"]
def tOf (l : Str) : List Str := if l = "list" then tL else tA
def dOf (l : Str) : List Str := if l = "list" then dL else dA
structure RowOk (d : RowD) : Prop where
  lt : d.letter ∈ lets
  ts : ∀ t ∈ d.tests, t ∈ tOf d.letter
  ds : ∀ x ∈ d.deeds, x ∈ dOf d.letter
  nt : d.tests.length ≤ 4
  nd : d.deeds.length ≤ 4
theorem tOf_sub {l t : Str} (h : t ∈ tOf l) : t ∈ tA := by
  unfold tOf at h
  split at h
  · exact (show ∀ t ∈ tL, t ∈ tA by decide +kernel) t h
  · exact h
theorem dOf_sub {l t : Str} (h : t ∈ dOf l) : t ∈ dA := by
  unfold dOf at h
  split at h
  · exact (show ∀ t ∈ dL, t ∈ dA by decide +kernel) t h
  · exact h
/-- a test's word: short, no sign « d», not beginning by d; no line feed; free of « and » -/
def tstB (t : Str) : Bool := decide (t.length ≤ 9) && noAdj 32 100 t.cps.toList && decide (t.cps.toList.head? ≠ some 100) && decide (10 ∉ t.cps.toList) && SX.free [32, 97, 110, 100, 32] t.cps.toList &&
  (List.range t.cps.toList.length).all fun i => !TL.pre [32, 97, 110, 100, 32] (t.cps.toList.drop i)
theorem tst_all : ∀ t ∈ tA, tstB t = true := by decide +kernel
structure TstOk (t : Str) : Prop where
  len : t.length ≤ 9
  adj : noAdj 32 100 t.cps.toList = true
  hd : t.cps.toList.head? ≠ some 100
  nl : 10 ∉ t.cps.toList
  fr : SX.free [32, 97, 110, 100, 32] t.cps.toList = true
  last : ∀ i, i < t.cps.toList.length → TL.pre [32, 97, 110, 100, 32] (t.cps.toList.drop i) = false
theorem tst_ok {t : Str} (h : t ∈ tA) : TstOk t := by
  have q := tst_all t h
  unfold tstB at q
  simp only [Bool.and_eq_true, decide_eq_true_eq, List.all_eq_true, Bool.not_eq_true', List.mem_range] at q
  obtain ⟨⟨⟨⟨⟨h1, h2⟩, h3⟩, h4⟩, h5⟩, h6⟩ := q
  exact ⟨h1, h2, h3, h4, h5, h6⟩
theorem deed_all : ∀ t ∈ dA, (decide (t.length ≤ 5) && decide (32 ∉ t.cps.toList) && decide (10 ∉ t.cps.toList)) = true := by decide +kernel
theorem deed_ok {t : Str} (h : t ∈ dA) : t.length ≤ 5 ∧ 32 ∉ t.cps.toList ∧ 10 ∉ t.cps.toList := by
  have q := deed_all t h
  simp only [Bool.and_eq_true, decide_eq_true_eq] at q
  exact ⟨q.1.1, q.1.2, q.2⟩
theorem let_all : ∀ t ∈ lets, (decide (1 ≤ t.length) && decide (t.length ≤ 4) && decide (32 ∉ t.cps.toList) && decide (10 ∉ t.cps.toList) && noAdj 32 100 t.cps.toList) = true := by decide +kernel
theorem let_ok {t : Str} (h : t ∈ lets) : 1 ≤ t.length ∧ t.length ≤ 4 ∧ 32 ∉ t.cps.toList ∧ 10 ∉ t.cps.toList ∧ noAdj 32 100 t.cps.toList = true := by
  have q := let_all t h
  simp only [Bool.and_eq_true, decide_eq_true_eq] at q
  exact ⟨q.1.1.1.1, q.1.1.1.2, q.1.1.2, q.1.2, q.2⟩
/-! ### a row's text -/
def testsT (ts : List Str) : Str := if ts.isEmpty then "" else (" if " : Str) ++ Txt.join " and " ts
def deedsT (ds : List Str) : Str := if ds.isEmpty then "" else (" do " : Str) ++ Txt.join " then " ds
def rowText (d : RowD) : Str := d.letter ++ testsT d.tests ++ deedsT d.deeds
def pageText (ds : List RowD) : Str := Txt.join "\n" (ds.map rowText)
def wovText (es : List Str) : Str := Txt.join "; " es
theorem tl_if : TL.tl (" if " : Str) = [32, 105, 102, 32] := by decide +kernel
theorem tl_do : TL.tl (" do " : Str) = [32, 100, 111, 32] := by decide +kernel
theorem tl_and : TL.tl (" and " : Str) = [32, 97, 110, 100, 32] := by decide +kernel
theorem tl_then : TL.tl (" then " : Str) = [32, 116, 104, 101, 110, 32] := by decide +kernel
theorem tl_nl : TL.tl ("\n" : Str) = [10] := by decide +kernel
theorem tl_sc : TL.tl ("; " : Str) = [59, 32] := by decide +kernel
theorem adj_join : ∀ {ts : List Str}, (∀ t ∈ ts, t ∈ tA) → noAdj 32 100 (TL.tl (Txt.join " and " ts)) = true ∧ (TL.tl (Txt.join " and " ts)).head? ≠ some 100
  | [], _ => by rw [join_nil]; exact ⟨rfl, by decide +kernel⟩
  | [x], h => by
    rw [join_one]
    have q := tst_ok (h x (List.mem_singleton.mpr rfl))
    exact ⟨q.adj, q.hd⟩
  | x :: z :: r, h => by
    have q := tst_ok (h x (List.mem_cons_self ..))
    obtain ⟨i1, i2⟩ := adj_join (ts := z :: r) fun t ht => h t (List.mem_cons_of_mem _ ht)
    rw [join_cons2, TL.tl_append, TL.tl_append, tl_and]
    refine ⟨noAdj_app i1 i2 (noAdj_app (q := [32, 97, 110, 100, 32]) (by decide) (by decide) q.adj), ?_⟩
    have hx : x.cps.toList.head? ≠ some 100 := q.hd
    show ((x.cps.toList ++ [32, 97, 110, 100, 32]) ++ _).head? ≠ some 100
    cases e : x.cps.toList with
    | nil => simp
    | cons c l =>
      rw [e] at hx
      simpa using hx
theorem adj_head {d : RowD} (ok : RowOk d) : noAdj 32 100 (TL.tl (d.letter ++ testsT d.tests)) = true := by
  obtain ⟨_, _, _, _, h⟩ := let_ok ok.lt
  have hl : noAdj 32 100 (TL.tl d.letter) = true := h
  rw [TL.tl_append]
  unfold testsT
  split
  · rw [show TL.tl ("" : Str) = [] from rfl, List.append_nil]
    exact hl
  · obtain ⟨i1, i2⟩ := adj_join (ts := d.tests) fun t ht => tOf_sub (ok.ts t ht)
    rw [TL.tl_append, tl_if]
    refine noAdj_app (noAdj_app i1 i2 (by decide)) (by simp) hl
theorem part_do {d : RowD} (ok : RowOk d) : Txt.partition (rowText d) " do " = (d.letter ++ testsT d.tests, if d.deeds.isEmpty then ("" : Str) else (" do " : Str), if d.deeds.isEmpty then ("" : Str) else Txt.join " then " d.deeds) := by
  have h := adj_head ok
  rw [TL.partition_par _ _ (by rw [tl_do]; simp), tl_do]
  unfold rowText deedsT
  cases e : d.deeds.isEmpty with
  | true =>
    simp only [if_true, app_empty]
    rw [TL.par_none (noAdj_pre h)]
    rfl
  | false =>
    simp only [Bool.false_eq_true, if_false]
    rw [TL.tl_append, TL.tl_append (" do " : Str), tl_do, SX.par_free _ (by simp) (noAdj_free (by decide) h)]
theorem part_if {d : RowD} (ok : RowOk d) : Txt.partition (d.letter ++ testsT d.tests) " if " = (d.letter, if d.tests.isEmpty then ("" : Str) else (" if " : Str), if d.tests.isEmpty then ("" : Str) else Txt.join " and " d.tests) := by
  obtain ⟨_, _, h, _⟩ := let_ok ok.lt
  unfold testsT
  cases e : d.tests.isEmpty with
  | true =>
    simp only [if_true, app_empty]
    rw [TL.partition_none tl_if h]
    rfl
  | false =>
    simp only [Bool.false_eq_true, if_false]
    rw [← app_assoc, TL.partition_app tl_if h]
theorem split_and : ∀ {ts : List Str}, ts ≠ [] → (∀ t ∈ ts, t ∈ tA) → (Txt.split (Txt.join " and " ts) " and ") = ts := by
  intro ts hne h
  refine TL.map_tl_inj ?_
  rw [TL.split_spl _ _ (by rw [tl_and]; simp) (TL.kind_ok (by decide +kernel)), tl_and]
  have go : ∀ {ts : List Str} (_ : ts ≠ []) (_ : ∀ t ∈ ts, t ∈ tA), TL.spl [32, 97, 110, 100, 32] 0 [] (TL.tl (Txt.join " and " ts)) = ts.map TL.tl := by
    intro ts
    induction ts with
    | nil => intro h; exact absurd rfl h
    | cons x r ih =>
      intro _ h
      have q := tst_ok (h x (List.mem_cons_self ..))
      cases r with
      | nil =>
        rw [join_one]
        have := TL.spl_last (S := [32, 97, 110, 100, 32]) (acc := []) (p := TL.tl x) q.last
        rw [this, List.nil_append] <;> rfl
      | cons z r =>
        rw [join_cons2, TL.tl_append, TL.tl_append, tl_and, List.append_assoc, SX.spl_free _ (by simp) q.fr, ih (by simp) fun t ht => h t (List.mem_cons_of_mem _ ht)] <;> rfl
  exact go hne h
theorem split_then {ts : List Str} (hne : ts ≠ []) (h : ∀ t ∈ ts, t ∈ dA) : Txt.split (Txt.join " then " ts) " then " = ts :=
  TL.split_join tl_then (by decide +kernel) hne fun p hp => (deed_ok (h p hp)).2.1
theorem not_mem_app {c : Nat} {x y : Str} (h1 : c ∉ TL.tl x) (h2 : c ∉ TL.tl y) : c ∉ TL.tl (x ++ y) := by
  rw [TL.tl_append]
  intro h
  rcases List.mem_append.mp h with h | h
  · exact h1 h
  · exact h2 h
theorem not_mem_join {c : Nat} {y : Str} (hy : c ∉ TL.tl y) : ∀ {xs : List Str}, (∀ x ∈ xs, c ∉ TL.tl x) → c ∉ TL.tl (Txt.join y xs)
  | [], _ => by rw [join_nil]; exact fun h => nomatch h
  | [x], h => by rw [join_one]; exact h x (List.mem_singleton.mpr rfl)
  | x :: z :: r, h => by
    rw [join_cons2]
    exact not_mem_app (not_mem_app (h x (List.mem_cons_self ..)) hy) (not_mem_join hy fun q hq => h q (List.mem_cons_of_mem _ hq))
theorem row_nl {d : RowD} (ok : RowOk d) : 10 ∉ TL.tl (rowText d) := by
  unfold rowText
  refine not_mem_app (not_mem_app (let_ok ok.lt).2.2.2.1 ?_) ?_
  · unfold testsT
    split
    · exact fun h => nomatch h
    · exact not_mem_app (by rw [tl_if]; decide) (not_mem_join (by rw [tl_and]; decide) fun x hx => (tst_ok (tOf_sub (ok.ts x hx))).nl)
  · unfold deedsT
    split
    · exact fun h => nomatch h
    · exact not_mem_app (by rw [tl_do]; decide) (not_mem_join (by rw [tl_then]; decide) fun x hx => (deed_ok (dOf_sub (ok.ds x hx))).2.2)
theorem split_nl {ds : List RowD} (hne : ds ≠ []) (h : ∀ d ∈ ds, RowOk d) : Txt.split (pageText ds) "\n" = ds.map rowText := by
  refine TL.split_join tl_nl (by decide +kernel) (by simpa using hne) fun p hp => ?_
  obtain ⟨d, hd, rfl⟩ := List.mem_map.mp hp
  exact row_nl (h d hd)
theorem len_if : (" if " : Str).length = 4 := by decide +kernel
theorem len_do : (" do " : Str).length = 4 := by decide +kernel
theorem len_and : (" and " : Str).length = 5 := by decide +kernel
theorem len_then : (" then " : Str).length = 6 := by decide +kernel
theorem testsT_len {d : RowD} (ok : RowOk d) : (testsT d.tests).length ≤ 60 := by
  unfold testsT
  split
  · decide +kernel
  · rw [len_app, len_if]
    have h := join_len " and " 9 d.tests fun x hx => (tst_ok (tOf_sub (ok.ts x hx))).len
    have hn := ok.nt
    rw [len_and] at h
    omega
theorem deedsT_len {d : RowD} (ok : RowOk d) : (deedsT d.deeds).length ≤ 48 := by
  unfold deedsT
  split
  · decide +kernel
  · rw [len_app, len_do]
    have h := join_len " then " 5 d.deeds fun x hx => (deed_ok (dOf_sub (ok.ds x hx))).1
    have hn := ok.nd
    rw [len_then] at h
    omega
theorem rowText_len {d : RowD} (ok : RowOk d) : 1 ≤ (rowText d).length ∧ (rowText d).length ≤ 112 := by
  obtain ⟨h1, h2, _⟩ := let_ok ok.lt
  have h3 := testsT_len ok
  have h4 := deedsT_len ok
  unfold rowText
  rw [len_app, len_app]
  omega
theorem pageText_len {ds : List RowD} (h : ∀ d ∈ ds, RowOk d) : (pageText ds).length ≤ ds.length * 113 := by
  have q := join_len "\n" 112 (ds.map rowText) fun x hx => by
    obtain ⟨d, hd, rfl⟩ := List.mem_map.mp hx
    exact (rowText_len (h d hd)).2
  rw [List.length_map] at q
  exact q
theorem pageText_ne {ds : List RowD} (hne : ds ≠ []) (h : ∀ d ∈ ds, RowOk d) : pageText ds ≠ "" := by
  intro e
  have q := congrArg Str.length e
  cases ds with
  | nil => exact hne rfl
  | cons d r =>
    have h1 := (rowText_len (h d (List.mem_cons_self ..))).1
    unfold pageText at q
    rw [show ("" : Str).length = 0 from rfl] at q
    cases r with
    | nil =>
      rw [List.map_cons, List.map_nil, join_one] at q
      omega
    | cons d2 r =>
      rw [List.map_cons, List.map_cons, join_cons2, len_app, len_app] at q
      omega
/-! ### weavings -/
structure EvT (e : Str) : Prop where
  sc : 59 ∉ TL.tl e
  one : 1 ≤ e.length
  len : e.length ≤ 20
theorem split_sc {es : List Str} (hne : es ≠ []) (h : ∀ e ∈ es, EvT e) : Txt.split (wovText es) "; " = es := TL.split_join tl_sc (by decide +kernel) hne fun p hp => (h p hp).sc
theorem wovText_len {es : List Str} (h : ∀ e ∈ es, EvT e) : (wovText es).length ≤ es.length * 22 := join_len "; " 20 es fun x hx => (h x hx).len
theorem wovText_ne {es : List Str} (hne : es ≠ []) (h : ∀ e ∈ es, EvT e) : wovText es ≠ "" := by
  intro e
  have q := congrArg Str.length e
  cases es with
  | nil => exact hne rfl
  | cons d r =>
    have h1 := (h d (List.mem_cons_self ..)).one
    unfold wovText at q
    rw [show ("" : Str).length = 0 from rfl] at q
    cases r with
    | nil =>
      rw [join_one] at q
      omega
    | cons d2 r =>
      rw [join_cons2, len_app, len_app] at q
      omega
end Hk

set_option Elab.async false
set_option linter.all false
set_option maxRecDepth 100000
set_option maxHeartbeats 4000000
namespace Hk
open PySem PySem.Spec PyProof.Rows L2
section
variable {P : Program} {w : World} {K : PySem.W.Frag} {mg : Str → Option Value} {base : Heap}
/-- what an event keeps -/
structure EvG (e : Str) : Prop where
  ok : EvOk e
  t : EvT e
  sk : PyData.canLay0 (.str e) = true
theorem tx_get {es : List Str} {i : Nat} {x : V} (h : (tx es)[i]? = some x) : ∃ e, es[i]? = some e ∧ x = .str e := by
  unfold tx at h
  rw [List.getElem?_map] at h
  cases q : es[i]? with
  | none => rw [q] at h; cases h
  | some e => rw [q] at h; exact ⟨e, rfl, (Option.some.inj h).symm⟩
/-! ### Weaving.__init__ -/
def spWInit (K : PySem.W.Frag) : Sp := fun vs H Q _ => ∃ (x dx a : Addr) (es : List Str), vs = [.ref x, .ref a] ∧ H x = some (.ins (cW K) dx []) ∧ Sq K H a (tx es) ∧ (∀ e ∈ es, EvG e) ∧
  ∀ H', WovAt K H' x es → (∀ b o, H b = some o → b ≠ x → H' b = some o) → Q .non H'
theorem sc_Wi : FnScope ["self", "events", "at", "event"] ["self", "events"] (defScope s_Weaving_init) := ⟨rfl, rfl, rfl, by decide +kernel, rfl, by decide +kernel, by decide +kernel⟩
theorem ok_Wi (T : Txt K mg) : Ok P w K mg base 3 (He.ma K (cW K) "__init__") ["self", "events"] (spWInit K) := by
  have GS := (ok_seq (P := P) (w := w) (base := base) T).cal T.g_is_sequence
  have GE := (ok_ev (P := P) (w := w) (base := base) T).cal T.g_event_in
  refine ok_mk T.d_Weaving_init sc_Wi (fun vs H Q E h => ?_) (fun fd F => binds_full F (by simp) fun T kV doc pm an cdv ct us its h1 h2 => match us, h1, its, h2 with | [_, _], _, [_], _ => ⟨_, rfl, rfl⟩) (fun cdv A outer s H vs Q E hr h => ?_)
  · obtain ⟨x, dx, a, es, rfl, _⟩ := h
    rfl
  · obtain ⟨x, dx, a, es, rfl, hx, hq, he, k⟩ := h
    refine ⟨_, pss_cons (ps_if (pt_not (pt_val (C8.pe_c GS hr (by decide) (by rfl) (pa_cons (pv 1) pa_nil)))) pss_never pss_nil)
      (pss_cons (ps_for PassesOwn.never rfl (pi_enumA (by rfl) T.f_enumerate (pa_cons (pv 1) pa_nil)) (pg_tup rfl (pgs_cons (pg_name (i := 2) sc_Wi.nd rfl (.inl rfl)) (pgs_cons (pg_name (i := 3) sc_Wi.nd rfl (.inl rfl)) pgs_nil)))
        (pss_one (ps_if (pt_cmp (pc_isN (C8.pe_c GE hr (by decide) (by rfl) (pa_cons (pv 3) pa_nil)))) pss_never pss_nil)))
      (pss_one (ps_fld (pv 0) (pe_callTy call_tupA (by rfl) T.f_tuple boot_tuple (pa_cons (pv 1) pa_nil)) rfl))), ?_⟩
    refine ⟨_, rfl, a, tx es, rfl, hq, fun H1 s1 => ⟨true, rfl, iteF ?_⟩⟩
    have hx1 := s1 _ _ hx
    refine ⟨_, rfl, a, tx es, rfl, for_enumA (hq.same s1) (fun i σ H2 => ∃ u v, σ = [some (.ref x), some (.ref a), u, v] ∧ Same H1 H2) ⟨_, _, rfl, Same.refl _⟩ (fun i σ H2 _ ⟨_, _, _, s2⟩ => s2) ?_ ?_⟩
    · rintro i y T' σ H2 hi ⟨u, v, rfl, s2⟩ hT
      obtain ⟨e, hie, rfl⟩ := tx_get hi
      have eg := he e (List.mem_of_getElem? hie)
      refine ⟨T', _, rfl, SqT.of upd_same, rfl, _, _, rfl, _, _, rfl, rfl, ?_⟩
      refine ⟨_, rfl, e, rfl, eg.ok, Nat.le_trans eg.t.len (by decide), fun p H3 s3 => ⟨false, rfl, iteF ?_⟩⟩
      exact ⟨_, _, rfl, (s2.trans (same_new hT)).trans s3⟩
    · rintro σ H2 ⟨u, v, rfl, s2⟩
      have s12 := s1.trans s2
      refine go_tup rfl (hq.same s12) fun t H3 s3 ht => ?_
      have hx3 := s3 _ _ (s12 _ _ hx)
      refine ⟨_, rfl, x, cW K, dx, _, rfl, hx3, T.c_Weaving, T.n_Weaving_events, (by show 0 < 1000; decide), ?_⟩
      refine k _ ⟨dx, t, upd_same, sqT_upd hx3 ht⟩ fun b o e hb => ?_
      rw [upd_ne hb]
      exact s3 _ _ (s12 _ _ e)
/-! ### a weaving is made -/
theorem made_same {H H1 : Hp} {x dx C : Addr} (nx : H x = none) (nd : H dx = none) (k : ∀ b o, (upd (upd H dx (.own x)) x (.ins C dx [])) b = some o → b ≠ x → H1 b = some o) : Same H H1 := Same.made nx nd k
theorem made_step {H : Hp} {x dx C : Addr} (nx : H x = none) (nd : H dx = none) : Same H (upd (upd H dx (.own x)) x (.ins C dx [])) := fun b o e => by
  rw [upd_ne (ne_of_none e nx), upd_ne (ne_of_none e nd)]
  exact e
/-- Weaving(a) -/
theorem go_W {Q : VK} {H : Hp} {a : Addr} {es : List Str} {E : XK} (hq : Sq K H a (tx es)) (he : ∀ e ∈ es, EvG e) (k : ∀ q H', Same H H' → WovAt K H' q es → Q (.ref q) H') :
    ∀ x dx, H x = none → H dx = none → dx ≠ x → spWInit K (.ref x :: ([.ref a] ++ [])) (upd (upd H dx (.own x)) x (.ins (cW K) dx [])) (fun v H2 => v = .non ∧ Q (.ref x) H2) E := fun x dx nx nd ne =>
  ⟨x, dx, a, es, rfl, upd_same, hq.same (made_step nx nd), he, fun H' hw kp => ⟨rfl, k x H' (made_same nx nd kp) hw⟩⟩
/-! ### Weaving.__str__, __eq__ -/
def spWStr (K : PySem.W.Frag) : Sp := fun vs H Q _ => ∃ (p : Addr) (es : List Str), vs = [.ref p] ∧ WovAt K H p es ∧ (∀ e ∈ es, EvG e) ∧ es.length ≤ 1000 ∧ ∀ H', Same H H' → Q (.str (wovText es)) H'
theorem sc_Ws : FnScope ["self"] ["self"] (defScope s_Weaving_str) := ⟨rfl, rfl, rfl, by decide +kernel, rfl, by decide +kernel, by decide +kernel⟩
theorem ok_Ws (T : Txt K mg) : Ok P w K mg base 1 (He.ma K (cW K) "__str__") ["self"] (spWStr K) := by
  refine ok_mk T.d_Weaving_str sc_Ws (fun vs H Q E h => ?_) (fun fd F => F.bindsN fun _ _ _ _ _ _ us hl => match us, hl with | [_], _ => rfl) (fun cdv A outer s H vs Q E hr h => ?_)
  · obtain ⟨p, es, rfl, _⟩ := h
    rfl
  · obtain ⟨p, es, rfl, ⟨dx, t, hp, ht⟩, he, hn, k⟩ := h
    refine ⟨_, pss_one (ps_ret (pe_join pe_str (pe_fld (pv 0) rfl))), ?_⟩
    refine ⟨⟨_, rfl⟩, _, rfl, p, cW K, dx, _, _, rfl, hp, T.c_Weaving, T.n_Weaving_events, oneF_at _ _, _, t, es, rfl, rfl, .inr ht, ?_, k H (Same.refl _)⟩
    have h1 := sum_len 20 es fun x hx => (he x hx).t.len
    have h2 : ("; " : Str).length = 2 := by decide +kernel
    rw [h2]
    omega
def spWEq (K : PySem.W.Frag) : Sp := fun vs H Q _ => ∃ (p q : Addr) (es : List Str), vs = [.ref p, .ref q] ∧ WovAt K H p es ∧ WovAt K H q es ∧ (∀ e ∈ es, EvG e) ∧ ∀ H', Same H H' → Q (.bl true) H'
theorem sc_We : FnScope ["self", "other"] ["self", "other"] (defScope s_Weaving_eq) := ⟨rfl, rfl, rfl, by decide +kernel, rfl, by decide +kernel, by decide +kernel⟩
theorem dp_tx {H : Hp} : ∀ es : List Str, DpAll K H (tx es) (es.map PyData.str)
  | [] => .nil
  | e :: r => .cons (.str e) (dp_tx r)
theorem can_tx : ∀ es : List Str, (∀ e ∈ es, EvG e) → PyData.canLayAll0 (es.map PyData.str) = true
  | [], _ => rfl
  | e :: r, h => by
    show (PyData.canLay0 (.str e) && PyData.canLayAll0 (r.map PyData.str)) = true
    rw [can_tx r fun x hx => h x (List.mem_cons_of_mem _ hx), (h e (List.mem_cons_self ..)).sk] <;> rfl
theorem depth_tx : ∀ es : List Str, PyData.depthAll (es.map PyData.str) = 0
  | [] => rfl
  | e :: r => by
    show max 0 (PyData.depthAll (r.map PyData.str)) = 0
    rw [depth_tx r] <;> rfl
theorem ok_We (T : Txt K mg) : Ok P w K mg base 1 (He.ma K (cW K) "__eq__") ["self", "other"] (spWEq K) := by
  refine ok_mk T.d_Weaving_eq sc_We (fun vs H Q E h => ?_) (fun fd F => F.bindsN fun _ _ _ _ _ _ us hl => match us, hl with | [_, _], _ => rfl) (fun cdv A outer s H vs Q E hr h => ?_)
  · obtain ⟨p, q, es, rfl, _⟩ := h
    rfl
  · obtain ⟨p, q, es, rfl, ⟨dx, t, hp, ht⟩, ⟨dy, u, hq, hu⟩, he, k⟩ := h
    refine ⟨_, pss_one (ps_ret (pe_and (pe_callB call_isi (by rfl) T.f_isinstance boot_isinstance (pa_cons (pv 1) (pa_cons (pe_glob (v := .ref (cW K)) (by rfl) T.g_Weaving rfl) pa_nil)))
      (pe_one (pe_cmpR (op_eqD hr.units) (pe_fld (pv 0) rfl) (pe_fld (pv 1) rfl) (nomark _))))), ?_⟩
    refine ⟨_, rfl, _, _, _, _, true, rfl, .own _, ty_ins hq T.c_Weaving T.i_Weaving, T.i_Weaving.kit, true, rfl, iteT ?_⟩
    refine ⟨_, rfl, p, cW K, dx, _, _, rfl, hp, T.c_Weaving, T.n_Weaving_events, oneF_at _ _, _, rfl, q, cW K, dy, _, _, rfl, hq, T.c_Weaving, T.n_Weaving_events, oneF_at _ _, ?_⟩
    have sh : SeqAt.shaped (.tuple (es.map PyData.str)) = true := by
      have h1 : PyData.canLay0 (.tuple (es.map PyData.str)) = true := can_tx es he
      have h2 : PyData.depth (.tuple (es.map PyData.str)) ≤ 64 := by
        show PyData.depthAll (es.map PyData.str) + 1 ≤ 64
        rw [depth_tx es]
        decide
      unfold SeqAt.shaped
      rw [h1, decide_eq_true h2] <;> rfl
    refine ⟨_, _, .tup ht (dp_tx es), .tup hu (dp_tx es), sh, sh, ?_⟩
    have h1 : PyData.canLay0 (.tuple (es.map PyData.str)) = true := can_tx es he
    rw [SeqAt.eqv_refl _ h1]
    exact k H (Same.refl _)
/-! ### Weaving.upto, __add__ -/
theorem tx_take (es : List Str) (n : Nat) : (tx es).take n = tx (es.take n) := by unfold tx; rw [List.map_take]
theorem tx_drop (es : List Str) (n : Nat) : (tx es).drop n = tx (es.drop n) := by unfold tx; rw [List.map_drop]
theorem tx_app (es fs : List Str) : tx es ++ tx fs = tx (es ++ fs) := by unfold tx; rw [List.map_append]
theorem tx_len (es : List Str) : (tx es).length = es.length := List.length_map ..
def spUpto (K : PySem.W.Frag) : Sp := fun vs H Q _ => ∃ (p : Addr) (es : List Str) (n : Nat), vs = [.ref p, .int (n : Int)] ∧ WovAt K H p es ∧ (∀ e ∈ es, EvG e) ∧ ∀ q H', Same H H' → WovAt K H' q (es.take n) → Q (.ref q) H'
theorem sc_Wu : FnScope ["self", "many"] ["self", "many"] (defScope s_Weaving_upto) := ⟨rfl, rfl, rfl, by decide +kernel, rfl, by decide +kernel, by decide +kernel⟩
theorem ok_Wu (T : Txt K mg) : Ok P w K mg base 5 (He.ma K (cW K) "upto") ["self", "many"] (spUpto K) := by
  have GW := (ok_Wi (P := P) (w := w) (base := base) T).mak T.m_Weaving T.g_Weaving
  refine ok_mk T.d_Weaving_upto sc_Wu (fun vs H Q E h => ?_) (fun fd F => F.bindsN fun _ _ _ _ _ _ us hl => match us, hl with | [_, _], _ => rfl) (fun cdv A outer s H vs Q E hr h => ?_)
  · obtain ⟨p, es, n, rfl, _⟩ := h
    rfl
  · obtain ⟨p, es, n, rfl, ⟨dx, t, hp, ht⟩, he, k⟩ := h
    refine ⟨_, pss_one (ps_ret (C8.pe_mk GW hr (by decide) (by rfl) (pa_cons (pe_slice sl_tupA (pe_fld (pv 0) rfl) po_none (po_some (pv 1))) pa_nil))), ?_⟩
    refine ⟨_, rfl, p, cW K, dx, _, _, rfl, hp, T.c_Weaving, T.n_Weaving_events, oneF_at _ _, _, rfl, _, rfl, ?_⟩
    refine go_cutT ht fun u H1 s1 hu => ?_
    rw [cut_to, tx_take] at hu
    exact go_W (.inr hu) (fun e hm => he e (List.mem_of_mem_take hm)) fun q H2 s2 hq => k q H2 (s1.trans s2) hq
def spWAdd (K : PySem.W.Frag) : Sp := fun vs H Q _ => ∃ (p q : Addr) (es fs : List Str), vs = [.ref p, .ref q] ∧ WovAt K H p es ∧ WovAt K H q fs ∧ (∀ e ∈ es, EvG e) ∧ (∀ e ∈ fs, EvG e) ∧ es.length + fs.length ≤ 1000 ∧ ∀ r H', Same H H' → WovAt K H' r (es ++ fs) → Q (.ref r) H'
theorem sc_Wa : FnScope ["self", "other"] ["self", "other"] (defScope s_Weaving_add) := ⟨rfl, rfl, rfl, by decide +kernel, rfl, by decide +kernel, by decide +kernel⟩
theorem ok_Wa (T : Txt K mg) : Ok P w K mg base 5 (He.ma K (cW K) "__add__") ["self", "other"] (spWAdd K) := by
  have GW := (ok_Wi (P := P) (w := w) (base := base) T).mak T.m_Weaving T.g_Weaving
  refine ok_mk T.d_Weaving_add sc_Wa (fun vs H Q E h => ?_) (fun fd F => F.bindsN fun _ _ _ _ _ _ us hl => match us, hl with | [_, _], _ => rfl) (fun cdv A outer s H vs Q E hr h => ?_)
  · obtain ⟨p, q, es, fs, rfl, _⟩ := h
    rfl
  · obtain ⟨p, q, es, fs, rfl, ⟨dx, t, hp, ht⟩, ⟨dy, u, hq, hu⟩, he, hf, hl, k⟩ := h
    refine ⟨_, pss_cons (ps_if (pt_not (pt_val (pe_callB call_isi (by rfl) T.f_isinstance boot_isinstance (pa_cons (pv 1) (pa_cons (pe_glob (v := .ref (cW K)) (by rfl) T.g_Weaving rfl) pa_nil))))) pss_never pss_nil)
      (pss_one (ps_ret (C8.pe_mk GW hr (by decide) (by rfl) (pa_cons (pe_op op_catA (pe_fld (pv 0) rfl) (pe_fld (pv 1) rfl)) pa_nil)))), ?_⟩
    refine ⟨_, rfl, _, _, _, _, true, rfl, .own _, ty_ins hq T.c_Weaving T.i_Weaving, T.i_Weaving.kit, true, rfl, iteF ?_⟩
    refine ⟨_, rfl, p, cW K, dx, _, _, rfl, hp, T.c_Weaving, T.n_Weaving_events, oneF_at _ _, _, rfl, q, cW K, dy, _, _, rfl, hq, T.c_Weaving, T.n_Weaving_events, oneF_at _ _, ?_⟩
    refine go_catT ht hu (by rw [tx_len, tx_len]; exact Nat.le_trans hl (by decide)) fun v H1 s1 hv => ?_
    rw [tx_app] at hv
    refine go_W (.inr hv) (fun e hm => ?_) fun r H2 s2 hr2 => k r H2 (s1.trans s2) hr2
    rcases List.mem_append.mp hm with m | m
    · exact he e m
    · exact hf e m
/-! ### Weaving.read -/
def spWRead (K : PySem.W.Frag) : Sp := fun vs H Q _ => ∃ (c : Addr) (es : List Str), vs = [.ref c, .str (wovText es)] ∧ (∀ e ∈ es, EvG e) ∧ es.length ≤ 1000 ∧ ∀ q H', Same H H' → WovAt K H' q es → Q (.ref q) H'
theorem sc_Wr : FnScope ["cls", "text", "parts", "at", "part"] ["cls", "text"] (defScope s_Weaving_read) := ⟨rfl, rfl, rfl, by decide +kernel, rfl, by decide +kernel, by decide +kernel⟩
theorem ok_Wr (T : Txt K mg) : Ok P w K mg base 5 (He5.wf K (cW K) "classmethod" "read") ["cls", "text"] (spWRead K) := by
  have GW := (ok_Wi (P := P) (w := w) (base := base) T).mak T.m_Weaving T.g_Weaving
  have GE := (ok_ev (P := P) (w := w) (base := base) T).cal T.g_event_in
  refine ok_mk T.d_Weaving_read sc_Wr (fun vs H Q E h => ?_) (fun fd F => F.bindsN fun _ _ _ _ _ _ us hl => match us, hl with | [_, _], _ => rfl) (fun cdv A outer s H vs Q E hr h => ?_)
  · obtain ⟨c, es, rfl, _⟩ := h
    rfl
  · obtain ⟨c, es, rfl, he, hn, k⟩ := h
    refine ⟨_, C8.pss_cut (ps_set (i := 2) sc_Wr.nd rfl (Or.inl rfl) (pe_ifExp (pt_cmpR op_ne (pv 1) pe_str (nomark _)) (pe_split (pv 1) pe_str) (pe_lst pa_nil)))
      (pss_cons (ps_for PassesOwn.never rfl (pi_enumA (by rfl) T.f_enumerate (pa_cons (pv 2) pa_nil)) (pg_tup rfl (pgs_cons (pg_name (i := 3) sc_Wr.nd rfl (.inl rfl)) (pgs_cons (pg_name (i := 4) sc_Wr.nd rfl (.inl rfl)) pgs_nil)))
        (pss_one (ps_if (pt_cmp (pc_isN (C8.pe_c GE hr (by decide) (by rfl) (pa_cons (pv 4) pa_nil)))) pss_never pss_nil)))
      (pss_one (ps_ret (C8.pe_mk GW hr (by decide) (by rfl) (pa_cons (pv 2) pa_nil))))), ?_⟩
    have hlen : (wovText es).length + 2 ≤ sizeLine := by
      have h1 := wovText_len fun e hm => (he e hm).t
      have h2 : sizeLine = 16777216 := by decide
      omega
    refine ⟨fun σ' H' => ∃ l, σ' = [some (.ref c), some (.str (wovText es)), some (.ref l), none, none] ∧ Same H H' ∧ H' l = some (.lst (tx es)), ?_, ?_⟩
    · by_cases e : es = []
      · subst e
        refine ⟨_, rfl, rfl, false, dstrNF rfl, iteF ?_⟩
        exact ⟨Nat.zero_le _, fun l hl => ⟨l, rfl, same_new hl, upd_same⟩⟩
      · refine ⟨_, rfl, rfl, true, dstrNT (wovText_ne e fun x hx => (he x hx).t), iteT ?_⟩
        refine ⟨_, rfl, ⟨_, rfl⟩, _, _, rfl, rfl, by decide +kernel, hlen, fun l hl => ⟨l, rfl, same_new hl, ?_⟩⟩
        rw [upd_same, split_sc e fun x hx => (he x hx).t] <;> rfl
    · rintro σ' H1 ⟨l, rfl, s1, hl⟩
      refine ⟨_, rfl, l, tx es, rfl, for_enumA (.inl (SqL.of hl)) (fun i σ H2 => ∃ u v, σ = [some (.ref c), some (.str (wovText es)), some (.ref l), u, v] ∧ Same H1 H2) ⟨_, _, rfl, Same.refl _⟩ (fun i σ H2 _ ⟨_, _, _, s2⟩ => s2) ?_ ?_⟩
      · rintro i y T' σ H2 hi ⟨u, v, rfl, s2⟩ hT
        obtain ⟨e, hie, rfl⟩ := tx_get hi
        have eg := he e (List.mem_of_getElem? hie)
        refine ⟨T', _, rfl, SqT.of upd_same, rfl, _, _, rfl, _, _, rfl, rfl, ?_⟩
        refine ⟨_, rfl, e, rfl, eg.ok, Nat.le_trans eg.t.len (by decide), fun p H3 s3 => ⟨false, rfl, iteF ?_⟩⟩
        exact ⟨_, _, rfl, (s2.trans (same_new hT)).trans s3⟩
      · rintro σ H2 ⟨u, v, rfl, s2⟩
        refine ⟨_, rfl, ?_⟩
        exact go_W (.inl (SqL.of (s2 _ _ hl))) he fun q H3 s3 hq => k q H3 ((s1.trans s2).trans s3) hq
end
end Hk

set_option Elab.async false
set_option linter.all false
set_option maxRecDepth 100000
set_option maxHeartbeats 4000000
namespace Hk
open PySem PySem.Spec PyProof.Rows L2
section
variable {P : Program} {w : World} {K : PySem.W.Frag} {mg : Str → Option Value} {base : Heap}
/-! ### fits_letter, is_test, is_deed -/
def ofA : List Str := ["first", "gone", "do", "drop"]
def tW : List Str := ["old", "all", "open", "same", "first", "gone"]
def Fits (v l : Str) : Prop := l ≠ "list" ∨ v ∉ ofA
def spFits : Sp := fun vs H Q _ => ∃ v l, vs = [.str v, .str l] ∧ Fits v l ∧ ∀ H', Same H H' → Q (.bl true) H'
theorem sc_fits : FnScope ["word", "letter"] ["word", "letter"] (defScope s_fits_letter) := ⟨rfl, rfl, rfl, by decide +kernel, rfl, by decide +kernel, by decide +kernel⟩
theorem ok_fits (T : Txt K mg) : Ok P w K mg base 1 (He.ga K "fits_letter") ["word", "letter"] spFits := by
  refine ok_mk T.d_fits_letter sc_fits (fun vs H Q E h => ?_) (fun fd F => F.bindsN fun _ _ _ _ _ _ us hl => match us, hl with | [_, _], _ => rfl) (fun cdv A outer s H vs Q E hr h => ?_)
  · obtain ⟨v, l, rfl, _⟩ := h
    rfl
  · obtain ⟨v, l, rfl, ok, k⟩ := h
    refine ⟨_, pss_one (ps_ret (pe_or (pe_cmpR op_ne (pv 1) pe_str (nomark _)) (pe_one (pe_cmpR op_notIn_seq (pv 0) (pe_glob (v := .ref (He.ga K "OF_ANSWERS")) (by rfl) T.g_OF_ANSWERS rfl) (by rfl))))), ?_⟩
    by_cases e : l = "list"
    · refine ⟨_, rfl, rfl, false, dstrNF e, iteF ?_⟩
      refine ⟨_, rfl, _, tx ofA, rfl, .inr (T.t_OF_ANSWERS H), rfl, rfl, ?_⟩
      rw [ninVT (ok.resolve_left fun h => h e)]
      exact k H (Same.refl _)
    · exact ⟨_, rfl, rfl, true, dstrNT e, iteT (k H (Same.refl _))⟩
def stem (t : Str) : Str := if Txt.startswith t "not " = true then cutS t (some 4) none else t
theorem stem_all : ∀ l ∈ lets, ∀ t ∈ tOf l, stem t ∈ tW ∧ (l ≠ "list" ∨ stem t ∉ ofA) := by decide +kernel
theorem deed_fit : ∀ l ∈ lets, ∀ t ∈ dOf l, t ∈ dA ∧ (l ≠ "list" ∨ t ∉ ofA) := by decide +kernel
def spTest : Sp := fun vs H Q _ => ∃ v l, vs = [.str v, .str l] ∧ l ∈ lets ∧ v ∈ tOf l ∧ ∀ H', Same H H' → Q (.bl true) H'
theorem sc_test : FnScope ["value", "letter", "word"] ["value", "letter"] (defScope s_is_test) := ⟨rfl, rfl, rfl, by decide +kernel, rfl, by decide +kernel, by decide +kernel⟩
theorem ok_test (T : Txt K mg) : Ok P w K mg base 2 (He.ga K "is_test") ["value", "letter"] spTest := by
  have GF := (ok_fits (P := P) (w := w) (base := base) T).cal T.g_fits_letter
  refine ok_mk T.d_is_test sc_test (fun vs H Q E h => ?_) (fun fd F => F.bindsN fun _ _ _ _ _ _ us hl => match us, hl with | [_, _], _ => rfl) (fun cdv A outer s H vs Q E hr h => ?_)
  · obtain ⟨v, l, rfl, _⟩ := h
    rfl
  · obtain ⟨v, l, rfl, hl, hv, k⟩ := h
    obtain ⟨h1, h2⟩ := stem_all l hl v hv
    have hz : v.length ≤ sizeLine := Nat.le_trans (tst_ok (tOf_sub hv)).len (by decide)
    refine ⟨_, pss_cons (ps_if (pt_not (pt_val (pe_callB call_isi (by rfl) T.f_isinstance boot_isinstance (pa_cons (pv 0) (pa_cons (pe_bltn (v := .ty "str") (by rfl) T.f_str boot_str rfl) pa_nil))))) (pss_one (ps_ret pe_bl)) pss_nil)
      (pss_cons (ps_set (i := 2) sc_test.nd rfl (Or.inl rfl) (pe_ifExp (pt_val (pe_m1 PySem.F.slot_str_startswith PySem.F.type_str_startswith mt_startswith (pv 0) pe_str)) (pe_slice sl_str (pv 0) (po_some pe_int) po_none) (pv 0)))
      (pss_one (ps_ret (pe_and (pe_cmpR op_in_seq (pv 2) (pe_glob (v := .ref (He.ga K "TESTS")) (by rfl) T.g_TESTS rfl) (by rfl)) (pe_one (C8.pe_c GF hr (by decide) (by rfl) (pa_cons (pv 2) (pa_cons (pv 1) pa_nil)))))))), ?_⟩
    refine ⟨_, rfl, _, _, _, _, true, rfl, .ty _, .base (.str v), kit_ty (by decide +kernel), true, rfl, iteF ?_⟩
    refine ⟨_, rfl, ⟨_, rfl⟩, v, _, rfl, rfl, _, rfl, ?_⟩
    by_cases c : Txt.startswith v "not " = true
    · rw [show stem v = cutS v (some 4) none from if_pos c] at h1 h2
      rw [c]
      refine iteT ⟨_, rfl, _, rfl, v, rfl, hz, ?_⟩
      refine ⟨_, rfl, _, tx tW, rfl, .inr (T.t_TESTS H), rfl, rfl, true, inVT h1, iteT ?_⟩
      exact ⟨_, rfl, _, rfl, _, _, rfl, h2, k⟩
    · rw [show stem v = v from if_neg c] at h1 h2
      rw [show Txt.startswith v "not " = false from by simpa using c]
      refine iteF ⟨_, rfl, ?_⟩
      refine ⟨_, rfl, _, tx tW, rfl, .inr (T.t_TESTS H), rfl, rfl, true, inVT h1, iteT ?_⟩
      exact ⟨_, rfl, _, rfl, _, _, rfl, h2, k⟩
def spDeed : Sp := fun vs H Q _ => ∃ v l, vs = [.str v, .str l] ∧ l ∈ lets ∧ v ∈ dOf l ∧ ∀ H', Same H H' → Q (.bl true) H'
theorem sc_deed : FnScope ["value", "letter"] ["value", "letter"] (defScope s_is_deed) := ⟨rfl, rfl, rfl, by decide +kernel, rfl, by decide +kernel, by decide +kernel⟩
theorem ok_deed (T : Txt K mg) : Ok P w K mg base 2 (He.ga K "is_deed") ["value", "letter"] spDeed := by
  have GF := (ok_fits (P := P) (w := w) (base := base) T).cal T.g_fits_letter
  refine ok_mk T.d_is_deed sc_deed (fun vs H Q E h => ?_) (fun fd F => F.bindsN fun _ _ _ _ _ _ us hl => match us, hl with | [_, _], _ => rfl) (fun cdv A outer s H vs Q E hr h => ?_)
  · obtain ⟨v, l, rfl, _⟩ := h
    rfl
  · obtain ⟨v, l, rfl, hl, hv, k⟩ := h
    obtain ⟨h1, h2⟩ := deed_fit l hl v hv
    refine ⟨_, pss_one (ps_ret (pe_and (pe_callB call_isi (by rfl) T.f_isinstance boot_isinstance (pa_cons (pv 0) (pa_cons (pe_bltn (v := .ty "str") (by rfl) T.f_str boot_str rfl) pa_nil)))
      (pe_and (pe_cmpR op_in_seq (pv 0) (pe_glob (v := .ref (He.ga K "DEEDS")) (by rfl) T.g_DEEDS rfl) (by rfl)) (pe_one (C8.pe_c GF hr (by decide) (by rfl) (pa_cons (pv 0) (pa_cons (pv 1) pa_nil))))))), ?_⟩
    refine ⟨_, rfl, _, _, _, _, true, rfl, .ty _, .base (.str v), kit_ty (by decide +kernel), true, rfl, iteT ?_⟩
    refine ⟨_, rfl, _, tx dA, rfl, .inr (T.t_DEEDS H), rfl, rfl, true, inVT h1, iteT ?_⟩
    exact ⟨_, rfl, _, rfl, _, _, rfl, h2, k⟩
/-! ### Row.__init__ -/
def spRInit (K : PySem.W.Frag) : Sp := fun vs H Q _ => ∃ (x dx a b : Addr) (d : RowD), vs = [.ref x, .str d.letter, .ref a, .ref b] ∧ H x = some (.ins (cR K) dx []) ∧ Sq K H a (tx d.tests) ∧ Sq K H b (tx d.deeds) ∧ RowOk d ∧
  ∀ H', RowAt K H' x d → (∀ b o, H b = some o → b ≠ x → H' b = some o) → Q .non H'
theorem sc_Ri : FnScope ["self", "letter", "tests", "deeds", "test", "deed"] ["self", "letter", "tests", "deeds"] (defScope s_Row_init) := ⟨rfl, rfl, rfl, by decide +kernel, rfl, by decide +kernel, by decide +kernel⟩
theorem ok_Ri (T : Txt K mg) : Ok P w K mg base 3 (He.ma K (cR K) "__init__") ["self", "letter", "tests", "deeds"] (spRInit K) := by
  have GS := (ok_seq (P := P) (w := w) (base := base) T).cal T.g_is_sequence
  have GT := (ok_test (P := P) (w := w) (base := base) T).cal T.g_is_test
  have GD := (ok_deed (P := P) (w := w) (base := base) T).cal T.g_is_deed
  refine ok_mk T.d_Row_init sc_Ri (fun vs H Q E h => ?_) (fun fd F => binds_full F (by simp) fun T kV doc pm an cdv ct us its h1 h2 => match us, h1, its, h2 with | [_, _, _, _], _, [_, _], _ => ⟨_, rfl, rfl⟩) (fun cdv A outer s H vs Q E hr h => ?_)
  · obtain ⟨x, dx, a, b, d, rfl, _⟩ := h
    rfl
  · obtain ⟨x, dx, a, b, d, rfl, hx, ha, hb, ok, k⟩ := h
    refine ⟨_, pss_cons (ps_if (PW.pt (pw_or (pt_not (pt_val (pe_callB call_isi (by rfl) T.f_isinstance boot_isinstance (pa_cons (pv 1) (pa_cons (pe_bltn (v := .ty "str") (by rfl) T.f_str boot_str rfl) pa_nil)))))
          (pw_or1 (pt_cmpR op_notIn_seq (pv 1) (pe_glob (v := .ref (He.ga K "LETTERS")) (by rfl) T.g_LETTERS rfl) (by rfl))))) pss_never pss_nil)
      (pss_cons (ps_if (PW.pt (pw_or (pt_not (pt_val (C8.pe_c GS hr (by decide) (by rfl) (pa_cons (pv 2) pa_nil))))
          (pw_or1 (pt_not (pt_val (pe_callB (cr_all rfl) (by rfl) T.f_all boot_all (pa_cons (pe_lc (own := [("test", 4)]) (g := gName 4) (tt := tYes) rfl sc_Ri.nd (pi_sq (pv 2)) (blkOk_by (N := ["self", "letter", "tests", "deeds", "test", "deed"]) (sc := defScope s_Row_init) (by decide +kernel))
            (fun _ _ _ _ _ => pg_name (i := 4) sc_Ri.nd rfl (Or.inl rfl)) (fun _ _ _ _ _ => pts_nil) (fun _ _ _ _ _ => C8.pe_c GT hr (by decide) (by rfl) (pa_cons (pv 4) (pa_cons (pv 1) pa_nil)))) pa_nil))))))) pss_never pss_nil)
      (pss_cons (ps_if (PW.pt (pw_or (pt_not (pt_val (C8.pe_c GS hr (by decide) (by rfl) (pa_cons (pv 3) pa_nil))))
          (pw_or1 (pt_not (pt_val (pe_callB (cr_all rfl) (by rfl) T.f_all boot_all (pa_cons (pe_lc (own := [("deed", 5)]) (g := gName 5) (tt := tYes) rfl sc_Ri.nd (pi_sq (pv 3)) (blkOk_by (N := ["self", "letter", "tests", "deeds", "test", "deed"]) (sc := defScope s_Row_init) (by decide +kernel))
            (fun _ _ _ _ _ => pg_name (i := 5) sc_Ri.nd rfl (Or.inl rfl)) (fun _ _ _ _ _ => pts_nil) (fun _ _ _ _ _ => C8.pe_c GD hr (by decide) (by rfl) (pa_cons (pv 5) (pa_cons (pv 1) pa_nil)))) pa_nil))))))) pss_never pss_nil)
      (pss_cons (ps_fld (pv 0) (pv 1) rfl)
      (pss_cons (ps_fld (pv 0) (pe_callTy call_tupA (by rfl) T.f_tuple boot_tuple (pa_cons (pv 2) pa_nil)) rfl)
      (pss_one (ps_fld (pv 0) (pe_callTy call_tupA (by rfl) T.f_tuple boot_tuple (pa_cons (pv 3) pa_nil)) rfl)))))), ?_⟩
    refine ⟨_, rfl, _, _, _, _, true, rfl, .ty _, .base (.str _), kit_ty (by decide +kernel), true, rfl, iteF ?_⟩
    refine ⟨_, rfl, _, tx lets, rfl, .inr (T.t_LETTERS H), rfl, rfl, false, ninVF ok.lt, iteF ?_⟩
    refine ⟨_, rfl, a, _, rfl, ha, fun H1 s1 => ⟨true, rfl, iteF ?_⟩⟩
    refine go_all rfl (ha.same s1) (by rw [tx_len]; exact Nat.lt_of_le_of_lt ok.nt (by decide)) (fun y H' hy s2 Q' hQ => ?_) fun H2 s2 => ⟨true, rfl, iteF ?_⟩
    · obtain ⟨t, ht, rfl⟩ := List.mem_map.mp hy
      exact ⟨_, rfl, _, rfl, t, _, rfl, ok.lt, ok.ts t ht, hQ⟩
    have s12 := s1.trans s2
    refine ⟨_, rfl, b, _, rfl, hb.same s12, fun H3 s3 => ⟨true, rfl, iteF ?_⟩⟩
    have s13 := s12.trans s3
    refine go_all rfl (hb.same s13) (by rw [tx_len]; exact Nat.lt_of_le_of_lt ok.nd (by decide)) (fun y H' hy s2 Q' hQ => ?_) fun H4 s4 => ⟨true, rfl, iteF ?_⟩
    · obtain ⟨t, ht, rfl⟩ := List.mem_map.mp hy
      exact ⟨_, rfl, _, rfl, t, _, rfl, ok.lt, ok.ds t ht, hQ⟩
    have s14 := s13.trans s4
    have hx4 := s14 _ _ hx
    refine ⟨_, rfl, _, rfl, x, cR K, dx, _, rfl, hx4, T.c_Row, T.n_Row_letter, (by show 0 < 1000; decide), ?_⟩
    have sq : ∀ {c : Addr} {xs : List V} {o : HO}, Sq K H4 c xs → Sq K (upd H4 x o) c xs := fun {c xs o} q => by
      rcases q with ((h | ⟨u, h⟩) | h) | q
      · exact .inl (.inl (.inl (by rw [upd_ne (ne_of h hx4 (by intro z; cases z))]; exact h)))
      · exact .inl (.inl (.inr ⟨u, by rw [upd_ne (ne_of h hx4 (by intro z; cases z))]; exact h⟩))
      · exact .inl (.inr h)
      · exact .inr (sqT_upd hx4 q)
    refine go_tup rfl (sq (ha.same s14)) fun t1 H5 s5 h1 => ?_
    have hx5 := s5 _ _ (upd_same (H := H4) (a := x))
    refine ⟨_, rfl, x, cR K, dx, _, rfl, hx5, T.c_Row, T.n_Row_tests, (by show 1 < 1000; decide), ?_⟩
    have hb5 : Sq K (upd H5 x (.ins (cR K) dx (putF "tests" (.ref t1) (putF "letter" (.str d.letter) [])))) b (tx d.deeds) := by
      rcases (sq (o := .ins (cR K) dx (putF "letter" (.str d.letter) [])) (hb.same s14)).same s5 with ((h | ⟨u, h⟩) | h) | q
      · exact .inl (.inl (.inl (by rw [upd_ne (ne_of h hx5 (by intro z; cases z))]; exact h)))
      · exact .inl (.inl (.inr ⟨u, by rw [upd_ne (ne_of h hx5 (by intro z; cases z))]; exact h⟩))
      · exact .inl (.inr h)
      · exact .inr (sqT_upd hx5 q)
    refine go_tup rfl hb5 fun t2 H6 s6 h2 => ?_
    have hx6 := s6 _ _ (upd_same (H := H5) (a := x))
    refine ⟨_, rfl, x, cR K, dx, _, rfl, hx6, T.c_Row, T.n_Row_deeds, (by show 2 < 1000; decide), ?_⟩
    refine k _ ⟨dx, t1, t2, upd_same, sqT_upd hx6 (sqT_same s6 (sqT_upd hx5 h1)), sqT_upd hx6 h2⟩ fun c o e hc => ?_
    rw [upd_ne hc]
    refine s6 _ _ ?_
    rw [upd_ne hc]
    refine s5 _ _ ?_
    rw [upd_ne hc]
    exact s14 _ _ e
end
end Hk

set_option Elab.async false
set_option linter.all false
set_option maxRecDepth 100000
set_option maxHeartbeats 4000000
namespace Hk
open PySem PySem.Spec PyProof.Rows L2
/-- f"pre{sep.join(self.f)}" if len(self.f) > 0 else '' -/
theorem go_part {K : PySem.W.Frag} {σ : L2.St} {H : Hp} {a C dx t : Addr} {fs : List (Str × V)} {xs : List Str} {f pre sep : Str} {Q : VK} (hσ : σ[0]? = some (some (.ref a))) (ha : H a = some (.ins C dx fs)) (hc : Cls K C) (hn : NoAttr K C f)
    (hf : fs.lookup f = some (.ref t)) (ht : SqT K H t (tx xs)) (h1 : (xs.map (·.length)).sum + xs.length * sep.length ≤ 10000) (h2 : pre.length ≤ 100) (h3 : (Txt.join sep xs).length ≤ 10000)
    (k : Q (.str (if xs.isEmpty then ("" : Str) else pre ++ Txt.join sep xs)) H) :
    tIf (tTest (tOp (rI0 fun i j => .bl (decide (j < i))) (tCB (rLenSq K) (tCons (tFld K (tVar 0) f) tNil)) (tC (.int 0)))) (fun σ H Q => tJs [tC (.str pre), tFmt (tM1 (rJoin K) (tC (.str sep)) (tFld K (tVar 0) f))] Str.empty σ H fun out H1 => Q (.str out) H1) (tC (.str "")) σ H Q := by
  have hz : sizeLine = 16777216 := by decide
  refine ⟨_, hσ, a, C, dx, fs, _, rfl, ha, hc, hn, hf, t, tx xs, rfl, .inr ht, _, _, rfl, rfl, ?_⟩
  cases xs with
  | nil => exact ⟨false, rfl, iteF k⟩
  | cons x r =>
    refine ⟨true, ?_, iteT ?_⟩
    · show V.bl (decide ((0 : Int) < ((tx (x :: r)).length : Int))) = .bl true
      rw [tx_len, decide_eq_true (by rw [List.length_cons] <;> omega)]
    refine ⟨pre, rfl, by rw [empty_app]; omega, ?_⟩
    refine ⟨⟨_, rfl⟩, _, hσ, a, C, dx, fs, _, rfl, ha, hc, hn, hf, _, t, x :: r, rfl, rfl, .inr ht, Nat.le_trans h1 (by decide), .inl ⟨_, rfl, by omega, _, rfl, ?_, ?_⟩⟩
    · rw [len_app, len_app, show Str.empty.length = 0 from rfl]
      omega
    · show Q (.str (Str.empty ++ pre ++ Txt.join sep (x :: r))) H
      rw [empty_app]
      exact k
section
variable {P : Program} {w : World} {K : PySem.W.Frag} {mg : Str → Option Value} {base : Heap}
/-! ### Row.__str__ -/
def spRStr (K : PySem.W.Frag) : Sp := fun vs H Q _ => ∃ (p : Addr) (d : RowD), vs = [.ref p] ∧ RowAt K H p d ∧ RowOk d ∧ ∀ H', Same H H' → Q (.str (rowText d)) H'
theorem sc_Rs : FnScope ["self", "tests", "deeds"] ["self"] (defScope s_Row_str) := ⟨rfl, rfl, rfl, by decide +kernel, rfl, by decide +kernel, by decide +kernel⟩
theorem ok_Rs (T : Txt K mg) : Ok P w K mg base 1 (He.ma K (cR K) "__str__") ["self"] (spRStr K) := by
  refine ok_mk T.d_Row_str sc_Rs (fun vs H Q E h => ?_) (fun fd F => F.bindsN fun _ _ _ _ _ _ us hl => match us, hl with | [_], _ => rfl) (fun cdv A outer s H vs Q E hr h => ?_)
  · obtain ⟨p, d, rfl, _⟩ := h
    rfl
  · obtain ⟨p, d, rfl, ⟨dx, t1, t2, hp, h1, h2⟩, ok, k⟩ := h
    refine ⟨_, pss_cons (ps_set (i := 1) sc_Rs.nd rfl (Or.inl rfl) (pe_ifExp (pt_cmpR op_gt (pe_callB call_lenSq (by rfl) T.f_len boot_len (pa_cons (pe_fld (pv 0) rfl) pa_nil)) pe_int (nomark _)) (pe_joined (.cons pe_str (.cons (pe_fmt (pe_joinN pe_str (pe_fld (pv 0) rfl))) .nil))) pe_str))
      (pss_cons (ps_set (i := 2) sc_Rs.nd rfl (Or.inl rfl) (pe_ifExp (pt_cmpR op_gt (pe_callB call_lenSq (by rfl) T.f_len boot_len (pa_cons (pe_fld (pv 0) rfl) pa_nil)) pe_int (nomark _)) (pe_joined (.cons pe_str (.cons (pe_fmt (pe_joinN pe_str (pe_fld (pv 0) rfl))) .nil))) pe_str))
      (pss_one (ps_ret (pe_joined (.cons (pe_fmt (pe_fld (pv 0) rfl)) (.cons (pe_fmt (pv 1)) (.cons (pe_fmt (pv 2)) .nil))))))), ?_⟩
    have hz : sizeLine = 16777216 := by decide
    obtain ⟨l1, l2, _⟩ := let_ok ok.lt
    have l3 := testsT_len ok
    have l4 := deedsT_len ok
    have n1 := ok.nt
    have n2 := ok.nd
    refine go_part rfl hp T.c_Row T.n_Row_tests (rowF_tests _ _ _) h1 ?_ (by rw [len_if]; decide) ?_ ?_
    · have := sum_len 9 d.tests fun x hx => (tst_ok (tOf_sub (ok.ts x hx))).len
      rw [len_and]
      omega
    · have := join_len " and " 9 d.tests fun x hx => (tst_ok (tOf_sub (ok.ts x hx))).len
      rw [len_and] at this
      omega
    refine go_part rfl hp T.c_Row T.n_Row_deeds (rowF_deeds _ _ _) h2 ?_ (by rw [len_do]; decide) ?_ ?_
    · have := sum_len 5 d.deeds fun x hx => (deed_ok (dOf_sub (ok.ds x hx))).1
      rw [len_then]
      omega
    · have := join_len " then " 5 d.deeds fun x hx => (deed_ok (dOf_sub (ok.ds x hx))).1
      rw [len_then] at this
      omega
    refine ⟨_, rfl, p, cR K, dx, _, _, rfl, hp, T.c_Row, T.n_Row_letter, rowF_letter _ _ _, .inl ⟨_, rfl, by omega, _, rfl, ?_, ?_⟩⟩
    · rw [empty_app]; omega
    refine ⟨_, rfl, .inl ⟨_, rfl, by show (testsT d.tests).length ≤ sizeLine; omega, _, rfl, ?_, ?_⟩⟩
    · show (Str.empty ++ d.letter ++ testsT d.tests).length ≤ sizeLine
      rw [empty_app, len_app]; omega
    refine ⟨_, rfl, .inl ⟨_, rfl, by show (deedsT d.deeds).length ≤ sizeLine; omega, _, rfl, ?_, ?_⟩⟩
    · show (Str.empty ++ d.letter ++ testsT d.tests ++ deedsT d.deeds).length ≤ sizeLine
      rw [empty_app, len_app, len_app]; omega
    show Q (.str (Str.empty ++ d.letter ++ testsT d.tests ++ deedsT d.deeds)) H
    rw [empty_app]
    exact k H (Same.refl _)
/-! ### Row.__eq__ -/
def spREq (K : PySem.W.Frag) : Sp := fun vs H Q _ => ∃ (p q : Addr) (d : RowD), vs = [.ref p, .ref q] ∧ RowAt K H p d ∧ RowAt K H q d ∧ RowOk d ∧ ∀ H', Same H H' → Q (.bl true) H'
theorem sc_Re : FnScope ["self", "other"] ["self", "other"] (defScope s_Row_eq) := ⟨rfl, rfl, rfl, by decide +kernel, rfl, by decide +kernel, by decide +kernel⟩
theorem ok_Re (T : Txt K mg) : Ok P w K mg base 4 (He.ma K (cR K) "__eq__") ["self", "other"] (spREq K) := by
  have GS := (ok_Rs (P := P) (w := w) (base := base) T).raw
  refine ok_mk T.d_Row_eq sc_Re (fun vs H Q E h => ?_) (fun fd F => F.bindsN fun _ _ _ _ _ _ us hl => match us, hl with | [_, _], _ => rfl) (fun cdv A outer s H vs Q E hr h => ?_)
  · obtain ⟨p, q, d, rfl, _⟩ := h
    rfl
  · obtain ⟨p, q, d, rfl, hp, hq, ok, k⟩ := h
    refine ⟨_, pss_one (ps_ret (pe_and (pe_callB call_isi (by rfl) T.f_isinstance boot_isinstance (pa_cons (pv 1) (pa_cons (pe_glob (v := .ref (cR K)) (by rfl) T.g_Row rfl) pa_nil)))
      (pe_one (pe_cmpR op_eq (pe_callTy (call_strO (E := E0) T.o_Row_str.at_ T.o_Row_str.fn GS hr L2.pass0) (by rfl) T.f_str boot_str (pa_cons (pv 0) pa_nil)) (pe_callTy (call_strO (E := E0) T.o_Row_str.at_ T.o_Row_str.fn GS hr L2.pass0) (by rfl) T.f_str boot_str (pa_cons (pv 1) pa_nil)) (nomark _))))), ?_⟩
    obtain ⟨dx, t1, t2, hp0, _⟩ := id hp
    obtain ⟨dy, u1, u2, hq0, _⟩ := id hq
    refine ⟨_, rfl, _, _, _, _, true, rfl, .own _, ty_ins hq0 T.c_Row T.i_Row, T.i_Row.kit, true, rfl, iteT ?_⟩
    refine ⟨_, rfl, p, dx, _, rfl, hp0, p, d, rfl, hp, ok, fun H1 s1 => ⟨_, rfl, ?_⟩⟩
    refine ⟨_, rfl, q, dy, _, rfl, s1 _ _ hq0, q, d, rfl, hq.same s1, ok, fun H2 s2 => ⟨_, rfl, rfl, ?_⟩⟩
    rw [dstrT rfl]
    exact k H2 (s1.trans s2)
/-! ### Row.read -/
theorem go_R {Q : VK} {H : Hp} {a b : Addr} {d : RowD} {E : XK} (ha : Sq K H a (tx d.tests)) (hb : Sq K H b (tx d.deeds)) (ok : RowOk d) (k : ∀ q H', Same H H' → RowAt K H' q d → Q (.ref q) H') :
    ∀ x dx, H x = none → H dx = none → dx ≠ x → spRInit K (.ref x :: ([.str d.letter, .ref a, .ref b] ++ [])) (upd (upd H dx (.own x)) x (.ins (cR K) dx [])) (fun v H2 => v = .non ∧ Q (.ref x) H2) E := fun x dx nx nd ne =>
  ⟨x, dx, a, b, d, rfl, upd_same, ha.same (made_step nx nd), hb.same (made_step nx nd), ok, fun H' hw kp => ⟨rfl, k x H' (made_same nx nd kp) hw⟩⟩
def spRRead (K : PySem.W.Frag) : Sp := fun vs H Q _ => ∃ (c : Addr) (d : RowD), vs = [.ref c, .str (rowText d)] ∧ RowOk d ∧ ∀ q H', Same H H' → RowAt K H' q d → Q (.ref q) H'
theorem sc_Rr : FnScope ["cls", "text", "head", "mark", "tail", "letter", "sign", "rest", "tests", "row", "e"] ["cls", "text"] (defScope s_Row_read) := ⟨rfl, rfl, rfl, by decide +kernel, rfl, by decide +kernel, by decide +kernel⟩
theorem ok_Rr (T : Txt K mg) : Ok P w K mg base 5 (He5.wf K (cR K) "classmethod" "read") ["cls", "text"] (spRRead K) := by
  have GR := (ok_Ri (P := P) (w := w) (base := base) T).mak T.m_Row T.g_Row
  refine ok_mk T.d_Row_read sc_Rr (fun vs H Q E h => ?_) (fun fd F => F.bindsN fun _ _ _ _ _ _ us hl => match us, hl with | [_, _], _ => rfl) (fun cdv A outer s H vs Q E hr h => ?_)
  · obtain ⟨c, d, rfl, _⟩ := h
    rfl
  · obtain ⟨c, d, rfl, ok, k⟩ := h
    refine ⟨_, pss_cons (ps_asg (pe_partition (pv 1) pe_str) (pg_tup (by rfl) (pgs_cons (pg_name (i := 2) sc_Rr.nd rfl (.inl rfl)) (pgs_cons (pg_name (i := 3) sc_Rr.nd rfl (.inl rfl)) (pgs_cons (pg_name (i := 4) sc_Rr.nd rfl (.inl rfl)) pgs_nil)))))
      (pss_cons (ps_asg (pe_partition (pv 2) pe_str) (pg_tup (by rfl) (pgs_cons (pg_name (i := 5) sc_Rr.nd rfl (.inl rfl)) (pgs_cons (pg_name (i := 6) sc_Rr.nd rfl (.inl rfl)) (pgs_cons (pg_name (i := 7) sc_Rr.nd rfl (.inl rfl)) pgs_nil)))))
      (pss_cons (ps_set (i := 8) sc_Rr.nd rfl (Or.inl rfl) (pe_ifExp (pt_cmpR op_ne (pv 6) pe_str (nomark _)) (pe_splitN (pv 7) pe_str) (pe_lst pa_nil)))
      (pss_cons (ps_try_as (i := 10) (tb := fun W => tAsg (tMake (cR K) (spRInit K) [] C8.E0 (tCons (tVar 5) (tCons (tVar 8) (tCons (tIf (tTest (tOp rNe (tVar 3) (tC (.str "")))) (tM1 rSplit (tVar 4) (tC (.str " then "))) (tLst tNil)) tNil)))) (gName 9)) (ts := fun _ _ _ => tNever) (Wout := fun _ _ _ _ => False) rfl rfl sc_Rr.nd rfl rfl
          ⟨rfl, by decide, .inl T.g_InvalidRow⟩ takes0
          (fun W pn xe tk _ => pss_one (ps_set (i := 9) sc_Rr.nd rfl (Or.inl rfl) (C8.pe_mk GR hr (by decide) (by rfl) (pa_cons (pv 5) (pa_cons (pv 8) (pa_cons (pe_ifExp (pt_cmpR op_ne (pv 3) pe_str (nomark _)) (pe_splitN (pv 4) pe_str) (pe_lst pa_nil)) pa_nil))))))
          (fun a oe cls d pn hz hf => pss_never))
      (pss_one (ps_ret (pv 9)))))), ?_⟩
    have hz : sizeLine = 16777216 := by decide
    have hl := rowText_len ok
    have l3 := testsT_len ok
    obtain ⟨l1, l2, _⟩ := let_ok ok.lt
    refine ⟨_, rfl, ⟨_, rfl⟩, _, _, rfl, rfl, by decide +kernel, by omega, fun p hp => ?_⟩
    rw [part_do ok]
    refine ⟨p, _, rfl, SqT.of upd_same, rfl, _, _, rfl, _, _, rfl, _, _, rfl, rfl, ?_⟩
    refine ⟨_, rfl, ⟨_, rfl⟩, _, _, rfl, rfl, by decide +kernel, by rw [len_app]; omega, fun p2 hp2 => ?_⟩
    rw [part_if ok]
    refine ⟨p2, _, rfl, SqT.of upd_same, rfl, _, _, rfl, _, _, rfl, _, _, rfl, rfl, ?_⟩
    have s1 := (same_new hp).trans (same_new (o := .tup [.str d.letter, .str (if d.tests.isEmpty then ("" : Str) else (" if " : Str)), .str (if d.tests.isEmpty then ("" : Str) else Txt.join " and " d.tests)]) hp2)
    refine go_split (xs := d.tests) rfl rfl (fun e => ?_) (fun e => ?_) (by decide +kernel) ?_ fun a1 H1 s2 h1 => ?_
    · cases c : d.tests.isEmpty with
      | true => exact List.isEmpty_iff.mp c
      | false =>
        rw [c] at e
        exact absurd (show (" if " : Str) = "" from e) (by decide +kernel)
    · cases c : d.tests.isEmpty with
      | true =>
        rw [c] at e
        exact absurd rfl e
      | false =>
        show Txt.split (Txt.join " and " d.tests) " and " = d.tests
        exact split_and (fun z => by rw [z] at c; cases c) fun t ht => tOf_sub (ok.ts t ht)
    · have q : (if d.tests.isEmpty then ("" : Str) else Txt.join " and " d.tests).length ≤ 60 := by
        split
        · decide
        · have := join_len " and " 9 d.tests fun x hx => (tst_ok (tOf_sub (ok.ts x hx))).len
          have n1 := ok.nt
          rw [len_and] at this
          omega
      show (if d.tests.isEmpty then ("" : Str) else Txt.join " and " d.tests).length + 2 ≤ sizeLine
      omega
    -- try: row = Row(..)
    have s12 := s1.trans s2
    refine ⟨_, rfl, _, rfl, ?_⟩
    refine go_split (xs := d.deeds) rfl rfl (fun e => ?_) (fun e => ?_) (by decide +kernel) ?_ fun a2 H2 s3 h2 => ?_
    · cases c : d.deeds.isEmpty with
      | true => exact List.isEmpty_iff.mp c
      | false =>
        rw [c] at e
        exact absurd (show (" do " : Str) = "" from e) (by decide +kernel)
    · cases c : d.deeds.isEmpty with
      | true =>
        rw [c] at e
        exact absurd rfl e
      | false =>
        show Txt.split (Txt.join " then " d.deeds) " then " = d.deeds
        exact split_then (fun z => by rw [z] at c; cases c) fun t ht => dOf_sub (ok.ds t ht)
    · have q : (if d.deeds.isEmpty then ("" : Str) else Txt.join " then " d.deeds).length ≤ 60 := by
        split
        · decide
        · have := join_len " then " 5 d.deeds fun x hx => (deed_ok (dOf_sub (ok.ds x hx))).1
          have n1 := ok.nd
          rw [len_then] at this
          omega
      show (if d.deeds.isEmpty then ("" : Str) else Txt.join " then " d.deeds).length + 2 ≤ sizeLine
      omega
    intro x dx nx nd ne
    have m1 := made_step (C := cR K) nx nd
    refine ⟨x, dx, a1, a2, d, rfl, upd_same, .inl (SqL.of (m1 _ _ (s3 _ _ h1))), .inl (SqL.of (m1 _ _ h2)), ok, fun H3 hq kp => ⟨rfl, ?_⟩⟩
    exact ⟨_, rfl, k x H3 ((s12.trans s3).trans (made_same nx nd kp)) hq⟩
end
end Hk

set_option Elab.async false
set_option linter.all false
set_option maxRecDepth 100000
set_option maxHeartbeats 4000000
namespace Hk
open PySem PySem.Spec PyProof.Rows L2
section
variable {P : Program} {w : World} {K : PySem.W.Frag} {mg : Str → Option Value} {base : Heap}
theorem ad_get {rs : List Addr} {i : Nat} {x : V} (h : (ad rs)[i]? = some x) : ∃ r, rs[i]? = some r ∧ x = .ref r := by
  unfold ad at h
  rw [List.getElem?_map] at h
  cases q : rs[i]? with
  | none => rw [q] at h; cases h
  | some e => rw [q] at h; exact ⟨e, rfl, (Option.some.inj h).symm⟩
theorem ad_len (rs : List Addr) : (ad rs).length = rs.length := List.length_map ..
theorem ad_take (rs : List Addr) (n : Nat) : (ad rs).take n = ad (rs.take n) := by unfold ad; rw [List.map_take]
theorem ad_drop (rs : List Addr) (n : Nat) : (ad rs).drop n = ad (rs.drop n) := by unfold ad; rw [List.map_drop]
theorem ad_app (rs qs : List Addr) : ad rs ++ ad qs = ad (rs ++ qs) := by unfold ad; rw [List.map_append]
/-- an instance without attributes is changed: rows stand -/
theorem row_updI {H : Hp} {x C dx r : Addr} {d : RowD} {o : HO} (hx : H x = some (.ins C dx [])) (h : RowAt K H r d) : RowAt K (upd H x o) r d := by
  obtain ⟨dy, t1, t2, h1, h2, h3⟩ := h
  have ne : r ≠ x := ne_of h1 hx (by
    intro z
    injection z with z1 z2 z3
    have q := rowF_letter d.letter t1 t2
    rw [z3] at q
    cases q)
  exact ⟨dy, t1, t2, by rw [upd_ne ne]; exact h1, sqT_upd hx h2, sqT_upd hx h3⟩
theorem sqT_updL {H : Hp} {a l : Addr} {xs ys : List V} {o : HO} (hl : H l = some (.lst ys)) (h : SqT K H a xs) : SqT K (upd H l o) a xs := by
  rcases h with (h | ⟨u, h⟩) | h
  · exact .inl (.inl (by rw [upd_ne (ne_of h hl (by intro z; cases z))]; exact h))
  · exact .inl (.inr ⟨u, by rw [upd_ne (ne_of h hl (by intro z; cases z))]; exact h⟩)
  · exact .inr h
theorem row_updL {H : Hp} {l r : Addr} {ys : List V} {d : RowD} {o : HO} (hl : H l = some (.lst ys)) (h : RowAt K H r d) : RowAt K (upd H l o) r d := by
  obtain ⟨dy, t1, t2, h1, h2, h3⟩ := h
  exact ⟨dy, t1, t2, by rw [upd_ne (ne_of h1 hl (by intro z; cases z))]; exact h1, sqT_updL hl h2, sqT_updL hl h3⟩
/-! ### Page.__init__ -/
def spPInit (K : PySem.W.Frag) : Sp := fun vs H Q _ => ∃ (x dx a : Addr) (rs : List Addr) (ds : List RowD), vs = [.ref x, .ref a] ∧ H x = some (.ins (cP K) dx []) ∧ Sq K H a (ad rs) ∧ Paired (RowAt K H) rs ds ∧ rs.length ≤ 1000 ∧
  ∀ H', PageAt K H' x ds → (∀ b o, H b = some o → b ≠ x → H' b = some o) → Q .non H'
theorem sc_Pi : FnScope ["self", "rows", "row"] ["self", "rows"] (defScope s_Page_init) := ⟨rfl, rfl, rfl, by decide +kernel, rfl, by decide +kernel, by decide +kernel⟩
theorem ok_Pi (T : Txt K mg) : Ok P w K mg base 2 (He.ma K (cP K) "__init__") ["self", "rows"] (spPInit K) := by
  have GS := (ok_seq (P := P) (w := w) (base := base) T).cal T.g_is_sequence
  refine ok_mk T.d_Page_init sc_Pi (fun vs H Q E h => ?_) (fun fd F => binds_full F (by simp) fun T kV doc pm an cdv ct us its h1 h2 => match us, h1, its, h2 with | [_, _], _, [_], _ => ⟨_, rfl, rfl⟩) (fun cdv A outer s H vs Q E hr h => ?_)
  · obtain ⟨x, dx, a, rs, ds, rfl, _⟩ := h
    rfl
  · obtain ⟨x, dx, a, rs, ds, rfl, hx, ha, hp, hn, k⟩ := h
    refine ⟨_, pss_cons (ps_if (PW.pt (pw_or (pt_not (pt_val (C8.pe_c GS hr (by decide) (by rfl) (pa_cons (pv 1) pa_nil))))
          (pw_or1 (pt_not (pt_val (pe_callB (cr_all rfl) (by rfl) T.f_all boot_all (pa_cons (pe_lc (own := [("row", 2)]) (g := gName 2) (tt := tYes) rfl sc_Pi.nd (pi_sq (pv 1)) (blkOk_by (N := ["self", "rows", "row"]) (sc := defScope s_Page_init) (by decide +kernel))
            (fun _ _ _ _ _ => pg_name (i := 2) sc_Pi.nd rfl (Or.inl rfl)) (fun _ _ _ _ _ => pts_nil) (fun _ _ _ _ _ => pe_callB (show CallR _ _ (rIsi K) from call_isi) (by rfl) T.f_isinstance boot_isinstance (pa_cons (pv 2) (pa_cons (pe_glob (v := .ref (cR K)) (by rfl) T.g_Row rfl) pa_nil)))) pa_nil))))))) pss_never pss_nil)
      (pss_one (ps_fld (pv 0) (pe_callTy call_tupA (by rfl) T.f_tuple boot_tuple (pa_cons (pv 1) pa_nil)) rfl)), ?_⟩
    refine ⟨_, rfl, a, _, rfl, ha, fun H1 s1 => ⟨true, rfl, iteF ?_⟩⟩
    refine go_all rfl (ha.same s1) (by rw [ad_len]; exact Nat.lt_of_le_of_lt hn (by decide)) (fun y H' hy s2 Q' hQ => ?_) fun H2 s2 => ⟨true, rfl, iteF ?_⟩
    · obtain ⟨i, hi⟩ := List.getElem?_of_mem hy
      obtain ⟨r, hr2, rfl⟩ := ad_get hi
      obtain ⟨d, _, dy, t1, t2, h1, _⟩ := paired_get hp hr2
      exact ⟨_, rfl, _, _, _, _, true, rfl, .own _, ty_ins (s2 _ _ (s1 _ _ h1)) T.c_Row T.i_Row, T.i_Row.kit, hQ _ (Same.refl _)⟩
    have s12 := s1.trans s2
    refine go_tup rfl (ha.same s12) fun t H3 s3 ht => ?_
    have hx3 := s3 _ _ (s12 _ _ hx)
    refine ⟨_, rfl, x, cP K, dx, _, rfl, hx3, T.c_Page, T.n_Page_rows, (by show 0 < 1000; decide), ?_⟩
    refine k _ ⟨dx, t, rs, upd_same, sqT_upd hx3 ht, paired_map hp fun r d h => row_updI hx3 (h.same (s12.trans s3))⟩ fun b o e hb => ?_
    rw [upd_ne hb]
    exact s3 _ _ (s12 _ _ e)
/-- Page(a): what is asked -/
theorem go_P {Q : VK} {H : Hp} {a : Addr} {rs : List Addr} {ds : List RowD} {E : XK} (hq : Sq K H a (ad rs)) (hp : Paired (RowAt K H) rs ds) (hn : rs.length ≤ 1000) (k : ∀ q H', Same H H' → PageAt K H' q ds → Q (.ref q) H') :
    ∀ x dx, H x = none → H dx = none → dx ≠ x → spPInit K (.ref x :: ([.ref a] ++ [])) (upd (upd H dx (.own x)) x (.ins (cP K) dx [])) (fun v H2 => v = .non ∧ Q (.ref x) H2) E := fun x dx nx nd ne =>
  ⟨x, dx, a, rs, ds, rfl, upd_same, hq.same (made_step nx nd), paired_map hp fun r d h => h.same (made_step nx nd), hn, fun H' hw kp => ⟨rfl, k x H' (made_same nx nd kp) hw⟩⟩
/-! ### Page.need_row, __len__, __getitem__ -/
def spNeed (K : PySem.W.Frag) : Sp := fun vs H Q _ => ∃ (p : Addr) (ds : List RowD) (i : Nat), vs = [.ref p, .int (i : Int)] ∧ PageAt K H p ds ∧ i < ds.length ∧ ∀ H', Same H H' → Q .non H'
theorem sc_Pn : FnScope ["self", "at"] ["self", "at"] (defScope s_Page_need_row) := ⟨rfl, rfl, rfl, by decide +kernel, rfl, by decide +kernel, by decide +kernel⟩
theorem ok_Pn (T : Txt K mg) : Ok P w K mg base 1 (He.ma K (cP K) "need_row") ["self", "at"] (spNeed K) := by
  refine ok_mk T.d_Page_need_row sc_Pn (fun vs H Q E h => ?_) (fun fd F => F.bindsN fun _ _ _ _ _ _ us hl => match us, hl with | [_, _], _ => rfl) (fun cdv A outer s H vs Q E hr h => ?_)
  · obtain ⟨p, ds, i, rfl, _⟩ := h
    rfl
  · obtain ⟨p, ds, i, rfl, ⟨dx, t, rs, hp, ht, hd⟩, hi, k⟩ := h
    refine ⟨_, pss_one (ps_if (pt_not (pt_chain op_le op_lt pe_int (pv 1) (pe_callB call_lenSq (by rfl) T.f_len boot_len (pa_cons (pe_fld (pv 0) rfl) pa_nil)))) pss_never pss_nil), ?_⟩
    have hl := paired_len hd
    refine ⟨_, rfl, _, _, rfl, rfl, true, dlet (by omega), iteT ?_⟩
    refine ⟨_, rfl, p, cP K, dx, _, _, rfl, hp, T.c_Page, T.n_Page_rows, oneF_at _ _, t, _, rfl, .inr ht, _, _, rfl, rfl, true, ?_, iteF (k H (Same.refl _))⟩
    show V.bl (decide ((i : Int) < ((ad rs).length : Int))) = .bl true
    rw [ad_len, decide_eq_true (by omega)]
def spPLen (K : PySem.W.Frag) : Sp := fun vs H Q _ => ∃ (p : Addr) (ds : List RowD), vs = [.ref p] ∧ PageAt K H p ds ∧ ∀ H', Same H H' → Q (.int (ds.length : Int)) H'
theorem sc_Pl : FnScope ["self"] ["self"] (defScope s_Page_len) := ⟨rfl, rfl, rfl, by decide +kernel, rfl, by decide +kernel, by decide +kernel⟩
theorem ok_Pl (T : Txt K mg) : Ok P w K mg base 1 (He.ma K (cP K) "__len__") ["self"] (spPLen K) := by
  refine ok_mk T.d_Page_len sc_Pl (fun vs H Q E h => ?_) (fun fd F => F.bindsN fun _ _ _ _ _ _ us hl => match us, hl with | [_], _ => rfl) (fun cdv A outer s H vs Q E hr h => ?_)
  · obtain ⟨p, ds, rfl, _⟩ := h
    rfl
  · obtain ⟨p, ds, rfl, ⟨dx, t, rs, hp, ht, hd⟩, k⟩ := h
    refine ⟨_, pss_one (ps_ret (pe_callB call_lenSq (by rfl) T.f_len boot_len (pa_cons (pe_fld (pv 0) rfl) pa_nil))), ?_⟩
    refine ⟨_, rfl, p, cP K, dx, _, _, rfl, hp, T.c_Page, T.n_Page_rows, oneF_at _ _, t, _, rfl, .inr ht, ?_⟩
    rw [ad_len, paired_len hd]
    exact k H (Same.refl _)
def spPGet (K : PySem.W.Frag) : Sp := fun vs H Q _ => ∃ (p : Addr) (ds : List RowD) (i : Nat) (d : RowD), vs = [.ref p, .int (i : Int)] ∧ PageAt K H p ds ∧ ds[i]? = some d ∧ ∀ r H', Same H H' → RowAt K H' r d → Q (.ref r) H'
theorem sc_Pg : FnScope ["self", "at"] ["self", "at"] (defScope s_Page_getitem) := ⟨rfl, rfl, rfl, by decide +kernel, rfl, by decide +kernel, by decide +kernel⟩
theorem ok_Pg (T : Txt K mg) : Ok P w K mg base 2 (He.ma K (cP K) "__getitem__") ["self", "at"] (spPGet K) := by
  have GN := (ok_Pn (P := P) (w := w) (base := base) T).met T.c_Page T.h_Page_need_row
  refine ok_mk T.d_Page_getitem sc_Pg (fun vs H Q E h => ?_) (fun fd F => F.bindsN fun _ _ _ _ _ _ us hl => match us, hl with | [_, _], _ => rfl) (fun cdv A outer s H vs Q E hr h => ?_)
  · obtain ⟨p, ds, i, d, rfl, _⟩ := h
    rfl
  · obtain ⟨p, ds, i, d, rfl, hP, hi, k⟩ := h
    refine ⟨_, pss_cons (ps_expr (C8.pe_mt GN hr (by decide) (pv 0) (pa_cons (pv 1) pa_nil))) (pss_one (ps_ret (pe_ix ix_tup (pe_fld (pv 0) rfl) (pv 1) (fun _ _ => rfl)))), ?_⟩
    obtain ⟨dx, t, rs, hp, ht, hd⟩ := id hP
    have hlt := (List.getElem?_eq_some_iff.mp hi).1
    refine ⟨_, rfl, p, dx, _, rfl, hp, oneF_no _ (by decide +kernel), _, rfl, p, ds, i, rfl, hP, hlt, fun H1 s1 => ?_⟩
    have hil : i < rs.length := by rw [paired_len hd]; exact hlt
    have hri : rs[i]? = some rs[i] := List.getElem?_eq_getElem hil
    obtain ⟨d', hd', hrow⟩ := paired_get hd hri
    have e : d' = d := Option.some.inj (hd'.symm.trans hi)
    subst e
    refine ⟨_, rfl, p, cP K, dx, _, _, rfl, s1 _ _ hp, T.c_Page, T.n_Page_rows, oneF_at _ _, _, rfl, t, _, _, .ref rs[i], rfl, rfl, sqT_same s1 ht, atI_nat ?_, ?_⟩
    · unfold ad
      rw [List.getElem?_map, hri] <;> rfl
    · exact k _ _ s1 (hrow.same s1)
/-! ### Page.without, __add__ -/
def spPWo (K : PySem.W.Frag) : Sp := fun vs H Q _ => ∃ (p : Addr) (ds : List RowD) (i : Nat), vs = [.ref p, .int (i : Int)] ∧ PageAt K H p ds ∧ i < ds.length ∧ ds.length ≤ 1000 ∧ ∀ q H', Same H H' → PageAt K H' q (ds.take i ++ ds.drop (i + 1)) → Q (.ref q) H'
theorem sc_Pw : FnScope ["self", "at"] ["self", "at"] (defScope s_Page_without) := ⟨rfl, rfl, rfl, by decide +kernel, rfl, by decide +kernel, by decide +kernel⟩
theorem ok_Pw (T : Txt K mg) : Ok P w K mg base 4 (He.ma K (cP K) "without") ["self", "at"] (spPWo K) := by
  have GN := (ok_Pn (P := P) (w := w) (base := base) T).met T.c_Page T.h_Page_need_row
  have GP := (ok_Pi (P := P) (w := w) (base := base) T).mak T.m_Page T.g_Page
  refine ok_mk T.d_Page_without sc_Pw (fun vs H Q E h => ?_) (fun fd F => F.bindsN fun _ _ _ _ _ _ us hl => match us, hl with | [_, _], _ => rfl) (fun cdv A outer s H vs Q E hr h => ?_)
  · obtain ⟨p, ds, i, rfl, _⟩ := h
    rfl
  · obtain ⟨p, ds, i, rfl, hP, hi, hn, k⟩ := h
    refine ⟨_, pss_cons (ps_expr (C8.pe_mt GN hr (by decide) (pv 0) (pa_cons (pv 1) pa_nil))) (pss_one (ps_ret (C8.pe_mk GP hr (by decide) (by rfl) (pa_cons (pe_op op_catA (pe_slice sl_tupA (pe_fld (pv 0) rfl) po_none (po_some (pv 1))) (pe_slice sl_tupA (pe_fld (pv 0) rfl) (po_some (pe_op op_add (pv 1) pe_int)) po_none)) pa_nil)))), ?_⟩
    obtain ⟨dx, t, rs, hp, ht, hd⟩ := id hP
    have hl := paired_len hd
    refine ⟨_, rfl, p, dx, _, rfl, hp, oneF_no _ (by decide +kernel), _, rfl, p, ds, i, rfl, hP, hi, fun H1 s1 => ?_⟩
    refine ⟨_, rfl, p, cP K, dx, _, _, rfl, s1 _ _ hp, T.c_Page, T.n_Page_rows, oneF_at _ _, _, rfl, _, rfl, ?_⟩
    refine go_cutT (sqT_same s1 ht) fun u H2 s2 hu => ?_
    rw [cut_to, ad_take] at hu
    have s12 := s1.trans s2
    refine ⟨_, rfl, p, cP K, dx, _, _, rfl, s12 _ _ hp, T.c_Page, T.n_Page_rows, oneF_at _ _, _, rfl, _, _, rfl, rfl, _, rfl, ?_⟩
    dsimp only [tNoPart]
    refine go_cutT (sqT_same s12 ht) fun v H3 s3 hv => ?_
    rw [show ((i : Int) + 1) = ((i + 1 : Nat) : Int) from by omega, cut_from, ad_drop] at hv
    have s13 := s12.trans s3
    refine go_catT (sqT_same s3 hu) hv ?_ fun y H4 s4 hy => ?_
    · rw [ad_len, ad_len, List.length_take, List.length_drop]
      have : sizeLine = 16777216 := by decide
      omega
    rw [ad_app] at hy
    have hd4 := paired_map hd fun r d h => h.same (s13.trans s4)
    refine go_P (.inr hy) (paired_append (paired_take i hd4) (paired_drop (i + 1) hd4)) ?_ fun q H5 s5 hq => k q H5 ((s13.trans s4).trans s5) hq
    rw [List.length_append, List.length_take, List.length_drop]
    omega
def spPAdd (K : PySem.W.Frag) : Sp := fun vs H Q _ => ∃ (p q : Addr) (ds es : List RowD), vs = [.ref p, .ref q] ∧ PageAt K H p ds ∧ PageAt K H q es ∧ ds.length + es.length ≤ 1000 ∧ ∀ r H', Same H H' → PageAt K H' r (ds ++ es) → Q (.ref r) H'
theorem sc_Pa : FnScope ["self", "other"] ["self", "other"] (defScope s_Page_add) := ⟨rfl, rfl, rfl, by decide +kernel, rfl, by decide +kernel, by decide +kernel⟩
theorem ok_Pa (T : Txt K mg) : Ok P w K mg base 4 (He.ma K (cP K) "__add__") ["self", "other"] (spPAdd K) := by
  have GP := (ok_Pi (P := P) (w := w) (base := base) T).mak T.m_Page T.g_Page
  refine ok_mk T.d_Page_add sc_Pa (fun vs H Q E h => ?_) (fun fd F => F.bindsN fun _ _ _ _ _ _ us hl => match us, hl with | [_, _], _ => rfl) (fun cdv A outer s H vs Q E hr h => ?_)
  · obtain ⟨p, q, ds, es, rfl, _⟩ := h
    rfl
  · obtain ⟨p, q, ds, es, rfl, ⟨dx, t, rs, hp, ht, hd⟩, ⟨dy, u, qs, hq, hu, he⟩, hn, k⟩ := h
    refine ⟨_, pss_cons (ps_if (pt_not (pt_val (pe_callB call_isi (by rfl) T.f_isinstance boot_isinstance (pa_cons (pv 1) (pa_cons (pe_glob (v := .ref (cP K)) (by rfl) T.g_Page rfl) pa_nil))))) pss_never pss_nil)
      (pss_one (ps_ret (C8.pe_mk GP hr (by decide) (by rfl) (pa_cons (pe_op op_catA (pe_fld (pv 0) rfl) (pe_fld (pv 1) rfl)) pa_nil)))), ?_⟩
    have l1 := paired_len hd
    have l2 := paired_len he
    refine ⟨_, rfl, _, _, _, _, true, rfl, .own _, ty_ins hq T.c_Page T.i_Page, T.i_Page.kit, true, rfl, iteF ?_⟩
    refine ⟨_, rfl, p, cP K, dx, _, _, rfl, hp, T.c_Page, T.n_Page_rows, oneF_at _ _, _, rfl, q, cP K, dy, _, _, rfl, hq, T.c_Page, T.n_Page_rows, oneF_at _ _, ?_⟩
    refine go_catT ht hu (by rw [ad_len, ad_len]; have : sizeLine = 16777216 := by decide
                             omega) fun v H1 s1 hv => ?_
    rw [ad_app] at hv
    refine go_P (.inr hv) (paired_append (paired_map hd fun r d h => h.same s1) (paired_map he fun r d h => h.same s1)) (by rw [List.length_append]; omega) fun r H2 s2 hr2 => k r H2 (s1.trans s2) hr2
/-! ### Page.__str__, __eq__ -/
def spPStr (K : PySem.W.Frag) : Sp := fun vs H Q _ => ∃ (p : Addr) (ds : List RowD), vs = [.ref p] ∧ PageAt K H p ds ∧ (∀ d ∈ ds, RowOk d) ∧ ds.length ≤ 1000 ∧ ∀ H', Same H H' → Q (.str (pageText ds)) H'
theorem sc_Ps : FnScope ["self", "row"] ["self"] (defScope s_Page_str) := ⟨rfl, rfl, rfl, by decide +kernel, rfl, by decide +kernel, by decide +kernel⟩
theorem ok_Ps (T : Txt K mg) : Ok P w K mg base 4 (He.ma K (cP K) "__str__") ["self"] (spPStr K) := by
  have GS := (ok_Rs (P := P) (w := w) (base := base) T).raw
  refine ok_mk T.d_Page_str sc_Ps (fun vs H Q E h => ?_) (fun fd F => F.bindsN fun _ _ _ _ _ _ us hl => match us, hl with | [_], _ => rfl) (fun cdv A outer s H vs Q E hr h => ?_)
  · obtain ⟨p, ds, rfl, _⟩ := h
    rfl
  · obtain ⟨p, ds, rfl, ⟨dx, t, rs, hp, ht, hd⟩, ok, hn, k⟩ := h
    refine ⟨_, pss_one (ps_ret (pe_joinN pe_str (pe_lc (own := [("row", 1)]) (g := gName 1) (tt := tYes) rfl sc_Ps.nd (pi_tup (pe_fld (pv 0) rfl)) (blkOk_by (N := ["self", "row"]) (sc := defScope s_Page_str) (by decide +kernel))
      (fun _ _ _ _ _ => pg_name (i := 1) sc_Ps.nd rfl (Or.inl rfl)) (fun _ _ _ _ _ => pts_nil) (fun _ _ _ _ _ => pe_callTy (call_strO (E := E0) T.o_Row_str.at_ T.o_Row_str.fn GS hr L2.pass0) (by rfl) T.f_str boot_str (pa_cons (pv 1) pa_nil))))), ?_⟩
    have hz : sizeLine = 16777216 := by decide
    have hl := paired_len hd
    refine ⟨⟨_, rfl⟩, _, rfl, p, cP K, dx, _, _, rfl, hp, T.c_Page, T.n_Page_rows, oneF_at _ _, t, rfl, ⟨_, ht⟩, fun D hD => ?_⟩
    refine lc_tup (K := K) (a := t) (xs := ad rs) (fun i H' => Same H H' ∧ H' D = some (.lst (tx ((ds.take i).map rowText)))) ⟨same_new hD, upd_same⟩ (fun i H' _ q => sqT_same q.1 ht) ?_ ?_
    · rintro i y H' hy ⟨s1, h1⟩
      obtain ⟨r, hri, rfl⟩ := ad_get hy
      obtain ⟨d, hdi, hrow⟩ := paired_get hd hri
      have hilt := (List.getElem?_eq_some_iff.mp hdi).1
      refine ⟨rfl, lc_yes ?_⟩
      obtain ⟨dz, t1, t2, hr0, _⟩ := id hrow
      refine ⟨_, rfl, r, dz, _, rfl, s1 _ _ hr0, r, d, rfl, hrow.same s1, ok d (List.mem_of_getElem? hdi), fun H2 s2 => ⟨_, rfl, _, s2 _ _ h1, ?_, same_chg (s1.trans s2) hD, ?_⟩⟩
      · rw [tx_len, List.length_map, List.length_take]
        omega
      · rw [upd_same, take_snoc hdi, List.map_append, ← tx_app] <;> rfl
    · rintro H' ⟨s1, h1⟩
      rw [ad_len, hl, List.take_length] at h1
      refine ⟨_, D, ds.map rowText, rfl, rfl, .inl (SqL.of h1), ?_, k H' s1⟩
      have := sum_len 112 (ds.map rowText) fun x hx => by
        obtain ⟨d, hdm, rfl⟩ := List.mem_map.mp hx
        exact (rowText_len (ok d hdm)).2
      have hnl : ("\n" : Str).length = 1 := by decide +kernel
      rw [hnl]
      rw [List.length_map] at this ⊢
      omega
def spPEq (K : PySem.W.Frag) : Sp := fun vs H Q _ => ∃ (p q : Addr) (ds : List RowD), vs = [.ref p, .ref q] ∧ PageAt K H p ds ∧ PageAt K H q ds ∧ (∀ d ∈ ds, RowOk d) ∧ ds.length ≤ 1000 ∧ ∀ H', Same H H' → Q (.bl true) H'
theorem sc_Pe : FnScope ["self", "other"] ["self", "other"] (defScope s_Page_eq) := ⟨rfl, rfl, rfl, by decide +kernel, rfl, by decide +kernel, by decide +kernel⟩
theorem ok_Pe (T : Txt K mg) : Ok P w K mg base 7 (He.ma K (cP K) "__eq__") ["self", "other"] (spPEq K) := by
  have GS := (ok_Ps (P := P) (w := w) (base := base) T).raw
  refine ok_mk T.d_Page_eq sc_Pe (fun vs H Q E h => ?_) (fun fd F => F.bindsN fun _ _ _ _ _ _ us hl => match us, hl with | [_, _], _ => rfl) (fun cdv A outer s H vs Q E hr h => ?_)
  · obtain ⟨p, q, ds, rfl, _⟩ := h
    rfl
  · obtain ⟨p, q, ds, rfl, hp, hq, ok, hn, k⟩ := h
    refine ⟨_, pss_one (ps_ret (pe_and (pe_callB call_isi (by rfl) T.f_isinstance boot_isinstance (pa_cons (pv 1) (pa_cons (pe_glob (v := .ref (cP K)) (by rfl) T.g_Page rfl) pa_nil)))
      (pe_one (pe_cmpR op_eq (pe_callTy (call_strO (E := E0) T.o_Page_str.at_ T.o_Page_str.fn GS hr L2.pass0) (by rfl) T.f_str boot_str (pa_cons (pv 0) pa_nil)) (pe_callTy (call_strO (E := E0) T.o_Page_str.at_ T.o_Page_str.fn GS hr L2.pass0) (by rfl) T.f_str boot_str (pa_cons (pv 1) pa_nil)) (nomark _))))), ?_⟩
    obtain ⟨dx, t1, t2, hp0, _⟩ := id hp
    obtain ⟨dy, u1, u2, hq0, _⟩ := id hq
    refine ⟨_, rfl, _, _, _, _, true, rfl, .own _, ty_ins hq0 T.c_Page T.i_Page, T.i_Page.kit, true, rfl, iteT ?_⟩
    refine ⟨_, rfl, p, dx, _, rfl, hp0, p, ds, rfl, hp, ok, hn, fun H1 s1 => ⟨_, rfl, ?_⟩⟩
    refine ⟨_, rfl, q, dy, _, rfl, s1 _ _ hq0, q, ds, rfl, hq.same s1, ok, hn, fun H2 s2 => ⟨_, rfl, rfl, ?_⟩⟩
    rw [dstrT rfl]
    exact k H2 (s1.trans s2)
end
end Hk

set_option Elab.async false
set_option linter.all false
set_option maxRecDepth 100000
set_option maxHeartbeats 4000000
namespace Hk
open PySem PySem.Spec PyProof.Rows L2
section
variable {P : Program} {w : World} {K : PySem.W.Frag} {mg : Str → Option Value} {base : Heap}
/-! ### Page.read -/
def spPRead (K : PySem.W.Frag) : Sp := fun vs H Q _ => ∃ (c : Addr) (ds : List RowD), vs = [.ref c, .str (pageText ds)] ∧ (∀ d ∈ ds, RowOk d) ∧ ds.length ≤ 1000 ∧ ∀ q H', Same H H' → PageAt K H' q ds → Q (.ref q) H'
theorem sc_Pr : FnScope ["cls", "text", "rows", "at", "line", "row", "e"] ["cls", "text"] (defScope s_Page_read) := ⟨rfl, rfl, rfl, by decide +kernel, rfl, by decide +kernel, by decide +kernel⟩
theorem ok_Pr (T : Txt K mg) : Ok P w K mg base 6 (He5.wf K (cP K) "classmethod" "read") ["cls", "text"] (spPRead K) := by
  have GP := (ok_Pi (P := P) (w := w) (base := base) T).mak T.m_Page T.g_Page
  have GR := (ok_Rr (P := P) (w := w) (base := base) T).raw
  refine ok_mk T.d_Page_read sc_Pr (fun vs H Q E h => ?_) (fun fd F => F.bindsN fun _ _ _ _ _ _ us hl => match us, hl with | [_, _], _ => rfl) (fun cdv A outer s H vs Q E hr h => ?_)
  · obtain ⟨c, ds, rfl, _⟩ := h
    rfl
  · obtain ⟨c, ds, rfl, ok, hn, k⟩ := h
    refine ⟨_, pss_cons (ps_set (i := 2) sc_Pr.nd rfl (Or.inl rfl) (pe_lst pa_nil))
      (pss_cons (ps_for PassesOwn.never rfl (pi_enum (by rfl) T.f_enumerate (pa_cons (pe_ifExp (pt_cmpR op_ne (pv 1) pe_str (nomark _)) (pe_splitN (pv 1) pe_str) (pe_lst pa_nil)) pa_nil)) (pg_tup rfl (pgs_cons (pg_name (i := 3) sc_Pr.nd rfl (.inl rfl)) (pgs_cons (pg_name (i := 4) sc_Pr.nd rfl (.inl rfl)) pgs_nil)))
        (pss_cons (ps_try_as (i := 6) (tb := fun W => tAsg (ClX.tCMeth (cR K) (spRRead K) C8.E0 (tC (.ref (cR K))) (tCons (tVar 4) tNil)) (gName 5)) (ts := fun _ _ _ => tNever) (Wout := fun _ _ _ _ => False) rfl rfl sc_Pr.nd rfl rfl
          ⟨rfl, by decide, .inl T.g_InvalidText⟩ takes0
          (fun W pn xe tk _ => pss_one (ps_set (i := 5) sc_Pr.nd rfl (Or.inl rfl) (ClX.pe_cmeth (pe_glob (v := .ref (cR K)) (by rfl) T.g_Row rfl) T.r_Row.rd T.r_Row.me GR hr L2.pass0 (pa_cons (pv 4) pa_nil))))
          (fun a oe cls d pn hz hf => pss_never))
        (pss_one (ps_expr (pe_bm PySem.F.plainAttrs_list PySem.F.slot_list_append PySem.F.type_list_append mt_append (pv 2) (pa_cons (pv 5) pa_nil))))))
      (pss_one (ps_ret (C8.pe_mk GP hr (by decide) (by rfl) (pa_cons (pv 2) pa_nil))))), ?_⟩
    have hz : sizeLine = 16777216 := by decide
    have hlen : (pageText ds).length + 2 ≤ sizeLine := by
      have h1 := pageText_len ok
      omega
    refine ⟨Nat.zero_le _, fun l hl0 => ?_⟩
    have hl1 : upd H l (.lst []) l = some (.lst ([] : List V)) := upd_same
    refine go_split (xs := ds.map rowText) rfl rfl (fun e => ?_) (fun e => ?_) (by decide +kernel) hlen fun a H1 s1 ha => ?_
    · by_cases hd : ds = []
      · rw [hd] <;> rfl
      · exact absurd e (pageText_ne hd ok)
    · by_cases hd : ds = []
      · rw [hd] at e
        exact absurd rfl e
      · exact split_nl hd ok
    have hal : ∀ (i : Nat) (d : RowD), ds[i]? = some d → a ≠ l := by
      intro i d hi e
      have q := s1 _ _ hl1
      rw [← e, ha] at q
      injection q with q
      injection q with q
      have q := congrArg List.length q
      rw [tx_len, List.length_map] at q
      have := (List.getElem?_eq_some_iff.mp hi).1
      simp at q
      subst q
      simp at this
    refine ⟨a, tx (ds.map rowText), rfl, SqL.of ha, for_enumL (fun i σ H2 => ∃ rs u v x y, σ = [some (.ref c), some (.str (pageText ds)), some (.ref l), u, v, x, y] ∧ Same H H2 ∧ H2 l = some (.lst (ad rs)) ∧ H2 a = some (.lst (tx (ds.map rowText))) ∧ Paired (RowAt K H2) rs (ds.take i))
      ⟨[], _, _, _, _, rfl, (same_new hl0).trans s1, s1 _ _ hl1, ha, .nil⟩ (fun i σ H2 _ ⟨_, _, _, _, _, _, _, _, h, _⟩ => SqL.of h) ?_ ?_⟩
    · rintro i y T' σ H2 hi ⟨rs, u, v, x, e, rfl, s2, h1, h2, hp⟩ hT
      obtain ⟨t, hti, rfl⟩ := tx_get hi
      rw [List.getElem?_map] at hti
      cases hdi : ds[i]? with
      | none => rw [hdi] at hti; cases hti
      | some d =>
        rw [hdi] at hti
        obtain rfl : rowText d = t := Option.some.inj hti
        have hilt := (List.getElem?_eq_some_iff.mp hdi).1
        refine ⟨T', _, rfl, SqT.of upd_same, rfl, _, _, rfl, _, _, rfl, rfl, ?_⟩
        refine ⟨rfl, _, rfl, _, d, rfl, ok d (List.mem_of_getElem? hdi), fun r H3 s3 hr3 => ?_⟩
        have s23 := (same_new (o := .tup [.int ((i : Nat) : Int), .str (rowText d)]) hT).trans s3
        have h1' := s23 _ _ h1
        refine ⟨_, rfl, .inl ⟨rfl, _, SqL.of h1'⟩, _, rfl, l, ad rs, _, rfl, rfl, h1', ?_, ?_⟩
        · rw [ad_len, paired_len hp, List.length_take]
          omega
        · refine ⟨rs ++ [r], _, _, _, _, rfl, ?_, ?_, ?_, ?_⟩
          · exact same_chg (s2.trans s23) hl0
          · rw [upd_same, ← ad_app] <;> rfl
          · rw [upd_ne (hal i d hdi)]
            exact s23 _ _ h2
          · rw [take_snoc hdi]
            exact paired_append (paired_map hp fun r' d' q => row_updL h1' (q.same s23)) (.cons (row_updL h1' hr3) .nil)
    · rintro σ H2 ⟨rs, u, v, x, e, rfl, s2, h1, h2, hp⟩
      rw [tx_len, List.length_map, List.take_length] at hp
      refine ⟨_, rfl, ?_⟩
      refine go_P (.inl (SqL.of h1)) hp (by rw [paired_len hp]; exact hn) fun q H3 s3 hq => k q H3 (s2.trans s3) hq
end
end Hk

set_option Elab.async false
set_option linter.all false
set_option maxRecDepth 100000
set_option maxHeartbeats 4000000
namespace Hk
open PySem PySem.Spec PyProof.Rows L2
/-! ### the source of draws -/
def ins (cs : List Int) : List V := cs.map V.int
theorem ins_len (cs : List Int) : (ins cs).length = cs.length := List.length_map ..
/-- what is no part of the deal stands -/
def Mv (d c : Addr) (H H' : Hp) : Prop := ∀ a o, H a = some o → a ≠ d → a ≠ c → H' a = some o
theorem Mv.refl (d c : Addr) (H : Hp) : Mv d c H H := fun _ _ h _ _ => h
theorem Mv.trans {d c : Addr} {H H' H'' : Hp} (h : Mv d c H H') (k : Mv d c H' H'') : Mv d c H H'' := fun a o e n m => k a o (h a o e n m) n m
theorem Mv.of {d c : Addr} {H H' : Hp} (h : Same H H') : Mv d c H H' := fun a o e _ _ => h a o e
/-- the deal -/
def Dl (H : Hp) (d c : Addr) : Prop := ∃ (b : Int) (cs : List Int), H d = some (.lst [.ref c, .int b]) ∧ H c = some (.lst (ins cs)) ∧ d ≠ c ∧ cs.length ≤ 63
theorem Dl.same {H H' : Hp} {d c : Addr} (h : Dl H d c) (e : Same H H') : Dl H' d c := by
  obtain ⟨b, cs, h1, h2, h3⟩ := h
  exact ⟨b, cs, e _ _ h1, e _ _ h2, h3⟩
theorem Dl.ne {H : Hp} {d c p : Addr} (h : Dl H d c) (hp : H p = none) : p ≠ d ∧ p ≠ c := by
  obtain ⟨b, cs, h1, h2, _⟩ := h
  exact ⟨(ne_of_none h1 hp).symm, (ne_of_none h2 hp).symm⟩
theorem Dl.upd {H : Hp} {d c p : Addr} {o : HO} (h : Dl H d c) (h1 : p ≠ d) (h2 : p ≠ c) : Dl (upd H p o) d c := by
  obtain ⟨b, cs, a1, a2, a3⟩ := h
  exact ⟨b, cs, by rw [upd_ne h1.symm]; exact a1, by rw [upd_ne h2.symm]; exact a2, a3⟩
theorem dp_ins {K : PySem.W.Frag} {H : Hp} : ∀ cs : List Int, DpAll K H (ins cs) (cs.map PyData.int)
  | [] => .nil
  | _ :: cs => .cons (.int _) (dp_ins cs)
theorem lay_ins : ∀ cs : List Int, PyData.canLayAll0 (cs.map PyData.int) = true
  | [] => rfl
  | _ :: cs => by
    show (true && PyData.canLayAll0 (cs.map PyData.int)) = true
    rw [lay_ins cs] <;> rfl
theorem dep_ins : ∀ cs : List Int, PyData.depthAll (cs.map PyData.int) = 0
  | [] => rfl
  | _ :: cs => by
    show max 0 (PyData.depthAll (cs.map PyData.int)) = 0
    rw [dep_ins cs] <;> rfl
theorem shp_ins (cs : List Int) : SeqAt.shaped (.list (cs.map PyData.int)) = true := by
  show (PyData.canLayAll0 (cs.map PyData.int) && decide (PyData.depthAll (cs.map PyData.int) + 1 ≤ 64)) = true
  rw [lay_ins, dep_ins] <;> rfl
theorem go_neD {K : PySem.W.Frag} {H : Hp} {c p : Addr} {cs : List Int} {Q : VK} (hc : H c = some (.lst (ins cs))) (hp : H p = some (.lst [])) (h : Q (.bl (!cs.isEmpty)) H) : rNeD K (.ref c) (.ref p) H Q := by
  refine ⟨_, _, Dp.lst (SqL.of hc) (dp_ins cs), Dp.lst (SqL.of hp) .nil, shp_ins cs, rfl, ?_⟩
  cases cs with
  | nil => exact h
  | cons x r => exact h
theorem room64 {k : Nat} {A : Around} (hr : Room k A) : A.units + 64 < cLine := by
  have := hr.un
  omega
theorem pop_last {α : Type} (xs : List α) (y : α) : (xs ++ [y])[(xs ++ [y]).length - 1]? = some y := by simp
theorem drop_last {α : Type} (xs : List α) (y : α) : (xs ++ [y]).dropLast = xs := by simp
theorem ins_app (xs ys : List Int) : ins (xs ++ ys) = ins xs ++ ins ys := by
  unfold ins
  rw [List.map_append]
theorem go_d0 {K : PySem.W.Frag} {σ : L2.St} {H : Hp} {d c : Addr} {b : Int} {Q : VK} (hσ : σ[0]? = some (some (.ref d))) (hd : H d = some (.lst [.ref c, .int b])) (h : Q (.ref c) H) : tOp (rIxL K) (tVar 0) (tC (.int 0)) σ H Q :=
  ⟨_, hσ, d, _, 0, _, rfl, rfl, SqL.of hd, atI_nat (j := 0) rfl, h⟩
theorem go_d1 {K : PySem.W.Frag} {σ : L2.St} {H : Hp} {d c : Addr} {b : Int} {Q : VK} (hσ : σ[0]? = some (some (.ref d))) (hd : H d = some (.lst [.ref c, .int b])) (h : Q (.int b) H) : tOp (rIxL K) (tVar 0) (tC (.int 1)) σ H Q :=
  ⟨_, hσ, d, _, 1, _, rfl, rfl, SqL.of hd, atI_nat (j := 1) rfl, h⟩
section
variable {P : Program} {w : World} {K : PySem.W.Frag} {mg : Str → Option Value} {base : Heap}
def spDraw : Sp := fun vs H Q _ => ∃ (d c : Addr) (n : Int), vs = [.ref d, .int n] ∧ Dl H d c ∧ 0 < n ∧ n < 1073741824 ∧ ∀ (k : Nat) H', (k : Int) < n → Mv d c H H' → Dl H' d c → Q (.int (k : Int)) H'
theorem sc_dr : FnScope ["_law_deal_here", "_law_amount", "_law_left"] ["_law_deal_here", "_law_amount"] (defScope s__law_draw) := ⟨rfl, rfl, rfl, by decide +kernel, rfl, by decide +kernel, by decide +kernel⟩
theorem ok_dr (T : Txt K mg) : Ok P w K mg base 1 (He.ga K "_law_draw") ["_law_deal_here", "_law_amount"] spDraw := by
  refine ok_mk T.d__law_draw sc_dr (fun vs H Q E h => ?_) (fun fd F => F.bindsN fun _ _ _ _ _ _ us hl => match us, hl with | [_, _], _ => rfl) (fun cdv A outer s H vs Q E hr h => ?_)
  · obtain ⟨d, c, n, rfl, _⟩ := h
    rfl
  · obtain ⟨d, c, n, rfl, hD, hn, hn2, k⟩ := h
    have hu := room64 hr
    refine ⟨_, C8.pss_cut (ps_while PassesOwn.never
        (PW.pt (pw_and (pt_cmpR (op_neD hu) (pe_ix ix_list (pv 0) pe_int (fun _ _ => rfl)) (pe_lst pa_nil) (nomark _)) (pw_and1 (pt_cmpR op_eq (pe_ix ix_list (pe_ix ix_list (pv 0) pe_int (fun _ _ => rfl)) (pe_un un_neg pe_int) (fun _ _ => rfl)) pe_int (nomark _)))))
        (pss_one (ps_expr (pe_bm0 PySem.F.plainAttrs_list PySem.F.slot_list_pop PySem.F.type_list_pop mt_pop (pe_ix ix_list (pv 0) pe_int (fun _ _ => rfl))))))
      (pss_cons (ps_if (pt_cmpR (op_neD hu) (pe_ix ix_list (pv 0) pe_int (fun _ _ => rfl)) (pe_lst pa_nil) (nomark _))
        (pss_cons (ps_set (i := 2) sc_dr.nd rfl (Or.inl rfl) (pe_bm0 PySem.F.plainAttrs_list PySem.F.slot_list_pop PySem.F.type_list_pop mt_pop (pe_ix ix_list (pv 0) pe_int (fun _ _ => rfl))))
        (pss_cons (ps_expr (pe_bm PySem.F.plainAttrs_list PySem.F.slot_list_append PySem.F.type_list_append mt_append (pe_ix ix_list (pv 0) pe_int (fun _ _ => rfl)) (pa_cons (pe_op op_fdivN (pv 2) (pv 1)) pa_nil)))
        (pss_one (ps_ret (pe_op op_mod (pe_callTy call_int1 (by rfl) T.f_int boot_int (pa_cons (pv 2) pa_nil)) (pv 1)))))) pss_nil)
      (pss_cons (ps_asg (pe_op op_modN (pe_callTy call_int1 (by rfl) T.f_int boot_int (pa_cons (pe_op op_add (pe_op op_mul (pe_ix ix_list (pv 0) pe_int (fun _ _ => rfl)) pe_int) pe_int) pa_nil)) pe_int) (pg_sub (pv 0) pe_int set_list))
      (pss_one (ps_ret (pe_op op_mod (pe_callTy call_int1 (by rfl) T.f_int boot_int (pa_cons (pe_op op_fdivN (pe_ix ix_list (pv 0) pe_int (fun _ _ => rfl)) pe_int) pa_nil)) (pv 1)))))), ?_⟩
    obtain ⟨b0, cs0, hd0, hc0, dc, hl0⟩ := hD
    refine ⟨fun σ' H1 => σ' = L2.start ["_law_deal_here", "_law_amount", "_law_left"] [.ref d, .int n] ∧ Mv d c H H1 ∧ ∃ (b : Int) (cs : List Int), H1 d = some (.lst [.ref c, .int b]) ∧ H1 c = some (.lst (ins cs)) ∧ cs.length ≤ 63, ?_, ?_⟩
    · refine ⟨fun m σ H1 => σ = L2.start ["_law_deal_here", "_law_amount", "_law_left"] [.ref d, .int n] ∧ Mv d c H H1 ∧ ∃ (b : Int) (cs : List Int), H1 d = some (.lst [.ref c, .int b]) ∧ H1 c = some (.lst (ins cs)) ∧ cs.length ≤ 63 ∧ m = cs.length, ⟨_, rfl, Mv.refl _ _ _, b0, cs0, hd0, hc0, hl0, rfl⟩, ?_⟩
      rintro m σ H1 ⟨rfl, mv, b, cs, hd, hc, hl, rfl⟩
      refine go_d0 rfl hd ⟨Nat.zero_le _, fun p hp => ?_⟩
      have nd := ne_of_none hd hp
      have nc := ne_of_none hc hp
      have hd1 : upd H1 p (.lst ([] : List V)) d = some (.lst [.ref c, .int b]) := by rw [upd_ne nd]; exact hd
      have hc1 : upd H1 p (.lst ([] : List V)) c = some (.lst (ins cs)) := by rw [upd_ne nc]; exact hc
      have mv1 : Mv d c H (upd H1 p (.lst ([] : List V))) := mv.trans (Mv.of (same_new hp))
      refine go_neD hc1 upd_same ⟨_, rfl, ?_⟩
      rcases List.eq_nil_or_concat cs with rfl | ⟨ys, x, rfl⟩
      · exact iteF (iteF ⟨rfl, mv1, b, [], hd1, hc1, hl⟩)
      · rw [List.concat_eq_append] at hc1 hl ⊢
        have hl2 : ys.length + 1 ≤ 63 := by
          rw [List.length_append] at hl
          exact hl
        rw [ins_app] at hc1
        rw [show (!(ys ++ [x]).isEmpty) = true from by simp]
        refine iteT ?_
        refine go_d0 rfl hd1 ⟨1, rfl, c, _, -1, .int x, rfl, rfl, SqL.of hc1, atI_last _ _, rfl, _, rfl, ?_⟩
        by_cases hx : x = 0
        · rw [decide_eq_true (by rw [hx])]
          refine iteT ⟨fun σ' H' => σ' = L2.start ["_law_deal_here", "_law_amount", "_law_left"] [.ref d, .int n] ∧ Mv d c H H' ∧ ∃ (b : Int), H' d = some (.lst [.ref c, .int b]) ∧ H' c = some (.lst (ins ys)), ?_, ?_⟩
          · rintro σ' H' ⟨rfl, mv', b', h1, h2⟩
            exact ⟨ys.length, by rw [List.length_append]; exact Nat.lt_succ_self _, rfl, mv', b', ys, h1, h2, by omega, rfl⟩
          · refine go_d0 rfl hd1 ⟨.inl ⟨rfl, _, SqL.of hc1⟩, c, _, .int x, rfl, rfl, hc1, pop_last _ _, ?_⟩
            refine ⟨rfl, ?_, b, ?_, ?_⟩
            · exact fun a o e n1 n2 => by rw [upd_ne n2]; exact mv1 a o e n1 n2
            · rw [upd_ne dc]; exact hd1
            · rw [upd_same, show ins [x] = [.int x] from rfl, drop_last]
        · rw [decide_eq_false (by intro q; exact hx (V.int.inj q))]
          exact iteF ⟨rfl, mv1, b, ys ++ [x], hd1, by rw [ins_app]; exact hc1, by rw [List.length_append]; exact hl2⟩
    rintro σ' H1 ⟨rfl, mv, b, cs, hd, hc, hl⟩
    refine go_d0 rfl hd ⟨Nat.zero_le _, fun p hp => ?_⟩
    have nd := ne_of_none hd hp
    have nc := ne_of_none hc hp
    have hd1 : upd H1 p (.lst ([] : List V)) d = some (.lst [.ref c, .int b]) := by rw [upd_ne nd]; exact hd
    have hc1 : upd H1 p (.lst ([] : List V)) c = some (.lst (ins cs)) := by rw [upd_ne nc]; exact hc
    have mv1 : Mv d c H (upd H1 p (.lst ([] : List V))) := mv.trans (Mv.of (same_new hp))
    refine go_neD hc1 upd_same ⟨_, rfl, ?_⟩
    have nn : n ≠ 0 ∧ n.natAbs < 1073741824 := by omega
    have kk : ∀ (z : Int) H', Mv d c H H' → Dl H' d c → Q (.int (z % n)) H' := fun z H' m1 m2 => by
      have e1 := Int.emod_nonneg z nn.1
      have e2 := Int.emod_lt_of_pos z hn
      rw [show z % n = ((z % n).toNat : Int) from by omega]
      exact k _ _ (by omega) m1 m2
    rcases List.eq_nil_or_concat cs with rfl | ⟨ys, x, rfl⟩
    · refine iteF ?_
      refine go_d1 rfl hd1 ?_
      refine ⟨_, _, rfl, rfl, .inr ⟨by decide, by decide⟩, _, _, rfl, rfl, .inl ⟨_, rfl, _, _, rfl, rfl, (by show (2147483647 : Int) ≠ 0; decide), ?_⟩⟩
      refine ⟨_, rfl, d, _, _, 1, rfl, rfl, hd1, rfl, ?_⟩
      have hd2 : upd (upd H1 p (.lst ([] : List V))) d (.lst ([.ref c, .int b].set 1 (.int ((b * 48271 + 11).fmod 2147483647)))) d = some (.lst [.ref c, .int ((b * 48271 + 11).fmod 2147483647)]) := by
        rw [upd_same] <;> rfl
      refine go_d1 rfl hd2 ?_
      refine ⟨_, _, rfl, rfl, ⟨by decide, by decide⟩, .inl ⟨_, rfl, _, rfl, _, _, rfl, rfl, hn, ?_⟩⟩
      refine kk _ _ ?_ ⟨_, [], hd2, ?_, dc, by decide⟩
      · exact fun a o e n1 n2 => by rw [upd_ne n1]; exact mv1 a o e n1 n2
      · rw [upd_ne dc.symm]; exact hc1
    · rw [List.concat_eq_append] at hc1 hl ⊢
      have hl2 : ys.length + 1 ≤ 63 := by
        rw [List.length_append] at hl
        exact hl
      rw [ins_app] at hc1
      rw [show (!(ys ++ [x]).isEmpty) = true from by simp]
      refine iteT ?_
      refine go_d0 rfl hd1 ⟨.inl ⟨rfl, _, SqL.of hc1⟩, c, _, .int x, rfl, rfl, hc1, pop_last _ _, ?_⟩
      rw [show ins [x] = [.int x] from rfl, drop_last]
      have hd2 : upd (upd H1 p (.lst ([] : List V))) c (.lst (ins ys)) d = some (.lst [.ref c, .int b]) := by rw [upd_ne dc]; exact hd1
      have hc2 : upd (upd H1 p (.lst ([] : List V))) c (.lst (ins ys)) c = some (.lst (ins ys)) := upd_same
      refine go_d0 rfl hd2 ⟨.inl ⟨rfl, _, SqL.of hc2⟩, _, rfl, _, rfl, _, _, rfl, rfl, nn, c, _, _, rfl, rfl, hc2, ?_, ?_⟩
      · rw [ins_len]
        exact Nat.lt_of_lt_of_le (show ys.length < 63 by omega) (by decide)
      refine ⟨_, rfl, .inl ⟨_, rfl, _, rfl, _, _, rfl, rfl, hn, ?_⟩⟩
      refine kk x _ ?_ ⟨b, ys ++ [x.fdiv n], ?_, ?_, dc, by rw [List.length_append]; exact hl2⟩
      · exact fun a o e n1 n2 => by rw [upd_ne n2, upd_ne n2]; exact mv1 a o e n1 n2
      · rw [upd_ne dc]; exact hd2
      · rw [upd_same, ins_app] <;> rfl
end
end Hk

set_option Elab.async false
set_option linter.all false
set_option maxRecDepth 100000
set_option maxHeartbeats 4000000
namespace Hk
open PySem PySem.Spec PyProof.Rows L2
theorem ins_get {cs : List Int} {i : Nat} {x : V} (h : (ins cs)[i]? = some x) : ∃ n, cs[i]? = some n ∧ x = .int n := by
  unfold ins at h
  rw [List.getElem?_map] at h
  cases q : cs[i]? with
  | none => rw [q] at h; cases h
  | some e => rw [q] at h; exact ⟨e, rfl, (Option.some.inj h).symm⟩
theorem ins_rev (cs : List Int) : (ins cs).reverse = ins cs.reverse := by
  unfold ins
  rw [List.map_reverse]
theorem ifB {F : Bool → Hp → Prop} {b : Bool} {H : Hp} (h : ∀ b, F b H) : F b H := h b
def abz (i : Int) : Int := if i < 0 then -i else i
section
variable {P : Program} {w : World} {K : PySem.W.Frag} {mg : Str → Option Value} {base : Heap}
def spDeal (K : PySem.W.Frag) : Sp := fun vs H Q _ => ∃ (a : Addr) (ns : List Int), vs = [.ref a, .int 0] ∧ SqL K H a (ins ns) ∧ ns.length ≤ 63 ∧ ∀ d c H', Same H H' → Dl H' d c → Q (.ref d) H'
theorem sc_de : FnScope ["_law_script", "_law_base", "_law_cells", "_law_blend", "_law_cell"] ["_law_script", "_law_base"] (defScope s__law_deal) := ⟨rfl, rfl, rfl, by decide +kernel, rfl, by decide +kernel, by decide +kernel⟩
theorem ok_de (T : Txt K mg) : Ok P w K mg base 1 (He.ga K "_law_deal") ["_law_script", "_law_base"] (spDeal K) := by
  refine ok_mk T.d__law_deal sc_de (fun vs H Q E h => ?_) (fun fd F => F.bindsN fun _ _ _ _ _ _ us hl => match us, hl with | [_, _], _ => rfl) (fun cdv A outer s H vs Q E hr h => ?_)
  · obtain ⟨a, ns, rfl, _⟩ := h
    rfl
  · obtain ⟨a, ns, rfl, ha, hn, k⟩ := h
    refine ⟨_, pss_cons (ps_setLc (i := 2) (own := [("_law_cell", 4)]) (g := gName 4) (tt := tYes) rfl sc_de.nd rfl rfl (sw_true rfl rfl rfl (by decide +kernel)) (pi_list (pe_slice sl_list (pv 0) (po_some (pv 1)) (po_some pe_int)))
        (blkOk_by (N := ["_law_script", "_law_base", "_law_cells", "_law_blend", "_law_cell"]) (sc := defScope s__law_deal) (by decide +kernel)) (fun _ _ _ _ _ => pg_name (i := 4) sc_de.nd rfl (Or.inl rfl)) (fun _ _ _ _ _ => pts_nil)
        (fun _ _ _ _ _ => pe_callB call_abs (by rfl) T.f_abs boot_abs (pa_cons (pv 4) pa_nil)))
      (pss_cons (ps_set (i := 3) sc_de.nd rfl (Or.inl rfl) (pe_op op_add pe_int (pe_op op_mul pe_int (pv 1))))
      (pss_cons (ps_for PassesOwn.never rfl (pi_list (pv 2)) (pg_name (i := 4) sc_de.nd rfl (Or.inl rfl))
        (pss_one (ps_set (i := 3) sc_de.nd rfl (Or.inl rfl) (pe_op op_modN (pe_callTy call_int1 (by rfl) T.f_int boot_int (pa_cons (pe_op op_add (pe_op op_mul (pv 3) pe_int) (pe_op op_modN (pe_callTy call_int1 (by rfl) T.f_int boot_int (pa_cons (pv 4) pa_nil)) pe_int)) pa_nil)) pe_int))))
      (pss_one (ps_ret (pe_lst (pa_cons (pe_revL (pe_lc (own := [("_law_cell", 4)]) (g := gName 4) (tt := tTest (tOp (rI0 fun i j => .bl (decide (j ≤ i))) (tVar 4) (tOp (rI CPow fun i j => .int (i ^ j.toNat)) (tC (.int 10)) (tC (.int 18))))) rfl sc_de.nd (pi_list (pv 2))
        (blkOk_by (N := ["_law_script", "_law_base", "_law_cells", "_law_blend", "_law_cell"]) (sc := defScope s__law_deal) (by decide +kernel)) (fun _ _ _ _ _ => pg_name (i := 4) sc_de.nd rfl (Or.inl rfl)) (fun _ _ _ _ _ => pts_one (pt_cmpR op_ge (pv 4) (pe_op op_pow pe_int pe_int) (nomark _)))
        (fun _ _ _ _ _ => pv 4))) (pa_cons (pv 3) pa_nil))))))), ?_⟩
    have hz : (63 : Nat) < sizeLine := by decide
    have hcut : cutV (ins ns) (some ((0 : Nat) : Int)) (some ((63 : Nat) : Int)) = ins ns := cut_all ⟨by rw [HT.sIx_nat]; exact Nat.zero_min _, by rw [HT.sIx_nat, ins_len]; exact Nat.min_eq_right hn⟩
    refine ⟨_, rfl, _, rfl, _, rfl, _, rfl, a, _, rfl, ha, fun p hp => ?_⟩
    refine ⟨p, rfl, ⟨_, SqL.of upd_same⟩, fun D hD => ?_⟩
    have s0 := same_new (o := .lst (cutV (ins ns) (some 0) (some 63))) hp
    have hp1 : upd H p (.lst (cutV (ins ns) (some 0) (some 63))) p = some (.lst (ins ns)) := by
      rw [upd_same, show cutV (ins ns) (some 0) (some 63) = ins ns from hcut]
    generalize upd H p (.lst (cutV (ins ns) (some 0) (some 63))) = H1 at hD s0 hp1
    refine lc_list (xs := ins ns) (fun i H' => Same H1 H' ∧ H' D = some (.lst (ins ((ns.take i).map abz)))) ⟨same_new hD, upd_same⟩ (fun i H' _ q => SqL.of (q.1 _ _ hp1)) ?_ ?_
    · rintro i y H' hy ⟨s1, hd⟩
      obtain ⟨n, hi, rfl⟩ := ins_get hy
      refine ⟨rfl, lc_yes ⟨_, rfl, n, rfl, _, hd, ?_, same_chg s1 hD, ?_⟩⟩
      · rw [ins_len, List.length_map, List.length_take]
        omega
      · rw [upd_same, take_snoc hi, List.map_append, ins_app] <;> rfl
    · rintro H2 ⟨s1, hd⟩
      rw [ins_len, List.take_length] at hd
      have hl : (ns.map abz).length ≤ 63 := by rw [List.length_map]; exact hn
      generalize ns.map abz = zs at hd hl
      refine ⟨_, rfl, _, _, rfl, rfl, .inl ⟨by decide, by decide⟩, _, _, rfl, rfl, ?_⟩
      refine ⟨_, rfl, D, rfl, ⟨_, SqL.of hd⟩, for_list (xs := ins zs) (fun i σ H3 => ∃ (b : Int) (u : Option V), σ = [some (.ref a), some (.int 0), some (.ref D), some (.int b), u] ∧ H3 = H2) ⟨_, _, rfl, rfl⟩ (fun i σ H3 _ ⟨_, _, _, e⟩ => by rw [e]; exact SqL.of hd) ?_ ?_⟩
      · rintro i y σ H3 hy ⟨b, u, rfl, rfl⟩
        obtain ⟨n, hi, rfl⟩ := ins_get hy
        refine ⟨_, rfl, _, _, rfl, rfl, .inr ⟨by decide, by decide⟩, _, rfl, .inl ⟨_, rfl, _, _, rfl, rfl, (by show (2147483629 : Int) ≠ 0; decide), _, _, rfl, rfl, .inl ⟨_, rfl, _, _, rfl, rfl, (by show (2147483647 : Int) ≠ 0; decide), _, _, rfl, rfl⟩⟩⟩
      · rintro σ H3 ⟨b, u, rfl, rfl⟩
        refine ⟨_, rfl, D, rfl, ⟨_, SqL.of hd⟩, fun E hE => ?_⟩
        refine lc_list (xs := ins zs) (fun i H' => Same H3 H' ∧ ∃ cs : List Int, H' E = some (.lst (ins cs)) ∧ cs.length ≤ i) ⟨same_new hE, [], upd_same, Nat.le_refl _⟩ (fun i H' _ q => SqL.of (q.1 _ _ hd)) ?_ ?_
        · rintro i y H' hy ⟨s2, cs, h1, h2⟩
          obtain ⟨n, hi, rfl⟩ := ins_get hy
          have := (List.getElem?_eq_some_iff.mp hi).1
          refine ⟨rfl, _, rfl, _, _, rfl, rfl, ⟨by decide, by decide, by decide⟩, _, _, rfl, rfl, _, rfl, ?_⟩
          generalize decide ((10 : Int) ^ Int.toNat 18 ≤ n) = bb
          cases bb with
          | true =>
            refine iteT ?_
            refine ⟨_, rfl, _, h1, by rw [ins_len]; omega, same_chg s2 hE, cs ++ [n], by rw [upd_same, ins_app] <;> rfl, ?_⟩
            rw [List.length_append]
            exact Nat.succ_le_succ h2
          | false => exact iteF ⟨s2, cs, h1, by omega⟩
        · rintro H4 ⟨s2, cs, h1, h2⟩
          rw [ins_len] at h2
          refine ⟨E, _, rfl, SqL.of h1, fun c hc => ⟨_, rfl, (show 2 ≤ sizeLine by decide), fun d hd4 => ?_⟩⟩
          refine k d c _ (((((s0.trans s1).trans s2)).trans (same_new hc)).trans (same_new hd4)) ⟨b, cs.reverse, upd_same, ?_, ?_, ?_⟩
          · rw [upd_ne (ne_of_none upd_same hd4), upd_same, ins_rev]
          · exact (ne_of_none upd_same hd4).symm
          · rw [List.length_reverse]
            omega
end
end Hk

set_option Elab.async false
set_option linter.all false
set_option maxRecDepth 100000
set_option maxHeartbeats 4000000
namespace Hk
open PySem PySem.Spec PyProof.Rows L2
theorem Mv.chg {d c D : Addr} {H H' : Hp} {o : HO} (h : Mv d c H H') (hD : H D = none) : Mv d c H (upd H' D o) := fun a u e n m => by
  rw [upd_ne (ne_of_none e hD)]
  exact h a u e n m
theorem Mv.none {d c a : Addr} {H H' : Hp} (h : Mv d c H H') (hD : Dl H' d c) (ha : H' a = none) : H a = none := by
  obtain ⟨n1, n2⟩ := hD.ne ha
  cases e : H a with
  | none => rfl
  | some o =>
    rw [h a o e n1 n2] at ha
    cases ha
def tB (l : Str) : List Str := if l = "list" then ["old", "all", "open", "same"] else ["old", "all", "open", "same", "first", "gone"]
def dB (l : Str) : List Str := if l = "list" then ["take", "sweep", "clear"] else ["take", "sweep", "clear", "do", "drop"]
theorem tB_ok : ∀ l ∈ lets, ∀ t ∈ tB l, t ∈ tOf l ∧ (("not " : Str) ++ t) ∈ tOf l ∧ t.length ≤ 9 := by decide +kernel
theorem dB_ok : ∀ l ∈ lets, ∀ t ∈ dB l, t ∈ dOf l := by decide +kernel
theorem tB_len (l : Str) : 0 < (tB l).length ∧ (tB l).length ≤ 6 := by
  unfold tB
  split <;> decide
theorem dB_len (l : Str) : 0 < (dB l).length ∧ (dB l).length ≤ 6 := by
  unfold dB
  split <;> decide
/-- a drawn row's tuple -/
def RowT (K : PySem.W.Frag) (H : Hp) (t : Addr) (a b : Addr) (r : RowD) : Prop := H t = some (.tup [.str r.letter, .ref a, .ref b]) ∧ H a = some (.lst (tx r.tests)) ∧ H b = some (.lst (tx r.deeds)) ∧ RowOk r
/-- [xs[draw(deal, len(xs))] for turn in range(draw(deal, 5))] -/
theorem go_pick {K : PySem.W.Frag} {σ : L2.St} {vs : List Nat} {H : Hp} {d c tt : Addr} {m : Nat} {xs : List Str} {Q : VK} (a0 : σ[0]? = some (some (.ref d))) (a1 : ∀ x, ((wipe σ vs).set 5 (some x))[0]? = some (some (.ref d)))
    (a2 : ∀ x, ((wipe σ vs).set 5 (some x))[m]? = some (some (.ref tt))) (a3 : ∀ x, wipe ((wipe σ vs).set 5 (some x)) vs = wipe σ vs) (hD : Dl H d c) (ht : H tt = some (.lst (tx xs))) (n1 : tt ≠ d) (n2 : tt ≠ c) (hl : 0 < xs.length) (hl2 : xs.length ≤ 100)
    (k : ∀ D ts H', Mv d c H H' → Dl H' d c → H D = none → H' D = some (.lst (tx ts)) → ts.length ≤ 4 → (∀ t ∈ ts, t ∈ xs) → Q (.ref D) H') :
    tLc (iRng1 (tCons (tCall spDraw [] C8.E0 (tCons (tVar 0) (tCons (tC (.int 5)) tNil))) tNil)) (gName 5) tYes (tOp (rIxL K) (tVar m) (tCall spDraw [] C8.E0 (tCons (tVar 0) (tCons (tCB (rLenSq K) (tCons (tVar m) tNil)) tNil)))) vs σ H Q := by
  refine ⟨_, a0, d, c, 5, rfl, hD, by decide, by decide, fun j H1 hj m1 d1 => ?_⟩
  refine ⟨(j : Int), rfl, by omega, by omega, fun D hN => ?_⟩
  refine lc_range (fun i H' => Mv d c H1 H' ∧ Dl H' d c ∧ ∃ ts, H' D = some (.lst (tx ts)) ∧ ts.length ≤ i ∧ ∀ t ∈ ts, t ∈ xs) ⟨Mv.of (same_new hN), d1.upd (d1.ne hN).1 (d1.ne hN).2, [], upd_same, Nat.le_refl _, by simp⟩ ?_ ?_
  · rintro i H' hi ⟨m2, d2, ts, h1, h2, h3⟩
    have ht1 := m1 _ _ ht n1 n2
    have ht2 := m2 _ _ ht1 n1 n2
    refine ⟨a3 _, lc_yes ⟨_, a2 _, _, a1 _, _, a2 _, tt, tx xs, rfl, .inl (SqL.of ht2), d, c, _, rfl, d2, ?_, ?_, fun q H3 hq m3 d3 => ?_⟩⟩
    · rw [tx_len]; omega
    · rw [tx_len]; omega
    · rw [tx_len] at hq
      have hq2 : q < xs.length := by omega
      have hx : (tx xs)[q]? = some (.str xs[q]) := by
        unfold tx
        rw [List.getElem?_map, List.getElem?_eq_getElem hq2] <;> rfl
      have nD := (d1.ne hN)
      refine ⟨tt, tx xs, (q : Int), .str xs[q], rfl, rfl, SqL.of (m3 _ _ ht2 n1 n2), atI_nat hx, ?_⟩
      refine ⟨_, m3 _ _ h1 nD.1 nD.2, ?_, (m2.trans m3).chg hN, d3.upd nD.1 nD.2, ts ++ [xs[q]], ?_, ?_, ?_⟩
      · have : (4 : Nat) < sizeLine := by decide
        rw [tx_len]
        omega
      · rw [upd_same, ← tx_app] <;> rfl
      · rw [List.length_append]
        exact Nat.succ_le_succ h2
      · intro t htm
        rcases List.mem_append.mp htm with e | e
        · exact h3 t e
        · rw [List.mem_singleton.mp e]
          exact List.getElem_mem hq2
  · rintro H' ⟨m2, d2, ts, h1, h2, h3⟩
    exact k D ts H' (m1.trans m2) d2 (m1.none d1 hN) h1 (by omega) h3
section
variable {P : Program} {w : World} {K : PySem.W.Frag} {mg : Str → Option Value} {base : Heap}
def spRow (K : PySem.W.Frag) : Sp := fun vs H Q _ => ∃ (d c : Addr), vs = [.ref d] ∧ Dl H d c ∧ ∀ t a b r H', Mv d c H H' → Dl H' d c → RowT K H' t a b r → H a = none → H b = none → Q (.ref t) H'
theorem sc_ro : FnScope ["_law_deal_here", "_law_letter", "_law_tests", "_law_deeds", "_law_some", "_law_turn", "_law_test"] ["_law_deal_here"] (defScope s__law_row) := ⟨rfl, rfl, rfl, by decide +kernel, rfl, by decide +kernel, by decide +kernel⟩
theorem ok_ro (T : Txt K mg) : Ok P w K mg base 2 (He.ga K "_law_row") ["_law_deal_here"] (spRow K) := by
  have GD := (ok_dr (P := P) (w := w) (base := base) T).cal T.g__law_draw
  refine ok_mk T.d__law_row sc_ro (fun vs H Q E h => ?_) (fun fd F => F.bindsN fun _ _ _ _ _ _ us hl => match us, hl with | [_], _ => rfl) (fun cdv A outer s H vs Q E hr h => ?_)
  · obtain ⟨d, c, rfl, _⟩ := h
    rfl
  · obtain ⟨d, c, rfl, hD, k⟩ := h
    refine ⟨_, pss_cons (ps_set (i := 1) sc_ro.nd rfl (Or.inl rfl) (pe_ix ix_list (pe_lst (pa_cons pe_str (pa_cons pe_str (pa_cons pe_str pa_nil)))) (C8.pe_c GD hr (by decide) (by rfl) (pa_cons (pv 0) (pa_cons pe_int pa_nil))) (fun _ _ => rfl)))
      (C8.pss_cut (ps_asg (pe_tup (pa_cons (pe_lst (pa_cons pe_str (pa_cons pe_str (pa_cons pe_str (pa_cons pe_str pa_nil))))) (pa_cons (pe_lst (pa_cons pe_str (pa_cons pe_str (pa_cons pe_str pa_nil)))) pa_nil))) (pg_tup (by rfl) (pgs_cons (pg_name (i := 2) sc_ro.nd rfl (.inr rfl)) (pgs_cons (pg_name (i := 3) sc_ro.nd rfl (.inr rfl)) pgs_nil))))
      (C8.pss_cut (ps_if (pt_cmpR op_ne (pv 1) pe_str (nomark _)) (pss_one (ps_asg (pe_tup (pa_cons (pe_op op_cat (pv 2) (pe_lst (pa_cons pe_str (pa_cons pe_str pa_nil)))) (pa_cons (pe_op op_cat (pv 3) (pe_lst (pa_cons pe_str (pa_cons pe_str pa_nil)))) pa_nil))) (pg_tup (by rfl) (pgs_cons (pg_name (i := 2) sc_ro.nd rfl (.inr rfl)) (pgs_cons (pg_name (i := 3) sc_ro.nd rfl (.inr rfl)) pgs_nil))))) pss_nil)
      (pss_cons (ps_setLc (i := 4) (own := [("_law_turn", 5)]) (g := gName 5) (tt := tYes) (te := tOp (rIxL K) (tVar 2) (tCall spDraw [] C8.E0 (tCons (tVar 0) (tCons (tCB (rLenSq K) (tCons (tVar 2) tNil)) tNil)))) rfl sc_ro.nd rfl rfl (sw_true rfl rfl rfl (by decide +kernel)) (pi_range1 (by rfl) T.f_range (pa_cons (C8.pe_c GD hr (by decide) (by rfl) (pa_cons (pv 0) (pa_cons pe_int pa_nil))) pa_nil))
        (blkOk_by (N := ["_law_deal_here", "_law_letter", "_law_tests", "_law_deeds", "_law_some", "_law_turn", "_law_test"]) (sc := defScope s__law_row) (by decide +kernel)) (fun _ _ _ _ _ => pg_name (i := 5) sc_ro.nd rfl (Or.inl rfl)) (fun _ _ _ _ _ => pts_nil)
        (fun _ _ _ _ _ => pe_ix (show IxR _ (rIxL K) from ix_list) (pv 2) (C8.pe_c GD hr (by decide) (by rfl) (pa_cons (pv 0) (pa_cons (pe_callB (show CallR _ _ (rLenSq K) from call_lenSq) (by rfl) T.f_len boot_len (pa_cons (pv 2) pa_nil)) pa_nil))) (fun _ _ => rfl)))
      (pss_cons (ps_setLc (i := 4) (own := [("_law_test", 6)]) (g := gName 6) (tt := tYes) (te := tIf (tTest (tOp rEq (tCall spDraw [] C8.E0 (tCons (tVar 0) (tCons (tC (.int 3)) tNil))) (tC (.int 0)))) (tOp (fun x y H Q => ∃ i j, x = .str i ∧ y = .str j ∧ i.length + j.length ≤ sizeLine ∧ Q (.str (i ++ j)) H) (tC (.str "not ")) (tVar 6)) (tVar 6)) rfl sc_ro.nd rfl rfl (sw_true rfl rfl rfl (by decide +kernel)) (pi_list (pv 4))
        (blkOk_by (N := ["_law_deal_here", "_law_letter", "_law_tests", "_law_deeds", "_law_some", "_law_turn", "_law_test"]) (sc := defScope s__law_row) (by decide +kernel)) (fun _ _ _ _ _ => pg_name (i := 6) sc_ro.nd rfl (Or.inl rfl)) (fun _ _ _ _ _ => pts_nil)
        (fun _ _ _ _ _ => pe_ifExp (pt_cmpR op_eq (C8.pe_c GD hr (by decide) (by rfl) (pa_cons (pv 0) (pa_cons pe_int pa_nil))) pe_int (nomark _)) (pe_op op_add_str pe_str (pv 6)) (pv 6)))
      (pss_one (ps_ret (pe_tup (pa_cons (pv 1) (pa_cons (pv 4) (pa_cons (pe_lc (own := [("_law_turn", 5)]) (g := gName 5) (tt := tYes) (te := tOp (rIxL K) (tVar 3) (tCall spDraw [] C8.E0 (tCons (tVar 0) (tCons (tCB (rLenSq K) (tCons (tVar 3) tNil)) tNil)))) rfl sc_ro.nd (pi_range1 (by rfl) T.f_range (pa_cons (C8.pe_c GD hr (by decide) (by rfl) (pa_cons (pv 0) (pa_cons pe_int pa_nil))) pa_nil))
        (blkOk_by (N := ["_law_deal_here", "_law_letter", "_law_tests", "_law_deeds", "_law_some", "_law_turn", "_law_test"]) (sc := defScope s__law_row) (by decide +kernel)) (fun _ _ _ _ _ => pg_name (i := 5) sc_ro.nd rfl (Or.inl rfl)) (fun _ _ _ _ _ => pts_nil)
        (fun _ _ _ _ _ => pe_ix (show IxR _ (rIxL K) from ix_list) (pv 3) (C8.pe_c GD hr (by decide) (by rfl) (pa_cons (pv 0) (pa_cons (pe_callB (show CallR _ _ (rLenSq K) from call_lenSq) (by rfl) T.f_len boot_len (pa_cons (pv 3) pa_nil)) pa_nil))) (fun _ _ => rfl))) pa_nil)))))))))), ?_⟩
    have hz : sizeLine = 16777216 := by decide
    refine ⟨by decide, fun p hp => ?_⟩
    refine ⟨_, rfl, d, c, 3, rfl, hD.same (same_new hp), by decide, by decide, fun j H1 hj m1 d1 => ?_⟩
    have nP := hD.ne hp
    have hj3 : j < 3 := by omega
    have hlt : ∃ l, (tx lets)[j]? = some (.str l) ∧ l ∈ lets := by
      have hj4 : j < lets.length := hj3
      refine ⟨lets[j], ?_, List.getElem_mem hj4⟩
      unfold tx
      rw [List.getElem?_map, List.getElem?_eq_getElem hj4] <;> rfl
    obtain ⟨l, hl1, hl⟩ := hlt
    refine ⟨p, tx lets, (j : Int), .str l, rfl, rfl, SqL.of (m1 _ _ upd_same nP.1 nP.2), atI_nat hl1, ?_⟩
    have m1' : Mv d c H H1 := (Mv.of (same_new hp)).trans m1
    -- the lists
    refine ⟨fun σ' H' => ∃ tt dd, σ' = [some (.ref d), some (.str l), some (.ref tt), some (.ref dd), none, none, none] ∧ Mv d c H H' ∧ Dl H' d c ∧ H' tt = some (.lst (tx ["old", "all", "open", "same"])) ∧ H' dd = some (.lst (tx ["take", "sweep", "clear"])) ∧ tt ≠ d ∧ tt ≠ c ∧ dd ≠ d ∧ dd ≠ c, ?_, ?_⟩
    · refine ⟨by decide, fun tt ht => ⟨by decide, fun dd hd => ⟨(show 2 ≤ sizeLine by decide), fun q hq => ?_⟩⟩⟩
      have s1 := same_new (o := .lst [.str "old", .str "all", .str "open", .str "same"]) ht
      have s2 := same_new (o := .lst [.str "take", .str "sweep", .str "clear"]) hd
      have s3 := same_new (o := .tup [.ref tt, .ref dd]) hq
      refine ⟨q, _, rfl, SqT.of upd_same, rfl, _, _, rfl, _, _, rfl, rfl, ?_⟩
      have n1 := d1.ne ht
      have n2 := (d1.same s1).ne hd
      exact ⟨tt, dd, rfl, m1'.trans (Mv.of (s1.trans (s2.trans s3))), d1.same (s1.trans (s2.trans s3)), (s2.trans s3) _ _ upd_same, s3 _ _ upd_same, n1.1, n1.2, n2.1, n2.2⟩
    rintro σ' H2 ⟨tt, dd, rfl, m2, d2, ht, hd, a1, a2, a3, a4⟩
    refine ⟨fun σ' H' => ∃ tt dd, σ' = [some (.ref d), some (.str l), some (.ref tt), some (.ref dd), none, none, none] ∧ Mv d c H H' ∧ Dl H' d c ∧ H' tt = some (.lst (tx (tB l))) ∧ H' dd = some (.lst (tx (dB l))) ∧ tt ≠ d ∧ tt ≠ c ∧ dd ≠ d ∧ dd ≠ c, ?_, ?_⟩
    · by_cases e : l = "list"
      · refine ⟨_, rfl, rfl, false, dstrNF e, iteF ?_⟩
        refine ⟨tt, dd, rfl, m2, d2, ?_, ?_, a1, a2, a3, a4⟩
        · unfold tB
          rw [if_pos e]
          exact ht
        · unfold dB
          rw [if_pos e]
          exact hd
      · refine ⟨_, rfl, rfl, true, dstrNT e, iteT ?_⟩
        refine ⟨_, rfl, by decide, fun b hb => ⟨tt, b, _, _, rfl, rfl, same_new hb _ _ ht, upd_same, by decide, fun u hu => ?_⟩⟩
        have s1 := same_new (o := .lst [.str "first", .str "gone"]) hb
        have s2 := same_new (o := .lst (tx ["old", "all", "open", "same"] ++ [.str "first", .str "gone"])) hu
        refine ⟨_, rfl, by decide, fun b2 hb2 => ⟨dd, b2, _, _, rfl, rfl, same_new hb2 _ _ ((s1.trans s2) _ _ hd), upd_same, by decide, fun u2 hu2 => ?_⟩⟩
        have s3 := same_new (o := .lst [.str "do", .str "drop"]) hb2
        have s4 := same_new (o := .lst (tx ["take", "sweep", "clear"] ++ [.str "do", .str "drop"])) hu2
        refine ⟨(show 2 ≤ sizeLine by decide), fun q hq => ?_⟩
        have s5 := same_new (o := .tup [.ref u, .ref u2]) hq
        refine ⟨q, _, rfl, SqT.of upd_same, rfl, _, _, rfl, _, _, rfl, rfl, ?_⟩
        have n1 := (d2.same s1).ne hu
        have n2 := (d2.same (s1.trans (s2.trans s3))).ne hu2
        have sa := s1.trans (s2.trans (s3.trans (s4.trans s5)))
        refine ⟨u, u2, rfl, m2.trans (Mv.of sa), d2.same sa, ?_, ?_, n1.1, n1.2, n2.1, n2.2⟩
        · have q := (s3.trans (s4.trans s5)) u _ upd_same
          unfold tB
          rw [if_neg e]
          exact q
        · have q := s5 u2 _ upd_same
          unfold dB
          rw [if_neg e]
          exact q
    rintro σ' H3 ⟨tt, dd, rfl, m3, d3, ht, hd, a1, a2, a3, a4⟩
    unfold tSeq tAsg
    refine go_pick rfl ?_ ?_ ?_ d3 ht a1 a2 (tB_len l).1 (Nat.le_trans (tB_len l).2 (by decide)) fun L ts H4 m4 d4 hL0 hL hts hin => ?_
    iterate 3 exact fun _ => rfl
    have nL := d3.ne hL0
    refine ⟨_, rfl, L, rfl, ⟨_, SqL.of hL⟩, fun D hN => ?_⟩
    refine lc_list (xs := tx ts) (fun i H' => Mv d c H4 H' ∧ Dl H' d c ∧ ∃ us, H' D = some (.lst (tx us)) ∧ us.length ≤ i ∧ ∀ t ∈ us, t ∈ tOf l) ⟨Mv.of (same_new hN), d4.upd (d4.ne hN).1 (d4.ne hN).2, [], upd_same, Nat.le_refl _, by simp⟩ (fun i H' _ q => SqL.of (q.1 _ _ hL nL.1 nL.2)) ?_ ?_
    · rintro i y H' hy ⟨m5, d5, us, h1, h2, h3⟩
      obtain ⟨t, hi, rfl⟩ := tx_get hy
      have hit := (List.getElem?_eq_some_iff.mp hi).1
      obtain ⟨o1, o2, o3⟩ := tB_ok l hl t (hin t (List.mem_of_getElem? hi))
      have nD := d4.ne hN
      refine ⟨rfl, lc_yes ⟨_, rfl, d, c, 3, rfl, d5, by decide, by decide, fun z H6 hz3 m6 d6 => ⟨rfl, _, rfl, ?_⟩⟩⟩
      have acc : ∀ v, v ∈ tOf l → ∃ acc, H6 D = some (.lst acc) ∧ acc.length < sizeLine ∧ (Mv d c H4 (upd H6 D (.lst (acc ++ [.str v]))) ∧ Dl (upd H6 D (.lst (acc ++ [.str v]))) d c ∧ ∃ us, upd H6 D (.lst (acc ++ [.str v])) D = some (.lst (tx us)) ∧ us.length ≤ i + 1 ∧ ∀ t ∈ us, t ∈ tOf l) := by
        intro v hv
        refine ⟨_, m6 _ _ h1 nD.1 nD.2, ?_, (m5.trans m6).chg hN, d6.upd nD.1 nD.2, us ++ [v], ?_, ?_, ?_⟩
        · rw [tx_len]; omega
        · rw [upd_same, ← tx_app] <;> rfl
        · rw [List.length_append]
          exact Nat.succ_le_succ h2
        · intro t' ht'
          rcases List.mem_append.mp ht' with e | e
          · exact h3 t' e
          · rw [List.mem_singleton.mp e]
            exact hv
      generalize decide (V.int (z : Int) = V.int 0) = bb
      cases bb with
      | true => exact iteT ⟨_, rfl, _, _, rfl, rfl, by have : ("not " : Str).length = 4 := by decide +kernel
                                                       omega, acc _ o2⟩
      | false => exact iteF ⟨_, rfl, acc _ o1⟩
    · rintro H5 ⟨m5, d5, us, h1, h2, h3⟩
      rw [tx_len] at h2
      have m45 := (m3.trans m4).trans m5
      have ht5 := m5 _ _ (m4 _ _ hd a3 a4) a3 a4
      have nD := d4.ne hN
      refine ⟨_, rfl, _, rfl, ?_⟩
      unfold tCons
      refine go_pick rfl ?_ ?_ ?_ d5 ht5 a3 a4 (dB_len l).1 (Nat.le_trans (dB_len l).2 (by decide)) fun E ds H6 m6 d6 hE0 hE hds hdin => ?_
      iterate 3 exact fun _ => rfl
      refine ⟨(show 3 ≤ sizeLine by decide), fun t hT => ?_⟩
      have s7 := same_new (o := .tup [.str l, .ref D, .ref E]) hT
      refine k t D E ⟨l, us, ds⟩ _ ((m45.trans m6).trans (Mv.of s7)) (d6.same s7) ⟨upd_same, s7 _ _ (m6 _ _ h1 nD.1 nD.2), s7 _ _ hE, ⟨hl, h3, fun x hx => dB_ok l hl x (hdin x hx), by show us.length ≤ 4; omega, hds⟩⟩ ((m3.trans m4).none d4 hN) (m45.none d5 hE0)
end
end Hk

set_option Elab.async false
set_option linter.all false
set_option maxRecDepth 100000
set_option maxHeartbeats 4000000
namespace Hk
open PySem PySem.Spec PyProof.Rows L2
section
variable {P : Program} {w : World} {K : PySem.W.Frag} {mg : Str → Option Value} {base : Heap}
def spFew (K : PySem.W.Frag) : Sp := fun vs H Q _ => ∃ (a : Addr) (n : Int) (es : List Str), vs = [.ref a, .int n] ∧ SqL K H a (tx es) ∧ es.length ≤ 1000 ∧ (∀ e ∈ es, e.length ≤ 20) ∧
  ∀ l fs H', Same H H' → H l = none → H' l = some (.lst (tx fs)) → fs.length = es.length → (∀ f ∈ fs, f = "serve" ∨ f ∈ es) → Q (.ref l) H'
theorem sc_fe : FnScope ["_law_events", "_law_most", "_law_found", "_law_many", "_law_event"] ["_law_events", "_law_most"] (defScope s__law_few_clicks) := ⟨rfl, rfl, rfl, by decide +kernel, rfl, by decide +kernel, by decide +kernel⟩
theorem ok_fe (T : Txt K mg) : Ok P w K mg base 1 (He.ga K "_law_few_clicks") ["_law_events", "_law_most"] (spFew K) := by
  refine ok_mk T.d__law_few_clicks sc_fe (fun vs H Q E h => ?_) (fun fd F => F.bindsN fun _ _ _ _ _ _ us hl => match us, hl with | [_, _], _ => rfl) (fun cdv A outer s H vs Q E hr h => ?_)
  · obtain ⟨a, n, es, rfl, _⟩ := h
    rfl
  · obtain ⟨a, n, es, rfl, ha, hn, he, k⟩ := h
    refine ⟨_, pss_cons (ps_par (i := 2) (j := 3) (by rfl) sc_fe.nd rfl rfl (by decide) rfl rfl (pa_cons (pe_lst pa_nil) (pa_cons pe_int pa_nil)) (by rfl))
      (pss_cons (ps_for PassesOwn.never rfl (pi_list (pv 0)) (pg_name (i := 4) sc_fe.nd rfl (Or.inl rfl))
        (pss_cons (ps_set (i := 3) sc_fe.nd rfl (Or.inl rfl) (pe_op op_add (pv 3) (pe_callTy call_int1 (by rfl) T.f_int boot_int (pa_cons (pe_cmpR op_eq (pe_slice sl_str (pv 4) po_none (po_some pe_int)) pe_str (nomark _)) pa_nil))))
        (pss_one (ps_expr (pe_bm PySem.F.plainAttrs_list PySem.F.slot_list_append PySem.F.type_list_append mt_append (pv 2) (pa_cons (pe_ifExp (PW.pt (pw_and (pt_cmpR op_eq (pe_slice sl_str (pv 4) po_none (po_some pe_int)) pe_str (nomark _)) (pw_and1 (pt_cmpR op_gt (pv 3) (pv 1) (nomark _))))) pe_str (pv 4)) pa_nil))))))
      (pss_one (ps_ret (pv 2)))), ?_⟩
    have hz : sizeLine = 16777216 := by decide
    refine ⟨by decide, fun l hl => ⟨_, _, rfl, ?_⟩⟩
    have a1 := (same_new (o := .lst []) hl).seq ha
    refine ⟨_, rfl, a, rfl, ⟨_, a1⟩, for_list (xs := tx es) (fun i σ H' => ∃ (m : Int) (u : Option V) (fs : List Str), σ = [some (.ref a), some (.int n), some (.ref l), some (.int m), u] ∧ Same H H' ∧ H' l = some (.lst (tx fs)) ∧ fs.length = i ∧ ∀ f ∈ fs, f = "serve" ∨ f ∈ es)
      ⟨0, _, [], rfl, same_new hl, upd_same, rfl, by simp⟩ (fun i σ H' _ ⟨_, _, _, _, s1, _⟩ => s1.seq ha) ?_ ?_⟩
    · rintro i y σ H' hy ⟨m, u, fs, rfl, s1, h1, h2, h3⟩
      obtain ⟨e, hi, rfl⟩ := tx_get hy
      have hm := List.mem_of_getElem? hi
      have hil := (List.getElem?_eq_some_iff.mp hi).1
      have le := he e hm
      refine ⟨_, rfl, _, rfl, _, rfl, e, rfl, by omega, rfl, .inr ⟨_, rfl, _, _, rfl, rfl, ?_⟩⟩
      refine ⟨_, rfl, .inl ⟨rfl, _, SqL.of h1⟩, ?_⟩
      have acc : ∀ (σ : L2.St) (m : Int) (v : Str), (v = "serve" ∨ v ∈ es) → σ = [some (.ref a), some (.int n), some (.ref l), some (.int m), some (.str e)] → rAppend (.ref l) [.str v] H' (fun _ H2 => ∃ (m : Int) (u : Option V) (fs : List Str), σ = [some (.ref a), some (.int n), some (.ref l), some (.int m), u] ∧ Same H H2 ∧ H2 l = some (.lst (tx fs)) ∧ fs.length = i + 1 ∧ ∀ f ∈ fs, f = "serve" ∨ f ∈ es) := by
        intro σ m v hv hσ
        refine ⟨l, tx fs, .str v, rfl, rfl, h1, by rw [tx_len]; omega, m, _, fs ++ [v], hσ, same_chg s1 hl, ?_, ?_, ?_⟩
        · rw [upd_same, ← tx_app] <;> rfl
        · rw [List.length_append]
          show fs.length + 1 = i + 1
          omega
        · intro f hf
          rcases List.mem_append.mp hf with q | q
          · exact h3 f q
          · rw [List.mem_singleton.mp q]
            exact hv
      refine ⟨_, rfl, _, rfl, e, rfl, by omega, rfl, _, rfl, ?_⟩
      generalize decide (V.str (cutS e none (some 6)) = V.str "click ") = bb
      cases bb with
      | false => exact iteF (iteF ⟨_, rfl, acc _ _ _ (.inr hm) rfl⟩)
      | true =>
        refine iteT ⟨_, rfl, _, rfl, _, _, rfl, rfl, _, rfl, ?_⟩
        generalize decide (n < m + (if true = true then 1 else 0)) = cc
        cases cc with
        | false => exact iteF ⟨_, rfl, acc _ _ _ (.inr hm) rfl⟩
        | true => exact iteT (acc _ _ _ (.inl rfl) rfl)
    · rintro σ H' ⟨m, u, fs, rfl, s1, h1, h2, h3⟩
      rw [tx_len] at h2
      exact ⟨_, rfl, k l fs H' s1 hl h1 h2 h3⟩
end
end Hk

set_option Elab.async false
set_option linter.all false
set_option maxRecDepth 100000
set_option maxHeartbeats 4000000
namespace Hk
open PySem PySem.Spec PyProof.Rows L2
/-! ### law: the statements -/
def forB : Stmt → List Stmt
  | .For _ _ b _ _ => b
  | _ => []
abbrev noS : Stmt := .Pass ⟨0, 0, 0, 0⟩
abbrev lb (i : Nat) : Stmt := (forB ((defBody s_law).getD 2 noS)).getD i noS
abbrev LN : List Str := ["_law_script", "_law_deal_here", "_law_good", "_law_turn", "_law_some", "_law_made", "_law_at", "_law_ahead", "_law_behind", "_law_events", "_law_woven", "_law_many", "_law_row_here", "_law_event"]
theorem sc_la : FnScope LN ["_law_script"] (defScope s_law) := ⟨rfl, rfl, rfl, by decide +kernel, rfl, by decide +kernel, by decide +kernel⟩
abbrev LX (P : Program) (w : World) (K : PySem.W.Frag) (mg : Str → Option Value) (base : Heap) (cdv : Value) (A : Around) (outer : List Env) (s : Shared) (H : Hp) (E : XK) : Cx := (cxOf L2.CX0 P w K mg base LN "law" (defScope s_law) (He.ga K "law") cdv A outer s H E).nox
/-- a drawn row's tuple, some lists -/
def RT (K : PySem.W.Frag) (H : Hp) (t : Addr) (r : RowD) : Prop := ∃ a b, RowT K H t a b r
def RT3 (K : PySem.W.Frag) (d c D : Addr) (H : Hp) (t : Addr) (r : RowD) : Prop := ∃ a b, RowT K H t a b r ∧ (a ≠ d ∧ a ≠ c ∧ a ≠ D) ∧ (b ≠ d ∧ b ≠ c ∧ b ≠ D)
theorem RT.same {K : PySem.W.Frag} {H H' : Hp} {t : Addr} {r : RowD} (h : RT K H t r) (e : Same H H') : RT K H' t r := by
  obtain ⟨a, b, h1, h2, h3, h4⟩ := h
  exact ⟨a, b, e _ _ h1, e _ _ h2, e _ _ h3, h4⟩
theorem RT3.mv {K : PySem.W.Frag} {d c D : Addr} {H H' : Hp} {t : Addr} {r : RowD} (h : RT3 K d c D H t r) (hD : Dl H d c) (m : Mv d c H H') : RT3 K d c D H' t r := by
  obtain ⟨b0, cs, e1, e2, _⟩ := hD
  obtain ⟨a, b, ⟨h1, h2, h3, h4⟩, n1, n2⟩ := h
  exact ⟨a, b, ⟨m _ _ h1 (ne_of h1 e1 (by intro z; cases z)) (ne_of h1 e2 (by intro z; cases z)), m _ _ h2 n1.1 n1.2.1, m _ _ h3 n2.1 n2.2.1, h4⟩, n1, n2⟩
theorem RT3.upd {K : PySem.W.Frag} {d c D : Addr} {H : Hp} {t : Addr} {r : RowD} {ys : List V} {o : HO} (h : RT3 K d c D H t r) (hD : H D = some (.lst ys)) : RT3 K d c D (upd H D o) t r := by
  obtain ⟨a, b, ⟨h1, h2, h3, h4⟩, n1, n2⟩ := h
  exact ⟨a, b, ⟨by rw [upd_ne (ne_of h1 hD (by intro z; cases z))]; exact h1, by rw [upd_ne n1.2.2]; exact h2, by rw [upd_ne n2.2.2]; exact h3, h4⟩, n1, n2⟩
theorem paired_ok {α β : Type} {R : α → β → Prop} {S : β → Prop} (hS : ∀ a b, R a b → S b) : ∀ {l : List α} {m : List β}, Paired R l m → ∀ b ∈ m, S b
  | _, _, .nil, b, h => by cases h
  | _, _, .cons r t, b, h => by
    rcases List.mem_cons.mp h with e | e
    · subst e
      exact hS _ _ r
    · exact paired_ok hS t b e
section
variable {P : Program} {w : World} {K : PySem.W.Frag} {mg : Str → Option Value} {base : Heap}
theorem go_neP {H : Hp} {p q : Addr} {ds : List RowD} {Q : VK} (hp : PageAt K H p ds) (hq : PageAt K H q ds) (ok : ∀ d ∈ ds, RowOk d) (hn : ds.length ≤ 1000) (k : ∀ H', Same H H' → Q (.bl false) H') : rNeO (cP K) (spPEq K) C8.E0 (.ref p) (.ref q) H Q := by
  obtain ⟨dx, t1, t2, hp0, _⟩ := id hp
  obtain ⟨dy, u1, u2, hq0, _⟩ := id hq
  exact ⟨p, dx, _, q, dy, _, rfl, rfl, hp0, hq0, p, q, ds, rfl, hp, hq, ok, hn, fun H' s => ⟨true, rfl, k H' s⟩⟩
theorem go_neR {H : Hp} {p q : Addr} {d : RowD} {Q : VK} (hp : RowAt K H p d) (hq : RowAt K H q d) (ok : RowOk d) (k : ∀ H', Same H H' → Q (.bl false) H') : rNeO (cR K) (spREq K) C8.E0 (.ref p) (.ref q) H Q := by
  obtain ⟨dx, t1, t2, hp0, _⟩ := id hp
  obtain ⟨dy, u1, u2, hq0, _⟩ := id hq
  exact ⟨p, dx, _, q, dy, _, rfl, rfl, hp0, hq0, p, q, d, rfl, hp, hq, ok, fun H' s => ⟨true, rfl, k H' s⟩⟩
theorem go_neW {H : Hp} {p q : Addr} {es : List Str} {Q : VK} (hp : WovAt K H p es) (hq : WovAt K H q es) (ok : ∀ e ∈ es, EvG e) (k : ∀ H', Same H H' → Q (.bl false) H') : rNeO (cW K) (spWEq K) C8.E0 (.ref p) (.ref q) H Q := by
  obtain ⟨dx, t1, hp0, _⟩ := id hp
  obtain ⟨dy, u1, hq0, _⟩ := id hq
  exact ⟨p, dx, _, q, dy, _, rfl, rfl, hp0, hq0, p, q, es, rfl, hp, hq, ok, fun H' s => ⟨true, rfl, k H' s⟩⟩
theorem go_addP {H : Hp} {p q : Addr} {ds es : List RowD} {Q : VK} (hp : PageAt K H p ds) (hq : PageAt K H q es) (hn : ds.length + es.length ≤ 1000) (k : ∀ r H', Same H H' → PageAt K H' r (ds ++ es) → Q (.ref r) H') : rAddO (cP K) (spPAdd K) C8.E0 (.ref p) (.ref q) H Q := by
  obtain ⟨dx, t1, t2, hp0, _⟩ := id hp
  obtain ⟨dy, u1, u2, hq0, _⟩ := id hq
  exact ⟨p, dx, _, q, dy, _, rfl, rfl, hp0, hq0, p, q, ds, es, rfl, hp, hq, hn, k⟩
theorem go_addW {H : Hp} {p q : Addr} {es fs : List Str} {Q : VK} (hp : WovAt K H p es) (hq : WovAt K H q fs) (he : ∀ e ∈ es, EvG e) (hf : ∀ e ∈ fs, EvG e) (hn : es.length + fs.length ≤ 1000) (k : ∀ r H', Same H H' → WovAt K H' r (es ++ fs) → Q (.ref r) H') : rAddO (cW K) (spWAdd K) C8.E0 (.ref p) (.ref q) H Q := by
  obtain ⟨dx, t1, hp0, _⟩ := id hp
  obtain ⟨dy, u1, hq0, _⟩ := id hq
  exact ⟨p, dx, _, q, dy, _, rfl, rfl, hp0, hq0, p, q, es, fs, rfl, hp, hq, he, hf, hn, k⟩
variable {cdv : Value} {A : Around} {outer : List Env} {s : Shared} {H0 : Hp} {E : XK}
abbrev LRoom (K : PySem.W.Frag) (cdv : Value) (A : Around) (s : Shared) : Prop := Room 8 (A.deeper (envOfC "law" (defScope s_law) s.heap.objs.size (He.ga K "law") cdv))
theorem st0 (T : Txt K mg) (hr : LRoom K cdv A s) : ∃ t, PS (LX P w K mg base cdv A outer s H0 E) (lb 0) t ∧ ∀ (D : Ends) (σ : L2.St) (H : Hp) (d c : Addr), σ[1]? = some (some (.ref d)) →
    (∀ x, ((wipe σ [12]).set 12 (some x))[1]? = some (some (.ref d))) → (∀ x, wipe ((wipe σ [12]).set 12 (some x)) [12] = wipe σ [12]) → Dl H d c →
    (∀ L ts ds H', Mv d c H H' → Dl H' d c → H' L = some (.lst (ad ts)) → ds.length ≤ 8 → Paired (RT K H') ts ds → D.nx (σ.set 4 (some (.ref L))) H') → t D σ H := by
  have GD := (ok_dr (P := P) (w := w) (base := base) T).cal T.g__law_draw
  have GO := (ok_ro (P := P) (w := w) (base := base) T).cal T.g__law_row
  refine ⟨_, ps_setLc (i := 4) (own := [("_law_row_here", 12)]) (g := gName 12) (tt := tYes) rfl sc_la.nd rfl rfl (sw_true rfl rfl rfl (by decide +kernel)) (pi_range1 (by rfl) T.f_range (pa_cons (C8.pe_c GD hr (by decide) (by rfl) (pa_cons (pv 1) (pa_cons pe_int pa_nil))) pa_nil))
        (blkOk_by (N := LN) (sc := defScope s_law) (by decide +kernel)) (fun _ _ _ _ _ => pg_name (i := 12) sc_la.nd rfl (Or.inl rfl)) (fun _ _ _ _ _ => pts_nil)
        (fun _ _ _ _ _ => C8.pe_c GO hr (by decide) (by rfl) (pa_cons (pv 1) pa_nil)), ?_⟩
  intro D σ H d c a0 a1 a3 hD k
  have hz : sizeLine = 16777216 := by decide
  refine ⟨_, a0, d, c, 9, rfl, hD, by decide, by decide, fun j H1 hj m1 d1 => ?_⟩
  refine ⟨(j : Int), rfl, by omega, by omega, fun L hN => ?_⟩
  have nL := d1.ne hN
  refine lc_range (fun i H' => Mv d c H1 H' ∧ Dl H' d c ∧ ∃ ts ds, H' L = some (.lst (ad ts)) ∧ ds.length ≤ i ∧ Paired (RT3 K d c L H') ts ds) ⟨Mv.of (same_new hN), d1.upd nL.1 nL.2, [], [], upd_same, Nat.le_refl _, .nil⟩ ?_ ?_
  · rintro i H' hi ⟨m2, d2, ts, ds, h1, h2, hp⟩
    refine ⟨a3 _, lc_yes ⟨_, a1 _, d, c, rfl, d2, fun t a b r H2 m3 d3 hr hna hnb => ?_⟩⟩
    have h1' := m3 _ _ h1 nL.1 nL.2
    refine ⟨_, h1', ?_, (m2.trans m3).chg hN, d3.upd nL.1 nL.2, ts ++ [t], ds ++ [r], ?_, ?_, ?_⟩
    · rw [ad_len, paired_len hp]
      omega
    · rw [upd_same, ← ad_app] <;> rfl
    · rw [List.length_append]
      exact Nat.succ_le_succ h2
    · have na := d2.ne hna
      have nb := d2.ne hnb
      exact paired_append (paired_map hp fun t r q => (q.mv d2 m3).upd h1') (.cons (RT3.upd ⟨a, b, hr, ⟨na.1, na.2, (ne_of_none h1 hna).symm⟩, ⟨nb.1, nb.2, (ne_of_none h1 hnb).symm⟩⟩ h1') .nil)
  · rintro H' ⟨m2, d2, ts, ds, h1, h2, hp⟩
    exact k L ts ds H' (m1.trans m2) d2 h1 (by omega) (paired_map hp fun t r ⟨a, b, q, _⟩ => ⟨a, b, q⟩)
theorem st1 (T : Txt K mg) (hr : LRoom K cdv A s) : ∃ t, PS (LX P w K mg base cdv A outer s H0 E) (lb 1) t ∧ ∀ (D : Ends) (σ : L2.St) (H : Hp) (L : Addr) (ts : List Addr) (ds : List RowD), σ[4]? = some (some (.ref L)) →
    (∀ x, ((wipe σ [12]).set 12 (some x))[12]? = some (some x)) → (∀ x, wipe ((wipe σ [12]).set 12 (some x)) [12] = wipe σ [12]) → H L = some (.lst (ad ts)) → ds.length ≤ 8 → Paired (RT K H) ts ds →
    (∀ m H', Same H H' → PageAt K H' m ds → D.nx (σ.set 5 (some (.ref m))) H') → t D σ H := by
  have GR := (ok_Ri (P := P) (w := w) (base := base) T).mak T.m_Row T.g_Row
  have GP := (ok_Pi (P := P) (w := w) (base := base) T).mak T.m_Page T.g_Page
  refine ⟨_, ps_set (i := 5) sc_la.nd rfl (Or.inr rfl) (C8.pe_mk GP hr (by decide) (by rfl) (pa_cons (pe_lc (own := [("_law_row_here", 12)]) (g := gName 12) (tt := tYes) (te := tMake (cR K) (spRInit K) [] C8.E0 (tCons (tOp (rIxT K) (tVar 12) (tC (.int 0))) (tCons (tOp (rIxT K) (tVar 12) (tC (.int 1))) (tCons (tOp (rIxT K) (tVar 12) (tC (.int 2))) tNil)))) rfl sc_la.nd (pi_list (pv 4))
        (blkOk_by (N := LN) (sc := defScope s_law) (by decide +kernel)) (fun _ _ _ _ _ => pg_name (i := 12) sc_la.nd rfl (Or.inl rfl)) (fun _ _ _ _ _ => pts_nil)
        (fun _ _ _ _ _ => C8.pe_mk GR hr (by decide) (by rfl) (pa_cons (pe_ix (show IxR _ (rIxT K) from ix_tup) (pv 12) pe_int (fun _ _ => rfl)) (pa_cons (pe_ix (show IxR _ (rIxT K) from ix_tup) (pv 12) pe_int (fun _ _ => rfl)) (pa_cons (pe_ix (show IxR _ (rIxT K) from ix_tup) (pv 12) pe_int (fun _ _ => rfl)) pa_nil))))) pa_nil)), ?_⟩
  intro D σ H L ts ds a0 a1 a3 hL hn hp k
  have hz : sizeLine = 16777216 := by decide
  refine ⟨_, a0, L, rfl, ⟨_, SqL.of hL⟩, fun F hN => ?_⟩
  refine lc_list (xs := ad ts) (fun i H' => Same H H' ∧ ∃ rs, H' F = some (.lst (ad rs)) ∧ Paired (RowAt K H') rs (ds.take i)) ⟨same_new hN, [], upd_same, .nil⟩ (fun i H' _ q => SqL.of (q.1 _ _ hL)) ?_ ?_
  · rintro i y H' hy ⟨s1, rs, h1, h2⟩
    obtain ⟨t, hti, rfl⟩ := ad_get hy
    obtain ⟨r, hri, a, b, b1, b2, b3, b4⟩ := paired_get hp hti
    have hil := (List.getElem?_eq_some_iff.mp hri).1
    refine ⟨a3 _, lc_yes ⟨_, a1 _, t, _, (0 : Nat), .str r.letter, rfl, rfl, SqT.of (s1 _ _ b1), atI_nat (j := 0) rfl, _, a1 _, t, _, (1 : Nat), .ref a, rfl, rfl, SqT.of (s1 _ _ b1), atI_nat (j := 1) rfl, _, a1 _, t, _, (2 : Nat), .ref b, rfl, rfl, SqT.of (s1 _ _ b1), atI_nat (j := 2) rfl, ?_⟩⟩
    intro q dx nx nd ne
    have ms := made_step (C := cR K) nx nd
    refine ⟨q, dx, a, b, r, rfl, upd_same, .inl (SqL.of (ms _ _ (s1 _ _ b2))), .inl (SqL.of (ms _ _ (s1 _ _ b3))), b4, fun H2 hq kp => ⟨rfl, ?_⟩⟩
    have s2 := made_same nx nd kp
    have h1' := s2 _ _ h1
    refine ⟨_, h1', ?_, same_chg (s1.trans s2) hN, rs ++ [q], ?_, ?_⟩
    · rw [ad_len, paired_len h2, List.length_take]
      omega
    · rw [upd_same, ← ad_app] <;> rfl
    · rw [take_snoc hri]
      exact paired_append (paired_map h2 fun r d q => row_updL h1' (q.same s2)) (.cons (row_updL h1' hq) .nil)
  · rintro H' ⟨s1, rs, h1, h2⟩
    rw [ad_len, paired_len hp, List.take_length] at h2
    exact go_P (Q := fun v H2 => D.nx (σ.set 5 (some v)) H2) (.inl (SqL.of h1)) h2 (by rw [paired_len h2]; omega) fun q H2 s2 hq => k q H2 (s1.trans s2) hq
end
end Hk

set_option Elab.async false
set_option linter.all false
set_option maxRecDepth 100000
set_option maxHeartbeats 4000000
namespace Hk
open PySem PySem.Spec PyProof.Rows L2
section
variable {P : Program} {w : World} {K : PySem.W.Frag} {mg : Str → Option Value} {base : Heap}
theorem go_mkP {H : Hp} {a : Addr} {rs : List Addr} {ds : List RowD} {E : XK} (hq : Sq K H a (ad rs)) (hp : Paired (RowAt K H) rs ds) (hn : ds.length ≤ 1000) {x dx : Addr} (nx : H x = none) (nd : H dx = none) {R : VK} (k : ∀ H', Same H H' → PageAt K H' x ds → R .non H') :
    spPInit K (.ref x :: ([.ref a] ++ [])) (upd (upd H dx (.own x)) x (.ins (cP K) dx [])) R E :=
  ⟨x, dx, a, rs, ds, rfl, upd_same, hq.same (made_step nx nd), paired_map hp fun r d h => h.same (made_step nx nd), by rw [paired_len hp]; exact hn, fun H' hw kp => k H' (made_same nx nd kp) hw⟩
variable {cdv : Value} {A : Around} {outer : List Env} {s : Shared} {H0 : Hp} {E : XK}
theorem st2 (T : Txt K mg) (hr : LRoom K cdv A s) : ∃ t, PS (LX P w K mg base cdv A outer s H0 E) (lb 2) t ∧ ∀ (D : Ends) (σ : L2.St) (H : Hp) (m : Addr) (ds : List RowD), σ[5]? = some (some (.ref m)) → PageAt K H m ds → (∀ d ∈ ds, RowOk d) → ds.length ≤ 1000 →
    (∀ H', Same H H' → D.nx σ H') → t D σ H := by
  have GP := (ok_Pi (P := P) (w := w) (base := base) T).mak T.m_Page T.g_Page
  have GE := (ok_Pe (P := P) (w := w) (base := base) T).raw
  have GR := (ok_Pr (P := P) (w := w) (base := base) T).raw
  have GS := (ok_Ps (P := P) (w := w) (base := base) T).raw
  refine ⟨_, ps_if (PW.pt (pw_or (pt_cmpR (op_neO (E := C8.E0) T.i_Page.ne T.o_Page_eq.at_ T.o_Page_eq.fn T.i_Page.cm GE hr L2.pass0)
      (ClX.pe_cmeth (E := C8.E0) (pe_glob (v := .ref (cP K)) (by rfl) T.g_Page rfl) T.r_Page.rd T.r_Page.me GR (hr.mono (by decide)) L2.pass0 (pa_cons (pe_callTy (call_strO (E := C8.E0) T.o_Page_str.at_ T.o_Page_str.fn GS (hr.mono (by decide)) L2.pass0) (by rfl) T.f_str boot_str (pa_cons (pv 5) pa_nil)) pa_nil))
      (pv 5) (nomark _))
    (pw_or1 (pt_cmpR (op_neO (E := C8.E0) T.i_Page.ne T.o_Page_eq.at_ T.o_Page_eq.fn T.i_Page.cm GE hr L2.pass0) (C8.pe_mk GP hr (by decide) (by rfl) (pa_cons (pe_fld (pv 5) rfl) pa_nil)) (pv 5) (nomark _)))))
    (pss_one (ps_ret pe_bl)) pss_nil, ?_⟩
  intro D σ H m ds h5 hP ok hn k
  obtain ⟨dx, t1, t2, hm0, ht, hd⟩ := id hP
  refine ⟨rfl, _, h5, m, dx, _, rfl, hm0, m, ds, rfl, hP, ok, hn, fun H1 s1 => ⟨_, rfl, ?_⟩⟩
  refine ⟨_, ds, rfl, ok, hn, fun q H2 s2 hq => ?_⟩
  refine ⟨_, h5, go_neP hq (hP.same (s1.trans s2)) ok hn fun H3 s3 => ⟨false, rfl, iteF ?_⟩⟩
  have s13 := (s1.trans s2).trans s3
  refine ⟨_, h5, m, cP K, dx, _, _, rfl, s13 _ _ hm0, T.c_Page, T.n_Page_rows, oneF_at _ _, ?_⟩
  intro q2 dx2 nx nd ne
  refine go_mkP (.inr (sqT_same s13 ht)) (paired_map hd fun r d h => h.same s13) hn nx nd fun H4 s4 hq2 => ⟨rfl, ?_⟩
  refine ⟨_, h5, go_neP hq2 (hP.same (s13.trans s4)) ok hn fun H5 s5 => ⟨false, rfl, iteF ?_⟩⟩
  exact k _ ((s13.trans s4).trans s5)
theorem st3 (T : Txt K mg) (hr : LRoom K cdv A s) : ∃ t, PS (LX P w K mg base cdv A outer s H0 E) (lb 3) t ∧ ∀ (D : Ends) (σ : L2.St) (H : Hp) (m : Addr) (ds : List RowD), σ[5]? = some (some (.ref m)) →
    (∀ x, ((wipe σ [6]).set 6 (some x))[6]? = some (some x)) → (∀ x, ((wipe σ [6]).set 6 (some x))[5]? = some (some (.ref m))) → (∀ x, wipe ((wipe σ [6]).set 6 (some x)) [6] = wipe σ [6]) → PageAt K H m ds → (∀ d ∈ ds, RowOk d) → ds.length ≤ 1000 →
    (∀ H', Same H H' → D.nx σ H') → t D σ H := by
  have GP := (ok_Pi (P := P) (w := w) (base := base) T).mak T.m_Page T.g_Page
  have GE := (ok_Pe (P := P) (w := w) (base := base) T).raw
  have GL := (ok_Pl (P := P) (w := w) (base := base) T).raw
  have GG := (ok_Pg (P := P) (w := w) (base := base) T).raw
  refine ⟨_, ps_if (pt_cmpR (op_neO (E := C8.E0) T.i_Page.ne T.o_Page_eq.at_ T.o_Page_eq.fn T.i_Page.cm GE hr L2.pass0)
      (C8.pe_mk GP hr (by decide) (by rfl) (pa_cons (pe_lc (own := [("_law_at", 6)]) (g := gName 6) (tt := tYes) (te := tOp (rIxO (cP K) (spPGet K) C8.E0) (tVar 5) (tVar 6)) rfl sc_la.nd (pi_range1 (by rfl) T.f_range (pa_cons (pe_callB (call_lenO (E := C8.E0) T.o_Page_len.at_ T.o_Page_len.fn GL (hr.mono (by decide)) L2.pass0) (by rfl) T.f_len boot_len (pa_cons (pv 5) pa_nil)) pa_nil))
        (blkOk_by (N := LN) (sc := defScope s_law) (by decide +kernel)) (fun _ _ _ _ _ => pg_name (i := 6) sc_la.nd rfl (Or.inl rfl)) (fun _ _ _ _ _ => pts_nil)
        (fun _ _ _ _ _ => pe_ixO (E := C8.E0) T.o_Page_getitem.at_ T.o_Page_getitem.fi T.o_Page_getitem.fn GG (hr.mono (by decide)) L2.pass0 (pv 5) (pv 6))) pa_nil))
      (pv 5) (nomark _))
    (pss_one (ps_ret pe_bl)) pss_nil, ?_⟩
  intro D σ H m ds h5 a0 a1 a3 hP ok hn k
  have hz : sizeLine = 16777216 := by decide
  obtain ⟨dx, t1, t2, hm0, ht, hd⟩ := id hP
  refine ⟨_, h5, m, dx, _, rfl, hm0, m, ds, rfl, hP, fun H1 s1 => ⟨_, rfl, by omega, by omega, ?_⟩⟩
  refine ⟨_, rfl, by omega, by omega, fun F hN => ?_⟩
  refine lc_range (fun i H' => Same H1 H' ∧ ∃ rs, H' F = some (.lst (ad rs)) ∧ Paired (RowAt K H') rs (ds.take i)) ⟨same_new hN, [], upd_same, .nil⟩ ?_ ?_
  · rintro i H' hi ⟨s2, rs, h1, h2⟩
    have hil : i < ds.length := by omega
    refine ⟨a3 _, lc_yes ⟨_, a1 _, _, a0 _, m, dx, _, rfl, s2 _ _ (s1 _ _ hm0), m, ds, i, ds[i], by rw [Int.zero_add], hP.same (s1.trans s2), List.getElem?_eq_getElem hil, fun r H2 s3 hr2 => ?_⟩⟩
    have h1' := s3 _ _ h1
    refine ⟨_, h1', ?_, same_chg (s2.trans s3) hN, rs ++ [r], ?_, ?_⟩
    · rw [ad_len, paired_len h2, List.length_take]
      omega
    · rw [upd_same, ← ad_app] <;> rfl
    · rw [take_snoc (List.getElem?_eq_getElem hil)]
      exact paired_append (paired_map h2 fun r d q => row_updL h1' (q.same s3)) (.cons (row_updL h1' hr2) .nil)
  · rintro H' ⟨s2, rs, h1, h2⟩
    rw [show (((ds.length : Nat) : Int)).toNat = ds.length from Int.toNat_natCast _, List.take_length] at h2
    have s12 := s1.trans s2
    intro q2 dx2 nx nd ne
    refine go_mkP (.inl (SqL.of h1)) h2 hn nx nd fun H4 s4 hq2 => ⟨rfl, ?_⟩
    refine ⟨_, h5, go_neP hq2 (hP.same (s12.trans s4)) ok hn fun H5 s5 => ⟨false, rfl, iteF ?_⟩⟩
    exact k _ ((s12.trans s4).trans s5)
end
end Hk

set_option Elab.async false
set_option linter.all false
set_option maxRecDepth 100000
set_option maxHeartbeats 4000000
namespace Hk
open PySem PySem.Spec PyProof.Rows L2
abbrev lp (i : Nat) : Stmt := (forB (lb 4)).getD i noS
theorem dintNF {a b : Int} (h : a = b) : V.bl (!decide (V.int a = V.int b)) = .bl false := by rw [decide_eq_true (by rw [h])] <;> rfl
section
variable {P : Program} {w : World} {K : PySem.W.Frag} {mg : Str → Option Value} {base : Heap}
variable {cdv : Value} {A : Around} {outer : List Env} {s : Shared} {H0 : Hp} {E : XK}
theorem st40 (T : Txt K mg) (hr : LRoom K cdv A s) : ∃ t, PS (LX P w K mg base cdv A outer s H0 E) (lp 0) t ∧ ∀ (D : Ends) (σ : L2.St) (H : Hp) (m : Addr) (ds : List RowD) (i : Nat), σ[5]? = some (some (.ref m)) → σ[6]? = some (some (.int (i : Int))) → PageAt K H m ds → ds.length ≤ 1000 →
    (∀ p q H', Same H H' → PageAt K H' p (ds.take i) → PageAt K H' q (ds.drop i) → D.nx ((σ.set 7 (some (.ref p))).set 8 (some (.ref q))) H') → t D σ H := by
  have GP := (ok_Pi (P := P) (w := w) (base := base) T).mak T.m_Page T.g_Page
  refine ⟨_, ps_par (i := 7) (j := 8) (by rfl) sc_la.nd rfl rfl (by decide) rfl rfl (pa_cons (C8.pe_mk GP hr (by decide) (by rfl) (pa_cons (pe_slice sl_tupA (pe_fld (pv 5) rfl) po_none (po_some (pv 6))) pa_nil)) (pa_cons (C8.pe_mk GP hr (by decide) (by rfl) (pa_cons (pe_slice sl_tupA (pe_fld (pv 5) rfl) (po_some (pv 6)) po_none) pa_nil)) pa_nil)) (by rfl), ?_⟩
  intro D σ H m ds i h5 h6 hP hn k
  obtain ⟨dx, t, rs, hm0, ht, hd⟩ := id hP
  refine ⟨_, h5, m, cP K, dx, _, _, rfl, hm0, T.c_Page, T.n_Page_rows, oneF_at _ _, _, h6, _, rfl, ?_⟩
  refine go_cutT ht fun u H1 s1 hu => ?_
  rw [cut_to, ad_take] at hu
  intro p dp nx nd ne
  refine go_mkP (.inr hu) (paired_take i (paired_map hd fun r d h => h.same s1)) (by rw [List.length_take]; omega) nx nd fun H2 s2 hp => ⟨rfl, ?_⟩
  have s12 := s1.trans s2
  refine ⟨_, h5, m, cP K, dx, _, _, rfl, s12 _ _ hm0, T.c_Page, T.n_Page_rows, oneF_at _ _, ?_⟩
  refine ⟨_, h6, _, rfl, ?_⟩
  dsimp only [tNoPart]
  refine go_cutT (sqT_same s12 ht) fun v H3 s3 hv => ?_
  rw [cut_from, ad_drop] at hv
  have s13 := s12.trans s3
  intro q dq nx nd ne
  refine go_mkP (.inr hv) (paired_drop i (paired_map hd fun r d h => h.same s13)) (by rw [List.length_drop]; omega) nx nd fun H4 s4 hq => ⟨rfl, ?_⟩
  exact ⟨_, _, rfl, k p q H4 (s13.trans s4) (hp.same (s3.trans s4)) hq⟩
theorem st41 (T : Txt K mg) (hr : LRoom K cdv A s) : ∃ t, PS (LX P w K mg base cdv A outer s H0 E) (lp 1) t ∧ ∀ (D : Ends) (σ : L2.St) (H : Hp) (m p q : Addr) (ds : List RowD) (i : Nat), σ[5]? = some (some (.ref m)) → σ[7]? = some (some (.ref p)) → σ[8]? = some (some (.ref q)) →
    PageAt K H m ds → (∀ d ∈ ds, RowOk d) → ds.length ≤ 1000 → PageAt K H p (ds.take i) → PageAt K H q (ds.drop i) → (∀ H', Same H H' → D.nx σ H') → t D σ H := by
  have GE := (ok_Pe (P := P) (w := w) (base := base) T).raw
  have GA := (ok_Pa (P := P) (w := w) (base := base) T).raw
  have GL := (ok_Pl (P := P) (w := w) (base := base) T).raw
  refine ⟨_, ps_if (PW.pt (pw_or (pt_cmpR (op_neO (E := C8.E0) T.i_Page.ne T.o_Page_eq.at_ T.o_Page_eq.fn T.i_Page.cm GE hr L2.pass0)
      (pe_op (op_addO (E := C8.E0) T.i_Page.sf T.a_Page T.o_Page_add.fn GA (hr.mono (by decide)) L2.pass0) (pv 7) (pv 8)) (pv 5) (nomark _))
    (pw_or1 (pt_cmpR op_ne (pe_op op_add (pe_callB (call_lenO (E := C8.E0) T.o_Page_len.at_ T.o_Page_len.fn GL (hr.mono (by decide)) L2.pass0) (by rfl) T.f_len boot_len (pa_cons (pv 7) pa_nil)) (pe_callB (call_lenO (E := C8.E0) T.o_Page_len.at_ T.o_Page_len.fn GL (hr.mono (by decide)) L2.pass0) (by rfl) T.f_len boot_len (pa_cons (pv 8) pa_nil)))
      (pe_callB (call_lenO (E := C8.E0) T.o_Page_len.at_ T.o_Page_len.fn GL (hr.mono (by decide)) L2.pass0) (by rfl) T.f_len boot_len (pa_cons (pv 5) pa_nil)) (nomark _)))))
    (pss_one (ps_ret pe_bl)) pss_nil, ?_⟩
  intro D σ H m p q ds i h5 h7 h8 hP ok hn hp hq k
  have hl1 : (ds.take i).length + (ds.drop i).length = ds.length := by
    rw [List.length_take, List.length_drop]
    omega
  refine ⟨_, h7, _, h8, go_addP hp hq (by rw [hl1]; exact hn) fun r H1 s1 hr2 => ?_⟩
  rw [List.take_append_drop] at hr2
  refine ⟨_, h5, go_neP hr2 (hP.same s1) ok hn fun H2 s2 => ⟨false, rfl, iteF ?_⟩⟩
  have s12 := s1.trans s2
  obtain ⟨dp, tp, rp, hp0, _⟩ := id hp
  obtain ⟨dq, tq, rq, hq0, _⟩ := id hq
  obtain ⟨dm, tm, rm, hm0, _⟩ := id hP
  refine ⟨_, h7, p, dp, _, rfl, s12 _ _ hp0, p, _, rfl, hp.same s12, fun H3 s3 => ⟨_, rfl, by omega, by omega, ?_⟩⟩
  have s13 := s12.trans s3
  refine ⟨_, h8, q, dq, _, rfl, s13 _ _ hq0, q, _, rfl, hq.same s13, fun H4 s4 => ⟨_, rfl, by omega, by omega, ?_⟩⟩
  have s14 := s13.trans s4
  refine ⟨_, _, rfl, rfl, _, h5, m, dm, _, rfl, s14 _ _ hm0, m, _, rfl, hP.same s14, fun H5 s5 => ⟨_, rfl, by omega, by omega, ?_⟩⟩
  refine ⟨rfl, false, dintNF (by omega), iteF ?_⟩
  exact k H5 (s14.trans s5)
theorem st42 (T : Txt K mg) (hr : LRoom K cdv A s) : ∃ t, PS (LX P w K mg base cdv A outer s H0 E) (lp 2) t ∧ ∀ (D : Ends) (σ : L2.St) (H : Hp) (m p : Addr) (ds : List RowD) (i : Nat), σ[5]? = some (some (.ref m)) → σ[6]? = some (some (.int (i : Int))) → σ[7]? = some (some (.ref p)) →
    PageAt K H m ds → (∀ d ∈ ds, RowOk d) → ds.length ≤ 1000 → PageAt K H p (ds.take i) → (∀ H', Same H H' → D.nx σ H') → t D σ H := by
  have GP := (ok_Pi (P := P) (w := w) (base := base) T).mak T.m_Page T.g_Page
  have GE := (ok_Pe (P := P) (w := w) (base := base) T).raw
  have GA := (ok_Pa (P := P) (w := w) (base := base) T).raw
  have GL := (ok_Pl (P := P) (w := w) (base := base) T).raw
  have GG := (ok_Pg (P := P) (w := w) (base := base) T).raw
  have GW := (ok_Pw (P := P) (w := w) (base := base) T).met T.c_Page T.h_Page_without
  have GRE := (ok_Re (P := P) (w := w) (base := base) T).raw
  have GRS := (ok_Rs (P := P) (w := w) (base := base) T).raw
  have GRR := (ok_Rr (P := P) (w := w) (base := base) T).raw
  refine ⟨_, ps_if (pt_cmpR op_lt (pv 6) (pe_callB (call_lenO (E := C8.E0) T.o_Page_len.at_ T.o_Page_len.fn GL (hr.mono (by decide)) L2.pass0) (by rfl) T.f_len boot_len (pa_cons (pv 5) pa_nil)) (nomark _))
    (pss_one (ps_if (PW.pt (pw_or (pt_cmpR (op_neO (E := C8.E0) T.i_Page.ne T.o_Page_eq.at_ T.o_Page_eq.fn T.i_Page.cm GE hr L2.pass0)
        (C8.pe_mt GW hr (by decide) (pv 5) (pa_cons (pv 6) pa_nil))
        (pe_op (op_addO (E := C8.E0) T.i_Page.sf T.a_Page T.o_Page_add.fn GA (hr.mono (by decide)) L2.pass0) (pv 7) (C8.pe_mk GP hr (by decide) (by rfl) (pa_cons (pe_slice sl_tupA (pe_fld (pv 5) rfl) (po_some (pe_op op_add (pv 6) pe_int)) po_none) pa_nil))) (nomark _))
      (pw_or1 (pt_cmpR (op_neO (E := C8.E0) T.i_Row.ne T.o_Row_eq.at_ T.o_Row_eq.fn T.i_Row.cm GRE (hr.mono (by decide)) L2.pass0)
        (ClX.pe_cmeth (E := C8.E0) (pe_glob (v := .ref (cR K)) (by rfl) T.g_Row rfl) T.r_Row.rd T.r_Row.me GRR (hr.mono (by decide)) L2.pass0 (pa_cons (pe_callTy (call_strO (E := C8.E0) T.o_Row_str.at_ T.o_Row_str.fn GRS (hr.mono (by decide)) L2.pass0) (by rfl) T.f_str boot_str
          (pa_cons (pe_ixO (E := C8.E0) T.o_Page_getitem.at_ T.o_Page_getitem.fi T.o_Page_getitem.fn GG (hr.mono (by decide)) L2.pass0 (pv 5) (pv 6)) pa_nil)) pa_nil))
        (pe_ixO (E := C8.E0) T.o_Page_getitem.at_ T.o_Page_getitem.fi T.o_Page_getitem.fn GG (hr.mono (by decide)) L2.pass0 (pv 5) (pv 6)) (nomark _)))))
      (pss_one (ps_ret pe_bl)) pss_nil)) pss_nil, ?_⟩
  intro D σ H m p ds i h5 h6 h7 hP ok hn hp k
  obtain ⟨dm, tm, rm, hm0, hmt, hmd⟩ := id hP
  refine ⟨_, h6, _, h5, m, dm, _, rfl, hm0, m, _, rfl, hP, fun H1 s1 => ⟨_, rfl, by omega, by omega, ?_⟩⟩
  refine ⟨_, _, rfl, rfl, _, rfl, ?_⟩
  by_cases hi : i < ds.length
  · have e : decide ((i : Int) < (ds.length : Int)) = true := decide_eq_true (by omega)
    rw [e]
    refine iteT ?_
    refine ⟨_, h5, m, dm, _, rfl, s1 _ _ hm0, oneF_no _ (by decide +kernel), _, h6, m, ds, i, rfl, hP.same s1, hi, hn, fun q H2 s2 hq => ?_⟩
    have s12 := s1.trans s2
    refine ⟨_, h7, _, h5, m, cP K, dm, _, _, rfl, s12 _ _ hm0, T.c_Page, T.n_Page_rows, oneF_at _ _, _, h6, _, _, rfl, rfl, _, rfl, ?_⟩
    dsimp only [tNoPart]
    refine go_cutT (sqT_same s12 hmt) fun v H3 s3 hv => ?_
    rw [show ((i : Int) + 1) = ((i + 1 : Nat) : Int) from by omega, cut_from, ad_drop] at hv
    have s13 := s12.trans s3
    intro z dz nx nd ne
    refine go_mkP (.inr hv) (paired_drop (i + 1) (paired_map hmd fun r d h => h.same s13)) (by rw [List.length_drop]; omega) nx nd fun H4 s4 hz => ⟨rfl, ?_⟩
    have s14 := s13.trans s4
    have hlen : (ds.take i).length + (ds.drop (i + 1)).length ≤ 1000 := by
      rw [List.length_take, List.length_drop]
      omega
    refine go_addP (hp.same s14) hz hlen fun y H5 s5 hy => ?_
    have s15 := s14.trans s5
    refine go_neP (hq.same ((s3.trans s4).trans s5)) hy (fun d hd => ?_) (by rw [List.length_append]; exact hlen) fun H6 s6 => ⟨false, rfl, iteF ?_⟩
    · rcases List.mem_append.mp hd with h | h
      · exact ok d (List.mem_of_mem_take h)
      · exact ok d (List.mem_of_mem_drop h)
    have s16 := s15.trans s6
    have hdi : ds[i]? = some ds[i] := List.getElem?_eq_getElem hi
    have okd := ok _ (List.mem_of_getElem? hdi)
    refine ⟨rfl, _, h5, _, h6, m, dm, _, rfl, s16 _ _ hm0, m, ds, i, _, rfl, hP.same s16, hdi, fun r H7 s7 hr1 => ?_⟩
    obtain ⟨dr, tr1, tr2, hr0, _⟩ := id hr1
    refine ⟨r, dr, _, rfl, hr0, r, _, rfl, hr1, okd, fun H8 s8 => ⟨_, rfl, ?_⟩⟩
    refine ⟨_, _, rfl, okd, fun q2 H9 s9 hq2 => ?_⟩
    have s19 := s16.trans ((s7.trans s8).trans s9)
    refine ⟨_, h5, _, h6, m, dm, _, rfl, s19 _ _ hm0, m, ds, i, _, rfl, hP.same s19, hdi, fun r2 HA sA hr2 => ?_⟩
    refine go_neR (hq2.same sA) hr2 okd fun HB sB => ⟨false, rfl, iteF ?_⟩
    exact k HB ((s19.trans sA).trans sB)
  · have e : decide ((i : Int) < (ds.length : Int)) = false := decide_eq_false (by omega)
    rw [e]
    exact iteF (k H1 s1)
end
end Hk

set_option Elab.async false
set_option linter.all false
set_option maxRecDepth 100000
set_option maxHeartbeats 4000000
namespace Hk
open PySem PySem.Spec PyProof.Rows L2
abbrev lw (i : Nat) : Stmt := (forB (lb 8)).getD i noS
def goods : List Str := ["serve", "refuse", "click like", "other zzzz", "answer 1", "list 0", "answer 12", "list 40"]
theorem goods_len : ∀ e ∈ goods, e.length ≤ 20 := by decide +kernel
section
variable {P : Program} {w : World} {K : PySem.W.Frag} {mg : Str → Option Value} {base : Heap}
theorem go_mkW {H : Hp} {a : Addr} {es : List Str} {E : XK} (hq : Sq K H a (tx es)) (he : ∀ e ∈ es, EvG e) {x dx : Addr} (nx : H x = none) (nd : H dx = none) {R : VK} (k : ∀ H', Same H H' → WovAt K H' x es → R .non H') :
    spWInit K (.ref x :: ([.ref a] ++ [])) (upd (upd H dx (.own x)) x (.ins (cW K) dx [])) R E :=
  ⟨x, dx, a, es, rfl, upd_same, hq.same (made_step nx nd), he, fun H' hw kp => k H' (made_same nx nd kp) hw⟩
variable {cdv : Value} {A : Around} {outer : List Env} {s : Shared} {H0 : Hp} {E : XK}
theorem st5 (T : Txt K mg) (hr : LRoom K cdv A s) : ∃ t, PS (LX P w K mg base cdv A outer s H0 E) (lb 5) t ∧ ∀ (D : Ends) (σ : L2.St) (H : Hp) (d c g : Addr), σ[1]? = some (some (.ref d)) →
    (∀ x, ((wipe σ [13]).set 13 (some x))[1]? = some (some (.ref d))) → (∀ x, ((wipe σ [13]).set 13 (some x))[2]? = some (some (.ref g))) → (∀ x, wipe ((wipe σ [13]).set 13 (some x)) [13] = wipe σ [13]) →
    Dl H d c → H g = some (.lst (tx goods)) → g ≠ d → g ≠ c →
    (∀ l es H', Mv d c H H' → Dl H' d c → H' l = some (.lst (tx es)) → es.length ≤ 12 → (∀ e ∈ es, e ∈ goods) → D.nx (σ.set 9 (some (.ref l))) H') → t D σ H := by
  have GD := (ok_dr (P := P) (w := w) (base := base) T).cal T.g__law_draw
  have GF := (ok_fe (P := P) (w := w) (base := base) T).cal T.g__law_few_clicks
  refine ⟨_, ps_set (i := 9) sc_la.nd rfl (Or.inl rfl) (C8.pe_c GF hr (by decide) (by rfl) (pa_cons (pe_lc (own := [("_law_event", 13)]) (g := gName 13) (tt := tYes) (te := tOp (rIxL K) (tVar 2) (tCall spDraw [] C8.E0 (tCons (tVar 1) (tCons (tC (.int 8)) tNil)))) rfl sc_la.nd (pi_range1 (by rfl) T.f_range (pa_cons (C8.pe_c GD hr (by decide) (by rfl) (pa_cons (pv 1) (pa_cons pe_int pa_nil))) pa_nil))
        (blkOk_by (N := LN) (sc := defScope s_law) (by decide +kernel)) (fun _ _ _ _ _ => pg_name (i := 13) sc_la.nd rfl (Or.inl rfl)) (fun _ _ _ _ _ => pts_nil)
        (fun _ _ _ _ _ => pe_ix (show IxR _ (rIxL K) from ix_list) (pv 2) (C8.pe_c GD hr (by decide) (by rfl) (pa_cons (pv 1) (pa_cons pe_int pa_nil))) (fun _ _ => rfl))) (pa_cons pe_int pa_nil))), ?_⟩
  intro D σ H d c g a0 a1 a2 a3 hD hg n1 n2 k
  have hz : sizeLine = 16777216 := by decide
  refine ⟨_, a0, d, c, 13, rfl, hD, by decide, by decide, fun j H1 hj m1 d1 => ?_⟩
  refine ⟨(j : Int), rfl, by omega, by omega, fun L hN => ?_⟩
  have nL := d1.ne hN
  have hg1 := m1 _ _ hg n1 n2
  refine lc_range (fun i H' => Mv d c H1 H' ∧ Dl H' d c ∧ ∃ es, H' L = some (.lst (tx es)) ∧ es.length ≤ i ∧ ∀ e ∈ es, e ∈ goods) ⟨Mv.of (same_new hN), d1.upd nL.1 nL.2, [], upd_same, Nat.le_refl _, by simp⟩ ?_ ?_
  · rintro i H' hi ⟨m2, d2, es, h1, h2, h3⟩
    have hg2 := m2 _ _ hg1 n1 n2
    refine ⟨a3 _, lc_yes ⟨_, a2 _, _, a1 _, d, c, 8, rfl, d2, by decide, by decide, fun q H2 hq m3 d3 => ?_⟩⟩
    have hq2 : q < goods.length := by
      show q < 8
      omega
    have hx : (tx goods)[q]? = some (.str goods[q]) := by
      unfold tx
      rw [List.getElem?_map, List.getElem?_eq_getElem hq2] <;> rfl
    refine ⟨g, tx goods, (q : Int), .str goods[q], rfl, rfl, SqL.of (m3 _ _ hg2 n1 n2), atI_nat hx, ?_⟩
    refine ⟨_, m3 _ _ h1 nL.1 nL.2, ?_, (m2.trans m3).chg hN, d3.upd nL.1 nL.2, es ++ [goods[q]], ?_, ?_, ?_⟩
    · rw [tx_len]; omega
    · rw [upd_same, ← tx_app] <;> rfl
    · rw [List.length_append]
      exact Nat.succ_le_succ h2
    · intro e he
      rcases List.mem_append.mp he with h | h
      · exact h3 e h
      · rw [List.mem_singleton.mp h]
        exact List.getElem_mem hq2
  · rintro H' ⟨m2, d2, es, h1, h2, h3⟩
    refine ⟨L, 8, es, rfl, SqL.of h1, by omega, fun e he => goods_len e (h3 e he), fun l fs H2 s2 hl0 hl hlen hfs => ?_⟩
    refine k l fs H2 ((m1.trans m2).trans (Mv.of s2)) (d2.same s2) hl (by omega) fun e he => ?_
    rcases hfs e he with h | h
    · rw [h]
      exact List.mem_cons_self ..
    · exact h3 e h
theorem st6 (T : Txt K mg) (hr : LRoom K cdv A s) : ∃ t, PS (LX P w K mg base cdv A outer s H0 E) (lb 6) t ∧ ∀ (D : Ends) (σ : L2.St) (H : Hp) (l : Addr) (es : List Str), σ[9]? = some (some (.ref l)) → H l = some (.lst (tx es)) → (∀ e ∈ es, EvG e) →
    (∀ p H', Same H H' → WovAt K H' p es → D.nx (σ.set 10 (some (.ref p))) H') → t D σ H := by
  have GW := (ok_Wi (P := P) (w := w) (base := base) T).mak T.m_Weaving T.g_Weaving
  refine ⟨_, ps_set (i := 10) sc_la.nd rfl (Or.inl rfl) (C8.pe_mk GW hr (by decide) (by rfl) (pa_cons (pv 9) pa_nil)), ?_⟩
  intro D σ H l es h9 hl he k
  refine ⟨_, h9, ?_⟩
  intro p dp nx nd ne
  exact go_mkW (.inl (SqL.of hl)) he nx nd fun H2 s2 hp => ⟨rfl, k p H2 s2 hp⟩
theorem st7 (T : Txt K mg) (hr : LRoom K cdv A s) : ∃ t, PS (LX P w K mg base cdv A outer s H0 E) (lb 7) t ∧ ∀ (D : Ends) (σ : L2.St) (H : Hp) (p : Addr) (es : List Str), σ[10]? = some (some (.ref p)) → WovAt K H p es → (∀ e ∈ es, EvG e) → es.length ≤ 1000 →
    (∀ H', Same H H' → D.nx σ H') → t D σ H := by
  have GW := (ok_Wi (P := P) (w := w) (base := base) T).mak T.m_Weaving T.g_Weaving
  have GE := (ok_We (P := P) (w := w) (base := base) T).raw
  have GR := (ok_Wr (P := P) (w := w) (base := base) T).raw
  have GS := (ok_Ws (P := P) (w := w) (base := base) T).raw
  refine ⟨_, ps_if (PW.pt (pw_or (pt_cmpR (op_neO (E := C8.E0) T.i_Weaving.ne T.o_Weaving_eq.at_ T.o_Weaving_eq.fn T.i_Weaving.cm GE (hr.mono (by decide)) L2.pass0)
      (ClX.pe_cmeth (E := C8.E0) (pe_glob (v := .ref (cW K)) (by rfl) T.g_Weaving rfl) T.r_Weaving.rd T.r_Weaving.me GR (hr.mono (by decide)) L2.pass0 (pa_cons (pe_callTy (call_strO (E := C8.E0) T.o_Weaving_str.at_ T.o_Weaving_str.fn GS (hr.mono (by decide)) L2.pass0) (by rfl) T.f_str boot_str (pa_cons (pv 10) pa_nil)) pa_nil))
      (pv 10) (nomark _))
    (pw_or1 (pt_cmpR (op_neO (E := C8.E0) T.i_Weaving.ne T.o_Weaving_eq.at_ T.o_Weaving_eq.fn T.i_Weaving.cm GE (hr.mono (by decide)) L2.pass0) (C8.pe_mk GW hr (by decide) (by rfl) (pa_cons (pe_fld (pv 10) rfl) pa_nil)) (pv 10) (nomark _)))))
    (pss_one (ps_ret pe_bl)) pss_nil, ?_⟩
  intro D σ H p es h10 hp he hn k
  obtain ⟨dx, t1, hp0, ht⟩ := id hp
  refine ⟨rfl, _, h10, p, dx, _, rfl, hp0, p, es, rfl, hp, he, hn, fun H1 s1 => ⟨_, rfl, ?_⟩⟩
  refine ⟨_, es, rfl, he, hn, fun q H2 s2 hq => ?_⟩
  refine ⟨_, h10, go_neW hq (hp.same (s1.trans s2)) he fun H3 s3 => ⟨false, rfl, iteF ?_⟩⟩
  have s13 := (s1.trans s2).trans s3
  refine ⟨_, h10, p, cW K, dx, _, _, rfl, s13 _ _ hp0, T.c_Weaving, T.n_Weaving_events, oneF_at _ _, ?_⟩
  intro q2 dx2 nx nd ne
  refine go_mkW (.inr (sqT_same s13 ht)) he nx nd fun H4 s4 hq2 => ⟨rfl, ?_⟩
  refine ⟨_, h10, go_neW hq2 (hp.same (s13.trans s4)) he fun H5 s5 => ⟨false, rfl, iteF ?_⟩⟩
  exact k _ ((s13.trans s4).trans s5)
theorem st80 (T : Txt K mg) (hr : LRoom K cdv A s) : ∃ t, PS (LX P w K mg base cdv A outer s H0 E) (lw 0) t ∧ ∀ (D : Ends) (σ : L2.St) (H : Hp) (l p : Addr) (es : List Str) (i : Nat), σ[9]? = some (some (.ref l)) → σ[10]? = some (some (.ref p)) → σ[11]? = some (some (.int (i : Int))) → H l = some (.lst (tx es)) → WovAt K H p es → (∀ e ∈ es, EvG e) → es.length ≤ 1000 →
    (∀ H', Same H H' → D.nx σ H') → t D σ H := by
  have GW := (ok_Wi (P := P) (w := w) (base := base) T).mak T.m_Weaving T.g_Weaving
  have GE := (ok_We (P := P) (w := w) (base := base) T).raw
  have GA := (ok_Wa (P := P) (w := w) (base := base) T).raw
  have GU := (ok_Wu (P := P) (w := w) (base := base) T).met T.c_Weaving T.h_Weaving_upto
  refine ⟨_, ps_if (PW.pt (pw_or (pt_cmpR (op_neO (E := C8.E0) T.i_Weaving.ne T.o_Weaving_eq.at_ T.o_Weaving_eq.fn T.i_Weaving.cm GE (hr.mono (by decide)) L2.pass0)
      (pe_op (op_addO (E := C8.E0) T.i_Weaving.sf T.a_Weaving T.o_Weaving_add.fn GA (hr.mono (by decide)) L2.pass0) (C8.pe_mt GU hr (by decide) (pv 10) (pa_cons (pv 11) pa_nil)) (C8.pe_mk GW hr (by decide) (by rfl) (pa_cons (pe_slice sl_list (pv 9) (po_some (pv 11)) po_none) pa_nil)))
      (pv 10) (nomark _))
    (pw_or1 (pt_cmpR (op_neO (E := C8.E0) T.i_Weaving.ne T.o_Weaving_eq.at_ T.o_Weaving_eq.fn T.i_Weaving.cm GE (hr.mono (by decide)) L2.pass0)
      (C8.pe_mt GU hr (by decide) (C8.pe_mt GU hr (by decide) (pv 10) (pa_cons (pv 11) pa_nil)) (pa_cons (pv 11) pa_nil)) (C8.pe_mt GU hr (by decide) (pv 10) (pa_cons (pv 11) pa_nil)) (nomark _)))))
    (pss_one (ps_ret pe_bl)) pss_nil, ?_⟩
  intro D σ H l p es i h9 h10 h11 hl hp he hn k
  obtain ⟨dx, t1, hp0, ht⟩ := id hp
  have het : ∀ e ∈ es.take i, EvG e := fun e h => he e (List.mem_of_mem_take h)
  have hed : ∀ e ∈ es.drop i, EvG e := fun e h => he e (List.mem_of_mem_drop h)
  refine ⟨_, h10, p, dx, _, rfl, hp0, oneF_no _ (by decide +kernel), _, h11, p, es, i, rfl, hp, he, fun q H1 s1 hq => ?_⟩
  refine ⟨_, h9, _, h11, _, rfl, ?_⟩
  dsimp only [tNoPart]
  refine ⟨l, _, rfl, SqL.of (s1 _ _ hl), fun u hu => ?_⟩
  have s2 := s1.trans (same_new (o := .lst (cutV (tx es) (some (i : Int)) none)) hu)
  have hu2 : upd H1 u (.lst (cutV (tx es) (some (i : Int)) none)) u = some (.lst (tx (es.drop i))) := by
    rw [upd_same, cut_from, tx_drop]
  have hq2 := hq.same (same_new (o := .lst (cutV (tx es) (some (i : Int)) none)) hu)
  generalize upd H1 u (.lst (cutV (tx es) (some (i : Int)) none)) = H2 at s2 hu2 hq2
  intro x dx2 nx nd ne
  refine go_mkW (.inl (SqL.of hu2)) hed nx nd fun H3 s3 hx => ⟨rfl, ?_⟩
  have s13 := s2.trans s3
  refine go_addW (hq2.same s3) hx het hed (by rw [List.length_take, List.length_drop]; omega) fun y H4 s4 hy => ?_
  rw [List.take_append_drop] at hy
  have s14 := s13.trans s4
  refine ⟨_, h10, go_neW hy (hp.same s14) he fun H5 s5 => ⟨false, rfl, iteF ?_⟩⟩
  have s15 := s14.trans s5
  refine ⟨_, h10, p, dx, _, rfl, s15 _ _ hp0, oneF_no _ (by decide +kernel), _, h11, p, es, i, rfl, hp.same s15, he, fun a H6 s6 ha => ?_⟩
  obtain ⟨da, ta, ha0, _⟩ := id ha
  refine ⟨a, da, _, rfl, ha0, oneF_no _ (by decide +kernel), _, h11, a, es.take i, i, rfl, ha, het, fun b H7 s7 hb => ?_⟩
  rw [List.take_take, Nat.min_self] at hb
  have s17 := (s15.trans s6).trans s7
  refine ⟨_, h10, p, dx, _, rfl, s17 _ _ hp0, oneF_no _ (by decide +kernel), _, h11, p, es, i, rfl, hp.same s17, he, fun c H8 s8 hc => ?_⟩
  refine go_neW (hb.same s8) hc het fun H9 s9 => ⟨false, rfl, iteF ?_⟩
  exact k H9 ((s17.trans s8).trans s9)
theorem st81 (T : Txt K mg) (hr : LRoom K cdv A s) : ∃ t, PS (LX P w K mg base cdv A outer s H0 E) (lw 1) t ∧ ∀ (D : Ends) (σ : L2.St) (H : Hp) (p : Addr) (es : List Str) (i : Nat), σ[10]? = some (some (.ref p)) → σ[11]? = some (some (.int (i : Int))) → WovAt K H p es → (∀ e ∈ es, EvG e) → es.length ≤ 1000 →
    (∀ H', Same H H' → D.nx σ H') → t D σ H := by
  have GE := (ok_We (P := P) (w := w) (base := base) T).raw
  have GU := (ok_Wu (P := P) (w := w) (base := base) T).met T.c_Weaving T.h_Weaving_upto
  refine ⟨_, ps_if (pt_cmpR (op_neO (E := C8.E0) T.i_Weaving.ne T.o_Weaving_eq.at_ T.o_Weaving_eq.fn T.i_Weaving.cm GE (hr.mono (by decide)) L2.pass0)
      (C8.pe_mt GU hr (by decide) (C8.pe_mt GU hr (by decide) (pv 10) (pa_cons (pv 11) pa_nil)) (pa_cons pe_int pa_nil)) (C8.pe_mt GU hr (by decide) (pv 10) (pa_cons (pe_callB (call_min2 (by rfl)) (by rfl) T.f_min boot_min (pa_cons pe_int (pa_cons (pv 11) pa_nil))) pa_nil)) (nomark _))
    (pss_one (ps_ret pe_bl)) pss_nil, ?_⟩
  intro D σ H p es i h10 h11 hp he hn k
  obtain ⟨dx, t1, hp0, ht⟩ := id hp
  have het : ∀ e ∈ es.take i, EvG e := fun e h => he e (List.mem_of_mem_take h)
  refine ⟨_, h10, p, dx, _, rfl, hp0, oneF_no _ (by decide +kernel), _, h11, p, es, i, rfl, hp, he, fun q H1 s1 hq => ?_⟩
  obtain ⟨dq, tq, hq0, _⟩ := id hq
  refine ⟨q, dq, _, rfl, hq0, oneF_no _ (by decide +kernel), q, es.take i, 3, rfl, hq, het, fun r H2 s2 hr2 => ?_⟩
  rw [List.take_take] at hr2
  have s12 := s1.trans s2
  have e3 : (if (i : Int) < 3 then (i : Int) else 3) = ((min 3 i : Nat) : Int) := by
    split <;> omega
  refine ⟨_, h10, p, dx, _, rfl, s12 _ _ hp0, oneF_no _ (by decide +kernel), _, h11, _, _, rfl, p, es, min 3 i, by rw [← e3] <;> rfl, hp.same s12, he, fun c H3 s3 hc => ?_⟩
  refine go_neW (hr2.same s3) hc (fun e h => he e (List.mem_of_mem_take h)) fun H4 s4 => ⟨false, rfl, iteF ?_⟩
  exact k H4 ((s12.trans s3).trans s4)
end
end Hk

set_option Elab.async false
set_option linter.all false
set_option maxRecDepth 100000
set_option maxHeartbeats 4000000
namespace Hk
open PySem PySem.Spec PyProof.Rows L2
/-! ### the law's events -/
theorem evt_ok : ∀ e ∈ goods, 59 ∉ TL.tl e ∧ 1 ≤ e.length ∧ e.length ≤ 20 ∧ PyData.canLay0 (.str e) = true := by decide +kernel
theorem nm_ok {v : Str} (h : v ∈ (["like", "zzzz"] : List Str)) : NameOk v := by
  have q : ∀ v ∈ (["like", "zzzz"] : List Str), 1 ≤ v.length ∧ v.length ≤ 4 ∧ v ∉ (["no", "yes", "do", "if", "and", "not", "then"] : List Str) ∧ ∀ c ∈ v.cps.toList, c ∈ ("abcdefghijklmnopqrstuvwxyz" : Str).cps.toList := by decide +kernel
  obtain ⟨h1, h2, h3, h4⟩ := q v h
  exact ⟨h1, h2, h3, h4⟩
theorem dc_ok {v : Str} (h : v ∈ (["1", "0", "12", "40"] : List Str)) : DecOk v := by
  have q : ∀ v ∈ (["1", "0", "12", "40"] : List Str), v ≠ "" ∧ v.length ≤ 4 ∧ (∀ c ∈ v.cps.toList, c ∈ ("0123456789" : Str).cps.toList) ∧ (v = "0" ∨ (v.cps.toList[0]?.any fun c => decide ((⟨#[c]⟩ : Str) ≠ "0")) = true) := by decide +kernel
  obtain ⟨h1, h2, h3, h4⟩ := q v h
  refine ⟨h1, h2, h3, h4.imp id fun z => ?_⟩
  cases e : v.cps.toList[0]? with
  | none => rw [e] at z; cases z
  | some c =>
    rw [e] at z
    exact ⟨c, rfl, of_decide_eq_true z⟩
theorem ev_ok : ∀ e ∈ goods, EvOk e := by
  intro e h
  have q : e = "serve" ∨ e = "refuse" ∨ e = "click like" ∨ e = "other zzzz" ∨ e = "answer 1" ∨ e = "list 0" ∨ e = "answer 12" ∨ e = "list 40" := by
    unfold goods at h
    simpa only [List.mem_cons, List.not_mem_nil, or_false] using h
  rcases q with rfl | rfl | rfl | rfl | rfl | rfl | rfl | rfl
  · exact .word ("" : Str) ("" : Str) (by decide +kernel) (by decide +kernel)
  · exact .word ("" : Str) ("" : Str) (by decide +kernel) (by decide +kernel)
  · exact .name ("click" : Str) (" " : Str) ("like" : Str) (by decide +kernel) (by decide +kernel) (by decide +kernel) (nm_ok (by decide +kernel))
  · exact .name ("other" : Str) (" " : Str) ("zzzz" : Str) (by decide +kernel) (by decide +kernel) (by decide +kernel) (nm_ok (by decide +kernel))
  · exact .num ("answer" : Str) (" " : Str) ("1" : Str) 1 (by decide +kernel) (by decide +kernel) (by decide +kernel) (by decide +kernel) (dc_ok (by decide +kernel)) (by decide +kernel) (by decide +kernel)
  · exact .num ("list" : Str) (" " : Str) ("0" : Str) 0 (by decide +kernel) (by decide +kernel) (by decide +kernel) (by decide +kernel) (dc_ok (by decide +kernel)) (by decide +kernel) (by decide +kernel)
  · exact .num ("answer" : Str) (" " : Str) ("12" : Str) 12 (by decide +kernel) (by decide +kernel) (by decide +kernel) (by decide +kernel) (dc_ok (by decide +kernel)) (by decide +kernel) (by decide +kernel)
  · exact .num ("list" : Str) (" " : Str) ("40" : Str) 40 (by decide +kernel) (by decide +kernel) (by decide +kernel) (by decide +kernel) (dc_ok (by decide +kernel)) (by decide +kernel) (by decide +kernel)
theorem goods_ok : ∀ e ∈ goods, EvG e := fun e h => by
  obtain ⟨h1, h2, h3, h4⟩ := evt_ok e h
  exact ⟨ev_ok e h, ⟨h1, h2, h3⟩, h4⟩
section
variable {P : Program} {w : World} {K : PySem.W.Frag} {mg : Str → Option Value} {base : Heap}
def spLaw (K : PySem.W.Frag) : Sp := fun vs H Q _ => ∃ (a : Addr) (ns : List Int), vs = [.ref a] ∧ SqL K H a (ins ns) ∧ ns.length ≤ 63 ∧ ∀ H', Q (.bl true) H'
theorem fn_mk {x qual : Str} {st : Stmt} {dvs : List V} {f : Addr} {fd : FuncData} {N ps : List Str} {k : Nat} {sp : Sp} (F : FunD K x qual (defArgs st) (defBody st) (defScope st) dvs [] f fd) (S : FnScope N ps (defScope st))
    (len : ∀ vs H Q E, sp vs H Q E → vs.length = ps.length)
    (hbody : ∀ (cdv : Value) (A : Around) (outer : List Env) (s : Shared) (H : Hp) (vs : List V) (Q : VK) (E : XK), Room k (A.deeper (envOfC qual (defScope st) s.heap.objs.size f cdv)) → sp vs H Q E →
      ∃ t, PSs (cxOf L2.CX0 P w K mg base N qual (defScope st) f cdv A outer s H E).nox (defBody st) t ∧ t { nx := fun _ H' => Q .non H', rt := Q } (L2.start N vs) H) : FnOk P w K mg base L2.CX0 (k + 1) f fd ps sp :=
  F.ok S len fun cdv A outer s H vs Q E hr h => by
    obtain ⟨t, h1, h2⟩ := hbody cdv A outer s H vs Q E hr h
    exact ⟨t, h1.nox, h2⟩
theorem ok_law (T : Txt K mg) {fd : FuncData} (F : FunD K "law" "law" (defArgs s_law) (defBody s_law) (defScope s_law) [] [] (He.ga K "law") fd) : FnOk P w K mg base L2.CX0 9 (He.ga K "law") fd ["_law_script"] (spLaw K) := by
  have GDe := (ok_de (P := P) (w := w) (base := base) T).cal T.g__law_deal
  have GL := (ok_Pl (P := P) (w := w) (base := base) T).raw
  refine fn_mk F sc_la (fun vs H Q E h => ?_) (fun cdv A outer s H vs Q E hr h => ?_)
  · obtain ⟨a, ns, rfl, _⟩ := h
    rfl
  · obtain ⟨a, ns, rfl, hS, hl, k⟩ := h
    obtain ⟨t0, p0, h0⟩ := st0 (P := P) (w := w) (base := base) (outer := outer) (H0 := H) (E := E) T hr
    obtain ⟨t1, p1, h1⟩ := st1 (P := P) (w := w) (base := base) (outer := outer) (H0 := H) (E := E) T hr
    obtain ⟨t2, p2, h2⟩ := st2 (P := P) (w := w) (base := base) (outer := outer) (H0 := H) (E := E) T hr
    obtain ⟨t3, p3, h3⟩ := st3 (P := P) (w := w) (base := base) (outer := outer) (H0 := H) (E := E) T hr
    obtain ⟨t40, p40, h40⟩ := st40 (P := P) (w := w) (base := base) (outer := outer) (H0 := H) (E := E) T hr
    obtain ⟨t41, p41, h41⟩ := st41 (P := P) (w := w) (base := base) (outer := outer) (H0 := H) (E := E) T hr
    obtain ⟨t42, p42, h42⟩ := st42 (P := P) (w := w) (base := base) (outer := outer) (H0 := H) (E := E) T hr
    obtain ⟨t5, p5, h5⟩ := st5 (P := P) (w := w) (base := base) (outer := outer) (H0 := H) (E := E) T hr
    obtain ⟨t6, p6, h6⟩ := st6 (P := P) (w := w) (base := base) (outer := outer) (H0 := H) (E := E) T hr
    obtain ⟨t7, p7, h7⟩ := st7 (P := P) (w := w) (base := base) (outer := outer) (H0 := H) (E := E) T hr
    obtain ⟨t80, p80, h80⟩ := st80 (P := P) (w := w) (base := base) (outer := outer) (H0 := H) (E := E) T hr
    obtain ⟨t81, p81, h81⟩ := st81 (P := P) (w := w) (base := base) (outer := outer) (H0 := H) (E := E) T hr
    refine ⟨_, pss_cons (ps_set (i := 1) sc_la.nd rfl (Or.inr rfl) (C8.pe_c GDe hr (by decide) (by rfl) (pa_cons (pv 0) (pa_cons pe_int pa_nil))))
      (pss_cons (ps_set (i := 2) sc_la.nd rfl (Or.inr rfl) (pe_lst (pa_cons pe_str (pa_cons pe_str (pa_cons pe_str (pa_cons pe_str (pa_cons pe_str (pa_cons pe_str (pa_cons pe_str (pa_cons pe_str pa_nil))))))))))
      (pss_cons (ps_for PassesOwn.never rfl (pi_range1 (by rfl) T.f_range (pa_cons pe_int pa_nil)) (pg_name (i := 3) sc_la.nd rfl (Or.inl rfl))
        (pss_cons p0 (pss_cons p1 (pss_cons p2 (pss_cons p3
        (pss_cons (ps_for PassesOwn.never rfl (pi_range1 (by rfl) T.f_range (pa_cons (pe_op op_add (pe_callB (call_lenO (E := C8.E0) T.o_Page_len.at_ T.o_Page_len.fn GL (hr.mono (by decide)) L2.pass0) (by rfl) T.f_len boot_len (pa_cons (pv 5) pa_nil)) pe_int) pa_nil)) (pg_name (i := 6) sc_la.nd rfl (Or.inl rfl))
          (pss_cons p40 (pss_cons p41 (pss_one p42))))
        (pss_cons p5 (pss_cons p6 (pss_cons p7
        (pss_one (ps_for PassesOwn.never rfl (pi_range1 (by rfl) T.f_range (pa_cons (pe_op op_add (pe_callB call_lenSq (by rfl) T.f_len boot_len (pa_cons (pv 9) pa_nil)) pe_int) pa_nil)) (pg_name (i := 11) sc_la.nd rfl (Or.inl rfl))
          (pss_cons p80 (pss_one p81)))))))))))))
      (pss_one (ps_ret pe_bl)))), ?_⟩
    refine ⟨_, rfl, a, ns, rfl, hS, hl, fun d c H1 s1 d1 => ?_⟩
    refine ⟨by decide, fun g hg => ?_⟩
    have ng := d1.ne hg
    refine ⟨4, rfl, by decide, by decide, ?_⟩
    refine for_range (fun i σ H' => ∃ u3 u4 u5 u6 u7 u8 u9 u10 u11 u12 u13, σ = [some (.ref a), some (.ref d), some (.ref g), u3, u4, u5, u6, u7, u8, u9, u10, u11, u12, u13] ∧ Dl H' d c ∧ H' g = some (.lst (tx goods))) ⟨_, _, _, _, _, _, _, _, _, _, _, rfl, d1.same (same_new hg), upd_same⟩ ?_ ?_
    · rintro i σ H2 hi ⟨u3, u4, u5, u6, u7, u8, u9, u10, u11, u12, u13, rfl, d2, g2⟩
      refine h0 _ _ _ d c rfl (fun _ => rfl) (fun _ => rfl) d2 fun L ts ds H3 m3 d3 hL hn hp => ?_
      have g3 := m3 _ _ g2 ng.1 ng.2
      refine h1 _ _ _ L ts ds rfl (fun _ => rfl) (fun _ => rfl) hL hn hp fun m H4 s4 hP => ?_
      have ok : ∀ r ∈ ds, RowOk r := paired_ok (fun t r ⟨_, _, q⟩ => q.2.2.2) hp
      have hn2 : ds.length ≤ 1000 := by omega
      refine h2 _ _ _ m ds rfl hP ok hn2 fun H5 s5 => ?_
      refine h3 _ _ _ m ds rfl (fun _ => rfl) (fun _ => rfl) (fun _ => rfl) (hP.same s5) ok hn2 fun H6 s6 => ?_
      have hP6 := hP.same (s5.trans s6)
      have s36 := (s4.trans s5).trans s6
      obtain ⟨dm, tm, rm, hm0, _⟩ := id hP6
      refine ⟨_, rfl, m, dm, _, rfl, hm0, m, ds, rfl, hP6, fun H7 s7 => ⟨_, rfl, by omega, by omega, _, _, rfl, rfl, _, rfl, by omega, by omega, ?_⟩⟩
      refine for_range (fun i σ H' => ∃ v6 v7 v8, σ = [some (.ref a), some (.ref d), some (.ref g), _, some (.ref L), some (.ref m), v6, v7, v8, u9, u10, u11, u12, u13] ∧ Same H6 H') ⟨_, _, _, rfl, s7⟩ ?_ ?_
      · rintro j σ H8 hj ⟨v6, v7, v8, rfl, s8⟩
        rw [Int.zero_add]
        have hP8 := hP6.same s8
        refine h40 _ _ _ m ds j rfl rfl hP8 hn2 fun p q H9 s9 hp9 hq9 => ?_
        refine h41 _ _ _ m p q ds j rfl rfl rfl (hP8.same s9) ok hn2 hp9 hq9 fun HA sA => ?_
        refine h42 _ _ _ m p ds j rfl rfl rfl (hP8.same (s9.trans sA)) ok hn2 (hp9.same sA) fun HB sB => ?_
        exact ⟨_, _, _, rfl, s8.trans (s9.trans (sA.trans sB))⟩
      · rintro σ H8 ⟨v6, v7, v8, rfl, s8⟩
        have s38 := s36.trans s8
        refine h5 _ _ _ d c g rfl (fun _ => rfl) (fun _ => rfl) (fun _ => rfl) (d3.same s38) (s38 _ _ g3) ng.1 ng.2 fun l es H9 m9 d9 hl9 hn9 hes => ?_
        have g9 := m9 _ _ (s38 _ _ g3) ng.1 ng.2
        have he : ∀ e ∈ es, EvG e := fun e h => goods_ok e (hes e h)
        refine h6 _ _ _ l es rfl hl9 he fun p HA sA hp => ?_
        refine h7 _ _ _ p es rfl hp he (by omega) fun HB sB => ?_
        have s9B := sA.trans sB
        refine ⟨_, rfl, l, tx es, rfl, .inl (SqL.of (s9B _ _ hl9)), _, _, rfl, rfl, _, rfl, by rw [tx_len]; omega, by rw [tx_len]; omega, ?_⟩
        refine for_range (fun i σ H' => ∃ v11, σ = [some (.ref a), some (.ref d), some (.ref g), _, some (.ref L), some (.ref m), v6, v7, v8, some (.ref l), some (.ref p), v11, u12, u13] ∧ Same HB H') ⟨_, rfl, Same.refl _⟩ ?_ ?_
        · rintro j σ HC hj ⟨v11, rfl, sC⟩
          rw [Int.zero_add]
          have hpC := hp.same (sB.trans sC)
          refine h80 _ _ _ l p es j rfl rfl rfl ((s9B.trans sC) _ _ hl9) hpC he (by omega) fun HD sD => ?_
          refine h81 _ _ _ p es j rfl rfl (hpC.same sD) he (by omega) fun HE sE => ?_
          exact ⟨_, rfl, sC.trans (sD.trans sE)⟩
        · rintro σ HC ⟨v11, rfl, sC⟩
          have s9C := s9B.trans sC
          exact ⟨_, _, _, _, _, _, _, _, _, _, _, rfl, d9.same s9C, s9C _ _ g9⟩
    · rintro σ H2 ⟨u3, u4, u5, u6, u7, u8, u9, u10, u11, u12, u13, rfl, d2, g2⟩
      exact k H2
end
end Hk

set_option Elab.async false
set_option linter.all false
set_option maxRecDepth 100000
set_option maxHeartbeats 0
/-! The head: the top's run in the kernel, with the facts. -/
namespace Hk
open PySem PySem.Spec PyProof.Rows L2
def obsMG (n : Nat) (g : Addr → Option Obj) : He.AlD := obsM (He.frG g (He5.asA g n))
def hookM (n : Nat) : PySem.W.Hook where
  α := He.AlD
  obs := fun s => obsMG n s.heap.get?
  val := fun _ => valM
  says := fun _ h => ∃ K : PySem.W.Frag, K.In h ∧ SaysM K
  of := fun _ _ e => ⟨_, He.frG_in, e⟩
  keeps := fun _ _ _ ⟨K, hK, c⟩ k => ⟨K, PySem.W.Frag.In.keeps hK k, c⟩
abbrev R : PySem.W.OpenRow := PySem.W.OpenLaw.row PySem.Challenge.rw_hastypage_k20_whole_texts_and_parts
def names : List PySem.Str := ["__name__", "HastyError", "InvalidRow", "InvalidPage", "InvalidText", "InvalidEvent", "NoRow", "SMALL", "BARRED", "is_name", "is_sequence", "is_decimal", "event_in", "Weaving", "LETTERS", "TESTS", "DEEDS", "OF_ANSWERS", "fits_letter", "is_test", "is_deed", "Row", "Page", "_law_deal", "_law_draw", "_law_row", "_law_row_text", "_law_few_clicks"]
def obT (s : PySem.W.SharedT) : He.AlD := obsMG 6 (HandSHeadRun.getT s)
theorem obT_eq (s : PySem.W.SharedT) : obT s = (hookM 6).obs s.abs := by
  have e : HandSHeadRun.getT s = s.abs.heap.get? := funext (HandSHeadRun.getT_eq s)
  show obsMG 6 _ = obsMG 6 _
  rw [e]
theorem run (w : World) : HandSHeadRun.RunEq R (PySem.W.view R.prog [33]) (hookM 6) obT 6000 names w := by
  intro os
  kernel_rfl
end Hk

set_option Elab.async false
set_option linter.all false
set_option maxRecDepth 100000
set_option maxHeartbeats 0
namespace Hk
open PySem PySem.Spec PyProof.Rows L2
theorem law_end {P : Program} {w : World} {K : PySem.W.Frag} {h : Heap} {mg : Str → Option Value} {f : Addr} (X : K.In h) (G : h.Ns mainGlobals mg) (hfa : mg ("law" : Str) = some (.ref f)) (c : SaysM K) :
    ∃ fd : FuncData, (∀ (s : Shared) (v : Value), BindsTo s fd ⟨[v], []⟩ [("_law_script", v)]) ∧ ∀ base : Heap, K.In base → base.Ns mainGlobals mg → FnOk P w K mg base L2.CX0 9 f fd ["_law_script"] (spLaw K) := by
  have T := txt_of X G c
  obtain ⟨fd, F⟩ := T.d_law
  have e := hfa.symm.trans T.g_law
  cases e
  have b := FunD.bindsA (ps := ["_law_script"]) F fun _ _ _ _ _ _ us hl => match us, hl with | [_], _ => rfl
  exact ⟨fd, fun s v => b s [v] rfl, fun base _ _ => ok_law T F⟩
end Hk
open PySem PySem.W PySem.Calls PyProof.Rows
theorem PySem.Challenge.cw_hastypage_k20_whole_texts_and_parts_holds : PySem.Challenge.rw_hastypage_k20_whole_texts_and_parts.Holds := by
  w_on; o_law
  refine HandSHeadRun.head_any (r := OpenLaw.row PySem.Challenge.rw_hastypage_k20_whole_texts_and_parts) (q := view (OpenLaw.row PySem.Challenge.rw_hastypage_k20_whole_texts_and_parts).prog [33]) (H := Hk.hookM 6) (ob := Hk.obT) (M := 6000) (loose := Hk.names) (d := HandSHeadRun.topDef (OpenLaw.row PySem.Challenge.rw_hastypage_k20_whole_texts_and_parts).prog 33) (kwd := []) Hk.obT_eq
    (by kernel_rfl) (fun s => by kernel_rfl) Hk.run (by kernel_rfl) (by kernel_rfl) (by kernel_rfl) (by rfl) (by first | assumption | decide +kernel) (by decide +kernel) ⟨rfl, rfl, rfl, rfl, rfl, by decide +kernel⟩ ?hw ?hc
  case hw => w_witness2
  case hc =>
    refine L2.walk_ofE (l := PySem.Challenge.rw_hastypage_k20_whole_texts_and_parts) (n := 63) (k := 9) (x := "_law_script") (CX := L2.CX0) rfl (by decide) (by kernel_rfl) ⟨rfl, by decide, by decide⟩ ?F (fun _ _ _ _ z => z)
    intro w mg fa h Y G hmg0
    obtain ⟨K, KX, c⟩ := Y
    have hmg : mg ("law" : PySem.Str) = some (.ref fa) := by
      have e : (HandSHeadRun.topDef (OpenLaw.row PySem.Challenge.rw_hastypage_k20_whole_texts_and_parts).prog 33).name = ("law" : PySem.Str) := by kernel_rfl
      rw [← e]
      exact hmg0
    obtain ⟨fd, hb, hF⟩ := Hk.law_end (P := (PySem.Challenge.rw_hastypage_k20_whole_texts_and_parts).prog) (w := w) KX G hmg c
    exact ⟨K, fd, Hk.spLaw K, KX, hb, fun H a ns hl _ hS => ⟨a, ns, rfl, hS, hl, fun _ => rfl⟩, hF⟩
