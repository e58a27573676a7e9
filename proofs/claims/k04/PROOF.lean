import PyProof.Rows.All
import Wide.All
import OpenK.AllK
import Wide.FinOn
import HandS.TryOnly
import HandS.ExcOwn
import PyProof.SeqIndex
import HandS.SetFor
import HandS.Strs
import HandS.Zip
import HandS.ForMost
import HandS.SortInts
import HandS.ForExc
import HandS.Deep
import HandS.Flow
import HandS.IsInst
import HandS.Wide
import HandS.WideBits
import HandS.TupAny
import HandS.Conv
import KE.SortData
import KE.LtData
import KE.DataEq
import KE.GoesZip
import KE.GoesMore
import HandS.Iter
import KE.GoesEnum
import HandS.Style
import KE.KRevSl
import PySem.Challenge.RW_jointrees_k04_whole_layouts_together
set_option Elab.async false
set_option linter.all false
set_option maxRecDepth 100000
set_option maxHeartbeats 4000000
set_option maxRecDepth 100000
/-! the tree layer: a set made of a list of whole numbers -/
namespace TL
open PySem PySem.Spec PyProof.Rows L2
section
variable {P : Program} {w : World} {A : Around} {E : Value → Shared → Prop} {s : Shared}
/-- the set's object as it is made -/
abbrev obS (w : World) : Obj :=
  { cls := .type "set", dict := none,
    data := .set #[] 0 (.fresh 0 0 (!w.params.followText "set-order")) }
set_option maxHeartbeats 6400000 in
theorem setOfL {l : Addr} {vs : Array Value} (ks : List Int) {Q : Value → Shared → Prop} (cal : A.handled = none) (isl : s.heap.IsList l vs)
    (iv : IntsAre vs.toList ks) (few : ks.length + 1 < scanBound)
    (fin : ∀ (g : Heap) (tk c : Nat), SetR w g s.heap.objs.size (fun j => decide (j ∈ ks)) c → c ≤ ks.length →
      (∀ b o, s.heap.get? b = some o → g.get? b = some o) → Q (.ref s.heap.objs.size) { s with heap := g, toks := tk }) :
    wpAny (model P w) A (call (.type "set") [.ref l]) Q E s := by
  have szv : vs.size = ks.length := by
    have := IntsAre.length iv
    simpa using this
  obtain ⟨c0, tl0, mro0⟩ := F.called_set.mro
  have mad0 := F.called_set.made
  have sub0 := F.called_set.sub
  refine wpAny_call ?_
  refine codeAny_of_tree ?_
  show wpAny _ _ (callAny (Value.type "set") _) _ _ _
  refine wpAny_pure ?_
  refine ⟨Code.quiet_builtin _ ?_, ?_⟩
  · decide +kernel
  refine codeAny_builtin F.entry_type_call ?_
  rw [Around.under_plain (weight_type_call_type "set" [Value.ref l] []) (by rfl)]
  have nt0 := F.called_set.notType
  have cc0 := F.called_set.canCreate
  have tc0 := F.typeCall_set_1 (.ref l)
  repeat (any_goals (first | assumption | wp_step))
  refine codeAny_mono (code_set_led1 (.ref l) (E := E)
    (Q₁ := fun ob t => ob = .ref s.heap.objs.size ∧ t = { s with heap := s.heap.push (obS w) }) ⟨rfl, rfl⟩) fun rr tt hh => ?_
  match rr, hh with
  | .error e, hh => exact hh
  | .ok .next, hh => exact hh.elim
  | .ok .brk, hh => exact hh.elim
  | .ok .cont, hh => exact hh.elim
  | .ok (.ret ob), hh =>
    obtain ⟨e1, e2⟩ := hh
    subst e1
    subst e2
    have atS : (s.heap.push (obS w)).get? s.heap.objs.size = some (obS w) := Heap.get?_push_size _ rfl
    have tyS : Shared.TypeIs { s with heap := s.heap.push (obS w) } (.ref s.heap.objs.size) "set" := ⟨_, atS, rfl⟩
    have il0 := F.called_set.init.lookup
    have ib0 := F.called_set.init.bind (.ref s.heap.objs.size)
    repeat (any_goals (first | assumption | wp_step))
    refine codeAny_mono (codeAny_call_builtin
      (R := wants (fun r t => r = .none ∧ ∃ g tk c, t = { s with heap := g, toks := tk } ∧ SetR w g s.heap.objs.size (fun j => decide (j ∈ ks)) c ∧ c ≤ ks.length ∧
        (∀ b o, s.heap.get? b = some o → g.get? b = some o)) E) F.called_set.init.plain F.entry_set_init (check_set_init_1 tyS ?_)) fun r2 t2 h2 => ?_
    · obtain ⟨⟨c1, d1, a1, sl1⟩, at1, cl1, n1, da1⟩ := isl
      simp only at cl1 da1
      subst cl1
      subst da1
      have at1' := Heap.get?_push_of_some (obS w) at1
      have subA := F.sub_list_set
      have subB := F.sub_list_frozenset
      have notD : (Value.type "list" == Value.type "dict") = false := by decide
      have isl' : (s.heap.push (obS w)).IsList l vs := ⟨_, at1', rfl, n1, rfl⟩
      unfold Builtin.«set.__init__» noKeywords Builtin.Frozenset.updateFrom
      generalize hIt : pyIter = It0
      wp_walk
      subst hIt
      refine wpAny_pyIter_list isl' ?_
      refine wpAny_bind (wpAny_runValue ?_)
      have ltl : l < s.heap.objs.size := Heap.lt_size at1
      have cal3 : A.in1.in1.in1.handled = none := by simpa using cal
      have szP : (s.heap.push (obS w)).objs.size = s.heap.objs.size + 1 := Heap.size_push _ _
      have neP : l ≠ (s.heap.push (obS w)).objs.size := by
        rw [szP]
        exact Nat.ne_of_lt (Nat.lt_succ_of_lt ltl)
      have notIn : s.heap.objs.size ∉ [(s.heap.push (obS w)).objs.size, l] := by
        rw [szP]
        intro hm
        rcases List.mem_cons.mp hm with z | z
        · exact absurd z (Nat.ne_of_lt (Nat.lt_succ_self _))
        · exact absurd (List.mem_singleton.mp z) (Nat.ne_of_gt ltl)
      have valI : ∀ (i : Nat) (v : Value), vs[i]? = some v → ∃ k t, ks[i]? = some k ∧ v = .int k t := by
        intro i v hv
        have lt : i < ks.length := by
          rw [← szv]
          exact (Array.getElem?_eq_some_iff.mp hv).1
        obtain ⟨t, e⟩ := IntsAre.int_at iv i v (by
          rw [Array.getElem?_toList]
          exact hv)
        refine ⟨ks[i], t, List.getElem?_eq_getElem lt, ?_⟩
        rw [e, List.getD_eq_getElem?_getD, List.getElem?_eq_getElem lt]
        rfl
      refine set_update_ints ((Walks.list cal3 _ l neP vs).toS) s.heap.objs.size notIn ks szv few valI (vs.size - 0) 0 _ (by omega) (Nat.zero_le _)
        ⟨⟨_, Heap.get?_push_size _ rfl, rfl, rfl⟩, isl'.push _⟩ ?start ?done
      case start =>
        exact ⟨0, Nat.le_refl 0, setR_new_at (Heap.get?_push_of_some _ atS)⟩
      case done =>
        intro t c mv lec st
        obtain ⟨g, gg, dd, tk, oo⟩ := t
        obtain rfl : gg = s.gens := mv.gens
        obtain rfl : dd = s.drawn := mv.drawn
        obtain rfl : oo = s.os := mv.os
        show wpAny _ _ _ _ _ _
        refine wpAny_pure ?_
        show wpAny _ _ (ret Value.none) _ _ _
        refine wpAny_pure ⟨rfl, g, tk, c, rfl, st, by rw [← szv]; exact lec, fun b o e => ?_⟩
        have lt := Heap.lt_size e
        refine mv.heap b o (fun hm => ?_) (Heap.get?_push_of_some _ (Heap.get?_push_of_some _ e))
        rw [szP] at hm
        rcases List.mem_cons.mp hm with z | z
        · exact absurd z (Nat.ne_of_lt lt)
        · exact absurd (List.mem_singleton.mp z) (Nat.ne_of_lt (Nat.lt_succ_of_lt lt))
    · match r2, h2 with
      | .error e, h2 => exact h2
      | .ok .next, h2 => exact h2.elim
      | .ok .brk, h2 => exact h2.elim
      | .ok .cont, h2 => exact h2.elim
      | .ok (.ret r), h2 =>
        obtain ⟨e0, g, tk, c, e3, st, lec, kp⟩ := h2
        subst e0
        subst e3
        repeat (any_goals (first | assumption | wp_step))
        exact fin _ _ _ st lec kp
set_option maxHeartbeats 6400000 in
theorem setOfT {l : Addr} {vs : Array Value} (ks : List Int) {Q : Value → Shared → Prop} (cal : A.handled = none) (isl : s.heap.IsTuple l vs)
    (iv : IntsAre vs.toList ks) (few : ks.length + 1 < scanBound)
    (fin : ∀ (g : Heap) (tk c : Nat), SetR w g s.heap.objs.size (fun j => decide (j ∈ ks)) c → c ≤ ks.length →
      (∀ b o, s.heap.get? b = some o → g.get? b = some o) → Q (.ref s.heap.objs.size) { s with heap := g, toks := tk }) :
    wpAny (model P w) A (call (.type "set") [.ref l]) Q E s := by
  have szv : vs.size = ks.length := by
    have := IntsAre.length iv
    simpa using this
  obtain ⟨c0, tl0, mro0⟩ := F.called_set.mro
  have mad0 := F.called_set.made
  have sub0 := F.called_set.sub
  refine wpAny_call ?_
  refine codeAny_of_tree ?_
  show wpAny _ _ (callAny (Value.type "set") _) _ _ _
  refine wpAny_pure ?_
  refine ⟨Code.quiet_builtin _ ?_, ?_⟩
  · decide +kernel
  refine codeAny_builtin F.entry_type_call ?_
  rw [Around.under_plain (weight_type_call_type "set" [Value.ref l] []) (by rfl)]
  have nt0 := F.called_set.notType
  have cc0 := F.called_set.canCreate
  have tc0 := F.typeCall_set_1 (.ref l)
  repeat (any_goals (first | assumption | wp_step))
  refine codeAny_mono (code_set_led1 (.ref l) (E := E)
    (Q₁ := fun ob t => ob = .ref s.heap.objs.size ∧ t = { s with heap := s.heap.push (obS w) }) ⟨rfl, rfl⟩) fun rr tt hh => ?_
  match rr, hh with
  | .error e, hh => exact hh
  | .ok .next, hh => exact hh.elim
  | .ok .brk, hh => exact hh.elim
  | .ok .cont, hh => exact hh.elim
  | .ok (.ret ob), hh =>
    obtain ⟨e1, e2⟩ := hh
    subst e1
    subst e2
    have atS : (s.heap.push (obS w)).get? s.heap.objs.size = some (obS w) := Heap.get?_push_size _ rfl
    have tyS : Shared.TypeIs { s with heap := s.heap.push (obS w) } (.ref s.heap.objs.size) "set" := ⟨_, atS, rfl⟩
    have il0 := F.called_set.init.lookup
    have ib0 := F.called_set.init.bind (.ref s.heap.objs.size)
    repeat (any_goals (first | assumption | wp_step))
    refine codeAny_mono (codeAny_call_builtin
      (R := wants (fun r t => r = .none ∧ ∃ g tk c, t = { s with heap := g, toks := tk } ∧ SetR w g s.heap.objs.size (fun j => decide (j ∈ ks)) c ∧ c ≤ ks.length ∧
        (∀ b o, s.heap.get? b = some o → g.get? b = some o)) E) F.called_set.init.plain F.entry_set_init (check_set_init_1 tyS ?_)) fun r2 t2 h2 => ?_
    · obtain ⟨⟨c1, d1, a1, sl1⟩, at1, cl1, n1, da1⟩ := isl
      simp only at cl1 da1
      subst cl1
      subst da1
      have at1' := Heap.get?_push_of_some (obS w) at1
      have subA := F.sub_tuple_set
      have subB := F.sub_tuple_frozenset
      have notD : (Value.type "tuple" == Value.type "dict") = false := by decide
      have isl' : (s.heap.push (obS w)).IsTuple l vs := ⟨_, at1', rfl, n1, rfl⟩
      unfold Builtin.«set.__init__» noKeywords Builtin.Frozenset.updateFrom
      generalize hIt : pyIter = It0
      wp_walk
      subst hIt
      refine wpAny_pyIter_tuple isl' ?_
      refine wpAny_bind (wpAny_runValue ?_)
      have ltl : l < s.heap.objs.size := Heap.lt_size at1
      have cal3 : A.in1.in1.in1.handled = none := by simpa using cal
      have szP : (s.heap.push (obS w)).objs.size = s.heap.objs.size + 1 := Heap.size_push _ _
      have neP : l ≠ (s.heap.push (obS w)).objs.size := by
        rw [szP]
        exact Nat.ne_of_lt (Nat.lt_succ_of_lt ltl)
      have notIn : s.heap.objs.size ∉ [(s.heap.push (obS w)).objs.size, l] := by
        rw [szP]
        intro hm
        rcases List.mem_cons.mp hm with z | z
        · exact absurd z (Nat.ne_of_lt (Nat.lt_succ_self _))
        · exact absurd (List.mem_singleton.mp z) (Nat.ne_of_gt ltl)
      have valI : ∀ (i : Nat) (v : Value), vs[i]? = some v → ∃ k t, ks[i]? = some k ∧ v = .int k t := by
        intro i v hv
        have lt : i < ks.length := by
          rw [← szv]
          exact (Array.getElem?_eq_some_iff.mp hv).1
        obtain ⟨t, e⟩ := IntsAre.int_at iv i v (by
          rw [Array.getElem?_toList]
          exact hv)
        refine ⟨ks[i], t, List.getElem?_eq_getElem lt, ?_⟩
        rw [e, List.getD_eq_getElem?_getD, List.getElem?_eq_getElem lt]
        rfl
      refine set_update_ints ((Walks.tuple cal3 _ l neP vs).toS) s.heap.objs.size notIn ks szv few valI (vs.size - 0) 0 _ (by omega) (Nat.zero_le _)
        ⟨⟨_, Heap.get?_push_size _ rfl, rfl, rfl⟩, isl'.push _⟩ ?start ?done
      case start =>
        exact ⟨0, Nat.le_refl 0, setR_new_at (Heap.get?_push_of_some _ atS)⟩
      case done =>
        intro t c mv lec st
        obtain ⟨g, gg, dd, tk, oo⟩ := t
        obtain rfl : gg = s.gens := mv.gens
        obtain rfl : dd = s.drawn := mv.drawn
        obtain rfl : oo = s.os := mv.os
        show wpAny _ _ _ _ _ _
        refine wpAny_pure ?_
        show wpAny _ _ (ret Value.none) _ _ _
        refine wpAny_pure ⟨rfl, g, tk, c, rfl, st, by rw [← szv]; exact lec, fun b o e => ?_⟩
        have lt := Heap.lt_size e
        refine mv.heap b o (fun hm => ?_) (Heap.get?_push_of_some _ (Heap.get?_push_of_some _ e))
        rw [szP] at hm
        rcases List.mem_cons.mp hm with z | z
        · exact absurd z (Nat.ne_of_lt lt)
        · exact absurd (List.mem_singleton.mp z) (Nat.ne_of_lt (Nat.lt_succ_of_lt lt))
    · match r2, h2 with
      | .error e, h2 => exact h2
      | .ok .next, h2 => exact h2.elim
      | .ok .brk, h2 => exact h2.elim
      | .ok .cont, h2 => exact h2.elim
      | .ok (.ret r), h2 =>
        obtain ⟨e0, g, tk, c, e3, st, lec, kp⟩ := h2
        subst e0
        subst e3
        repeat (any_goals (first | assumption | wp_step))
        exact fin _ _ _ st lec kp
end
end TL
/-! the tree layer, 0: tuples whose objects are known (they have no dict of their own) -/
namespace TL
open PySem PySem.Spec PyProof.Rows L2
/-- an object without a dict and slots of its own -/
def TOb (o : Obj) : Prop := o.dict = none ∧ o.slots = #[]
/-- a tuple of these, its object known -/
def TupH (u : HO) (xs : List V) : Prop := ∃ o, TOb o ∧ u = .frz o (.tup xs)
def SqU (K : PySem.W.Frag) (H : Hp) (a : Addr) (xs : List V) : Prop :=
  (∃ u, H a = some u ∧ TupH u xs) ∨
    ∃ (o : Obj) (its : Array Value) (n : Nat), K.lookup a = some o ∧ o.cls = .type "tuple" ∧ o.data = .seq its n ∧ its.size ≤ sizeLine ∧ Vals xs its.toList ∧ TOb o
theorem SqU.t {K : PySem.W.Frag} {H : Hp} {a : Addr} {xs : List V} (h : SqU K H a xs) : SqT K H a xs := by
  rcases h with ⟨u, e, o, _, rfl⟩ | ⟨o, its, n, h1, h2, h3, h4, h5, _⟩
  · exact .inl (.inr ⟨o, e⟩)
  · exact .inr ⟨o, its, n, h1, h2, h3, h4, h5⟩
theorem SqU.of {K : PySem.W.Frag} {H : Hp} {a : Addr} {xs : List V} {u : HO} (h : H a = some u) (t : TupH u xs) : SqU K H a xs := .inl ⟨u, h, t⟩
theorem SqU.same {K : PySem.W.Frag} {H H' : Hp} {a : Addr} {xs : List V} (s : Same H H') (h : SqU K H a xs) : SqU K H' a xs := by
  rcases h with ⟨u, e, t⟩ | h
  · exact .inl ⟨u, s _ _ e, t⟩
  · exact .inr h
/-- the object itself -/
theorem SqU.obj {X : Cx} {pins : List (Addr × Obj)} {σ : L2.St} {H : Hp} {s : Shared} (I : Inv X pins σ H s) {a : Addr} {xs : List V} (h : SqU X.K H a xs) : ∃ o its n, s.heap.get? a = some o ∧ o.cls = .type "tuple" ∧ o.data = .seq its n ∧ TOb o ∧ Vals xs its.toList ∧ xs.length ≤ sizeLine := by
  rcases h with ⟨u, e, o, t, rfl⟩ | ⟨o, its, n, hk, hc, hs, hz, r, t⟩
  · have q : s.heap.get? a = some o ∧ _ := I.hok a _ e
    obtain ⟨e1, hz, its, r, o', e2, hc, n, hd⟩ := q
    rw [e1] at e2
    cases e2
    exact ⟨o, _, n, e1, hc, hd, t, by simpa using r, hz⟩
  · refine ⟨o, its, n, I.kIn a o hk, hc, hs, t, r, ?_⟩
    have := r.length
    simp only [Array.length_toList] at this
    omega
theorem okU {P : Program} {w : World} {H : Hp} {h : Heap} {a : Addr} {xs : List V} {its : List Value} {o : Obj} (hz : xs.length ≤ sizeLine) (r : Vals xs its) (e : h.get? a = some o) (hc : o.cls = .type "tuple") {n : Nat} (hd : o.data = .seq its.toArray n) : ObjOk P w H h a (.frz o (.tup xs)) :=
  ⟨e, hz, its, r, o, e, hc, n, hd⟩
section
variable {X : Cx} {es : List Expr} {t : TA} {pos : Pos}
def tTupU (t : TA) : TE := fun σ H Q => t σ H fun xs H1 => xs.length ≤ sizeLine ∧ ∀ p u, H1 p = none → TupH u xs → Q (.ref p) (upd H1 p u)
theorem pe_tupU {x1} (h : PA X es t) : PE X (.Tuple es x1 pos) (tTupU t) := by
  refine ⟨fun pins s σ H Q I hq => ?_⟩
  refine wpAny_Tuple_spliced (thn (h.run pos pins s σ H _ I hq) fun us s1 ⟨xs, H1, I1, r, z, q⟩ => ⟨by rw [← r.length]; exact z, ?_⟩)
  have hf : H1 s1.heap.objs.size = none := I1.hok.fresh (Nat.le_refl _)
  refine ⟨.ref s1.heap.objs.size, upd H1 s1.heap.objs.size (.frz _ (.tup xs)), I1.laid (t' := s1.toks) (fun b u e => Heap.get?_push_of_some _ e) (Nat.le_refl _) (okU z r (Heap.get?_push_size _ rfl) rfl rfl), rfl, q _ _ hf ⟨_, ⟨rfl, rfl⟩, rfl⟩⟩
theorem call_tuple_ofU : CallR X (.type "tuple") (fun xs H Q => ∃ p ys, xs = [.ref p] ∧ ((SqL X.K H p ys ∧ ∀ l u, H l = none → TupH u ys → Q (.ref l) (upd H l u)) ∨ (SqT X.K H p ys ∧ Q (.ref p) H))) := by
  intro pins s σ H xs us Q I r h
  obtain ⟨p, ys, rfl, h⟩ := h
  obtain ⟨u, rfl, rx⟩ := vals1 r
  cases rx
  rcases h with ⟨hq, q⟩ | ⟨hq, q⟩
  · obtain ⟨its, r', pl, hz⟩ := I.list hq
    have hlen := r'.length
    refine call_tuple_list pl.isList (fun h' kp => ?_) (by simp only [List.size_toArray] <;> omega)
    have I1 : Inv X pins σ H { s with heap := h' } := I.kept (t' := s.toks) kp
    have I2 : Inv X pins σ (upd H h'.objs.size (.frz { cls := .type "tuple", data := .seq its.toArray } (.tup ys))) { s with heap := h'.push { cls := .type "tuple", data := .seq its.toArray } } :=
      I1.laid (t' := s.toks) (fun b o e => Heap.get?_push_of_some _ e) (Nat.le_refl _) (okU hz r' (Heap.get?_push_size _ rfl) rfl rfl)
    exact ⟨.ref h'.objs.size, _, I2, rfl, q _ _ (I1.hok.fresh (Nat.le_refl _)) ⟨_, ⟨rfl, rfl⟩, rfl⟩⟩
  · obtain ⟨its, r', pl, hz⟩ := I.tuple hq
    exact call_tuple_same pl ⟨.ref p, H, I, rfl, q⟩
def rCatU (K : PySem.W.Frag) : R2 := fun x y H Q => ∃ a b xs ys, x = .ref a ∧ y = .ref b ∧ SqT K H a xs ∧ SqT K H b ys ∧ xs.length + ys.length ≤ sizeLine ∧
  (xs = [] → Q (.ref b) H) ∧ (xs ≠ [] → ys = [] → Q (.ref a) H) ∧ (xs ≠ [] → ys ≠ [] → ∀ p u, H p = none → TupH u (xs ++ ys) → Q (.ref p) (upd H p u))
theorem op_catU : OpR X (binaryOp .Add) (rCatU X.K) := by
  intro pins s σ H x y v u Q I rx ry h
  obtain ⟨a, b, xs, ys, rfl, rfl, ha, hb, hz, q0, q1, q2⟩ := h
  by_cases hx : xs = []
  · subst hx
    cases rx
    cases ry
    obtain ⟨its, r1, p1, _⟩ := I.tuple ha
    obtain ⟨its2, r2, p2, _⟩ := I.tuple hb
    cases r1
    exact cat_tup0 p1 p2 ⟨.ref b, H, I, rfl, q0 rfl⟩
  · cases rx
    cases ry
    obtain ⟨its, r1, p1, _⟩ := I.tuple ha
    obtain ⟨its2, r2, p2, _⟩ := I.tuple hb
    refine HT.cat_tup p1 p2 (fun z => hx (r1.nil_iff.mp z)) (fun z => ⟨.ref a, H, I, rfl, q1 hx (r2.nil_iff.mp z)⟩) (fun z => ?_) (by rw [← r1.length, ← r2.length]; exact hz)
    refine ⟨.ref s.heap.objs.size, _, I.laid (t' := s.toks) (o := .frz _ (.tup (xs ++ ys))) (fun b ob q => Heap.get?_push_of_some _ q) (Nat.le_refl _) (okU (by rw [List.length_append]; exact hz) (r1.append r2) (Heap.get?_push_size _ rfl) rfl rfl), rfl, q2 hx (fun w => z (r2.nil_iff.mpr w)) _ _ (I.hok.fresh (Nat.le_refl _)) ⟨_, ⟨rfl, rfl⟩, rfl⟩⟩
/-- t[lo:hi]: the whole of it is t itself -/
def rSlU (K : PySem.W.Frag) : V → Option Int → Option Int → Hp → VK → Prop := fun x lo hi H Q => ∃ a xs, x = .ref a ∧ SqT K H a xs ∧
  (HT.sIx xs.length 0 lo = 0 ∧ HT.sIx xs.length xs.length hi = xs.length → Q (.ref a) H) ∧ (¬ (HT.sIx xs.length 0 lo = 0 ∧ HT.sIx xs.length xs.length hi = xs.length) → ∀ p u, H p = none → TupH u (cutV xs lo hi) → Q (.ref p) (upd H p u))
theorem sl_tupU : SlR X (rSlU X.K) := by
  intro pins s σ H x v vl vu lo hi sl Q I rx hs pl pu h
  obtain ⟨a, xs, rfl, hx, q1, q2⟩ := h
  cases rx
  obtain ⟨its, r, ht, hz⟩ := I.tuple hx
  have hlen : its.toArray.size = xs.length := by rw [List.size_toArray]; exact r.length.symm
  refine ⟨"tuple", _, PyProof.Rows.slot_tuple_getitem.lookup, ht.typeIs, ?_⟩
  by_cases hw : HT.sIx xs.length 0 lo = 0 ∧ HT.sIx xs.length xs.length hi = xs.length
  · exact getItem_tuple_whole ht hs pl pu (by rw [hlen]; exact hw) ⟨.ref a, H, I, rfl, q1 hw⟩
  · refine HT.getItem_tuple_cut ht hs pl pu (by rw [hlen]; exact hw) ?_ (by rw [hlen]; exact hz)
    rw [hlen]
    exact ⟨.ref s.heap.objs.size, _, I.laid (t' := s.toks) (o := .frz _ (.tup (cutV xs lo hi))) (fun b ob q => Heap.get?_push_of_some _ q) (Nat.le_refl _)
      (okU (Nat.le_trans (cutV_length xs lo hi) hz) ((r.drop (HT.sIx xs.length 0 lo)).take (HT.sIx xs.length xs.length hi - HT.sIx xs.length 0 lo)) (Heap.get?_push_size _ rfl) rfl rfl), rfl, q2 hw _ _ (I.hok.fresh (Nat.le_refl _)) ⟨_, ⟨rfl, rfl⟩, rfl⟩⟩
/-- divmod: a new tuple -/
theorem call_divmodU : CallR X (.builtin "divmod") (fun xs H Q => ∃ i j, xs = [.int i, .int j] ∧ CDiv i j ∧ ∀ p u, H p = none → TupH u [.int (i / j), .int (i % j)] → Q (.ref p) (upd H p u)) := by
  intro pins s σ H xs us Q I r h
  obtain ⟨i, j, rfl, ⟨h1, h2⟩, q⟩ := h
  obtain ⟨u, w', rfl, ⟨t, rfl⟩, ⟨t', rfl⟩⟩ := vals2 r
  refine divmod_int (by omega) ?_ (.inl (PyProof.noPylong_small (by omega)))
  rw [Int.fdiv_eq_ediv_of_nonneg i (by omega), Int.fmod_eq_emod_of_nonneg i (by omega)]
  have hn : H s.heap.objs.size = none := I.hok.fresh (Nat.le_refl _)
  refine ⟨.ref s.heap.objs.size, _, I.laid (o := .frz _ (.tup [.int (i / j), .int (i % j)])) (fun b o e => Heap.get?_push_of_some _ e) (Nat.le_refl _) (okU (its := [.int (i / j) s.toks, .int (i % j) (s.toks + 1)]) (by simp only [List.length_cons, List.length_nil]; rw [sizeLine_eq]; decide) (.cons ⟨_, rfl⟩ (.cons ⟨_, rfl⟩ .nil)) (Heap.get?_push_size s.heap rfl) rfl rfl), rfl, q _ _ hn ⟨_, ⟨rfl, rfl⟩, rfl⟩⟩
end
end TL
/-! the tree layer, 1: data trees, the partial monad, what stands for what -/
namespace TL
open PySem PySem.Spec PyProof.Rows L2
abbrev D := PyData
/-- nothing said, an exception of the class named c, a value -/
inductive R (α : Type) where
  | no
  | ex (c : Str)
  | ok (a : α)
namespace R
def bind {α β : Type} : R α → (α → R β) → R β
  | .no, _ => .no
  | .ex c, _ => .ex c
  | .ok a, f => f a
@[simp] theorem ok_bind {α β : Type} (a : α) (f : α → R β) : bind (.ok a) f = f a := rfl
@[simp] theorem no_bind {α β : Type} (f : α → R β) : bind (.no : R α) f = .no := rfl
@[simp] theorem ex_bind {α β : Type} (c : Str) (f : α → R β) : bind (.ex c : R α) f = .ex c := rfl
theorem bind_assoc {α β γ : Type} (m : R α) (f : α → R β) (g : β → R γ) : bind (bind m f) g = bind m fun a => bind (f a) g := by cases m <;> rfl
@[simp] theorem bind_ok {α : Type} (m : R α) : bind m (fun a => .ok a) = m := by cases m <;> rfl
end R
/-- the slots' trees, by number -/
abbrev En := List (Option D)
def getN {α : Type} : List (Option α) → Nat → Option α
  | [], _ => none
  | x :: _, 0 => x
  | _ :: xs, n + 1 => getN xs n
def setN {α : Type} : List (Option α) → Nat → Option α → List (Option α)
  | [], _, _ => []
  | _ :: xs, 0, v => v :: xs
  | x :: xs, n + 1, v => x :: setN xs n v
theorem getN_setN_same {α : Type} {v w : Option α} : ∀ {xs : List (Option α)} {i : Nat} {t : α}, getN (setN xs i v) i = some t → v = some t
  | [], _, _, h => by cases h
  | _ :: _, 0, _, h => h
  | _ :: xs, n + 1, _, h => getN_setN_same (w := w) (xs := xs) (i := n) h
theorem getN_setN_ne {α : Type} {v : Option α} : ∀ {xs : List (Option α)} {i j : Nat}, j ≠ i → getN (setN xs i v) j = getN xs j
  | [], _, _, _ => rfl
  | _ :: _, 0, 0, h => absurd rfl h
  | _ :: _, 0, _ + 1, _ => rfl
  | _ :: _, _ + 1, 0, _ => rfl
  | _ :: xs, i + 1, j + 1, h => getN_setN_ne (xs := xs) fun e => h (by rw [e])
theorem getN_lt {α : Type} : ∀ {xs : List (Option α)} {i : Nat} {t : α}, getN xs i = some t → i < xs.length
  | [], _, _, h => by cases h
  | _ :: _, 0, _, _ => Nat.succ_pos _
  | _ :: xs, n + 1, _, h => Nat.succ_lt_succ (getN_lt (xs := xs) (i := n) h)
/-! ### what stands for a tree in a heap -/
def keyD : Key → D
  | .inl i => .int i
  | .inr x => .str x
mutual
inductive Rep (K : PySem.W.Frag) (G : Hp) : V → D → Prop
  | non : Rep K G .non .none
  | bl (b : Bool) : Rep K G (.bl b) (.bool b)
  | int (i : Int) : Rep K G (.int i) (.int i)
  | str (x : Str) : Rep K G (.str x) (.str x)
  | lst {a : Addr} {xs : List V} {ds : List D} : G a = some (.lst xs) → RepAll K G xs ds → Rep K G (.ref a) (.list ds)
  | tup {a : Addr} {xs : List V} {ds : List D} : SqU K G a xs → RepAll K G xs ds → Rep K G (.ref a) (.tuple ds)
  | dK {a : Addr} {kvs : List (Key × V)} {es : List (D × D)} : Rd G a (.dK kvs) → es.map (·.1) = kvs.map (fun p => keyD p.1) → RepAll K G (kvs.map (·.2)) (es.map (·.2)) → Rep K G (.ref a) (.dict es)
  | dT {a : Addr} {kvs : List (List Key × V)} {es : List (D × D)} : G a = some (.dT kvs) → es.map (·.1) = kvs.map (fun p => .tuple (p.1.map keyD)) → RepAll K G (kvs.map (·.2)) (es.map (·.2)) → Rep K G (.ref a) (.dict es)
  /-- the script: read by its places, its length told -/
  | scr {a : Addr} {ns : List Int} : SqL K G a (ns.map V.int) → Rep K G (.ref a) (.dict [(.none, .list (ns.map .int))])
inductive RepAll (K : PySem.W.Frag) (G : Hp) : List V → List D → Prop
  | nil : RepAll K G [] []
  | cons {v : V} {vs : List V} {d : D} {ds : List D} : Rep K G v d → RepAll K G vs ds → RepAll K G (v :: vs) (d :: ds)
end
theorem RepAll.length {K : PySem.W.Frag} {G : Hp} : ∀ {vs : List V} {ds : List D}, RepAll K G vs ds → vs.length = ds.length
  | _, _, .nil => rfl
  | _, _, .cons _ t => congrArg (· + 1) (RepAll.length t)
theorem RepAll.get {K : PySem.W.Frag} {G : Hp} : ∀ {vs : List V} {ds : List D} {i : Nat} {d : D}, RepAll K G vs ds → ds[i]? = some d → ∃ v, vs[i]? = some v ∧ Rep K G v d
  | _, _, _, _, .nil, h => by simp at h
  | _, _, 0, _, .cons r _, h => by
    simp at h
    subst h
    exact ⟨_, rfl, r⟩
  | _, _, i + 1, d, .cons _ t, h => by
    obtain ⟨v, e, r⟩ := RepAll.get (i := i) (d := d) t (by simpa using h)
    exact ⟨v, by simpa using e, r⟩
theorem RepAll.getV {K : PySem.W.Frag} {G : Hp} : ∀ {vs : List V} {ds : List D} {i : Nat} {v : V}, RepAll K G vs ds → vs[i]? = some v → ∃ d, ds[i]? = some d ∧ Rep K G v d
  | _, _, _, _, .nil, h => by simp at h
  | _, _, 0, _, .cons r _, h => by
    simp at h
    subst h
    exact ⟨_, rfl, r⟩
  | _, _, i + 1, d, .cons _ t, h => by
    obtain ⟨v, e, r⟩ := RepAll.getV (i := i) (v := d) t (by simpa using h)
    exact ⟨v, by simpa using e, r⟩
theorem RepAll.append {K : PySem.W.Frag} {G : Hp} : ∀ {vs ws : List V} {ds es : List D}, RepAll K G vs ds → RepAll K G ws es → RepAll K G (vs ++ ws) (ds ++ es)
  | _, _, _, _, .nil, s => s
  | _, _, _, _, .cons r t, s => .cons r (RepAll.append t s)
theorem RepAll.take {K : PySem.W.Frag} {G : Hp} : ∀ {vs : List V} {ds : List D} (n : Nat), RepAll K G vs ds → RepAll K G (vs.take n) (ds.take n)
  | _, _, 0, _ => .nil
  | _, _, _ + 1, .nil => .nil
  | _, _, n + 1, .cons r t => .cons r (RepAll.take n t)
theorem RepAll.drop {K : PySem.W.Frag} {G : Hp} : ∀ {vs : List V} {ds : List D} (n : Nat), RepAll K G vs ds → RepAll K G (vs.drop n) (ds.drop n)
  | _, _, 0, r => r
  | _, _, _ + 1, .nil => .nil
  | _, _, n + 1, .cons _ t => RepAll.drop n t
theorem RepAll.reverse {K : PySem.W.Frag} {G : Hp} : ∀ {vs : List V} {ds : List D}, RepAll K G vs ds → RepAll K G vs.reverse ds.reverse
  | _, _, .nil => .nil
  | _, _, .cons r t => by
    rw [List.reverse_cons, List.reverse_cons]
    exact RepAll.append (RepAll.reverse t) (.cons r .nil)
theorem RepAll.set {K : PySem.W.Frag} {G : Hp} {v : V} {d : D} (q : Rep K G v d) : ∀ {vs : List V} {ds : List D} (i : Nat), RepAll K G vs ds → RepAll K G (vs.set i v) (ds.set i d)
  | _, _, _, .nil => .nil
  | _, _, 0, .cons _ t => .cons q t
  | _, _, i + 1, .cons r t => .cons r (RepAll.set q i t)
theorem same_lst {K : PySem.W.Frag} {H H' : Hp} (s : Same H H') {a : Addr} {xs : List V} (h : H a = some (.lst xs)) : SqL K H' a xs := .of (s _ _ h)
theorem same_rd {H H' : Hp} (s : Same H H') {a : Addr} {u : HO} (h : Rd H a u) : Rd H' a u := by
  rcases h with h | ⟨o, h⟩
  · exact .inl (s _ _ h)
  · exact .inr ⟨o, s _ _ h⟩
theorem same_seqT {K : PySem.W.Frag} {H H' : Hp} {a : Addr} {xs : List V} (e : Same H H') (h : SqU K H a xs) : SqT K H' a xs := (h.same e).t
theorem same_sqT {K : PySem.W.Frag} {H H' : Hp} {a : Addr} {xs : List V} (e : Same H H') (h : SqT K H a xs) : SqT K H' a xs := by
  rcases h with h | h
  · exact .inl (same_rd e h)
  · exact .inr h
mutual
theorem Rep.mono {K : PySem.W.Frag} {G G' : Hp} (s : Same G G') : ∀ {v : V} {d : D}, Rep K G v d → Rep K G' v d
  | _, _, .non => .non
  | _, _, .bl b => .bl b
  | _, _, .int i => .int i
  | _, _, .str x => .str x
  | _, _, .lst h r => .lst (s _ _ h) (RepAll.mono s r)
  | _, _, .tup h r => .tup (h.same s) (RepAll.mono s r)
  | _, _, .dK h e r => .dK (same_rd s h) e (RepAll.mono s r)
  | _, _, .dT h e r => .dT (s _ _ h) e (RepAll.mono s r)
  | _, _, .scr h => .scr (s.seq h)
theorem RepAll.mono {K : PySem.W.Frag} {G G' : Hp} (s : Same G G') : ∀ {vs : List V} {ds : List D}, RepAll K G vs ds → RepAll K G' vs ds
  | _, _, .nil => .nil
  | _, _, .cons r t => .cons (Rep.mono s r) (RepAll.mono s t)
end
mutual
def flat : D → Bool
  | .list xs => flatAll xs
  | .tuple xs => flatAll xs
  | .dict _ => false
  | _ => true
def flatAll : List D → Bool
  | [] => true
  | x :: xs => flat x && flatAll xs
end
mutual
theorem Rep.dp {K : PySem.W.Frag} {G : Hp} : ∀ {v : V} {d : D}, Rep K G v d → flat d = true → Dp K G v d
  | _, _, .non, _ => .non
  | _, _, .bl b, _ => .bl b
  | _, _, .int i, _ => .int i
  | _, _, .str x, _ => .str x
  | _, _, .lst h r, f => .lst (.of h) (RepAll.dp r (by simpa [flat] using f))
  | _, _, .tup h r, f => .tup h.t (RepAll.dp r (by simpa [flat] using f))
  | _, _, .dK _ _ _, f => by simp [flat] at f
  | _, _, .dT _ _ _, f => by simp [flat] at f
  | _, _, .scr _, f => by simp [flat] at f
theorem RepAll.dp {K : PySem.W.Frag} {G : Hp} : ∀ {vs : List V} {ds : List D}, RepAll K G vs ds → flatAll ds = true → DpAll K G vs ds
  | _, _, .nil, _ => .nil
  | _, _, .cons (d := d) (ds := ds) r t, f => by
    have f' : flat d = true ∧ flatAll ds = true := by simpa [flatAll] using f
    exact .cons (Rep.dp r f'.1) (RepAll.dp t f'.2)
end
mutual
def noL : D → Bool
  | .list _ => false
  | .tuple xs => noLAll xs
  | .dict _ => false
  | _ => true
def noLAll : List D → Bool
  | [] => true
  | x :: xs => noL x && noLAll xs
end
/-- the heap without the objects at p -/
def cutH (G : Hp) (p : Addr → Prop) [DecidablePred p] : Hp := fun b => if p b then none else G b
theorem cutH_same (G : Hp) (p : Addr → Prop) [DecidablePred p] : Same (cutH G p) G := fun b o h => by
  unfold cutH at h
  split at h
  · cases h
  · exact h
theorem cutH_of {G : Hp} {p : Addr → Prop} [DecidablePred p] {b : Addr} {o : HO} (h : G b = some o) (n : ¬ p b) : cutH G p b = some o := by
  unfold cutH
  rw [if_neg n]
  exact h
theorem cutH_none {G : Hp} {p : Addr → Prop} [DecidablePred p] {b : Addr} (n : p b) : cutH G p b = none := by
  unfold cutH
  rw [if_pos n]
theorem cutH_free {G : Hp} {p : Addr → Prop} [DecidablePred p] {b : Addr} (h : G b = none) : cutH G p b = none := by
  unfold cutH
  split
  · rfl
  · exact h
/-- an object that is no tuple -/
def NotTup : Option HO → Prop
  | some (.tup _) => False
  | some (.frz _ (.tup _)) => False
  | _ => True
mutual
theorem Rep.cut {K : PySem.W.Frag} {G : Hp} {p : Addr → Prop} [DecidablePred p] (np : ∀ b, p b → NotTup (G b)) : ∀ {v : V} {d : D}, Rep K G v d → noL d = true → Rep K (cutH G p) v d
  | _, _, .non, _ => .non
  | _, _, .bl b, _ => .bl b
  | _, _, .int i, _ => .int i
  | _, _, .str x, _ => .str x
  | _, _, .lst h r, f => by simp [noL] at f
  | _, _, .tup (a := a) h r, f => by
    refine .tup ?_ (RepAll.cut np r (by simpa [noL] using f))
    rcases h with ⟨u, h, o, t, rfl⟩ | h
    · exact .inl ⟨_, cutH_of h fun q => by
        have := np a q
        rw [h] at this
        exact this, o, t, rfl⟩
    · exact .inr h
  | _, _, .dK _ _ _, f => by simp [noL] at f
  | _, _, .dT _ _ _, f => by simp [noL] at f
  | _, _, .scr _, f => by simp [noL] at f
theorem RepAll.cut {K : PySem.W.Frag} {G : Hp} {p : Addr → Prop} [DecidablePred p] (np : ∀ b, p b → NotTup (G b)) : ∀ {vs : List V} {ds : List D}, RepAll K G vs ds → noLAll ds = true → RepAll K (cutH G p) vs ds
  | _, _, .nil, _ => .nil
  | _, _, .cons (d := d) (ds := ds) r t, f => by
    have f' : noL d = true ∧ noLAll ds = true := by simpa [noLAll] using f
    exact .cons (Rep.cut np r f'.1) (RepAll.cut np t f'.2)
end
end TL
/-! the tree layer, 2: expressions that change nothing -/
namespace TL
open PySem PySem.Spec PyProof.Rows L2
/-- the slots hold the trees -/
structure Ep (K : PySem.W.Frag) (G : Hp) (ρ : En) (σ : L2.St) : Prop where
  len : ρ.length = σ.length
  at_ : ∀ i t, getN ρ i = some t → ∃ v, σ[i]? = some (some v) ∧ Rep K G v t
theorem Ep.mono {K : PySem.W.Frag} {G G' : Hp} {ρ : En} {σ : L2.St} (s : Same G G') (h : Ep K G ρ σ) : Ep K G' ρ σ := ⟨h.len, fun i t e => by
  obtain ⟨v, q, r⟩ := h.at_ i t e
  exact ⟨v, q, r.mono s⟩⟩
theorem setN_length {α : Type} {v : Option α} : ∀ {xs : List (Option α)} {i : Nat}, (setN xs i v).length = xs.length
  | [], _ => rfl
  | _ :: _, 0 => rfl
  | _ :: xs, i + 1 => congrArg (· + 1) (setN_length (xs := xs) (i := i))
/-- a slot takes a value -/
theorem Ep.put {K : PySem.W.Frag} {G : Hp} {ρ : En} {σ : L2.St} (h : Ep K G ρ σ) {i : Nat} {v : V} {d : D} (r : Rep K G v d) : Ep K G (setN ρ i (some d)) (σ.set i (some v)) := by
  refine ⟨by rw [setN_length, List.length_set]; exact h.len, fun j t e => ?_⟩
  by_cases hj : j = i
  · subst hj
    have hlt : j < σ.length := by
      have := getN_lt e
      rw [setN_length, h.len] at this
      exact this
    have e2 := getN_setN_same (w := some d) e
    cases e2
    exact ⟨v, by rw [List.getElem?_set_self hlt], r⟩
  · rw [getN_setN_ne hj] at e
    obtain ⟨w, q, r2⟩ := h.at_ j t e
    exact ⟨w, by rw [List.getElem?_set_ne (Ne.symm hj)]; exact q, r2⟩
/-- a slot is forgotten, whatever it holds -/
theorem Ep.drop {K : PySem.W.Frag} {G : Hp} {ρ : En} {σ : L2.St} (h : Ep K G ρ σ) {i : Nat} {o : Option V} : Ep K G (setN ρ i none) (σ.set i o) := by
  refine ⟨by rw [setN_length, List.length_set]; exact h.len, fun j t e => ?_⟩
  by_cases hj : j = i
  · subst hj
    have e2 := getN_setN_same (w := none) e
    cases e2
  · rw [getN_setN_ne hj] at e
    obtain ⟨w, q, r2⟩ := h.at_ j t e
    exact ⟨w, by rw [List.getElem?_set_ne (Ne.symm hj)]; exact q, r2⟩
/-- less is known -/
theorem Ep.less {K : PySem.W.Frag} {G : Hp} {ρ ρ' : En} {σ : L2.St} (h : Ep K G ρ σ) (hl : ρ'.length = ρ.length) (hs : ∀ i t, getN ρ' i = some t → getN ρ i = some t) : Ep K G ρ' σ :=
  ⟨hl.trans h.len, fun i t e => h.at_ i t (hs i t e)⟩
/-- behind an expression: what was stays, what is newly frozen is new -/
structure Fr (G H G' H' : Hp) : Prop where
  gg : Same G G'
  gh : Same G' H'
  hh : Same H H'
  nw : ∀ b, G b = none → H b ≠ none → G' b = none
theorem Fr.refl {G H : Hp} (s : Same G H) : Fr G H G H := ⟨Same.refl _, s, Same.refl _, fun _ h _ => h⟩
theorem Fr.trans {G H G1 H1 G2 H2 : Hp} (a : Fr G H G1 H1) (b : Fr G1 H1 G2 H2) : Fr G H G2 H2 :=
  ⟨a.gg.trans b.gg, b.gh, a.hh.trans b.hh, fun c h1 h2 => b.nw c (a.nw c h1 h2) (by
    cases q : H c with
    | none => exact absurd q h2
    | some o => rw [a.hh _ _ q]; exact fun z => by cases z)⟩
/-- a new frozen object -/
theorem Fr.new {G H : Hp} (s : Same G H) {p : Addr} {o : HO} (h : H p = none) : Fr G H (upd G p o) (upd H p o) := by
  have hg : G p = none := s.free h
  refine ⟨fun b x e => ?_, fun b x e => ?_, fun b x e => ?_, fun b h1 h2 => ?_⟩
  · rw [upd_ne (ne_of_none e hg)]; exact e
  · by_cases hb : b = p
    · subst hb
      rw [upd_same] at e ⊢
      exact e
    · rw [upd_ne hb] at e ⊢
      exact s _ _ e
  · rw [upd_ne (ne_of_none e h)]; exact e
  · by_cases hb : b = p
    · subst hb
      exact absurd h h2
    · rw [upd_ne hb]; exact h1
/-- the class that a name of the module holds -/
def cls (mg : Str → Option Value) (c : Str) : Value := (mg c).getD .none
def PostP {α β : Type} (Rp : PySem.W.Frag → Hp → β → α → Prop) (K : PySem.W.Frag) (mg : Str → Option Value) (E : XK) (G H : Hp) (m : R α) (Q : β → Hp → Prop) : Prop :=
  match m with
  | .no => False
  | .ex c => ∀ H', Same H H' → E (cls mg c) none H'
  | .ok t => ∀ v G' H', Fr G H G' H' → Rp K G' v t → Q v H'
theorem PostP.mono {α β : Type} {Rp : PySem.W.Frag → Hp → β → α → Prop} {K : PySem.W.Frag} {mg : Str → Option Value} {E : XK} {G H : Hp} {m : R α} {Q Q' : β → Hp → Prop} (h : PostP Rp K mg E G H m Q) (f : ∀ v H, Q v H → Q' v H) : PostP Rp K mg E G H m Q' := by
  cases m with
  | no => exact h
  | ex c => exact h
  | ok t => exact fun v G' H' a b => f _ _ (h v G' H' a b)
/-- the first part ran: then the second -/
theorem PostP.bind {α β γ δ : Type} {Rp : PySem.W.Frag → Hp → β → α → Prop} {Rq : PySem.W.Frag → Hp → δ → γ → Prop} {K : PySem.W.Frag} {mg : Str → Option Value} {E : XK} {G H : Hp} {m : R α} {f : α → R γ} {Q : δ → Hp → Prop}
    (h : PostP Rq K mg E G H (m.bind f) Q) : PostP Rp K mg E G H m fun v H1 => ∃ G1 t, Fr G H G1 H1 ∧ Rp K G1 v t ∧ m = .ok t ∧ PostP Rq K mg E G1 H1 (f t) Q := by
  cases m with
  | no => exact h
  | ex c => exact h
  | ok t =>
    intro v G1 H1 fr r
    refine ⟨G1, t, fr, r, rfl, ?_⟩
    have h' : PostP Rq K mg E G H (f t) Q := h
    cases e : f t with
    | no => rw [e] at h'; exact h'
    | ex c => rw [e] at h'; exact fun H' s => h' H' (fr.hh.trans s)
    | ok u => rw [e] at h'; exact fun w G2 H2 fr2 r2 => h' w G2 H2 (fr.trans fr2) r2
def rdP (K : PySem.W.Frag) (mg : Str → Option Value) (E : XK) (ρ : En) (m : R D) : TE := fun σ H Q => ∃ G, Same G H ∧ Ep K G ρ σ ∧ PostP Rep K mg E G H m Q
def rdA (K : PySem.W.Frag) (mg : Str → Option Value) (E : XK) (ρ : En) (m : R (List D)) : TA := fun σ H Q => ∃ G, Same G H ∧ Ep K G ρ σ ∧ PostP RepAll K mg E G H m Q
def RepB (_ : PySem.W.Frag) (_ : Hp) (b : Bool) (c : Bool) : Prop := b = c
def rdB (K : PySem.W.Frag) (mg : Str → Option Value) (E : XK) (ρ : En) (m : R Bool) : TT := fun σ H Q => ∃ G, Same G H ∧ Ep K G ρ σ ∧ PostP RepB K mg E G H m Q
/-- an expression, what it gives -/
abbrev XP (X : Cx) (E : XK) (ρ : En) (e : Expr) (m : R D) : Prop := PE X e (rdP X.K X.mg E ρ m)
abbrev XB (X : Cx) (E : XK) (ρ : En) (e : Expr) (m : R Bool) : Prop := PT X e (rdB X.K X.mg E ρ m)
abbrev XW (X : Cx) (E : XK) (ρ : En) (e : Expr) (m : R Bool) : Prop := PW X e (rdB X.K X.mg E ρ m)
abbrev XA (X : Cx) (E : XK) (ρ : En) (es : List Expr) (m : R (List D)) : Prop := PA X es (rdA X.K X.mg E ρ m)
theorem pe_weak {X : Cx} {e : Expr} {t t' : TE} (h : PE X e t) (f : ∀ σ H Q, t' σ H Q → t σ H Q) : PE X e t' := ⟨fun pins s σ H Q I q => h.run pins s σ H Q I (f _ _ _ q)⟩
theorem pt_weak {X : Cx} {e : Expr} {t t' : TT} (h : PT X e t) (f : ∀ σ H Q, t' σ H Q → t σ H Q) : PT X e t' := ⟨fun pins s σ H Q I q => h.run pins s σ H Q I (f _ _ _ q)⟩
theorem pw_weak {X : Cx} {e : Expr} {t t' : TT} (h : PW X e t) (f : ∀ σ H Q, t' σ H Q → t σ H Q) : PW X e t' := ⟨fun wh pins s σ H Q I q => h.run wh pins s σ H Q I (f _ _ _ q)⟩
theorem pa_weak {X : Cx} {es : List Expr} {t t' : TA} (h : PA X es t) (f : ∀ σ H Q, t' σ H Q → t σ H Q) : PA X es t' := ⟨fun pos pins s σ H Q I q => h.run pos pins s σ H Q I (f _ _ _ q)⟩
section
variable {X : Cx} {E : XK} {ρ : En} {a b c : Expr} {ma mb mc : R D} {pos : Pos}
/-! ### names, constants -/
theorem ep_var {x : Str} (i : Nat) {d : D} (hρ : getN ρ i = some d := by rfl) (hN : X.N[i]? = some x := by rfl) (hv : Vis X.env.scope x := by first | exact Or.inl rfl | exact Or.inr (Or.inl rfl) | exact Or.inr (Or.inr rfl)) (hd : (x == ("__debug__" : Str)) = false := by decide)
    (hcd : (x == ("__classdict__" : Str)) = false := by decide) : XP X E ρ (.Name x pos) (.ok d) :=
  pe_weak (pe_var hN hv hd hcd) fun σ H Q ⟨G, s, h, q⟩ => by
    obtain ⟨v, e, r⟩ := h.at_ i d hρ
    exact ⟨v, e, q v G H (Fr.refl s) r⟩
theorem ep_int {i j pos} : XP X E ρ (.Constant (.int i) j pos) (.ok (.int i)) := pe_weak pe_int fun σ H Q ⟨G, s, h, q⟩ => q _ G H (Fr.refl s) (.int i)
theorem ep_bool {i j pos} : XP X E ρ (.Constant (.bool i) j pos) (.ok (.bool i)) := pe_weak pe_bl fun σ H Q ⟨G, s, h, q⟩ => q _ G H (Fr.refl s) (.bl i)
theorem ep_none {j pos} : XP X E ρ (.Constant .none j pos) (.ok .none) := pe_weak pe_non fun σ H Q ⟨G, s, h, q⟩ => q _ G H (Fr.refl s) .non
theorem ep_str {i j pos} : XP X E ρ (.Constant (.str i) j pos) (.ok (.str i)) := pe_weak pe_str fun σ H Q ⟨G, s, h, q⟩ => q _ G H (Fr.refl s) (.str i)
/-! ### operators by trees -/
def r2 (K : PySem.W.Frag) (mg : Str → Option Value) (E : XK) (f : D → D → R D) : R2 := fun x y H Q => ∃ G tx ty, Same G H ∧ Rep K G x tx ∧ Rep K G y ty ∧ PostP Rep K mg E G H (f tx ty) Q
def r1t (K : PySem.W.Frag) (mg : Str → Option Value) (E : XK) (f : D → R D) : V → Hp → VK → Prop := fun x H Q => ∃ G tx, Same G H ∧ Rep K G x tx ∧ PostP Rep K mg E G H (f tx) Q
def rLt (K : PySem.W.Frag) (mg : Str → Option Value) (E : XK) (f : List D → R D) : List V → Hp → VK → Prop := fun xs H Q => ∃ G ts, Same G H ∧ RepAll K G xs ts ∧ PostP Rep K mg E G H (f ts) Q
/-- an operator's rule by trees -/
abbrev OpD (X : Cx) (E : XK) (op : Value → Value → Sem Value) (f : D → D → R D) : Prop := OpR X op (r2 X.K X.mg E f)
abbrev UnD (X : Cx) (E : XK) (op : Value → Sem Value) (f : D → R D) : Prop := UnR X op (r1t X.K X.mg E f)
abbrev CallD (X : Cx) (E : XK) (g : Value) (f : List D → R D) : Prop := CallR X g (rLt X.K X.mg E f)
theorem two {σ : L2.St} {H : Hp} {Q : VK} {f : D → D → R D} (h : rdP X.K X.mg E ρ (ma.bind fun x => mb.bind fun y => f x y) σ H Q) :
    rdP X.K X.mg E ρ ma σ H fun x H1 => rdP X.K X.mg E ρ mb σ H1 fun y H2 => r2 X.K X.mg E f x y H2 Q := by
  obtain ⟨G, s, e, q⟩ := h
  refine ⟨G, s, e, (PostP.bind (Rp := Rep) q).mono fun x H1 ⟨G1, t, fr, r, _, q1⟩ => ?_⟩
  refine ⟨G1, fr.gh, e.mono fr.gg, (PostP.bind (Rp := Rep) q1).mono fun y H2 ⟨G2, u, fr2, r2, _, q2⟩ => ?_⟩
  exact ⟨G2, t, u, fr2.gh, r.mono fr2.gg, r2, q2⟩
theorem ep_bin {op : Operator} {f : D → D → R D} (ho : OpD X E (binaryOp op) f) (ha : XP X E ρ a ma) (hb : XP X E ρ b mb) : XP X E ρ (.BinOp a op b pos) (ma.bind fun x => mb.bind fun y => f x y) :=
  pe_weak (pe_op ho ha hb) fun _ _ _ h => two h
theorem ep_un {op : UnaryOp} {f : D → R D} (ho : UnD X E (unaryOp op) f) (ha : XP X E ρ a ma) : XP X E ρ (.UnaryOp op a pos) (ma.bind f) :=
  pe_weak (pe_un ho ha) fun σ H Q h => by
    obtain ⟨G, s, e, q⟩ := h
    exact ⟨G, s, e, (PostP.bind (Rp := Rep) q).mono fun x H1 ⟨G1, t, fr, r, _, q1⟩ => ⟨G1, t, fr.gh, r, q1⟩⟩
theorem ep_cmp {op : CmpOp} {f : D → D → R D} (ho : OpD X E (compareOp op) f) (ha : XP X E ρ a ma) (hb : XP X E ρ b mb) (hm : behindInMarks op b = false := by first | exact nomark _ | rfl | with_unfolding_all rfl) :
    XP X E ρ (.Compare a [op] [b] pos) (ma.bind fun x => mb.bind fun y => f x y) := pe_weak (pe_cmpR ho ha hb hm) fun _ _ _ h => two h
/-! ### tests -/
def asB : D → R Bool
  | .bool b => .ok b
  | _ => .no
theorem eb_cmp {op : CmpOp} {f : D → D → R D} (ho : OpD X E (compareOp op) f) (ha : XP X E ρ a ma) (hb : XP X E ρ b mb) (hm : behindInMarks op b = false := by first | exact nomark _ | rfl | with_unfolding_all rfl) :
    XB X E ρ (.Compare a [op] [b] pos) (ma.bind fun x => mb.bind fun y => (f x y).bind asB) :=
  pt_weak (pt_cmpR ho ha hb hm) fun σ H Q h => by
    obtain ⟨G, s, e, q⟩ := h
    refine ⟨G, s, e, (PostP.bind (Rp := Rep) q).mono fun x H1 ⟨G1, t, fr, r, _, q1⟩ => ?_⟩
    refine ⟨G1, fr.gh, e.mono fr.gg, (PostP.bind (Rp := Rep) q1).mono fun y H2 ⟨G2, u, fr2, r2, _, q2⟩ => ?_⟩
    refine ⟨G2, t, u, fr2.gh, r.mono fr2.gg, r2, (PostP.bind (Rp := Rep) q2).mono fun z H3 ⟨G3, w, fr3, r3, _, q3⟩ => ?_⟩
    cases r3 with
    | bl k => exact ⟨k, rfl, q3 k G3 H3 (Fr.refl fr3.gh) rfl⟩
    | _ => exact q3.elim
/-- truth of any tree -/
def tru : D → R Bool
  | .none => .ok false
  | .bool b => .ok b
  | .int i => .ok (i != 0)
  | .str s => if s.length ≤ sizeLine then .ok ((s.length : Int) != 0) else .no
  | .list xs => .ok (!xs.isEmpty)
  | .tuple xs => .ok (!xs.isEmpty)
  | .dict _ => .no
theorem RepAll.isEmpty {K : PySem.W.Frag} {G : Hp} : ∀ {vs : List V} {ds : List D}, RepAll K G vs ds → vs.isEmpty = ds.isEmpty
  | _, _, .nil => rfl
  | _, _, .cons _ _ => rfl
theorem truV_of {K : PySem.W.Frag} {G H : Hp} {x : V} {t : D} (s : Same G H) (r : Rep K G x t) {k : Bool} (e : tru t = .ok k) : TruV K x H k := by
  cases r with
  | non => cases e; rfl
  | bl b => cases e; rfl
  | int i => cases e; rfl
  | str z =>
    simp only [tru] at e
    split at e
    · rename_i h
      cases e
      exact ⟨h, rfl⟩
    · cases e
  | lst h a =>
    cases e
    exact .inl ⟨_, same_lst s h, by rw [a.isEmpty]⟩
  | tup h a =>
    cases e
    exact .inr (.inl ⟨_, same_seqT s h, by rw [a.isEmpty]⟩)
  | dK _ _ _ => cases e
  | dT _ _ _ => cases e
  | scr _ => cases e
theorem tru_post {K : PySem.W.Frag} {mg : Str → Option Value} {G H : Hp} {x : V} {t : D} {Q : Bool → Hp → Prop} (s : Same G H) (r : Rep K G x t) (q : PostP RepB K mg E G H (tru t) Q) : ∃ k, TruV K x H k ∧ Q k H := by
  cases e : tru t with
  | no => rw [e] at q; exact q.elim
  | ex c =>
    cases t with
    | str z =>
      simp only [tru] at e
      split at e <;> cases e
    | _ => cases e
  | ok k =>
    rw [e] at q
    exact ⟨k, truV_of s r e, q k G H (Fr.refl s) rfl⟩
theorem eb_val (ha : XP X E ρ a ma) (he : ∀ whole, isTrue a X.env whole = (do let v ← whole; standAt a.pos; holding [v] (truthy v)) := by intro _; rfl) : XB X E ρ a (ma.bind tru) :=
  pt_weak (pt_truth ha he) fun σ H Q h => by
    obtain ⟨G, s, e, q⟩ := h
    refine ⟨G, s, e, (PostP.bind (Rp := Rep) q).mono fun x H1 ⟨G1, t, fr, r, _, q1⟩ => tru_post fr.gh r q1⟩
theorem eb_not {m : R Bool} (ha : XB X E ρ a m) : XB X E ρ (.UnaryOp .Not a pos) (m.bind fun k => .ok (!k)) :=
  pt_weak (pt_not ha) fun σ H Q h => by
    obtain ⟨G, s, e, q⟩ := h
    refine ⟨G, s, e, (PostP.bind (Rp := RepB) q).mono fun x H1 ⟨G1, t, fr, r, _, q1⟩ => ?_⟩
    cases r
    exact q1 _ G1 H1 (Fr.refl fr.gh) rfl
theorem ew_and1 {m : R Bool} (ha : XB X E ρ a m) : XW X E ρ (.BoolOp .And [a] pos) m := pw_and1 ha
theorem ew_or1 {m : R Bool} (ha : XB X E ρ a m) : XW X E ρ (.BoolOp .Or [a] pos) m := pw_or1 ha
theorem ew_and {rest : List Expr} {m n : R Bool} (ha : XB X E ρ a m) (hb : XW X E ρ (.BoolOp .And (b :: rest) pos) n) : XW X E ρ (.BoolOp .And (a :: b :: rest) pos) (m.bind fun k => if k = true then n else .ok false) :=
  pw_weak (pw_and ha hb) fun σ H Q h => by
    obtain ⟨G, s, e, q⟩ := h
    refine ⟨G, s, e, (PostP.bind (Rp := RepB) q).mono fun x H1 ⟨G1, t, fr, r, _, q1⟩ => ?_⟩
    cases r
    cases x with
    | true =>
      rw [if_pos rfl]
      exact ⟨G1, fr.gh, e.mono fr.gg, q1⟩
    | false =>
      rw [if_neg Bool.false_ne_true]
      exact q1 _ G1 H1 (Fr.refl fr.gh) rfl
theorem ew_or {rest : List Expr} {m n : R Bool} (ha : XB X E ρ a m) (hb : XW X E ρ (.BoolOp .Or (b :: rest) pos) n) : XW X E ρ (.BoolOp .Or (a :: b :: rest) pos) (m.bind fun k => if k = true then .ok true else n) :=
  pw_weak (pw_or ha hb) fun σ H Q h => by
    obtain ⟨G, s, e, q⟩ := h
    refine ⟨G, s, e, (PostP.bind (Rp := RepB) q).mono fun x H1 ⟨G1, t, fr, r, _, q1⟩ => ?_⟩
    cases r
    cases x with
    | true =>
      rw [if_pos rfl]
      exact q1 _ G1 H1 (Fr.refl fr.gh) rfl
    | false =>
      rw [if_neg Bool.false_ne_true]
      exact ⟨G1, fr.gh, e.mono fr.gg, q1⟩
theorem eb_w {m : R Bool} (h : XW X E ρ a m) : XB X E ρ a m := PW.pt h
/-! ### and, or, not as values -/
theorem ep_one {op : BoolOp} (ha : XP X E ρ a ma) : XP X E ρ (.BoolOp op [a] pos) ma := pe_one ha
theorem ep_and {rest : List Expr} (ha : XP X E ρ a ma) (hb : XP X E ρ (.BoolOp .And (b :: rest) pos) mb) : XP X E ρ (.BoolOp .And (a :: b :: rest) pos) (ma.bind fun x => (tru x).bind fun k => if k = true then mb else .ok x) :=
  pe_weak (pe_andT ha hb) fun σ H Q h => by
    obtain ⟨G, s, e, q⟩ := h
    refine ⟨G, s, e, (PostP.bind (Rp := Rep) q).mono fun x H1 ⟨G1, t, fr, r, _, q1⟩ => ?_⟩
    obtain ⟨k, tk, q2⟩ := tru_post (E := E) fr.gh r (PostP.bind (Rp := RepB) q1)
    obtain ⟨G2, t2, fr2, rb, _, q3⟩ := q2
    cases rb
    refine ⟨k, tk, ?_⟩
    cases k with
    | true =>
      rw [if_pos rfl]
      exact ⟨G2, fr2.gh, (e.mono fr.gg).mono fr2.gg, q3⟩
    | false =>
      rw [if_neg Bool.false_ne_true]
      exact q3 _ G2 H1 (Fr.refl fr2.gh) (r.mono fr2.gg)
theorem ep_or {rest : List Expr} (ha : XP X E ρ a ma) (hb : XP X E ρ (.BoolOp .Or (b :: rest) pos) mb) : XP X E ρ (.BoolOp .Or (a :: b :: rest) pos) (ma.bind fun x => (tru x).bind fun k => if k = true then .ok x else mb) :=
  pe_weak (pe_orT ha hb) fun σ H Q h => by
    obtain ⟨G, s, e, q⟩ := h
    refine ⟨G, s, e, (PostP.bind (Rp := Rep) q).mono fun x H1 ⟨G1, t, fr, r, _, q1⟩ => ?_⟩
    obtain ⟨k, tk, q2⟩ := tru_post (E := E) fr.gh r (PostP.bind (Rp := RepB) q1)
    obtain ⟨G2, t2, fr2, rb, _, q3⟩ := q2
    cases rb
    refine ⟨k, tk, ?_⟩
    cases k with
    | true =>
      rw [if_pos rfl]
      exact q3 _ G2 H1 (Fr.refl fr2.gh) (r.mono fr2.gg)
    | false =>
      rw [if_neg Bool.false_ne_true]
      exact ⟨G2, fr2.gh, (e.mono fr.gg).mono fr2.gg, q3⟩
theorem ep_not (ha : XP X E ρ a ma) : XP X E ρ (.UnaryOp .Not a pos) (ma.bind fun x => (tru x).bind fun k => .ok (.bool (!k))) :=
  pe_weak (pe_notT ha) fun σ H Q h => by
    obtain ⟨G, s, e, q⟩ := h
    refine ⟨G, s, e, (PostP.bind (Rp := Rep) q).mono fun x H1 ⟨G1, t, fr, r, _, q1⟩ => ?_⟩
    obtain ⟨k, tk, q2⟩ := tru_post (E := E) fr.gh r (PostP.bind (Rp := RepB) q1)
    obtain ⟨G2, t2, fr2, rb, _, q3⟩ := q2
    cases rb
    exact ⟨k, tk, q3 _ G2 H1 (Fr.refl fr2.gh) (.bl _)⟩
theorem ep_ifexp {m : R Bool} (hc : XB X E ρ c m) (ha : XP X E ρ a ma) (hb : XP X E ρ b mb) : XP X E ρ (.IfExp c a b pos) (m.bind fun k => if k = true then ma else mb) :=
  pe_weak (pe_ifExp hc ha hb) fun σ H Q h => by
    obtain ⟨G, s, e, q⟩ := h
    refine ⟨G, s, e, (PostP.bind (Rp := RepB) q).mono fun x H1 ⟨G1, t, fr, r, _, q1⟩ => ?_⟩
    cases r
    cases x with
    | true =>
      rw [if_pos rfl]
      exact ⟨G1, fr.gh, e.mono fr.gg, q1⟩
    | false =>
      rw [if_neg Bool.false_ne_true]
      exact ⟨G1, fr.gh, e.mono fr.gg, q1⟩
/-- a < b < c -/
theorem ep_chain {op op' : CmpOp} {f g : D → D → R D} (ho : OpD X E (compareOp op) f) (ho' : OpD X E (compareOp op') g) (ha : XP X E ρ a ma) (hb : XP X E ρ b mb) (hc : XP X E ρ c mc) (hm : lastMarks [op, op'] [b, c] = false := by with_unfolding_all rfl) :
    XP X E ρ (.Compare a [op, op'] [b, c] pos) (ma.bind fun x => mb.bind fun y => (f x y).bind fun z => (asB z).bind fun k => if k = true then mc.bind fun u => g y u else .ok (.bool false)) :=
  pe_weak (pe_chain ho ho' ha hb hc hm) fun σ H Q h => by
    obtain ⟨G, s, e, q⟩ := h
    refine ⟨G, s, e, (PostP.bind (Rp := Rep) q).mono fun x H1 ⟨G1, t, fr, r, _, q1⟩ => ?_⟩
    have e1 := e.mono fr.gg
    refine ⟨G1, fr.gh, e1, (PostP.bind (Rp := Rep) q1).mono fun y H2 ⟨G2, u, fr2, r2, _, q2⟩ => ?_⟩
    have e2 := e1.mono fr2.gg
    refine ⟨G2, t, u, fr2.gh, r.mono fr2.gg, r2, (PostP.bind (Rp := Rep) q2).mono fun z H3 ⟨G3, w, fr3, r3, _, q3⟩ => ?_⟩
    have e3 := e2.mono fr3.gg
    cases r3 with
    | bl k =>
      refine ⟨k, rfl, ?_⟩
      cases k with
      | true =>
        rw [if_pos rfl]
        have q3' : PostP Rep X.K X.mg E G3 H3 (mc.bind fun u' => g u u') Q := q3
        refine ⟨G3, fr3.gh, e3, (PostP.bind (Rp := Rep) q3').mono fun w' H4 ⟨G4, u4, fr4, r4, _, q4⟩ => ?_⟩
        exact ⟨G4, u, u4, fr4.gh, (r2.mono fr3.gg).mono fr4.gg, r4, q4⟩
      | false =>
        rw [if_neg Bool.false_ne_true]
        exact q3 _ G3 H3 (Fr.refl fr3.gh) (.bl _)
    | _ => exact q3.elim
theorem eb_chain {op op' : CmpOp} {f g : D → D → R D} (ho : OpD X E (compareOp op) f) (ho' : OpD X E (compareOp op') g) (ha : XP X E ρ a ma) (hb : XP X E ρ b mb) (hc : XP X E ρ c mc) (hm : lastMarks [op, op'] [b, c] = false := by with_unfolding_all rfl) :
    XB X E ρ (.Compare a [op, op'] [b, c] pos) (ma.bind fun x => mb.bind fun y => (f x y).bind fun z => (asB z).bind fun k => if k = true then mc.bind fun u => (g y u).bind asB else .ok false) :=
  pt_weak (pt_chain ho ho' ha hb hc hm) fun σ H Q h => by
    obtain ⟨G, s, e, q⟩ := h
    refine ⟨G, s, e, (PostP.bind (Rp := Rep) q).mono fun x H1 ⟨G1, t, fr, r, _, q1⟩ => ?_⟩
    have e1 := e.mono fr.gg
    refine ⟨G1, fr.gh, e1, (PostP.bind (Rp := Rep) q1).mono fun y H2 ⟨G2, u, fr2, r2, _, q2⟩ => ?_⟩
    have e2 := e1.mono fr2.gg
    refine ⟨G2, t, u, fr2.gh, r.mono fr2.gg, r2, (PostP.bind (Rp := Rep) q2).mono fun z H3 ⟨G3, w, fr3, r3, _, q3⟩ => ?_⟩
    have e3 := e2.mono fr3.gg
    cases r3 with
    | bl k =>
      refine ⟨k, rfl, ?_⟩
      cases k with
      | true =>
        rw [if_pos rfl]
        have q3' : PostP RepB X.K X.mg E G3 H3 (mc.bind fun u' => (g u u').bind asB) Q := q3
        refine ⟨G3, fr3.gh, e3, (PostP.bind (Rp := Rep) q3').mono fun w' H4 ⟨G4, u4, fr4, r4, _, q4⟩ => ?_⟩
        refine ⟨G4, u, u4, fr4.gh, (r2.mono fr3.gg).mono fr4.gg, r4, (PostP.bind (Rp := Rep) q4).mono fun z5 H5 ⟨G5, u5, fr5, r5, _, q5⟩ => ?_⟩
        cases r5 with
        | bl k5 => exact ⟨k5, rfl, q5 k5 G5 H5 (Fr.refl fr5.gh) rfl⟩
        | _ => exact q5.elim
      | false =>
        rw [if_neg Bool.false_ne_true]
        exact ⟨false, rfl, q3 _ G3 H3 (Fr.refl fr3.gh) rfl⟩
    | _ => exact q3.elim
/-! ### argument lists -/
abbrev CP := (β : Type) → (List D → R β) → R β
def XAk (X : Cx) (E : XK) (ρ : En) (es : List Expr) (mk : CP) : Prop := ∃ m : R (List D), (∀ (β : Type) (k : List D → R β), mk β k = m.bind k) ∧ (∀ ts, m = .ok ts → ts.length = es.length) ∧ XA X E ρ es m
theorem ea_nil : XAk X E ρ [] (fun β k => k []) := ⟨.ok [], fun _ _ => rfl, fun _ h => by cases h; rfl, pa_weak pa_nil fun σ H Q h => by
  obtain ⟨G, s, e, q⟩ := h
  exact q [] G H (Fr.refl s) .nil⟩
theorem ea_cons {es : List Expr} {mk : CP} (ha : XP X E ρ a ma) (hr : XAk X E ρ es mk) (hs : starEach (a :: es) X.env = (false, eval a X.env) :: starEach es X.env := by rfl) : XAk X E ρ (a :: es) (fun β k => ma.bind fun x => mk β fun xs => k (x :: xs)) := by
  obtain ⟨m, e, hl, h⟩ := hr
  refine ⟨ma.bind fun x => m.bind fun xs => .ok (x :: xs), fun β k => ?_, fun ts he => ?_, pa_weak (pa_cons ha h hs) fun σ H Q hq => ?_⟩
  · show (ma.bind fun x => mk β fun xs => k (x :: xs)) = _
    rw [R.bind_assoc]
    congr 1
    funext x
    rw [e, R.bind_assoc]
    rfl
  · cases ma with
    | ok x =>
      cases m with
      | ok xs =>
        cases he
        exact congrArg (· + 1) (hl xs rfl)
      | _ => cases he
    | _ => cases he
  · obtain ⟨G, s, ep, q⟩ := hq
    refine ⟨G, s, ep, (PostP.bind (Rp := Rep) q).mono fun x H1 ⟨G1, t, fr, r, _, q1⟩ => ?_⟩
    refine ⟨G1, fr.gh, ep.mono fr.gg, (PostP.bind (Rp := RepAll) q1).mono fun xs H2 ⟨G2, ts, fr2, r2, _, q2⟩ => ?_⟩
    exact q2 _ G2 H2 (Fr.refl fr2.gh) (.cons (r.mono fr2.gg) r2)
/-! ### displays -/
theorem upd_seqT {K : PySem.W.Frag} {G : Hp} {p : Addr} {xs : List V} {u : HO} (t : TupH u xs) : SqU K (upd G p u) p xs := .of upd_same t
theorem upd_seqL {K : PySem.W.Frag} {G : Hp} {p : Addr} {xs : List V} : SqL K (upd G p (.lst xs)) p xs := .of upd_same
theorem same_new {G : Hp} {p : Addr} {o : HO} (h : G p = none) : Same G (upd G p o) := fun b x e => by
  rw [upd_ne (ne_of_none e h)]; exact e
/-- a new tuple of some -/
theorem rep_newT {K : PySem.W.Frag} {G H : Hp} {p : Addr} {vs : List V} {ts : List D} {u : HO} (s : Same G H) (h : H p = none) (t : TupH u vs) (r : RepAll K G vs ts) : Rep K (upd G p u) (.ref p) (.tuple ts) := .tup (upd_seqT t) (r.mono (same_new (s.free h)))
theorem rep_newL {K : PySem.W.Frag} {G H : Hp} {p : Addr} {vs : List V} {ts : List D} (s : Same G H) (h : H p = none) (r : RepAll K G vs ts) : Rep K (upd G p (.lst vs)) (.ref p) (.list ts) := .lst upd_same (r.mono (same_new (s.free h)))
theorem ep_tup {es : List Expr} {mk : CP} {x1} (h : XAk X E ρ es mk) (hl : es.length ≤ 1000 := by decide) : XP X E ρ (.Tuple es x1 pos) (mk D fun ts => .ok (.tuple ts)) := by
  obtain ⟨m, e, hl', h⟩ := h
  rw [e]
  refine pe_weak (pe_tupU h) fun σ H Q hq => ?_
  obtain ⟨G, s, ep, q⟩ := hq
  refine ⟨G, s, ep, (PostP.bind (Rp := RepAll) q).mono fun vs H1 ⟨G1, ts, fr, r, em, q1⟩ => ?_⟩
  · have hz : ts.length ≤ sizeLine := by
      rw [hl' ts em, sizeLine_eq]
      omega
    refine ⟨by rw [r.length]; exact hz, fun p u np tu => q1 _ _ _ (Fr.new fr.gh np) (rep_newT fr.gh np tu r)⟩
theorem ep_lst {es : List Expr} {mk : CP} (h : XAk X E ρ es mk) (hl : es.length ≤ 1000 := by decide) : XP X E ρ (.List es pos) (mk D fun ts => .ok (.list ts)) := by
  obtain ⟨m, e, hl', h⟩ := h
  rw [e]
  refine pe_weak (pe_lst h) fun σ H Q hq => ?_
  obtain ⟨G, s, ep, q⟩ := hq
  refine ⟨G, s, ep, (PostP.bind (Rp := RepAll) q).mono fun vs H1 ⟨G1, ts, fr, r, em, q1⟩ => ?_⟩
  · have hz : ts.length ≤ sizeLine := by
      rw [hl' ts em, sizeLine_eq]
      omega
    refine ⟨by rw [r.length]; exact hz, fun p np => q1 _ _ _ (Fr.new fr.gh np) (rep_newL fr.gh np r)⟩
/-! ### calls of built-in things by their names -/
theorem ep_callB {x : Str} {p : Pos} {id : String} {es : List Expr} {mk : CP} {f : List D → R D} (hc : CallD X E (.builtin id) f) (hm : X.mg x = none) (ha : XAk X E ρ (a :: es) mk) (hv : bootBuiltins x = some (.builtin id) := by decide +kernel) (hg : Gl X x := by rfl) (hn : x ≠ "__name__" := by decide)
    (hdb : (x == ("__debug__" : Str)) = false := by decide) (he : starEach (a :: es) X.env = (false, eval a X.env) :: starEach es X.env := by rfl) (hpl : (backTo pos (starEach es X.env)).any (·.1) = false := by rfl) : XP X E ρ (.Call (.Name x p) (a :: es) [] pos) (mk D f) := by
  obtain ⟨m, e, _, h⟩ := ha
  rw [e]
  refine pe_weak (pe_callB hc hg hm hv h hn hdb he hpl) fun σ H Q hq => ?_
  obtain ⟨G, s, ep, q⟩ := hq
  exact ⟨G, s, ep, (PostP.bind (Rp := RepAll) q).mono fun vs H1 ⟨G1, ts, fr, r, _, q1⟩ => ⟨G1, ts, fr.gh, r, q1⟩⟩
theorem ep_callT {x : Str} {p : Pos} {T : String} {es : List Expr} {mk : CP} {f : List D → R D} (hc : CallD X E (.type T) f) (hm : X.mg x = none) (ha : XAk X E ρ (a :: es) mk) (hv : bootBuiltins x = some (.type T) := by decide +kernel) (hg : Gl X x := by rfl) (hn : x ≠ "__name__" := by decide)
    (hdb : (x == ("__debug__" : Str)) = false := by decide) (he : starEach (a :: es) X.env = (false, eval a X.env) :: starEach es X.env := by rfl) (hpl : (backTo pos (starEach es X.env)).any (·.1) = false := by rfl) : XP X E ρ (.Call (.Name x p) (a :: es) [] pos) (mk D f) := by
  obtain ⟨m, e, _, h⟩ := ha
  rw [e]
  refine pe_weak (pe_callTy hc hg hm hv h hn hdb he hpl) fun σ H Q hq => ?_
  obtain ⟨G, s, ep, q⟩ := hq
  exact ⟨G, s, ep, (PostP.bind (Rp := RepAll) q).mono fun vs H1 ⟨G1, ts, fr, r, _, q1⟩ => ⟨G1, ts, fr.gh, r, q1⟩⟩
/-! ### subscripts, slices -/
abbrev IxD (X : Cx) (E : XK) (f : D → D → R D) : Prop := IxR X (r2 X.K X.mg E f)
theorem ep_ix {f : D → D → R D} (hr : IxD X E f) (ha : XP X E ρ a ma) (hb : XP X E ρ b mb) (hs : PlainIx b := by exact fun _ _ => rfl) : XP X E ρ (.Subscript a b pos) (ma.bind fun x => mb.bind fun y => f x y) :=
  pe_weak (pe_ix hr ha hb hs) fun _ _ _ h => two h
end
end TL
/-! the tree layer, 3: operators by trees -/
namespace TL
open PySem PySem.Spec PyProof.Rows L2
section
variable {K : PySem.W.Frag} {mg : Str → Option Value} {E : XK} {G H : Hp} {Q : VK}
/-- an answer without new objects -/
theorem PostP.now {t : D} {v : V} (s : Same G H) (r : Rep K G v t) (q : PostP Rep K mg E G H (.ok t) Q) : Q v H := q v G H (Fr.refl s) r
theorem PostP.newT {vs : List V} {ts : List D} (s : Same G H) (r : RepAll K G vs ts) (q : PostP Rep K mg E G H (.ok (.tuple ts)) Q) : ∀ p u, H p = none → TupH u vs → Q (.ref p) (upd H p u) := fun p u np tu => q _ _ _ (Fr.new s np) (rep_newT s np tu r)
theorem PostP.newL {vs : List V} {ts : List D} (s : Same G H) (r : RepAll K G vs ts) (q : PostP Rep K mg E G H (.ok (.list ts)) Q) : ∀ p, H p = none → Q (.ref p) (upd H p (.lst vs)) := fun p np => q _ _ _ (Fr.new s np) (rep_newL s np r)
theorem dp_of {v : V} {d : D} (s : Same G H) (r : Rep K G v d) (f : flat d = true) : Dp K H v d := (r.mono s).dp f
theorem dpAll_of {vs : List V} {ds : List D} (s : Same G H) (r : RepAll K G vs ds) (f : flatAll ds = true) : DpAll K H vs ds := (r.mono s).dp f
end
mutual
theorem flat_plain : ∀ d : D, flat d = PyData.plain d
  | .none => rfl
  | .bool _ => rfl
  | .int _ => rfl
  | .str _ => rfl
  | .list xs => by rw [flat, PyData.plain, flat_plainAll xs]
  | .tuple xs => by rw [flat, PyData.plain, flat_plainAll xs]
  | .dict _ => rfl
theorem flat_plainAll : ∀ ds : List D, flatAll ds = PyData.plainAll ds
  | [] => rfl
  | x :: xs => by rw [flatAll, PyData.plainAll, flat_plain x, flat_plainAll xs]
end
/-- data that may be held against one another: no dict within, not too deep -/
def fit (d : D) : Bool := flat d && decide (d.depth ≤ 60)
theorem fit_flat {d : D} (h : fit d = true) : flat d = true := by
  unfold fit at h
  rw [Bool.and_eq_true] at h
  exact h.1
theorem fit_depth {d : D} (h : fit d = true) : d.depth ≤ 60 := by
  unfold fit at h
  rw [Bool.and_eq_true] at h
  exact of_decide_eq_true h.2
def pyEq (x y : D) : R D := if fit x = true ∧ fit y = true then .ok (.bool (PyData.eqv x y)) else .no
def pyNe (x y : D) : R D := if fit x = true ∧ fit y = true then .ok (.bool (!PyData.eqv x y)) else .no
def pyAdd : D → D → R D
  | .int i, .int j => .ok (.int (i + j))
  | .list xs, .list ys => if xs.length + ys.length ≤ sizeLine then .ok (.list (xs ++ ys)) else .no
  | .tuple xs, .tuple ys => if xs.length + ys.length ≤ sizeLine then .ok (.tuple (xs ++ ys)) else .no
  | .str a, .str b => if a.length + b.length ≤ sizeLine then .ok (.str (a ++ b)) else .no
  | _, _ => .no
def pySub : D → D → R D
  | .int i, .int j => .ok (.int (i - j))
  | _, _ => .no
instance (i j : Int) : Decidable (CMulX i j) := by unfold CMulX; exact inferInstance
def pyMul : D → D → R D
  | .int i, .int j => if CMulX i j then .ok (.int (i * j)) else .no
  | _, _ => .no
def pyDiv : D → D → R D
  | .int i, .int j => if 0 < j ∧ j < 1073741824 then .ok (.int (i / j)) else .no
  | _, _ => .no
def pyMod : D → D → R D
  | .int i, .int j => if 0 < j then .ok (.int (i % j)) else .no
  | _, _ => .no
def pyPow : D → D → R D
  | .int i, .int j => if 0 ≤ j ∧ j ≤ 1000000 ∧ i.natAbs < 2 ^ 64 then .ok (.int (i ^ j.toNat)) else .no
  | _, _ => .no
def pyNeg : D → R D
  | .int i => .ok (.int (-i))
  | _ => .no
/-- x < y -/
def pyLt (x y : D) : R D := match x, y with
  | .int i, .int j => .ok (.bool (decide (i < j)))
  | .tuple xs, .tuple ys => if PySem.W.alike (.tuple xs) (.tuple ys) = true ∧ fit (.tuple xs) = true ∧ fit (.tuple ys) = true then .ok (.bool (PySem.W.dataLt (.tuple xs) (.tuple ys))) else .no
  | _, _ => .no
def pyLe : D → D → R D
  | .int i, .int j => .ok (.bool (decide (i ≤ j)))
  | _, _ => .no
def pyGt : D → D → R D
  | .int i, .int j => .ok (.bool (decide (j < i)))
  | _, _ => .no
def pyGe : D → D → R D
  | .int i, .int j => .ok (.bool (decide (j ≤ i)))
  | _, _ => .no
/-- x in y -/
def isIn (x : D) (ys : List D) : Bool := ys.any fun z => PyData.eqv z x
def keyOf : D → Option Key
  | .int i => some (.inl i)
  | .str s => some (.inr s)
  | _ => none
def pyIn (x y : D) : R D := match y with
  | .list ys => if fit x = true ∧ fit (.list ys) = true then .ok (.bool (isIn x ys)) else .no
  | .tuple ys => if fit x = true ∧ fit (.tuple ys) = true then .ok (.bool (isIn x ys)) else .no
  | .str t => match x with
    | .str s => .ok (.bool (!(Builtin.Str.occurrences t s 0 t.length 1).isEmpty))
    | _ => .no
  | _ => .no
def pyNotIn (x y : D) : R D := match y with
  | .list ys => if fit x = true ∧ fit (.list ys) = true then .ok (.bool (!isIn x ys)) else .no
  | .tuple ys => if fit x = true ∧ fit (.tuple ys) = true then .ok (.bool (!isIn x ys)) else .no
  | .str t => match x with
    | .str s => .ok (.bool (!(!(Builtin.Str.occurrences t s 0 t.length 1).isEmpty)))
    | _ => .no
  | _ => .no
def isNone : D → Bool
  | .none => true
  | _ => false
def pyIs (x y : D) : R D := match y with
  | .none => .ok (.bool (isNone x))
  | _ => .no
def pyIsNot (x y : D) : R D := match y with
  | .none => .ok (.bool (!isNone x))
  | _ => .no
/-- xs[i] -/
def pyIx (x y : D) : R D := match x, y with
  | .list xs, .int i => match atI xs i with
    | some d => .ok d
    | none => .no
  | .tuple xs, .int i => match atI xs i with
    | some d => .ok d
    | none => .no
  | .dict [(.none, .list xs)], .int i => match atI xs i with
    | some d => .ok d
    | none => .no
  | .str z, .int i => if z.length ≤ sizeLine then (match atI z.cps.toList i with
      | some c => .ok (.str ⟨#[c]⟩)
      | none => .no) else .no
  | _, _ => .no
section
variable {X : Cx} {E : XK}
theorem reads_of {pins : List (Addr × Obj)} {σ : L2.St} {G H : Hp} {s : Shared} (I : Inv X pins σ H s) (sa : Same G H) {v : V} {u : Value} {d : D} (r : Rep X.K G v d) (rv : RelV v u) (f : flat d = true) : ∃ as, Reads s.heap u d as := Dp.reads I d v u (dp_of sa r f) rv
theorem od_eq (hu : X.A.units + 66 < cLine) : OpD X E (compareOp .Eq) pyEq := by
  intro pins s σ H x y v u Q I rx ry ⟨G, tx, ty, sa, r1, r2, q⟩
  unfold pyEq at q
  split at q
  · rename_i hf
    obtain ⟨as, q1⟩ := reads_of I sa r1 rx (fit_flat hf.1)
    obtain ⟨bs, q2⟩ := reads_of I sa r2 ry (fit_flat hf.2)
    have h1 := fit_depth hf.1
    have h2 := fit_flat hf.1
    have h3 := fit_flat hf.2
    rw [flat_plain] at h2 h3
    exact PySem.SeqAt.eq_plain q1 q2 h2 h3 (by omega) ⟨.bl _, H, I, rfl, q.now sa (.bl _)⟩
  · exact q.elim
theorem od_ne (hu : X.A.units + 66 < cLine) : OpD X E (compareOp .NotEq) pyNe := by
  intro pins s σ H x y v u Q I rx ry ⟨G, tx, ty, sa, r1, r2, q⟩
  unfold pyNe at q
  split at q
  · rename_i hf
    obtain ⟨as, q1⟩ := reads_of I sa r1 rx (fit_flat hf.1)
    obtain ⟨bs, q2⟩ := reads_of I sa r2 ry (fit_flat hf.2)
    have h1 := fit_depth hf.1
    have h2 := fit_flat hf.1
    have h3 := fit_flat hf.2
    rw [flat_plain] at h2 h3
    exact PySem.SeqAt.ne_plain q1 q2 h2 h3 (by omega) ⟨.bl _, H, I, rfl, q.now sa (.bl _)⟩
  · exact q.elim
theorem op_catL2 {pins : List (Addr × Obj)} {σ : L2.St} {H : Hp} {s : Shared} {a b : Addr} {xs ys : List V} {Q : VK} (I : Inv X pins σ H s) (ha : SqL X.K H a xs) (hb : SqL X.K H b ys) (hz : xs.length + ys.length ≤ sizeLine) (q : ∀ p, H p = none → Q (.ref p) (upd H p (.lst (xs ++ ys)))) :
    wpAny (model X.prog X.w) X.A (binaryOp .Add (.ref a) (.ref b)) (L2.EP X pins σ Q) X.xe s := by
  obtain ⟨vs, rv, pl, _⟩ := I.list ha
  obtain ⟨ws, rw', pl2, _⟩ := I.list hb
  obtain ⟨⟨cls, dd, data, sl⟩, ho, hc, n, hd⟩ := pl.isList
  obtain ⟨⟨cls2, dd2, data2, sl2⟩, ho2, hc2, n2, hd2⟩ := pl2.isList
  simp only at hc hd hc2 hd2
  subst hc hd hc2 hd2
  have e : vs.toArray ++ ws.toArray = (vs ++ ws).toArray := by simp
  refine concat_meets ⟨_, ho, rfl⟩ ⟨_, ho2, rfl⟩ noFill_list_add seq_list_add PySem.F.slot_list_add PySem.F.entry_list_add (PySem.F.args_list_add_2 _ _) (list_addW a b vs.toArray ws.toArray n n2 dd dd2 sl sl2 (by
    have := rv.length
    have := rw'.length
    simp only [List.size_toArray]
    omega)) ⟨ho, ho2, ?_⟩
  rw [e]
  exact ⟨.ref _, _, I.lnew (t' := s.toks) (rv.append rw') (by rw [List.length_append]; exact hz), rfl, q _ I.fresh⟩
theorem od_add : OpD X E (binaryOp .Add) pyAdd := by
  intro pins s σ H x y v u Q I rx ry ⟨G, tx, ty, sa, r1, r2, q⟩
  cases r1 with
  | int i => cases r2 with
    | int j => exact op_add pins s σ H _ _ v u Q I rx ry ⟨i, j, rfl, rfl, q.now sa (.int _)⟩
    | _ => exact q.elim
  | str a => cases r2 with
    | str b =>
      simp only [pyAdd] at q
      split at q
      · rename_i hz
        exact op_add_str pins s σ H _ _ v u Q I rx ry ⟨a, b, rfl, rfl, hz, q.now sa (.str _)⟩
      · exact q.elim
    | _ => exact q.elim
  | lst h1 a1 => cases r2 with
    | lst h2 a2 =>
      simp only [pyAdd] at q
      split at q
      · rename_i hz
        cases rx
        cases ry
        exact op_catL2 I (same_lst sa h1) (same_lst sa h2) (by rw [a1.length, a2.length]; exact hz) (q.newL sa (a1.append a2))
      · exact q.elim
    | _ => exact q.elim
  | tup h1 a1 => cases r2 with
    | tup h2 a2 =>
      simp only [pyAdd] at q
      split at q
      · rename_i xs ys hz
        refine op_catU pins s σ H _ _ v u Q I rx ry ⟨_, _, _, _, rfl, rfl, same_seqT sa h1, same_seqT sa h2, by rw [a1.length, a2.length]; exact hz, fun e => ?_, fun e1 e2 => ?_, fun _ _ => q.newT sa (a1.append a2)⟩
        · subst e
          cases a1
          exact q.now sa (.tup h2 a2)
        · subst e2
          cases a2
          rw [List.append_nil] at q
          exact q.now sa (.tup h1 a1)
      · exact q.elim
    | _ => exact q.elim
  | _ => exact q.elim
theorem od_sub : OpD X E (binaryOp .Sub) pySub := by
  intro pins s σ H x y v u Q I rx ry ⟨G, tx, ty, sa, r1, r2, q⟩
  cases r1 with
  | int i => cases r2 with
    | int j => exact op_sub pins s σ H _ _ v u Q I rx ry ⟨i, j, rfl, rfl, q.now sa (.int _)⟩
    | _ => exact q.elim
  | _ => exact q.elim
theorem od_mul : OpD X E (binaryOp .Mult) pyMul := by
  intro pins s σ H x y v u Q I rx ry ⟨G, tx, ty, sa, r1, r2, q⟩
  cases r1 with
  | int i => cases r2 with
    | int j =>
      simp only [pyMul] at q
      split at q
      · rename_i hc
        exact op_mulX pins s σ H _ _ v u Q I rx ry ⟨i, j, rfl, rfl, hc, q.now sa (.int _)⟩
      · exact q.elim
    | _ => exact q.elim
  | _ => exact q.elim
theorem od_div : OpD X E (binaryOp .FloorDiv) pyDiv := by
  intro pins s σ H x y v u Q I rx ry ⟨G, tx, ty, sa, r1, r2, q⟩
  cases r1 with
  | int i => cases r2 with
    | int j =>
      simp only [pyDiv] at q
      split at q
      · rename_i hc
        exact op_fdiv pins s σ H _ _ v u Q I rx ry ⟨i, j, rfl, rfl, hc, q.now sa (.int _)⟩
      · exact q.elim
    | _ => exact q.elim
  | _ => exact q.elim
theorem od_mod : OpD X E (binaryOp .Mod) pyMod := by
  intro pins s σ H x y v u Q I rx ry ⟨G, tx, ty, sa, r1, r2, q⟩
  cases r1 with
  | int i => cases r2 with
    | int j =>
      simp only [pyMod] at q
      split at q
      · rename_i hc
        exact op_mod pins s σ H _ _ v u Q I rx ry ⟨i, j, rfl, rfl, hc, q.now sa (.int _)⟩
      · exact q.elim
    | _ => exact q.elim
  | _ => exact q.elim
theorem od_pow : OpD X E (binaryOp .Pow) pyPow := by
  intro pins s σ H x y v u Q I rx ry ⟨G, tx, ty, sa, r1, r2, q⟩
  cases r1 with
  | int i => cases r2 with
    | int j =>
      simp only [pyPow] at q
      split at q
      · rename_i hc
        exact op_pow pins s σ H _ _ v u Q I rx ry ⟨i, j, rfl, rfl, hc, q.now sa (.int _)⟩
      · exact q.elim
    | _ => exact q.elim
  | _ => exact q.elim
theorem ud_neg : UnD X E (unaryOp .USub) pyNeg := by
  intro pins s σ H x v Q I rx ⟨G, tx, sa, r1, q⟩
  cases r1 with
  | int i => exact un_neg pins s σ H _ v Q I rx ⟨i, rfl, q.now sa (.int _)⟩
  | _ => exact q.elim
theorem od_lt (hu : X.A.units + 66 < cLine) : OpD X E (compareOp .Lt) pyLt := by
  intro pins s σ H x y v u Q I rx ry ⟨G, tx, ty, sa, r1, r2, q⟩
  cases r1 with
  | int i => cases r2 with
    | int j => exact op_lt pins s σ H _ _ v u Q I rx ry ⟨i, j, rfl, rfl, q.now sa (.bl _)⟩
    | _ => exact q.elim
  | tup h1 a1 => cases r2 with
    | tup h2 a2 =>
      rename_i a xs dx b ys dy
      simp only [pyLt] at q
      split at q
      · rename_i hc
        obtain ⟨as, q1⟩ := reads_of I sa (.tup h1 a1) rx (fit_flat hc.2.1)
        obtain ⟨bs, q2⟩ := reads_of I sa (.tup h2 a2) ry (fit_flat hc.2.2)
        have hd := fit_depth hc.2.1
        exact PySem.W.rcLt_alike _ _ X.A s v u as bs q1 q2 hc.1 (fun z => by cases z) (by omega) _ _ _ _ ⟨.bl _, H, I, rfl, q.now sa (.bl _)⟩
      · exact q.elim
    | _ => exact q.elim
  | _ => exact q.elim
theorem od_le : OpD X E (compareOp .LtE) pyLe := by
  intro pins s σ H x y v u Q I rx ry ⟨G, tx, ty, sa, r1, r2, q⟩
  cases r1 with
  | int i => cases r2 with
    | int j => exact op_le pins s σ H _ _ v u Q I rx ry ⟨i, j, rfl, rfl, q.now sa (.bl _)⟩
    | _ => exact q.elim
  | _ => exact q.elim
theorem od_gt : OpD X E (compareOp .Gt) pyGt := by
  intro pins s σ H x y v u Q I rx ry ⟨G, tx, ty, sa, r1, r2, q⟩
  cases r1 with
  | int i => cases r2 with
    | int j => exact op_gt pins s σ H _ _ v u Q I rx ry ⟨i, j, rfl, rfl, q.now sa (.bl _)⟩
    | _ => exact q.elim
  | _ => exact q.elim
theorem od_ge : OpD X E (compareOp .GtE) pyGe := by
  intro pins s σ H x y v u Q I rx ry ⟨G, tx, ty, sa, r1, r2, q⟩
  cases r1 with
  | int i => cases r2 with
    | int j => exact op_ge pins s σ H _ _ v u Q I rx ry ⟨i, j, rfl, rfl, q.now sa (.bl _)⟩
    | _ => exact q.elim
  | _ => exact q.elim
theorem od_in (hu : X.A.units + 66 < cLine) : OpD X E (compareOp .In) pyIn := by
  intro pins s σ H x y v u Q I rx ry ⟨G, tx, ty, sa, r1, r2, q⟩
  cases r2 with
  | lst h2 a2 =>
    simp only [pyIn] at q
    split at q
    · rename_i hf
      obtain ⟨as, q1⟩ := reads_of I sa r1 rx (fit_flat hf.1)
      obtain ⟨bs, q2⟩ := reads_of I sa (.lst h2 a2) ry (fit_flat hf.2)
      have h1 := fit_depth hf.1
      have h2 := fit_flat hf.1
      have h3 := fit_flat hf.2
      rw [flat_plain] at h2 h3
      exact PySem.SeqAt.in_list_data q2 q1 (by simpa [PyData.plain] using h3) h2 (by omega) ⟨.bl _, H, I, rfl, q.now sa (.bl _)⟩
    · exact q.elim
  | tup h2 a2 =>
    simp only [pyIn] at q
    split at q
    · rename_i hf
      obtain ⟨as, q1⟩ := reads_of I sa r1 rx (fit_flat hf.1)
      obtain ⟨bs, q2⟩ := reads_of I sa (.tup h2 a2) ry (fit_flat hf.2)
      have h1 := fit_depth hf.1
      have h2 := fit_flat hf.1
      have h3 := fit_flat hf.2
      rw [flat_plain] at h2 h3
      exact PySem.SeqAt.in_tuple_data q2 q1 (by simpa [PyData.plain] using h3) h2 (by omega) ⟨.bl _, H, I, rfl, q.now sa (.bl _)⟩
    · exact q.elim
  | str t => cases r1 with
    | str z => exact op_in_str pins s σ H _ _ v u Q I rx ry ⟨z, t, rfl, rfl, q.now sa (.bl _)⟩
    | _ => exact q.elim
  | _ => exact q.elim
theorem od_notin (hu : X.A.units + 66 < cLine) : OpD X E (compareOp .NotIn) pyNotIn := by
  intro pins s σ H x y v u Q I rx ry ⟨G, tx, ty, sa, r1, r2, q⟩
  cases r2 with
  | lst h2 a2 =>
    simp only [pyNotIn] at q
    split at q
    · rename_i hf
      obtain ⟨as, q1⟩ := reads_of I sa r1 rx (fit_flat hf.1)
      obtain ⟨bs, q2⟩ := reads_of I sa (.lst h2 a2) ry (fit_flat hf.2)
      have h1 := fit_depth hf.1
      have h2 := fit_flat hf.1
      have h3 := fit_flat hf.2
      rw [flat_plain] at h2 h3
      exact PySem.SeqAt.notIn_list_data q2 q1 (by simpa [PyData.plain] using h3) h2 (by omega) ⟨.bl _, H, I, rfl, q.now sa (.bl _)⟩
    · exact q.elim
  | tup h2 a2 =>
    simp only [pyNotIn] at q
    split at q
    · rename_i hf
      obtain ⟨as, q1⟩ := reads_of I sa r1 rx (fit_flat hf.1)
      obtain ⟨bs, q2⟩ := reads_of I sa (.tup h2 a2) ry (fit_flat hf.2)
      have h1 := fit_depth hf.1
      have h2 := fit_flat hf.1
      have h3 := fit_flat hf.2
      rw [flat_plain] at h2 h3
      exact PySem.SeqAt.notIn_tuple_data q2 q1 (by simpa [PyData.plain] using h3) h2 (by omega) ⟨.bl _, H, I, rfl, q.now sa (.bl _)⟩
    · exact q.elim
  | str t => cases r1 with
    | str z => exact op_notin_str pins s σ H _ _ v u Q I rx ry ⟨z, t, rfl, rfl, q.now sa (.bl _)⟩
    | _ => exact q.elim
  | _ => exact q.elim
theorem od_is : OpD X E (compareOp .Is) pyIs := by
  intro pins s σ H x y v u Q I rx ry ⟨G, tx, ty, sa, r1, r2, q⟩
  cases r2 with
  | non =>
    refine op_isN pins s σ H _ _ v u Q I rx ry ⟨rfl, ?_⟩
    cases r1 <;> exact q.now sa (.bl _)
  | _ => exact q.elim
theorem od_isnot : OpD X E (compareOp .IsNot) pyIsNot := by
  intro pins s σ H x y v u Q I rx ry ⟨G, tx, ty, sa, r1, r2, q⟩
  cases r2 with
  | non =>
    refine op_notN pins s σ H _ _ v u Q I rx ry ⟨rfl, ?_⟩
    cases r1 <;> exact q.now sa (.bl _)
  | _ => exact q.elim
theorem RepAll.atI {K : PySem.W.Frag} {G : Hp} {vs : List V} {ds : List D} {i : Int} {d : D} (r : RepAll K G vs ds) (h : L2.atI ds i = some d) : ∃ v, L2.atI vs i = some v ∧ Rep K G v d := by
  unfold L2.atI at h ⊢
  rw [r.length]
  cases e : ixN ds.length i with
  | none => rw [e] at h; cases h
  | some j =>
    rw [e] at h
    exact r.get h
abbrev D0int (i : Int) : D := .int i
theorem nums_rep {K : PySem.W.Frag} {G : Hp} : ∀ bs : List Int, RepAll K G (bs.map V.int) (bs.map D0int)
  | [] => .nil
  | b :: bs => .cons (.int b) (nums_rep bs)
theorem ix_dict {es : List (D × D)} {y : D} (h : ∀ xs, es ≠ [(.none, .list xs)]) : pyIx (.dict es) y = .no := by
  cases es with
  | nil => cases y <;> rfl
  | cons p es =>
    obtain ⟨k, v⟩ := p
    cases es with
    | nil => cases k <;> cases v <;> cases y <;> first | rfl | exact absurd rfl (h _)
    | cons q es => cases k <;> cases v <;> cases y <;> rfl
theorem not_scrK {kvs : List (Key × V)} {es : List (D × D)} (ek : es.map (·.1) = kvs.map (fun p => keyD p.1)) (xs : List D) : es ≠ [(.none, .list xs)] := by
  rintro rfl
  cases kvs with
  | nil => cases ek
  | cons k kvs => obtain ⟨k1 | k1, v⟩ := k <;> simp [keyD] at ek
theorem not_scrT {kvs : List (List Key × V)} {es : List (D × D)} (ek : es.map (·.1) = kvs.map (fun p => PyData.tuple (p.1.map keyD))) (xs : List D) : es ≠ [(.none, .list xs)] := by
  rintro rfl
  cases kvs with
  | nil => cases ek
  | cons k kvs => simp at ek
theorem ix_nonint {x y : D} (h : ∀ i, y ≠ .int i) : pyIx x y = .no := by
  cases y with
  | int i => exact absurd rfl (h i)
  | _ =>
    cases x with
    | dict es =>
      cases es with
      | nil => rfl
      | cons p es =>
        obtain ⟨k, v⟩ := p
        cases es with
        | nil => cases k <;> cases v <;> rfl
        | cons q es => cases k <;> cases v <;> rfl
    | _ => rfl
theorem id_ix : IxD X E pyIx := by
  intro value slice pins s σ H x y v u Q I rx ry ⟨G, tx, ty, sa, r1, r2, q⟩ hs
  cases r2 with
  | int i => cases r1 with
    | lst h1 a1 =>
      simp only [pyIx] at q
      split at q
      · rename_i d e
        obtain ⟨w, e2, r⟩ := a1.atI e
        exact ix_list value slice pins s σ H _ _ v u Q I rx ry ⟨_, _, i, w, rfl, rfl, same_lst sa h1, e2, q.now sa r⟩ hs
      · exact q.elim
    | tup h1 a1 =>
      simp only [pyIx] at q
      split at q
      · rename_i d e
        obtain ⟨w, e2, r⟩ := a1.atI e
        exact ix_tup value slice pins s σ H _ _ v u Q I rx ry ⟨_, _, i, w, rfl, rfl, same_seqT sa h1, e2, q.now sa r⟩ hs
      · exact q.elim
    | str z =>
      simp only [pyIx] at q
      split at q
      · rename_i hz
        split at q
        · rename_i c e
          exact ix_str value slice pins s σ H _ _ v u Q I rx ry ⟨z, i, c, rfl, rfl, hz, e, q.now sa (.str _)⟩ hs
        · exact q.elim
      · exact q.elim
    | scr h =>
      rename_i a ns
      have q' : PostP Rep X.K X.mg E G H (match atI (ns.map D0int) i with
        | some d => .ok d
        | none => .no) Q := q
      cases e : atI (ns.map D0int) i with
      | none => rw [e] at q'; exact q'.elim
      | some d =>
        rw [e] at q'
        obtain ⟨w, e2, r⟩ := (nums_rep ns).atI e
        exact ix_list value slice pins s σ H _ _ v u Q I rx ry ⟨_, _, i, w, rfl, rfl, sa.seq h, e2, q'.now sa r⟩ hs
    | dK h ek r =>
      rw [ix_dict (not_scrK ek)] at q
      exact q.elim
    | dT h ek r =>
      rw [ix_dict (not_scrT ek)] at q
      exact q.elim
    | _ => exact q.elim
  | _ =>
    rw [ix_nonint (by intro i z; cases z)] at q
    exact q.elim
end
end TL
/-! sorted of a tuple -/
namespace PySem.W
open PySem PySem.SeqAt PyProof.Rows
section
variable {prog : Program} {w : World} {A : Around} {E : Value → Shared → Prop} {s : Shared} {β : Type} {vs : List Value} {bs : List β} {enc : β → PyData} {R : Value → β → Prop} {κ : PyProof.Rows.KeyKind}
theorem collect_tupT {l : Addr} {vs : List Value} {Q : List Value → Shared → Prop} (hl : IsTup s.heap l vs.toArray)
    (h : Q vs { s with heap := (s.heap.push (seqObj "list" #[] 0)).update s.heap.objs.size (Obj.mapSeq (· ++ vs.toArray)) }) (hsz : vs.length ≤ sizeLine) :
    wpAny (model prog w) A (collect (.ref l)) Q E s := by
  obtain ⟨o, ho, hc, n, hd⟩ := id hl
  unfold collect
  refine wpAny_bind (wpAny_runValue (codeAny_builtin entry_proto_collect' ?_))
  show wpAny _ _ (do again (.builtin "list.__iadd__" ⟨[← newList [], .ref l], []⟩)) _ _ s
  refine wpAny_bind (wpAny_newList (wpAny_pure ⟨Code.quiet_builtin _ (by decide +kernel), codeAny_builtin entry_list_iadd' ?_⟩))
  show wpAny _ _ (Builtin.List.listExtendWith (.ref s.heap.objs.size) (.ref l) (.ref s.heap.objs.size)) _ _ { s with heap := s.heap.push (seqObj "list" #[] 0) }
  unfold Builtin.List.listExtendWith
  have ho' : (s.heap.push (seqObj "list" #[] 0)).get? l = some o := Heap.get?_push_of_some _ ho
  refine wpAny_bind (wpAny_typeOf (T := "tuple") ⟨o, ho', hc⟩ ?_)
  have ht : (Value.type "tuple" == Value.type "tuple") = true := by rfl
  rw [if_pos (by rw [ht]; simp)]
  refine wpAny_bind (listItems_at ho' hd ?_)
  refine wpAny_bind (listItems_at (xs := #[]) (n := 0) (Heap.get?_push_size _ rfl) rfl ?_)
  rw [if_neg (by simp)]
  refine wpAny_bind (listUpdate_at (xs := #[]) (n := 0) (Heap.get?_push_size _ rfl) rfl ?_ (Nat.zero_le _) (by show (#[] ++ vs.toArray).size ≤ sizeLine + 1; simp only [Array.size_append, List.size_toArray, List.length_nil]; omega))
  refine wpAny_pure ?_
  show wpAny (model prog w) A (do
      let o ← load s.heap.objs.size
      match o.data with
      | .seq xs _ => pure xs.toList
      | _ => unsupported "internal:collect") Q E { s with heap := (s.heap.push (seqObj "list" #[] 0)).update s.heap.objs.size (Obj.mapSeq (· ++ vs.toArray)) }
  refine wpAny_bind (wpAny_load (get?_update_seq (Heap.get?_push_size _ rfl) _) ?_)
  show wpAny _ _ (pure ((#[] : Array Value) ++ vs.toArray).toList) Q E _
  rw [show ((#[] : Array Value) ++ vs.toArray).toList = vs by simp]
  exact wpAny_pure h
theorem sortedT_of_sort {l : Addr} {vs : List Value} {Q : Value → Shared → Prop} (hl : IsTup s.heap l vs.toArray) (hL : vs.length ≤ sizeLine)
    (body : ∀ E' : Value → Shared → Prop, wpAny (model prog w) A.in1.in1 (Builtin.«list.sort» ⟨[.ref (s.heap.objs.size + 1)], []⟩) (fun f s' => f = .done (.ret .none) ∧ Q (.ref (s.heap.objs.size + 1)) s') E' { s with heap := copyHeap s.heap vs }) :
    wpAny (model prog w) A (call (.builtin "sorted") [.ref l]) Q E s := by
  refine call_function_entry_kw kind_sorted plain_sorted entry_sorted (args_sorted1 _) ?_
  unfold Builtin.«sorted»
  refine wpAny_bind (m := checkCount "sorted" 1 1 _) (wpAny_pure ?_)
  refine wpAny_bind (collect_tupT hl ?_ hL)
  refine wpAny_bind (wpAny_newList ?_ hL)
  have hsz : ((s.heap.push (seqObj "list" #[] 0)).update s.heap.objs.size (Obj.mapSeq (· ++ vs.toArray))).objs.size = s.heap.objs.size + 1 := by
    rw [Heap.size_update, size_push']
  show wpAny _ _ _ _ _ { s with heap := copyHeap s.heap vs }
  rw [hsz]
  refine wpAny_bind (wpAny_holding (wpAny_call_entry_kw slot_list_sort ⟨_, copyHeap_at s.heap vs, rfl⟩ entry_list_sort ?body (args_list_sort _)))
  case body =>
    show wpAny (model prog w) A.in1.in1 (Builtin.«list.sort» ⟨[.ref (s.heap.objs.size + 1)], []⟩) _ _ _
    refine wpAny_mono (body _) (fun f s' hf => ?_) fun _ _ e => e
    obtain ⟨rfl, hq⟩ := hf
    exact ⟨_, rfl, wpAny_pure ⟨_, rfl, hq⟩⟩
theorem sortedT_vals {l : Addr} {vs : List Value} {Q : Value → Shared → Prop} (hl : IsTup s.heap l vs.toArray) (S : SortsAt prog w A.in1.in1 { s with heap := sortingHeap (copyHeap s.heap vs) (s.heap.objs.size + 1) vs } κ vs) (hL : vs.length ≤ sizeLine)
    (h : Q (.ref (s.heap.objs.size + 1)) { s with heap := sortedAll s.heap vs (sortVals κ false vs vs).toArray }) : wpAny (model prog w) A (call (.builtin "sorted") [.ref l]) Q E s :=
  sortedT_of_sort hl hL fun _ => list_sort_vals (s := { s with heap := copyHeap s.heap vs }) (copyHeap_at s.heap vs) S hL ⟨rfl, h⟩
/-- sorted(t), t a tuple -/
theorem sortedT_data {l : Addr} {Q : Value → Shared → Prop} (hl : IsTup s.heap l vs.toArray) (e : EachIs R vs bs) (er : EachIs (fun v b => ∃ as, Reads s.heap v (enc b) as) vs bs) (hal : AllAlike (bs.map enc)) (hk : Sortable (bs.map enc)) (hL : bs.length ≤ sizeLine)
    (hu : ∀ b, b ∈ bs → A.units + 2 + (enc b).depth < cLine) (h : ∀ out, out.length = bs.length → EachIs R out (bs.mergeSort (dataLe false enc)) → Q (.ref (s.heap.objs.size + 1)) { s with heap := sortedAll s.heap vs (List.toArray out) }) :
    wpAny (model prog w) A (call (.builtin "sorted") [.ref l]) Q E s := by
  have er' : EachIs (fun v b => ∃ as, Reads (sortingHeap (copyHeap s.heap vs) (s.heap.objs.size + 1) vs) v (enc b) as) vs bs := er.mono fun _ _ ⟨as, r⟩ => ⟨as, PyProof.Rows.Reads.keeps (fun _ _ => sorting_copy_old) r⟩
  exact sortedT_vals hl (SortsAt.data (s := { s with heap := sortingHeap (copyHeap s.heap vs) (s.heap.objs.size + 1) vs }) (each_map (R := fun v d => ∃ as, Reads (sortingHeap (copyHeap s.heap vs) (s.heap.objs.size + 1) vs) v d as) enc er') hal hk (bound_map hu)) (by rw [e.length]; exact hL)
    (h _ (by rw [sortVals_length false rfl]; exact e.length) (sortVals_data false e er' hal))
end
end PySem.W
/-! the tree layer, 4: built-in calls by trees -/
namespace TL
open PySem PySem.Spec PyProof.Rows L2
def pyLen : List D → R D
  | [.list xs] => .ok (.int xs.length)
  | [.tuple xs] => .ok (.int xs.length)
  | [.str s] => if s.length ≤ sizeLine then .ok (.int s.length) else .no
  | [.dict [(.none, .list xs)]] => .ok (.int xs.length)
  | _ => .no
def pyList : List D → R D
  | [.list xs] => .ok (.list xs)
  | [.tuple xs] => .ok (.list xs)
  | _ => .no
def pyTuple : List D → R D
  | [.list xs] => .ok (.tuple xs)
  | [.tuple xs] => .ok (.tuple xs)
  | _ => .no
def bools : List D → Option (List Bool)
  | [] => some []
  | .bool b :: xs => (bools xs).map (b :: ·)
  | _ => none
def nums : List D → Option (List Int)
  | [] => some []
  | .int b :: xs => (nums xs).map (b :: ·)
  | _ => none
theorem bools_eq : ∀ {xs : List D} {bs : List Bool}, bools xs = some bs → xs = bs.map .bool
  | [], bs, h => by cases h; rfl
  | x :: xs, bs, h => by
    cases x with
    | bool b =>
      simp only [bools] at h
      cases e : bools xs with
      | none => rw [e] at h; cases h
      | some cs => rw [e] at h; cases h; rw [bools_eq e]; rfl
    | _ => cases h
theorem nums_eq : ∀ {xs : List D} {bs : List Int}, nums xs = some bs → xs = bs.map .int
  | [], bs, h => by cases h; rfl
  | x :: xs, bs, h => by
    cases x with
    | int b =>
      simp only [nums] at h
      cases e : nums xs with
      | none => rw [e] at h; cases h
      | some cs => rw [e] at h; cases h; rw [nums_eq e]; rfl
    | _ => cases h
@[simp] theorem bools_map : ∀ bs : List Bool, bools (bs.map .bool) = some bs
  | [] => rfl
  | b :: bs => by
    show (bools (bs.map .bool)).map (b :: ·) = _
    rw [bools_map bs]
    rfl
@[simp] theorem nums_map : ∀ bs : List Int, nums (bs.map .int) = some bs
  | [] => rfl
  | b :: bs => by
    show (nums (bs.map .int)).map (b :: ·) = _
    rw [nums_map bs]
    rfl
def pyAll : List D → R D
  | [.list xs] => match bools xs with
    | some bs => .ok (.bool (bs.all id))
    | none => .no
  | _ => .no
def pyAny : List D → R D
  | [.list xs] => match bools xs with
    | some bs => .ok (.bool (bs.any id))
    | none => .no
  | _ => .no
def pySum : List D → R D
  | [.list xs] => match nums xs with
    | some ns => .ok (.int ns.sum)
    | none => .no
  | _ => .no
def lmax : List Int → Int
  | [] => 0
  | x :: xs => xs.foldl (fun a b => if b > a then b else a) x
def lmin : List Int → Int
  | [] => 0
  | x :: xs => xs.foldl (fun a b => if b < a then b else a) x
theorem foldmax : ∀ (xs : List Int) (a : Int), (xs.foldl (fun a b => if b > a then b else a) a = a ∨ xs.foldl (fun a b => if b > a then b else a) a ∈ xs) ∧ a ≤ xs.foldl (fun a b => if b > a then b else a) a ∧
    ∀ y ∈ xs, y ≤ xs.foldl (fun a b => if b > a then b else a) a
  | [], a => ⟨.inl rfl, Int.le_refl _, fun _ h => nomatch h⟩
  | x :: xs, a => by
    obtain ⟨h1, h2, h3⟩ := foldmax xs (if x > a then x else a)
    simp only [List.foldl_cons, List.mem_cons]
    generalize xs.foldl (fun a b => if b > a then b else a) (if x > a then x else a) = m at h1 h2 h3
    refine ⟨?_, ?_, ?_⟩
    · rcases h1 with h1 | h1
      · split at h1
        · exact .inr (.inl h1)
        · exact .inl h1
      · exact .inr (.inr h1)
    · split at h2 <;> omega
    · rintro y (rfl | hy)
      · split at h2 <;> omega
      · exact h3 y hy
theorem foldmin : ∀ (xs : List Int) (a : Int), (xs.foldl (fun a b => if b < a then b else a) a = a ∨ xs.foldl (fun a b => if b < a then b else a) a ∈ xs) ∧ xs.foldl (fun a b => if b < a then b else a) a ≤ a ∧
    ∀ y ∈ xs, xs.foldl (fun a b => if b < a then b else a) a ≤ y
  | [], a => ⟨.inl rfl, Int.le_refl _, fun _ h => nomatch h⟩
  | x :: xs, a => by
    obtain ⟨h1, h2, h3⟩ := foldmin xs (if x < a then x else a)
    simp only [List.foldl_cons, List.mem_cons]
    generalize xs.foldl (fun a b => if b < a then b else a) (if x < a then x else a) = m at h1 h2 h3
    refine ⟨?_, ?_, ?_⟩
    · rcases h1 with h1 | h1
      · split at h1
        · exact .inr (.inl h1)
        · exact .inl h1
      · exact .inr (.inr h1)
    · split at h2 <;> omega
    · rintro y (rfl | hy)
      · split at h2 <;> omega
      · exact h3 y hy
theorem lmax_spec {xs : List Int} (h : xs ≠ []) : lmax xs ∈ xs ∧ ∀ y ∈ xs, y ≤ lmax xs := by
  cases xs with
  | nil => exact absurd rfl h
  | cons x xs =>
    obtain ⟨h1, h2, h3⟩ := foldmax xs x
    refine ⟨?_, fun y hy => ?_⟩
    · rcases h1 with h1 | h1
      · exact List.mem_cons.mpr (.inl h1)
      · exact List.mem_cons_of_mem _ h1
    · rcases List.mem_cons.mp hy with rfl | hy
      · exact h2
      · exact h3 y hy
theorem lmin_spec {xs : List Int} (h : xs ≠ []) : lmin xs ∈ xs ∧ ∀ y ∈ xs, lmin xs ≤ y := by
  cases xs with
  | nil => exact absurd rfl h
  | cons x xs =>
    obtain ⟨h1, h2, h3⟩ := foldmin xs x
    refine ⟨?_, fun y hy => ?_⟩
    · rcases h1 with h1 | h1
      · exact List.mem_cons.mpr (.inl h1)
      · exact List.mem_cons_of_mem _ h1
    · rcases List.mem_cons.mp hy with rfl | hy
      · exact h2
      · exact h3 y hy
def pyMax : List D → R D
  | [.int i, .int j] => .ok (.int (if j > i then j else i))
  | [.list xs] => match nums xs with
    | some ns => if ns = [] then .no else .ok (.int (lmax ns))
    | none => .no
  | _ => .no
def pyMin : List D → R D
  | [.int i, .int j] => .ok (.int (if j < i then j else i))
  | [.list xs] => match nums xs with
    | some ns => if ns = [] then .no else .ok (.int (lmin ns))
    | none => .no
  | _ => .no
def pyInt : List D → R D
  | [.int i] => .ok (.int i)
  | [.bool k] => .ok (.int (if k then 1 else 0))
  | _ => .no
def pyDivmod : List D → R D
  | [.int i, .int j] => if 0 < j ∧ j < 1073741824 then .ok (.tuple [.int (i / j), .int (i % j)]) else .no
  | _ => .no
/-- what may be sorted -/
def sortable (xs : List D) : Bool := (xs.all fun d => xs.all fun e => PySem.W.alike d e) && xs.all fit && ((xs.all fun d => match d with
  | .tuple (_ :: _) => true
  | _ => false) || xs.all fun d => match d with
  | .none => false
  | .tuple _ => false
  | _ => true)
def sortD (xs : List D) : List D := xs.mergeSort (PySem.W.dataLe false fun d => d)
def pySorted : List D → R D
  | [.list xs] => if sortable xs = true then .ok (.list (sortD xs)) else .no
  | [.tuple xs] => if sortable xs = true then .ok (.list (sortD xs)) else .no
  | _ => .no
section
variable {X : Cx} {E : XK}
theorem repAll1 {K : PySem.W.Frag} {G : Hp} {vs : List V} {d : D} (h : RepAll K G vs [d]) : ∃ v, vs = [v] ∧ Rep K G v d := by
  cases h with
  | cons r t => cases t; exact ⟨_, rfl, r⟩
theorem repAll2 {K : PySem.W.Frag} {G : Hp} {vs : List V} {d e : D} (h : RepAll K G vs [d, e]) : ∃ v w, vs = [v, w] ∧ Rep K G v d ∧ Rep K G w e := by
  cases h with
  | cons r t =>
    cases t with
    | cons r2 t2 => cases t2; exact ⟨_, _, rfl, r, r2⟩
theorem repAll_bools {K : PySem.W.Frag} {G : Hp} : ∀ {vs : List V} {bs : List Bool}, RepAll K G vs (bs.map .bool) → vs = bs.map V.bl
  | _, [], .nil => rfl
  | _, b :: bs, .cons r t => by
    cases r
    rw [repAll_bools t]
    rfl
theorem repAll_nums {K : PySem.W.Frag} {G : Hp} : ∀ {vs : List V} {bs : List Int}, RepAll K G vs (bs.map .int) → vs = bs.map V.int
  | _, [], .nil => rfl
  | _, b :: bs, .cons r t => by
    cases r
    rw [repAll_nums t]
    rfl
theorem nums_repAll {K : PySem.W.Frag} {G : Hp} : ∀ bs : List Int, RepAll K G (bs.map V.int) (bs.map .int)
  | [] => .nil
  | b :: bs => .cons (.int b) (nums_repAll bs)
theorem len_dict {es : List (D × D)} (h : ∀ xs, es ≠ [(.none, .list xs)]) : pyLen [.dict es] = .no := by
  cases es with
  | nil => rfl
  | cons p es =>
    obtain ⟨k, v⟩ := p
    cases es with
    | nil => cases k <;> cases v <;> first | rfl | exact absurd rfl (h _)
    | cons q es => cases k <;> cases v <;> rfl
theorem cd_len : CallD X E (.builtin "len") pyLen := by
  intro pins s σ H vs us Q I r ⟨G, ts, sa, ra, q⟩
  match ts, q with
  | [.list xs], q =>
    obtain ⟨v, rfl, r1⟩ := repAll1 ra
    cases r1 with
    | lst h a => exact call_len_seq pins s σ H _ us Q I r ⟨_, _, rfl, .inl (same_lst sa h), q.now sa (by rw [a.length]; exact .int _)⟩
  | [.tuple xs], q =>
    obtain ⟨v, rfl, r1⟩ := repAll1 ra
    cases r1 with
    | tup h a => exact call_len_seq pins s σ H _ us Q I r ⟨_, _, rfl, .inr (same_seqT sa h), q.now sa (by rw [a.length]; exact .int _)⟩
  | [.str z], q =>
    obtain ⟨v, rfl, r1⟩ := repAll1 ra
    cases r1
    simp only [pyLen] at q
    split at q
    · rename_i hz
      exact call_len_str pins s σ H _ us Q I r ⟨z, rfl, hz, q.now sa (.int _)⟩
    · exact q.elim
  | [.dict es], q =>
    obtain ⟨v, rfl, r1⟩ := repAll1 ra
    cases r1 with
    | scr h =>
      rename_i ns
      exact call_len_seq pins s σ H _ us Q I r ⟨_, _, rfl, .inl (sa.seq h), q.now sa (by rw [List.length_map, List.length_map]; exact .int _)⟩
    | dK h ek r =>
      rw [len_dict (not_scrK ek)] at q
      exact q.elim
    | dT h ek r =>
      rw [len_dict (not_scrT ek)] at q
      exact q.elim
  | [.none], q | [.bool _], q | [.int _], q | [], q => exact q.elim
  | _ :: _ :: _, q => simp only [pyLen] at q; exact q.elim
theorem cd_list : CallD X E (.type "list") pyList := by
  intro pins s σ H vs us Q I r ⟨G, ts, sa, ra, q⟩
  match ts, q with
  | [.list xs], q =>
    obtain ⟨v, rfl, r1⟩ := repAll1 ra
    cases r1 with
    | lst h a => exact call_list_of pins s σ H _ us Q I r ⟨_, _, rfl, .inl (same_lst sa h), q.newL sa a⟩
  | [.tuple xs], q =>
    obtain ⟨v, rfl, r1⟩ := repAll1 ra
    cases r1 with
    | tup h a => exact call_list_of pins s σ H _ us Q I r ⟨_, _, rfl, .inr (same_seqT sa h), q.newL sa a⟩
  | [.none], q | [.bool _], q | [.int _], q | [.dict _], q | [.str _], q | [], q => exact q.elim
  | _ :: _ :: _, q => simp only [pyList] at q; exact q.elim
theorem cd_tuple : CallD X E (.type "tuple") pyTuple := by
  intro pins s σ H vs us Q I r ⟨G, ts, sa, ra, q⟩
  match ts, q with
  | [.list xs], q =>
    obtain ⟨v, rfl, r1⟩ := repAll1 ra
    cases r1 with
    | lst h a => exact call_tuple_ofU pins s σ H _ us Q I r ⟨_, _, rfl, .inl ⟨same_lst sa h, q.newT sa a⟩⟩
  | [.tuple xs], q =>
    obtain ⟨v, rfl, r1⟩ := repAll1 ra
    cases r1 with
    | tup h a => exact call_tuple_ofU pins s σ H _ us Q I r ⟨_, _, rfl, .inr ⟨same_seqT sa h, q.now sa (.tup h a)⟩⟩
  | [.none], q | [.bool _], q | [.int _], q | [.dict _], q | [.str _], q | [], q => exact q.elim
  | _ :: _ :: _, q => simp only [pyTuple] at q; exact q.elim
theorem cd_all (hc : X.calm = true) : CallD X E (.builtin "all") pyAll := by
  intro pins s σ H vs us Q I r ⟨G, ts, sa, ra, q⟩
  match ts, q with
  | [.list xs], q =>
    obtain ⟨v, rfl, r1⟩ := repAll1 ra
    simp only [pyAll] at q
    cases e : bools xs with
    | none => rw [e] at q; exact q.elim
    | some bs =>
      rw [e] at q
      cases r1 with
      | lst h a =>
        rw [bools_eq e] at a
        rw [repAll_bools a] at h
        exact cr_all hc pins s σ H _ us Q I r ⟨_, bs, rfl, same_lst sa h, q.now sa (.bl _)⟩
  | [.none], q | [.bool _], q | [.int _], q | [.dict _], q | [.str _], q | [.tuple _], q | [], q => exact q.elim
  | _ :: _ :: _, q => simp only [pyAll] at q; exact q.elim
theorem cd_any (hc : X.calm = true) : CallD X E (.builtin "any") pyAny := by
  intro pins s σ H vs us Q I r ⟨G, ts, sa, ra, q⟩
  match ts, q with
  | [.list xs], q =>
    obtain ⟨v, rfl, r1⟩ := repAll1 ra
    simp only [pyAny] at q
    cases e : bools xs with
    | none => rw [e] at q; exact q.elim
    | some bs =>
      rw [e] at q
      cases r1 with
      | lst h a =>
        rw [bools_eq e] at a
        rw [repAll_bools a] at h
        exact cr_any hc pins s σ H _ us Q I r ⟨_, bs, rfl, same_lst sa h, q.now sa (.bl _)⟩
  | [.none], q | [.bool _], q | [.int _], q | [.dict _], q | [.str _], q | [.tuple _], q | [], q => exact q.elim
  | _ :: _ :: _, q => simp only [pyAny] at q; exact q.elim
theorem cd_sum (hc : X.calm = true) : CallD X E (.builtin "sum") pySum := by
  intro pins s σ H vs us Q I r ⟨G, ts, sa, ra, q⟩
  match ts, q with
  | [.list xs], q =>
    obtain ⟨v, rfl, r1⟩ := repAll1 ra
    simp only [pySum] at q
    cases e : nums xs with
    | none => rw [e] at q; exact q.elim
    | some bs =>
      rw [e] at q
      cases r1 with
      | lst h a =>
        rw [nums_eq e] at a
        rw [repAll_nums a] at h
        exact cr_sum hc pins s σ H _ us Q I r ⟨_, bs, rfl, same_lst sa h, q.now sa (.int _)⟩
  | [.none], q | [.bool _], q | [.int _], q | [.dict _], q | [.str _], q | [.tuple _], q | [], q => exact q.elim
  | _ :: _ :: _, q => simp only [pySum] at q; exact q.elim
theorem cd_max (hc : X.calm = true) : CallD X E (.builtin "max") pyMax := by
  intro pins s σ H vs us Q I r ⟨G, ts, sa, ra, q⟩
  match ts, q with
  | [.int i, .int j], q =>
    obtain ⟨v, w, rfl, r1, r2⟩ := repAll2 ra
    cases r1
    cases r2
    exact call_max2 hc pins s σ H _ us Q I r ⟨i, j, rfl, q.now sa (.int _)⟩
  | [.list xs], q =>
    obtain ⟨v, rfl, r1⟩ := repAll1 ra
    simp only [pyMax] at q
    cases e : nums xs with
    | none => rw [e] at q; exact q.elim
    | some bs =>
      rw [e] at q
      by_cases hn : bs = []
      · simp only [if_pos hn] at q
        exact q.elim
      · simp only [if_neg hn] at q
        cases r1 with
        | lst h a =>
          rw [nums_eq e] at a
          rw [repAll_nums a] at h
          obtain ⟨m1, m2⟩ := lmax_spec hn
          refine cr_max hc pins s σ H _ us Q I r ⟨_, bs, rfl, same_lst sa h, List.length_pos_iff.mpr hn, fun m hm hmx => ?_⟩
          have em : m = lmax bs := Int.le_antisymm (m2 m hm) (hmx _ m1)
          subst em
          exact q.now sa (.int _)
  | [.none], q | [.bool _], q | [.int _], q | [.dict _], q | [.str _], q | [.tuple _], q | [], q => exact q.elim
  | a :: b :: c :: l, q => simp only [pyMax] at q; exact q.elim
  | [.none, _], q | [.bool _, _], q | [.dict _, _], q | [.str _, _], q | [.tuple _, _], q | [.list _, _], q => simp only [pyMax] at q; exact q.elim
  | [.int _, .none], q | [.int _, .bool _], q | [.int _, .dict _], q | [.int _, .str _], q | [.int _, .tuple _], q | [.int _, .list _], q => simp only [pyMax] at q; exact q.elim
theorem cd_min (hc : X.calm = true) : CallD X E (.builtin "min") pyMin := by
  intro pins s σ H vs us Q I r ⟨G, ts, sa, ra, q⟩
  match ts, q with
  | [.int i, .int j], q =>
    obtain ⟨v, w, rfl, r1, r2⟩ := repAll2 ra
    cases r1
    cases r2
    exact call_min2 hc pins s σ H _ us Q I r ⟨i, j, rfl, q.now sa (.int _)⟩
  | [.list xs], q =>
    obtain ⟨v, rfl, r1⟩ := repAll1 ra
    simp only [pyMin] at q
    cases e : nums xs with
    | none => rw [e] at q; exact q.elim
    | some bs =>
      rw [e] at q
      by_cases hn : bs = []
      · simp only [if_pos hn] at q
        exact q.elim
      · simp only [if_neg hn] at q
        cases r1 with
        | lst h a =>
          rw [nums_eq e] at a
          rw [repAll_nums a] at h
          obtain ⟨m1, m2⟩ := lmin_spec hn
          refine cr_min hc pins s σ H _ us Q I r ⟨_, bs, rfl, same_lst sa h, List.length_pos_iff.mpr hn, fun m hm hmx => ?_⟩
          have em : m = lmin bs := Int.le_antisymm (hmx _ m1) (m2 m hm)
          subst em
          exact q.now sa (.int _)
  | [.none], q | [.bool _], q | [.int _], q | [.dict _], q | [.str _], q | [.tuple _], q | [], q => exact q.elim
  | a :: b :: c :: l, q => simp only [pyMin] at q; exact q.elim
  | [.none, _], q | [.bool _, _], q | [.dict _, _], q | [.str _, _], q | [.tuple _, _], q | [.list _, _], q => simp only [pyMin] at q; exact q.elim
  | [.int _, .none], q | [.int _, .bool _], q | [.int _, .dict _], q | [.int _, .str _], q | [.int _, .tuple _], q | [.int _, .list _], q => simp only [pyMin] at q; exact q.elim
theorem cd_int : CallD X E (.type "int") pyInt := by
  intro pins s σ H vs us Q I r ⟨G, ts, sa, ra, q⟩
  match ts, q with
  | [.int i], q =>
    obtain ⟨v, rfl, r1⟩ := repAll1 ra
    cases r1
    exact call_int1 pins s σ H _ us Q I r (.inl ⟨i, rfl, q.now sa (.int _)⟩)
  | [.bool i], q =>
    obtain ⟨v, rfl, r1⟩ := repAll1 ra
    cases r1
    exact call_int1 pins s σ H _ us Q I r (.inr ⟨i, rfl, q.now sa (.int _)⟩)
  | [.none], q | [.list _], q | [.dict _], q | [.str _], q | [.tuple _], q | [], q => exact q.elim
  | _ :: _ :: _, q => simp only [pyInt] at q; exact q.elim
theorem cd_divmod : CallD X E (.builtin "divmod") pyDivmod := by
  intro pins s σ H vs us Q I r ⟨G, ts, sa, ra, q⟩
  match ts, q with
  | [.int i, .int j], q =>
    obtain ⟨v, w, rfl, r1, r2⟩ := repAll2 ra
    cases r1
    cases r2
    simp only [pyDivmod] at q
    split at q
    · rename_i hc
      exact call_divmodU pins s σ H _ us Q I r ⟨i, j, rfl, hc, q.newT (vs := [.int (i / j), .int (i % j)]) sa (.cons (.int _) (.cons (.int _) .nil))⟩
    · exact q.elim
  | [.none], q | [.bool _], q | [.int _], q | [.dict _], q | [.str _], q | [.tuple _], q | [.list _], q | [], q => exact q.elim
  | a :: b :: c :: l, q => simp only [pyDivmod] at q; exact q.elim
  | [.none, _], q | [.bool _, _], q | [.dict _, _], q | [.str _, _], q | [.tuple _, _], q | [.list _, _], q => simp only [pyDivmod] at q; exact q.elim
  | [.int _, .none], q | [.int _, .bool _], q | [.int _, .dict _], q | [.int _, .str _], q | [.int _, .tuple _], q | [.int _, .list _], q => simp only [pyDivmod] at q; exact q.elim
/-! ### sorted -/
theorem reads_all {pins : List (Addr × Obj)} {σ : L2.St} {G H : Hp} {s : Shared} (I : Inv X pins σ H s) (sa : Same G H) : ∀ {vs : List V} {us : List Value} {ds : List D}, RepAll X.K G vs ds → Vals vs us → ds.all fit = true →
    PySem.W.EachIs (fun (u : Value) (b : V × D) => RelV b.1 u ∧ Rep X.K G b.1 b.2) us (vs.zip ds) ∧ PySem.W.EachIs (fun (u : Value) (b : V × D) => ∃ as, Reads s.heap u b.2 as) us (vs.zip ds)
  | _, _, _, .nil, .nil, _ => ⟨.nil, .nil⟩
  | _, _, _, .cons (d := d) (ds := ds) r t, .cons rv tv, f => by
    have f' : fit d = true ∧ ds.all fit = true := by simpa using f
    obtain ⟨h1, h2⟩ := reads_all I sa t tv f'.2
    obtain ⟨as, q⟩ := reads_of I sa r rv (fit_flat f'.1)
    exact ⟨.cons ⟨rv, r⟩ h1, .cons ⟨as, q⟩ h2⟩
theorem each_vals {K : PySem.W.Frag} {G : Hp} : ∀ {us : List Value} {bs : List (V × D)}, PySem.W.EachIs (fun (u : Value) (b : V × D) => RelV b.1 u ∧ Rep K G b.1 b.2) us bs → Vals (bs.map (·.1)) us ∧ RepAll K G (bs.map (·.1)) (bs.map (·.2))
  | _, _, .nil => ⟨.nil, .nil⟩
  | _, _, .cons h t => by
    obtain ⟨h1, h2⟩ := each_vals t
    exact ⟨.cons h.1 h1, .cons h.2 h2⟩
theorem sortable_spec {xs : List D} (h : sortable xs = true) : PySem.W.AllAlike xs ∧ PySem.W.Sortable xs ∧ xs.all fit = true := by
  unfold sortable at h
  rw [Bool.and_eq_true, Bool.and_eq_true, Bool.or_eq_true] at h
  obtain ⟨⟨h1, h2⟩, h3⟩ := h
  refine ⟨fun d hd e he => ?_, ?_, h2⟩
  · exact List.all_eq_true.mp (List.all_eq_true.mp h1 d hd) e he
  · rcases h3 with h3 | h3
    · refine .inl fun d hd => ?_
      have := List.all_eq_true.mp h3 d hd
      match d, this with
      | .tuple (x :: r), _ => exact ⟨x, r, rfl⟩
    · refine .inr fun d hd => ?_
      have := List.all_eq_true.mp h3 d hd
      constructor
      · rintro rfl
        cases this
      · rintro xs rfl
        cases this
theorem zip_snd {α β : Type} : ∀ {xs : List α} {ys : List β}, xs.length = ys.length → (xs.zip ys).map (·.2) = ys
  | [], [], _ => rfl
  | x :: xs, y :: ys, h => by
    show y :: (xs.zip ys).map (·.2) = _
    rw [zip_snd (Nat.succ.inj h)]
theorem cd_sorted (hu : X.A.units + 66 < cLine) : CallD X E (.builtin "sorted") pySorted := by
  intro pins s σ H vs us Q I r ⟨G, ts, sa, ra, q⟩
  match ts, q with
  | [.list xs], q =>
    obtain ⟨v, rfl, r1⟩ := repAll1 ra
    simp only [pySorted] at q
    split at q
    · rename_i hs
      obtain ⟨al, so, ft⟩ := sortable_spec hs
      cases r1 with
      | lst h a =>
        rename_i l ws
        obtain ⟨its, rv, pl, hz⟩ := I.list (same_lst sa h)
        rw [Vals.ref1 r]
        obtain ⟨e1, e2⟩ := reads_all I sa a rv ft
        have hzip := zip_snd a.length
        have hl : (ws.zip xs).length = ws.length := by
          rw [List.length_zip, a.length]
          omega
        refine PySem.W.sorted_data (enc := fun b : V × D => b.2) pl.isList e1 e2 (by rw [hzip]; exact al) (by rw [hzip]; exact so) (by rw [hl]; exact hz) (fun b hb => ?_) fun out ho hout => ?_
        · have : b.2 ∈ xs := by
            rw [← hzip]
            exact List.mem_map.mpr ⟨b, hb, rfl⟩
          have := fit_depth (List.all_eq_true.mp ft _ this)
          omega
        · obtain ⟨v1, v2⟩ := each_vals hout
          have em : ((ws.zip xs).mergeSort (PySem.W.dataLe false fun b => b.2)).map (·.2) = sortD xs := by
            have := PySem.W.sort_maps (r := PySem.W.dataLe false fun b : V × D => b.2) (s := PySem.W.dataLe false fun d : D => d) (fun b : V × D => b.2) (l := ws.zip xs) (fun _ _ _ _ => rfl)
            rw [this, hzip]
            rfl
          rw [em] at v2
          obtain ⟨ep, he⟩ := sortedAll_at s.heap its out.toArray
          have hlen : (((ws.zip xs).mergeSort (PySem.W.dataLe false fun b => b.2)).map (·.1)).length ≤ sizeLine := by
            rw [List.length_map, List.length_mergeSort, hl]
            exact hz
          have np : H (s.heap.objs.size + 1) = none := I.hok.fresh (Nat.le_succ _)
          exact ⟨.ref _, upd H (s.heap.objs.size + 1) (.lst _), I.laid (t' := s.toks) (fun _ _ => sortedAll_old) (Nat.le_succ _) ⟨hlen, out, ep, v1, he⟩, rfl, q.newL sa v2 _ np⟩
    · exact q.elim
  | [.tuple xs], q =>
    obtain ⟨v, rfl, r1⟩ := repAll1 ra
    simp only [pySorted] at q
    split at q
    · rename_i hs
      obtain ⟨al, so, ft⟩ := sortable_spec hs
      cases r1 with
      | tup h a =>
        rename_i l ws
        obtain ⟨its, rv, pl, hz⟩ := I.tuple (same_seqT sa h)
        rw [Vals.ref1 r]
        obtain ⟨e1, e2⟩ := reads_all I sa a rv ft
        have hzip := zip_snd a.length
        have hl : (ws.zip xs).length = ws.length := by
          rw [List.length_zip, a.length]
          omega
        refine PySem.W.sortedT_data (enc := fun b : V × D => b.2) pl e1 e2 (by rw [hzip]; exact al) (by rw [hzip]; exact so) (by rw [hl]; exact hz) (fun b hb => ?_) fun out ho hout => ?_
        · have : b.2 ∈ xs := by
            rw [← hzip]
            exact List.mem_map.mpr ⟨b, hb, rfl⟩
          have := fit_depth (List.all_eq_true.mp ft _ this)
          omega
        · obtain ⟨v1, v2⟩ := each_vals hout
          have em : ((ws.zip xs).mergeSort (PySem.W.dataLe false fun b => b.2)).map (·.2) = sortD xs := by
            have := PySem.W.sort_maps (r := PySem.W.dataLe false fun b : V × D => b.2) (s := PySem.W.dataLe false fun d : D => d) (fun b : V × D => b.2) (l := ws.zip xs) (fun _ _ _ _ => rfl)
            rw [this, hzip]
            rfl
          rw [em] at v2
          obtain ⟨ep, he⟩ := sortedAll_at s.heap its out.toArray
          have hlen : (((ws.zip xs).mergeSort (PySem.W.dataLe false fun b => b.2)).map (·.1)).length ≤ sizeLine := by
            rw [List.length_map, List.length_mergeSort, hl]
            exact hz
          have np : H (s.heap.objs.size + 1) = none := I.hok.fresh (Nat.le_succ _)
          exact ⟨.ref _, upd H (s.heap.objs.size + 1) (.lst _), I.laid (t' := s.toks) (fun _ _ => sortedAll_old) (Nat.le_succ _) ⟨hlen, out, ep, v1, he⟩, rfl, q.newL sa v2 _ np⟩
    · exact q.elim
  | [.none], q | [.bool _], q | [.int _], q | [.dict _], q | [.str _], q | [], q => exact q.elim
  | _ :: _ :: _, q => simp only [pySorted] at q; exact q.elim
end
end TL
/-! the tree layer: zip of lists and tuples in any mixture, two and three; the pairs' objects are known -/
namespace TL
open PySem PySem.Spec PyProof.Rows L2
inductive Kd where
  | l
  | t
def IsIt : Kd → Heap → Addr → Addr → Nat → Prop
  | .l, h, it, a, i => h.IsListIter it a i
  | .t, h, it, a, i => h.IsTupleIter it a i
def IsSq : Kd → Heap → Addr → Array Value → Prop
  | .l, h, a, xs => h.IsList a xs
  | .t, h, a, xs => h.IsTuple a xs
def SqK : Kd → PySem.W.Frag → Hp → Addr → List V → Prop
  | .l, K, H, a, xs => SqL K H a xs
  | .t, K, H, a, xs => SqT K H a xs
def itOb : Kd → Addr → Obj
  | .l, a => { cls := .type "list_iterator", data := .fields #[.ref a, .int 0 0] }
  | .t, a => { cls := .type "tuple_iterator", data := .fields #[.ref a, .int 0 0] }
theorem itOb_is {k : Kd} {h : Heap} {it a : Addr} (e : h.get? it = some (itOb k a)) : IsIt k h it a 0 := by
  cases k <;> exact ⟨_, e, rfl, rfl⟩
theorem IsIt.obj {k : Kd} {h : Heap} {it a : Addr} {i : Nat} (x : IsIt k h it a i) : ∃ o, h.get? it = some o ∧ ∀ v, o.data ≠ .cell v := by
  cases k <;> (obtain ⟨o, e, _, d⟩ := x; exact ⟨o, e, fun v q => by rw [d] at q; cases q⟩)
theorem IsIt.keep {k : Kd} {h h' : Heap} {it a : Addr} {i : Nat} (x : IsIt k h it a i) (q : ∀ o, h.get? it = some o → h'.get? it = some o) : IsIt k h' it a i := by
  cases k <;> (obtain ⟨o, e, r⟩ := x; exact ⟨o, q _ e, r⟩)
theorem SqK.is {k : Kd} {X : Cx} {pins : List (Addr × Obj)} {σ : L2.St} {H : Hp} {s : Shared} {a : Addr} {xs : List V} (h : SqK k X.K H a xs) (I : Inv X pins σ H s) : ∃ its : List Value, Vals xs its ∧ IsSq k s.heap a its.toArray ∧ xs.length ≤ sizeLine ∧ a < s.heap.objs.size := by
  cases k with
  | l =>
    obtain ⟨its, r, p, z⟩ := I.list h
    exact ⟨its, r, p.isList, z, p.lt⟩
  | t =>
    obtain ⟨its, r, p, z⟩ := I.tuple h
    exact ⟨its, r, p, z, let ⟨_, e, _⟩ := p; Heap.lt_size e⟩
theorem SqK.inj {k : Kd} {X : Cx} {pins : List (Addr × Obj)} {σ : L2.St} {H : Hp} {s : Shared} {a : Addr} {xs ys : List V} (h : SqK k X.K H a xs) (h' : SqK k X.K H a ys) (I : Inv X pins σ H s) : xs = ys := by
  cases k with
  | l => exact I.list_inj h h'
  | t => exact I.tuple_inj h h'
theorem drawsK (k : Kd) {prog : Program} {w : World} {A : Around} (hh : A.handled = none) (it a : Addr) (hne : a ≠ it) (items : Array Value) :
    Draws prog w A it [it, a] items.size (fun i v => items[i]? = some v) (fun i h => IsIt k h it a i ∧ IsSq k h a items) := by
  cases k with
  | l => exact Draws.list hh it a hne items
  | t => exact Draws.tuple hh it a hne items
theorem beginsK (k : Kd) (a : Addr) (items : Array Value) : Begins (.ref a) (itOb k a) fun h => IsSq k h a items := by
  cases k with
  | l => exact begins_list a items
  | t => exact begins_tuple a items
/-! ### two -/
def ItzU (K : PySem.W.Frag) (k1 k2 : Kd) (a b : Addr) : It :=
  ⟨fun i H => ∃ (xs ys : List V) (x y : V), SqK k1 K H a xs ∧ SqK k2 K H b ys ∧ xs[i]? = some x ∧ ys[i]? = some y,
    fun i H v H' => ∃ T x y u, v = .ref T ∧ H T = none ∧ TupH u [x, y] ∧ H' = upd H T u ∧ (∀ xs, SqK k1 K H a xs → xs[i]? = some x) ∧ ∀ ys, SqK k2 K H b ys → ys[i]? = some y,
    fun i H => ∃ xs ys : List V, SqK k1 K H a xs ∧ SqK k2 K H b ys ∧ i ≤ xs.length ∧ i ≤ ys.length ∧ (i = xs.length ∨ i = ys.length)⟩
theorem zipSep (B a b : Nat) (ha : a < B) (hb : b < B) : ZipSep2 (B + 4) (B + 2) (B + 3) B (B + 1) [B, a] [B + 1, b] := by
  have nn : ∀ x y : Nat, x ≠ y → @Ne Addr x y := fun _ _ h => h
  have n2 : ∀ x y z : Nat, x ≠ y → x ≠ z → ¬ @Membership.mem Addr (List Addr) _ [y, z] x := fun x y z h1 h2 hm => by
    rcases List.mem_cons.mp hm with e | e
    · exact h1 e
    · exact h2 (List.mem_singleton.mp e)
  exact ⟨nn _ _ (by omega), nn _ _ (by omega), nn _ _ (by omega), nn _ _ (by omega), List.mem_cons_self, n2 _ _ _ (by omega) (by omega), n2 _ _ _ (by omega) (by omega), nn _ _ (by omega), List.mem_cons_self, n2 _ _ _ (by omega) (by omega), n2 _ _ _ (by omega) (by omega), n2 _ _ _ (by omega) (by omega), n2 _ _ _ (by omega) (by omega)⟩
theorem turn_zipU {P : Program} {w : World} {K : PySem.W.Frag} {elts : List Expr} {kk : Nat} {tpos : Pos} {k1 k2 : Kd} {a b z TI TO i1 i2 : Addr} (D : ZipSep2 z TI TO i1 i2 [i1, a] [i2, b]) :
    Turn P w K (.Tuple elts kk tpos) (ItzU K k1 k2 a b) [z, TI, TO, i1, i2] z (fun i h => IsZip h z TI TO .none ∧ IsTupOf2 h TI (.ref i1) (.ref i2) ∧ (∃ x y, IsTupOf2 h TO x y) ∧ IsIt k1 h i1 a i ∧ IsIt k2 h i2 b i) where
  mem := by simp
  obj := fun i h st c hc => by
    obtain ⟨hz, hTI, ⟨x, y, hTO⟩, h1, h2⟩ := st
    have e' : c = z ∨ c = TI ∨ c = TO ∨ c = i1 ∨ c = i2 := by simpa using hc
    rcases e' with q | q | q | q | q
    · rw [q]; exact ⟨_, hz, fun v q => nomatch q⟩
    · rw [q]; exact ⟨_, hTI, fun v q => nomatch q⟩
    · rw [q]; exact ⟨_, hTO, fun v q => nomatch q⟩
    · rw [q]; exact h1.obj
    · rw [q]; exact h2.obj
  keep := fun i h h' st k => by
    obtain ⟨hz, hTI, ⟨x, y, hTO⟩, h1, h2⟩ := st
    exact ⟨k z (by simp) _ hz, k TI (by simp) _ hTI, ⟨x, y, k TO (by simp) _ hTO⟩, h1.keep fun o q => k i1 (by simp) o q, h2.keep fun o q => k i2 (by simp) o q⟩
  item := by
    intro X hP hw hK hc i pins s σ H E I hf st hg
    subst hP hw hK
    obtain ⟨hz, hTI, ⟨x0, y0, hTO⟩, h1, h2⟩ := st
    obtain ⟨xs, ys, x, y, hqx, hqy, hx, hy⟩ := hg
    obtain ⟨its, rv, p, _, la⟩ := hqx.is I
    obtain ⟨its2, rv2, p2, _, lb⟩ := hqy.is I
    obtain ⟨u, hu, ru⟩ := rv.get hx
    obtain ⟨u2, hu2, ru2⟩ := rv2.get hy
    have hzl : z < s.heap.objs.size := Heap.lt_size hz
    have l1 : i < its.toArray.size := by
      rw [List.size_toArray]
      exact (List.getElem?_eq_some_iff.mp hu).1
    have l2 : i < its2.toArray.size := by
      rw [List.size_toArray]
      exact (List.getElem?_eq_some_iff.mp hu2).1
    have ne1 : a ≠ i1 := fun e => by
      have q := (hf i1 (by simp)).1
      cases k1 with
      | l => exact absurd (show SqL X.K H i1 xs from e ▸ hqx) (fun z => by
          obtain ⟨_, _, pl, _⟩ := I.list z
          obtain ⟨o, e1, c1, _⟩ := h1
          obtain ⟨o2, n2, e2, c2, _⟩ := pl
          rw [e1] at e2
          cases e2
          rw [c1] at c2
          exact absurd c2 (by decide))
      | t => exact absurd (show SqT X.K H i1 xs from e ▸ hqx) (fun z => by
          obtain ⟨_, _, ⟨o2, e2, c2, _⟩, _⟩ := I.tuple z
          obtain ⟨o, e1, c1, _⟩ := h1
          rw [e1] at e2
          cases e2
          rw [c1] at c2
          exact absurd c2 (by decide))
    have ne2 : b ≠ i2 := fun e => by
      cases k2 with
      | l => exact absurd (show SqL X.K H i2 ys from e ▸ hqy) (fun z => by
          obtain ⟨_, _, pl, _⟩ := I.list z
          obtain ⟨o, e1, c1, _⟩ := h2
          obtain ⟨o2, n2, e2, c2, _⟩ := pl
          rw [e1] at e2
          cases e2
          rw [c1] at c2
          exact absurd c2 (by decide))
      | t => exact absurd (show SqT X.K H i2 ys from e ▸ hqy) (fun z => by
          obtain ⟨_, _, ⟨o2, e2, c2, _⟩, _⟩ := I.tuple z
          obtain ⟨o, e1, c1, _⟩ := h2
          rw [e1] at e2
          cases e2
          rw [c1] at c2
          exact absurd c2 (by decide))
    refine wpAny_pyNext_zipD2_item D (drawsK k1 (A := X.A.in1) (I.ok.hd hc) i1 a ne1 its.toArray) (drawsK k2 (A := X.A.in1) (I.ok.hd hc) i2 b ne2 its2.toArray) hz hTI hTO ⟨h1, p⟩ ⟨h2, p2⟩ l1 l2 fun v1 v2 h' tk e1 e2 z' TO' ⟨h1', _⟩ ⟨h2', _⟩ hT hsz hk => ?_
    obtain rfl : v1 = u := by
      have : its[i]? = some v1 := by simpa using e1
      rw [hu] at this
      exact (Option.some.inj this).symm
    obtain rfl : v2 = u2 := by
      have : its2[i]? = some v2 := by simpa using e2
      rw [hu2] at this
      exact (Option.some.inj this).symm
    refine ⟨_, rfl, wpAny_letOwnedTupleGo_zip (s := { s with heap := h', toks := tk }) z' fun h'' z'' sb => ?_⟩
    have hT2 : h''.get? s.heap.objs.size = some { cls := .type "tuple", data := .seq #[v1, v2] } := (sb.2 _ (Nat.ne_of_gt hzl)).trans hT
    have new : ObjOk X.prog X.w (upd H s.heap.objs.size (.frz { cls := .type "tuple", data := .seq #[v1, v2] } (.tup [x, y]))) h'' s.heap.objs.size (.frz { cls := .type "tuple", data := .seq #[v1, v2] } (.tup [x, y])) := okU (its := [v1, v2]) (by show 2 ≤ sizeLine; decide) (.cons ru (.cons ru2 .nil)) hT2 rfl rfl
    have I1 : Inv X pins σ (upd H s.heap.objs.size (.frz { cls := .type "tuple", data := .seq #[v1, v2] } (.tup [x, y]))) { s with heap := h'', toks := tk } :=
      I.turnedNew (ch := [z, TI, TO, i1, i2]) (fun c o hb q => (sb.2 c (fun q' => hb (by simp [q']))).trans (hk c o (fun q' => hb (by simp [q'])) (fun q' => hb (by simp [q'])) (fun q' => hb (by simp [q'])) (fun q' => hb (by simp [q'])) q)) hf (Nat.le_refl _) new
    refine ⟨.ref s.heap.objs.size, _, I1, rfl, ⟨_, x, y, _, rfl, I.hok.fresh (Nat.le_refl _), ⟨_, ⟨rfl, rfl⟩, rfl⟩, rfl, fun l hl => by rw [hl.inj hqx I]; exact hx, fun l hl => by rw [hl.inj hqy I]; exact hy⟩, ⟨z'', ?_, ⟨v1, v2, ?_⟩, ?_, ?_⟩, fun c hcm => ?_⟩
    · exact (sb.2 _ D.TIz).trans (hk _ _ D.TIz D.TITO D.TIi1 D.TIi2 hTI)
    · exact (sb.2 _ D.TOz).trans TO'
    · exact h1'.keep fun o q => (sb.2 _ (Ne.symm D.zi1)).trans q
    · exact h2'.keep fun o q => (sb.2 _ (Ne.symm D.zi2)).trans q
    · have hlt : c < s.heap.objs.size := by
        have e' : c = z ∨ c = TI ∨ c = TO ∨ c = i1 ∨ c = i2 := by simpa using hcm
        rcases e' with q | q | q | q | q
        · rw [q]; exact hzl
        · rw [q]; exact Heap.lt_size hTI
        · rw [q]; exact Heap.lt_size hTO
        · rw [q]; obtain ⟨_, e1, _⟩ := h1.obj; exact Heap.lt_size e1
        · rw [q]; obtain ⟨_, e2, _⟩ := h2.obj; exact Heap.lt_size e2
      rw [upd_ne (Nat.ne_of_lt hlt)]
      exact (hf c hcm).1
  done := by
    intro X hP hw hK hc i pins s σ H E I hf st hg
    subst hP hw hK
    obtain ⟨hz, hTI, ⟨x0, y0, hTO⟩, h1, h2⟩ := st
    obtain ⟨xs, ys, hqx, hqy, g1, g2, hend⟩ := hg
    obtain ⟨its, rv, p, _, la⟩ := hqx.is I
    obtain ⟨its2, rv2, p2, _, lb⟩ := hqy.is I
    have l1 := rv.length
    have l2 := rv2.length
    have ne1 : a ≠ i1 := fun e => by
      cases k1 with
      | l => exact absurd (show SqL X.K H i1 xs from e ▸ hqx) (fun z => by
          obtain ⟨_, _, pl, _⟩ := I.list z
          obtain ⟨o, e1, c1, _⟩ := h1
          obtain ⟨o2, n2, e2, c2, _⟩ := pl
          rw [e1] at e2
          cases e2
          rw [c1] at c2
          exact absurd c2 (by decide))
      | t => exact absurd (show SqT X.K H i1 xs from e ▸ hqx) (fun z => by
          obtain ⟨_, _, ⟨o2, e2, c2, _⟩, _⟩ := I.tuple z
          obtain ⟨o, e1, c1, _⟩ := h1
          rw [e1] at e2
          cases e2
          rw [c1] at c2
          exact absurd c2 (by decide))
    have ne2 : b ≠ i2 := fun e => by
      cases k2 with
      | l => exact absurd (show SqL X.K H i2 ys from e ▸ hqy) (fun z => by
          obtain ⟨_, _, pl, _⟩ := I.list z
          obtain ⟨o, e1, c1, _⟩ := h2
          obtain ⟨o2, n2, e2, c2, _⟩ := pl
          rw [e1] at e2
          cases e2
          rw [c1] at c2
          exact absurd c2 (by decide))
      | t => exact absurd (show SqT X.K H i2 ys from e ▸ hqy) (fun z => by
          obtain ⟨_, _, ⟨o2, e2, c2, _⟩, _⟩ := I.tuple z
          obtain ⟨o, e1, c1, _⟩ := h2
          rw [e1] at e2
          cases e2
          rw [c1] at c2
          exact absurd c2 (by decide))
    exact wpAny_pyNext_zipD2_end D (drawsK k1 (A := X.A.in1) (I.ok.hd hc) i1 a ne1 its.toArray) (drawsK k2 (A := X.A.in1) (I.ok.hd hc) i2 b ne2 its2.toArray) hz hTI hTO ⟨h1, p⟩ ⟨h2, p2⟩ (by rw [List.size_toArray]; omega) (by rw [List.size_toArray]; omega) (by rw [List.size_toArray, List.size_toArray]; omega) fun h' tk hk => ⟨rfl, I.turnedL (t' := tk) (ch := [z, TI, TO, i1, i2]) (fun c o hb q =>
      hk c o (fun q' => hb (by simp [q'])) (fun q' => hb (by simp [q'])) (fun q' => hb (by simp [q'])) (fun q' => hb (by simp [q'])) q) hf⟩
  self := fun A i s Q E st h => wpAny_pyIter_zip st.1 h
def iZipU (K : PySem.W.Frag) (ta : TA) : TI := fun σ H R => ta σ H fun vs H1 => ∃ k1 k2 a b xs ys, vs = [.ref a, .ref b] ∧ SqK k1 K H1 a xs ∧ SqK k2 K H1 b ys ∧ R (ItzU K k1 k2 a b) H1
theorem pi_zipU {X : Cx} {e e2 : Expr} {ta : TA} {p pos tpos : Pos} {elts : List Expr} {kk : Nat} (hg : Gl X "zip") (hm : X.mg "zip" = none) (ha : PA X [e, e2] ta)
    (hs : starEach [e, e2] X.env = (false, eval e X.env) :: starEach [e2] X.env := by rfl) (hpl : (backTo pos (starEach [e2] X.env)).any (·.1) = false := by rfl) :
    PI X (.Tuple elts kk tpos) (.Call (.Name "zip" p) [e, e2] [] pos) (iZipU X.K ta) := by
  refine ⟨fun pins s σ H R I h => ?_⟩
  refine Call_ (ld_blt I hg hm PyProof.Rows.boot_zip (PyProof.Rows.callWith_type1 (thn (ha.run pos pins s σ H _ I h) fun us s1 ⟨vs, H1, I1, r1, q1⟩ => ?_) hs hpl))
  obtain ⟨k1, k2, a, b, xs, ys, ex, hqx, hqy, q⟩ := q1
  subst ex
  cases r1 with
  | cons r rr =>
    cases rr with
    | cons r' rr =>
      cases rr
      cases r
      cases r'
      have fresh5 : ∀ c, c ∈ [s1.heap.objs.size + 4, s1.heap.objs.size + 2, s1.heap.objs.size + 3, s1.heap.objs.size, s1.heap.objs.size + 1] → FpOk X pins H1 c := fun c hcm => by
        have e' : c = s1.heap.objs.size + 4 ∨ c = s1.heap.objs.size + 2 ∨ c = s1.heap.objs.size + 3 ∨ c = s1.heap.objs.size ∨ c = s1.heap.objs.size + 1 := by simpa using hcm
        have hle : s1.heap.objs.size ≤ c := by
          rcases e' with z | z | z | z | z
          · rw [z]; exact Nat.le_add_right _ _
          · rw [z]; exact Nat.le_add_right _ _
          · rw [z]; exact Nat.le_add_right _ _
          · rw [z]; exact Nat.le_refl _
          · rw [z]; exact Nat.le_add_right _ _
        exact I1.fpOk hle (I1.hok.fresh hle)
      obtain ⟨its, rv, p1, _, la⟩ := hqx.is I1
      obtain ⟨its2, rv2, p2, _, lb⟩ := hqy.is I1
      refine zip_begins2 (beginsK k1 a its.toArray) (beginsK k2 b its2.toArray) p1 p2 fun h' hz hTI hTO h1 h2 hsz hk => wpAny_pyIter_zip hz ?_
      have I2 : Inv X pins σ H1 { s1 with heap := h' } := I1.kept (t' := s1.toks) hk
      exact ⟨s1.heap.objs.size + 4, [s1.heap.objs.size + 4, s1.heap.objs.size + 2, s1.heap.objs.size + 3, s1.heap.objs.size, s1.heap.objs.size + 1], _, _, H1, rfl, I2, turn_zipU (zipSep s1.heap.objs.size a b la lb), ⟨hz, hTI, ⟨_, _, hTO⟩, itOb_is h1, itOb_is h2⟩, fresh5, q⟩
end TL
/-! the tree layer, 5: what is walked, list comprehensions -/
namespace TL
open PySem PySem.Spec PyProof.Rows L2
/-- an object that its slot alone knows: a list, a dict -/
def OwnAt (K : PySem.W.Frag) (G H : Hp) (a : Addr) (t : D) : Prop := G a = none ∧
  ((∃ xs ts, t = .list ts ∧ H a = some (.lst xs) ∧ RepAll K G xs ts) ∨
   (∃ (kvs : List (Key × V)) (es : List (D × D)), t = .dict es ∧ H a = some (.dK kvs) ∧ es.map (·.1) = kvs.map (fun p => keyD p.1) ∧ RepAll K G (kvs.map (·.2)) (es.map (·.2))) ∨
   (∃ (kvs : List (List Key × V)) (es : List (D × D)), t = .dict es ∧ H a = some (.dT kvs) ∧ es.map (·.1) = kvs.map (fun p => .tuple (p.1.map keyD)) ∧ RepAll K G (kvs.map (·.2)) (es.map (·.2))))
theorem OwnAt.some_of {K : PySem.W.Frag} {G H : Hp} {a : Addr} {t : D} (h : OwnAt K G H a t) : ∃ o, H a = some o ∧ NotTup (some o) := by
  obtain ⟨_, ⟨_, _, _, e, _⟩ | ⟨_, _, _, e, _⟩ | ⟨_, _, _, e, _⟩⟩ := h <;> exact ⟨_, e, trivial⟩
theorem OwnAt.ne {K : PySem.W.Frag} {G H : Hp} {a : Addr} {t : D} (h : OwnAt K G H a t) : H a ≠ none := by
  obtain ⟨o, e, _⟩ := h.some_of
  rw [e]
  exact fun z => nomatch z
/-- frozen -/
theorem OwnAt.rep {K : PySem.W.Frag} {G G' H : Hp} {a : Addr} {t : D} (h : OwnAt K G H a t) (s : Same G G') (e : G' a = H a) : Rep K G' (.ref a) t := by
  obtain ⟨_, ⟨xs, ts, rfl, eh, r⟩ | ⟨kvs, es, rfl, eh, ek, r⟩ | ⟨kvs, es, rfl, eh, ek, r⟩⟩ := h
  · exact .lst (e.trans eh) (r.mono s)
  · exact .dK (.inl (e.trans eh)) ek (r.mono s)
  · exact .dT (e.trans eh) ek (r.mono s)
theorem OwnAt.keep {K : PySem.W.Frag} {G G' H H' : Hp} {a : Addr} {t : D} (h : OwnAt K G H a t) (s : Same G G') (g : G' a = none) (e : H' a = H a) : OwnAt K G' H' a t := by
  obtain ⟨_, ⟨xs, ts, rfl, eh, r⟩ | ⟨kvs, es, rfl, eh, ek, r⟩ | ⟨kvs, es, rfl, eh, ek, r⟩⟩ := h
  · exact ⟨g, .inl ⟨_, _, rfl, e.trans eh, r.mono s⟩⟩
  · exact ⟨g, .inr (.inl ⟨_, _, rfl, e.trans eh, ek, r.mono s⟩)⟩
  · exact ⟨g, .inr (.inr ⟨_, _, rfl, e.trans eh, ek, r.mono s⟩)⟩
def PostF (K : PySem.W.Frag) (mg : Str → Option Value) (E : XK) (G H : Hp) (m : R D) (Q : VK) : Prop :=
  match m with
  | .no => False
  | .ex c => ∀ H', Same H H' → E (cls mg c) none H'
  | .ok t => ∀ p G' H', Fr G H G' H' → H p = none → OwnAt K G' H' p t → Q (.ref p) H'
def rdF (K : PySem.W.Frag) (mg : Str → Option Value) (E : XK) (ρ : En) (m : R D) : TE := fun σ H Q => ∃ G, Same G H ∧ Ep K G ρ σ ∧ PostF K mg E G H m Q
/-- what a walk hands out, in trees -/
structure ItOk (K : PySem.W.Frag) (J : It) (G : Hp) (items : List D) : Prop where
  go : ∀ i H, i < items.length → Same G H → J.go i H
  stop : ∀ H, Same G H → J.stop items.length H
  yld : ∀ i x G2 H H' d, items[i]? = some d → Same G G2 → Same G2 H → J.yld i H x H' → ∃ G3, Fr G2 H G3 H' ∧ Rep K G3 x d
def rdI (K : PySem.W.Frag) (mg : Str → Option Value) (E : XK) (ρ : En) (m : R (List D)) : TI := fun σ H Rr => ∃ G, Same G H ∧ Ep K G ρ σ ∧ match m with
  | .no => False
  | .ex c => ∀ H', Same H H' → E (cls mg c) none H'
  | .ok items => ∀ J G' H', Fr G H G' H' → items.length ≤ sizeLine → ItOk K J G' items → Rr J H'
abbrev XI (X : Cx) (E : XK) (ρ : En) (tg iter : Expr) (m : R (List D)) : Prop := PI X tg iter (rdI X.K X.mg E ρ m)
/-- lists and tuples are not too long -/
def LenOk (K : PySem.W.Frag) (v : V) (H : Hp) : Prop := ∀ a xs, v = .ref a → (SqL K H a xs ∨ SqT K H a xs) → xs.length ≤ sizeLine
theorem Inv.lenOk {X : Cx} {pins : List (Addr × Obj)} {σ : L2.St} {H : Hp} {s : Shared} (I : Inv X pins σ H s) (v : V) : LenOk X.K v H := fun a xs _ h => by
  rcases h with h | h
  · obtain ⟨_, _, _, z⟩ := I.list h
    exact z
  · obtain ⟨_, _, _, z⟩ := I.tuple h
    exact z
theorem pe_len {X : Cx} {e : Expr} {t : TE} (h : PE X e t) : PE X e (fun σ H Q => t σ H fun v H' => LenOk X.K v H' → Q v H') := ⟨fun pins s σ H Q I q =>
  thn (h.run pins s σ H _ I q) fun u s' ⟨v, H', I', r, q'⟩ => ⟨v, H', I', r, q' (Inv.lenOk I' v)⟩⟩
theorem pa_len {X : Cx} {es : List Expr} {t : TA} (h : PA X es t) : PA X es (fun σ H Q => t σ H fun vs H' => (∀ v ∈ vs, LenOk X.K v H') → Q vs H') := ⟨fun pos pins s σ H Q I q =>
  thn (h.run pos pins s σ H _ I q) fun u s' ⟨v, H', I', r, q'⟩ => ⟨v, H', I', r, q' fun w _ => Inv.lenOk I' w⟩⟩
/-- the items of a list, a tuple -/
def items : D → R (List D)
  | .list xs => .ok xs
  | .tuple xs => .ok xs
  | _ => .no
section
variable {X : Cx} {E : XK} {ρ : En}
theorem itOk_list {K : PySem.W.Frag} {G : Hp} {a : Addr} {vs : List V} {ds : List D} (h : SqL K G a vs) (r : RepAll K G vs ds) : ItOk K (Itl K a) G ds where
  go := fun i H hi s => by
    have hv : i < vs.length := by rw [r.length]; exact hi
    exact ⟨vs, vs[i], s.seq h, List.getElem?_eq_getElem hv⟩
  stop := fun H s => ⟨vs, s.seq h, by rw [r.length]; exact Nat.le_refl _⟩
  yld := fun i x G2 H H' d e s s2 y => by
    obtain ⟨rfl, y⟩ := y
    obtain ⟨v, e2, r2⟩ := r.get e
    have := (y vs ((s.trans s2).seq h)).symm.trans e2
    cases this
    exact ⟨G2, Fr.refl s2, r2.mono s⟩
theorem itOk_tup {K : PySem.W.Frag} {G : Hp} {a : Addr} {vs : List V} {ds : List D} (h : SqT K G a vs) (r : RepAll K G vs ds) : ItOk K (Itt K a) G ds where
  go := fun i H hi s => by
    have hv : i < vs.length := by rw [r.length]; exact hi
    exact ⟨vs, vs[i], same_sqT s h, List.getElem?_eq_getElem hv⟩
  stop := fun H s => ⟨vs, same_sqT s h, by rw [r.length]; exact Nat.le_refl _⟩
  yld := fun i x G2 H H' d e s s2 y => by
    obtain ⟨rfl, y⟩ := y
    obtain ⟨v, e2, r2⟩ := r.get e
    have := (y vs (same_sqT (s.trans s2) h)).symm.trans e2
    cases this
    exact ⟨G2, Fr.refl s2, r2.mono s⟩
theorem xi_val {tg l : Expr} {m : R D} (hl : XP X E ρ l m) : XI X E ρ tg l (m.bind items) := by
  refine ⟨fun pins s σ H Rr I h => ?_⟩
  obtain ⟨G, sa, e, q⟩ := h
  cases m with
  | no => exact q.elim
  | ex c => exact (pi_list hl).run pins s σ H Rr I ⟨G, sa, e, q⟩
  | ok t =>
    cases t with
    | list ds =>
      refine (pi_list (pe_len hl)).run pins s σ H Rr I ⟨G, sa, e, fun v G' H' fr r lo => ?_⟩
      cases r with
      | lst h a => exact ⟨_, rfl, ⟨_, same_lst fr.gh h⟩, q _ G' H' fr (by rw [← a.length]; exact lo _ _ rfl (.inl (same_lst fr.gh h))) (itOk_list (.of h) a)⟩
    | tuple ds =>
      refine (pi_tup (pe_len hl)).run pins s σ H Rr I ⟨G, sa, e, fun v G' H' fr r lo => ?_⟩
      cases r with
      | tup h a => exact ⟨_, rfl, ⟨_, same_seqT fr.gh h⟩, q _ G' H' fr (by rw [← a.length]; exact lo _ _ rfl (.inr (same_seqT fr.gh h))) (itOk_tup h.t a)⟩
    | _ => exact q.elim
/-- lo, lo + 1, .. -/
def upto (lo : Int) (n : Nat) : List D := (List.range n).map fun k : Nat => .int (lo + k)
theorem upto_length {lo : Int} {n : Nat} : (upto lo n).length = n := by
  unfold upto
  rw [List.length_map, List.length_range]
theorem itOk_range {K : PySem.W.Frag} {G : Hp} {lo : Int} {n : Nat} : ItOk K (Itr lo n) G (upto lo n) where
  go := fun i H hi s => by
    rw [upto_length] at hi
    exact hi
  stop := fun H s => by
    rw [upto_length]
    exact Nat.le_refl n
  yld := fun i x G2 H H' d e s s2 y => by
    obtain ⟨e1, e2⟩ := y
    subst e1
    subst e2
    unfold upto at e
    rw [List.getElem?_map] at e
    by_cases hi : i < n
    · rw [List.getElem?_range hi] at e
      cases e
      exact ⟨G2, Fr.refl s2, .int _⟩
    · rw [List.getElem?_eq_none (by rw [List.length_range]; omega)] at e
      cases e
def pyRange : List D → R (List D)
  | [.int j] => if -(2 ^ 62) ≤ j ∧ j ≤ 16777216 then .ok (upto 0 j.toNat) else .no
  | [.int i, .int j] => if 0 ≤ i ∧ i ≤ 16777216 ∧ -(2 ^ 62) ≤ j ∧ j ≤ 16777216 then .ok (upto i (j - i).toNat) else .no
  | _ => .no
theorem xi_range1 {tg a : Expr} {p pos : Pos} {mk : CP} (hm : X.mg "range" = none) (ha : XAk X E ρ [a] mk) (hg : Gl X "range" := by rfl) (hs : starEach [a] X.env = [(false, eval a X.env)] := by rfl) : XI X E ρ tg (.Call (.Name "range" p) [a] [] pos) (mk (List D) pyRange) := by
  obtain ⟨m, e, hl, h⟩ := ha
  rw [e]
  refine ⟨fun pins s σ H Rr I hq => (pi_range1 hg hm h hs).run pins s σ H Rr I ?_⟩
  obtain ⟨G, sa, ep, q⟩ := hq
  refine ⟨G, sa, ep, ?_⟩
  cases m with
  | no => exact q.elim
  | ex c => exact q
  | ok ts =>
    have hl1 := hl ts rfl
    intro vs G1 H1 fr ra
    match ts, hl1, q with
    | [.int j], _, q =>
      obtain ⟨v, rfl, r1⟩ := repAll1 ra
      cases r1
      simp only [R.bind, pyRange] at q
      by_cases hc : -(2 ^ 62) ≤ j ∧ j ≤ 16777216
      · simp only [if_pos hc] at q
        exact ⟨j, rfl, hc.1, by omega, q _ G1 H1 fr (by rw [upto_length, sizeLine_eq]; omega) itOk_range⟩
      · simp only [if_neg hc] at q
    | [.none], _, q | [.bool _], _, q | [.str _], _, q | [.list _], _, q | [.tuple _], _, q | [.dict _], _, q => exact q.elim
theorem xi_range2 {tg a b : Expr} {p pos : Pos} {mk : CP} (hm : X.mg "range" = none) (ha : XAk X E ρ [a, b] mk) (hg : Gl X "range" := by rfl) (hs : starEach [a, b] X.env = [(false, eval a X.env), (false, eval b X.env)] := by rfl) (hs2 : starEach [b] X.env = [(false, eval b X.env)] := by rfl) :
    XI X E ρ tg (.Call (.Name "range" p) [a, b] [] pos) (mk (List D) pyRange) := by
  obtain ⟨m, e, hl, h⟩ := ha
  rw [e]
  refine ⟨fun pins s σ H Rr I hq => (pi_range2 hg hm h hs hs2).run pins s σ H Rr I ?_⟩
  obtain ⟨G, sa, ep, q⟩ := hq
  refine ⟨G, sa, ep, ?_⟩
  cases m with
  | no => exact q.elim
  | ex c => exact q
  | ok ts =>
    have hl1 := hl ts rfl
    intro vs G1 H1 fr ra
    match ts, hl1, q with
    | [.int i, .int j], _, q =>
      obtain ⟨v, w, rfl, r1, r2⟩ := repAll2 ra
      cases r1
      cases r2
      simp only [R.bind, pyRange] at q
      by_cases hc : 0 ≤ i ∧ i ≤ 16777216 ∧ -(2 ^ 62) ≤ j ∧ j ≤ 16777216
      · simp only [if_pos hc] at q
        exact ⟨i, j, rfl, by omega, q _ G1 H1 fr (by rw [upto_length, sizeLine_eq]; omega) itOk_range⟩
      · simp only [if_neg hc] at q
    | [.none, _], _, q | [.bool _, _], _, q | [.str _, _], _, q | [.list _, _], _, q | [.tuple _, _], _, q | [.dict _, _], _, q => exact q.elim
    | [.int _, .none], _, q | [.int _, .bool _], _, q | [.int _, .str _], _, q | [.int _, .list _], _, q | [.int _, .tuple _], _, q | [.int _, .dict _], _, q => exact q.elim
/-! ### zip of two lists, of two tuples -/
def pairs (xs ys : List D) : List D := xs.zipWith (fun a b => .tuple [a, b]) ys
theorem pairs_length {xs ys : List D} : (pairs xs ys).length = min xs.length ys.length := by
  unfold pairs
  rw [List.length_zipWith]
theorem pairs_get {xs ys : List D} {i : Nat} {d : D} (h : (pairs xs ys)[i]? = some d) : ∃ a b, xs[i]? = some a ∧ ys[i]? = some b ∧ d = .tuple [a, b] := by
  unfold pairs at h
  rw [List.getElem?_zipWith] at h
  cases e1 : xs[i]? with
  | none => rw [e1] at h; cases h
  | some a =>
    cases e2 : ys[i]? with
    | none => rw [e1, e2] at h; cases h
    | some b => rw [e1, e2] at h; cases h; exact ⟨a, b, rfl, rfl, rfl⟩
theorem yld_pair {K : PySem.W.Frag} {G2 H : Hp} {T : Addr} {u : HO} {x y : V} {a b : D} (s2 : Same G2 H) (nT : H T = none) (tu : TupH u [x, y]) (r1 : Rep K G2 x a) (r2 : Rep K G2 y b) : ∃ G3, Fr G2 H G3 (upd H T u) ∧ Rep K G3 (.ref T) (.tuple [a, b]) :=
  ⟨_, Fr.new s2 nT, rep_newT s2 nT tu (.cons r1 (.cons r2 .nil))⟩
theorem itOk_zipU {K : PySem.W.Frag} {G : Hp} {k1 k2 : Kd} {a b : Addr} {vs ws : List V} {ds es : List D} (h : ∀ H, Same G H → SqK k1 K H a vs) (r : RepAll K G vs ds) (h2 : ∀ H, Same G H → SqK k2 K H b ws) (r2 : RepAll K G ws es) : ItOk K (ItzU K k1 k2 a b) G (pairs ds es) where
  go := fun i H hi s => by
    rw [pairs_length] at hi
    have hv : i < vs.length := by rw [r.length]; omega
    have hw : i < ws.length := by rw [r2.length]; omega
    exact ⟨vs, ws, vs[i], ws[i], h H s, h2 H s, List.getElem?_eq_getElem hv, List.getElem?_eq_getElem hw⟩
  stop := fun H s => ⟨vs, ws, h H s, h2 H s, by rw [pairs_length, r.length, r2.length]; omega⟩
  yld := fun i x G2 H H' d e s s2 y => by
    obtain ⟨T, x1, x2, u, rfl, nT, tu, rfl, f1, f2⟩ := y
    obtain ⟨da, db, e1, e2, rfl⟩ := pairs_get e
    obtain ⟨v, ev, rv⟩ := r.get e1
    obtain ⟨w, ew, rw'⟩ := r2.get e2
    have := (f1 vs (h _ (s.trans s2))).symm.trans ev
    cases this
    have := (f2 ws (h2 _ (s.trans s2))).symm.trans ew
    cases this
    exact yld_pair s2 nT tu (rv.mono s) (rw'.mono s)
/-- the items of a list or a tuple -/
def sq : D → Option (List D)
  | .list xs => some xs
  | .tuple xs => some xs
  | _ => none
theorem sq_rep {K : PySem.W.Frag} {G : Hp} {v : V} {d : D} {ds : List D} (r : Rep K G v d) (e : sq d = some ds) : ∃ (k : Kd) (a : Addr) (vs : List V), v = .ref a ∧ RepAll K G vs ds ∧ (∀ H, Same G H → SqK k K H a vs) ∧ ∀ H, Same G H → SqL K H a vs ∨ SqT K H a vs := by
  cases r with
  | lst h a => cases e; exact ⟨.l, _, _, rfl, a, fun H s => same_lst s h, fun H s => .inl (same_lst s h)⟩
  | tup h a => cases e; exact ⟨.t, _, _, rfl, a, fun H s => same_seqT s h, fun H s => .inr (same_seqT s h)⟩
  | _ => cases e
def pyZip : List D → R (List D)
  | [a, b] => match sq a, sq b with
    | some xs, some ys => .ok (pairs xs ys)
    | _, _ => .no
  | _ => .no
theorem xi_zip {a b : Expr} {elts : List Expr} {kk : Nat} {tpos p pos : Pos} {mk : CP} (hm : X.mg "zip" = none) (ha : XAk X E ρ [a, b] mk) (hg : Gl X "zip" := by rfl)
    (hs : starEach [a, b] X.env = (false, eval a X.env) :: starEach [b] X.env := by rfl) (hpl : (backTo pos (starEach [b] X.env)).any (·.1) = false := by rfl) : XI X E ρ (.Tuple elts kk tpos) (.Call (.Name "zip" p) [a, b] [] pos) (mk (List D) pyZip) := by
  obtain ⟨m, e, hl, h⟩ := ha
  rw [e]
  refine ⟨fun pins s σ H Rr I hq => (pi_zipU hg hm (pa_len h) hs hpl).run pins s σ H Rr I ?_⟩
  obtain ⟨G, sa, ep, q⟩ := hq
  refine ⟨G, sa, ep, ?_⟩
  cases m with
  | no => exact q.elim
  | ex c => exact q
  | ok ts =>
    have hl1 := hl ts rfl
    intro vs G1 H1 fr ra lo
    match ts, hl1, q with
    | [x, y], _, q =>
      simp only [R.ok_bind, pyZip] at q
      cases ex : sq x with
      | none => rw [ex] at q; exact q.elim
      | some xs =>
        cases ey : sq y with
        | none => rw [ex, ey] at q; exact q.elim
        | some ys =>
          rw [ex, ey] at q
          obtain ⟨v, w, rfl, r1, r2⟩ := repAll2 ra
          obtain ⟨k1, a1, vs1, rfl, ra1, h1, l1⟩ := sq_rep r1 ex
          obtain ⟨k2, a2, vs2, rfl, ra2, h2, l2⟩ := sq_rep r2 ey
          exact ⟨k1, k2, _, _, _, _, rfl, h1 _ fr.gh, h2 _ fr.gh, q _ G1 H1 fr (by
            rw [pairs_length, ← ra1.length]
            exact Nat.le_trans (Nat.min_le_left _ _) (lo _ List.mem_cons_self _ _ rfl (l1 _ fr.gh))) (itOk_zipU h1 ra1 h2 ra2)⟩
/-! ### targets -/
/-- the slots beside these are as they were -/
def Only (sl : List Nat) (σ σ' : L2.St) : Prop := σ'.length = σ.length ∧ ∀ i, i ∉ sl → σ'[i]? = σ[i]?
theorem wipe_only : ∀ {sl : List Nat} {σ σ' : L2.St}, Only sl σ σ' → wipe σ' sl = wipe σ sl := by
  have key : ∀ (sl : List Nat) (σ : L2.St) (i : Nat), (wipe σ sl)[i]? = if i ∈ sl ∧ i < σ.length then some none else σ[i]? := by
    intro sl
    induction sl with
    | nil => intro σ i; simp [wipe]
    | cons v vs ih =>
      intro σ i
      show ((wipe σ vs).set v none)[i]? = _
      by_cases hi : v = i
      · subst hi
        by_cases hl : v < σ.length
        · rw [List.getElem?_set_self (by rw [wipe_length]; exact hl)]
          simp [hl]
        · rw [List.getElem?_eq_none (by rw [List.length_set, wipe_length]; omega)]
          simp [hl]
      · rw [List.getElem?_set_ne hi, ih]
        have : ¬ i = v := fun z => hi z.symm
        simp [this]
  intro sl σ σ' h
  refine List.ext_getElem? fun i => ?_
  rw [key, key, h.1]
  split
  · rfl
  · rename_i hn
    by_cases hi : i ∈ sl
    · have h1 : ¬ i < σ.length := fun z => hn ⟨hi, z⟩
      have h2 := h.1
      rw [List.getElem?_eq_none (l := σ) (by omega), List.getElem?_eq_none (l := σ') (by omega)]
    · exact h.2 i hi
def putsS : List (Nat × V × D) → L2.St → L2.St
  | [], σ => σ
  | p :: ps, σ => putsS ps (σ.set p.1 (some p.2.1))
def putsE : List (Nat × V × D) → En → En
  | [], ρ => ρ
  | p :: ps, ρ => putsE ps (setN ρ p.1 (some p.2.2))
/-- how an item has fallen into the slots -/
structure PutOk (K : PySem.W.Frag) (G : Hp) (sl : List Nat) (f : En → En) (ps : List (Nat × V × D)) : Prop where
  sub : ∀ p ∈ ps, p.1 ∈ sl
  rep : ∀ p ∈ ps, Rep K G p.2.1 p.2.2
  eq : ∀ ρ, f ρ = putsE ps ρ
theorem only_set {σ σ' : L2.St} {sl : List Nat} {i : Nat} {o : Option V} (h : Only sl σ σ') (hi : i ∈ sl) : Only sl σ (σ'.set i o) :=
  ⟨by rw [List.length_set]; exact h.1, fun j hj => by
    rw [List.getElem?_set_ne (fun z : i = j => hj (by rw [← z]; exact hi))]
    exact h.2 j hj⟩
theorem only_refl {σ : L2.St} {sl : List Nat} : Only sl σ σ := ⟨rfl, fun _ _ => rfl⟩
theorem puts_only {sl : List Nat} : ∀ {ps : List (Nat × V × D)} {σ σ0 : L2.St}, (∀ p ∈ ps, p.1 ∈ sl) → Only sl σ0 σ → Only sl σ0 (putsS ps σ)
  | [], _, _, _, h => h
  | p :: ps, _, _, hs, h => puts_only (ps := ps) (fun q hq => hs q (List.mem_cons_of_mem _ hq)) (only_set h (hs p List.mem_cons_self))
theorem puts_ep {K : PySem.W.Frag} {G : Hp} : ∀ {ps : List (Nat × V × D)} {σ : L2.St} {ρ : En}, (∀ p ∈ ps, Rep K G p.2.1 p.2.2) → Ep K G ρ σ → Ep K G (putsE ps ρ) (putsS ps σ)
  | [], _, _, _, h => h
  | p :: ps, _, _, hs, h => puts_ep (ps := ps) (fun q hq => hs q (List.mem_cons_of_mem _ hq)) (h.put (hs p List.mem_cons_self))
def rdG (K : PySem.W.Frag) {α : Type} (sl : List Nat) (u : D → R α) (put : α → En → En) : TG := fun v σ H Q => ∃ G d a, Same G H ∧ Rep K G v d ∧ u d = .ok a ∧
  ∀ ps, PutOk K G sl (put a) ps → Q (putsS ps σ) H
/-- a target: its slots, how an item falls into them -/
abbrev XG (X : Cx) {α : Type} (tg : Expr) (sl : List Nat) (u : D → R α) (put : α → En → En) : Prop := PG X tg (rdG X.K sl u put)
theorem pg_weak {tg : Expr} {t t' : TG} (h : PG X tg t) (f : ∀ v σ H Q, t' v σ H Q → t v σ H Q) : PG X tg t' := ⟨fun pins s σ H v u Q I r q => h.run pins s σ H v u Q I r (f _ _ _ _ q)⟩
theorem xg_name {x : Str} {pos : Pos} (i : Nat) (hN : X.N.Nodup) (hi : X.N[i]? = some x := by rfl) (hx : Loc X.env.scope x := by first | exact .inl rfl | exact .inr rfl) (hf : X.fn x = true ∨ X.env.scope.names.lookup x = some .local := by first | exact .inl rfl | exact .inr rfl) :
    XG X (.Name x pos) [i] (fun d => R.ok d) (fun d ρ => setN ρ i (some d)) :=
  pg_weak (pg_name hN hi hx hf) fun v σ H Q ⟨G, d, a, s, r, e, q⟩ => by
    cases e
    exact q [(i, v, d)] ⟨by simp, by simpa using r, fun _ => rfl⟩
def unp2 : D → R (D × D)
  | .tuple [a, b] => .ok (a, b)
  | _ => .no
def unp3 : D → R (D × D × D)
  | .tuple [a, b, c] => .ok (a, b, c)
  | _ => .no
theorem xg_pair {x y : Str} {px py pos : Pos} {kk : Nat} (i j : Nat) (hN : X.N.Nodup) (hc : X.calm = true := by rfl) (hi : X.N[i]? = some x := by rfl) (hj : X.N[j]? = some y := by rfl) (hx : Loc X.env.scope x := by first | exact .inl rfl | exact .inr rfl) (hy : Loc X.env.scope y := by first | exact .inl rfl | exact .inr rfl)
    (hfx : X.fn x = true ∨ X.env.scope.names.lookup x = some .local := by first | exact .inl rfl | exact .inr rfl) (hfy : X.fn y = true ∨ X.env.scope.names.lookup y = some .local := by first | exact .inl rfl | exact .inr rfl) :
    XG X (.Tuple [.Name x px, .Name y py] kk pos) [i, j] unp2 (fun p ρ => setN (setN ρ i (some p.1)) j (some p.2)) :=
  pg_weak (pg_tup (n := 2) hc (pgs_cons (pg_name hN hi hx hfx) (pgs_cons (pg_name hN hj hy hfy) pgs_nil))) fun v σ H Q ⟨G, d, p, s, r, e, q⟩ => by
    match d, e with
    | .tuple [a, b], e =>
      cases e
      cases r with
      | tup h ra =>
        obtain ⟨v1, v2, rfl, r1, r2⟩ := repAll2 ra
        exact ⟨_, _, rfl, same_seqT s h, rfl, v1, _, rfl, v2, [], rfl, rfl, q [(i, v1, a), (j, v2, b)] ⟨by simp, by simpa using ⟨r1, r2⟩, fun _ => rfl⟩⟩
    | .tuple [], e | .tuple [_], e | .tuple (_ :: _ :: _ :: _), e => cases e
    | .none, e | .bool _, e | .int _, e | .str _, e | .list _, e | .dict _, e => cases e
theorem repAll3 {K : PySem.W.Frag} {G : Hp} {vs : List V} {d e f : D} (h : RepAll K G vs [d, e, f]) : ∃ v w z, vs = [v, w, z] ∧ Rep K G v d ∧ Rep K G w e ∧ Rep K G z f := by
  cases h with
  | cons r t =>
    obtain ⟨v, w, rfl, h1, h2⟩ := repAll2 t
    exact ⟨_, v, w, rfl, r, h1, h2⟩
theorem xg_triple {x y z : Str} {px py pz pos : Pos} {kk : Nat} (i j k : Nat) (hN : X.N.Nodup) (hc : X.calm = true := by rfl) (hi : X.N[i]? = some x := by rfl) (hj : X.N[j]? = some y := by rfl) (hk : X.N[k]? = some z := by rfl)
    (hx : Loc X.env.scope x := by first | exact .inl rfl | exact .inr rfl) (hy : Loc X.env.scope y := by first | exact .inl rfl | exact .inr rfl) (hz : Loc X.env.scope z := by first | exact .inl rfl | exact .inr rfl)
    (hfx : X.fn x = true ∨ X.env.scope.names.lookup x = some .local := by first | exact .inl rfl | exact .inr rfl) (hfy : X.fn y = true ∨ X.env.scope.names.lookup y = some .local := by first | exact .inl rfl | exact .inr rfl) (hfz : X.fn z = true ∨ X.env.scope.names.lookup z = some .local := by first | exact .inl rfl | exact .inr rfl) :
    XG X (.Tuple [.Name x px, .Name y py, .Name z pz] kk pos) [i, j, k] unp3 (fun p ρ => setN (setN (setN ρ i (some p.1)) j (some p.2.1)) k (some p.2.2)) :=
  pg_weak (pg_tup (n := 3) hc (pgs_cons (pg_name hN hi hx hfx) (pgs_cons (pg_name hN hj hy hfy) (pgs_cons (pg_name hN hk hz hfz) pgs_nil)))) fun v σ H Q ⟨G, d, p, s, r, e, q⟩ => by
    match d, e with
    | .tuple [a, b, c], e =>
      cases e
      cases r with
      | tup h ra =>
        obtain ⟨v1, v2, v3, rfl, r1, r2, r3⟩ := repAll3 ra
        exact ⟨_, _, rfl, same_seqT s h, rfl, v1, _, rfl, v2, _, rfl, v3, [], rfl, rfl, q [(i, v1, a), (j, v2, b), (k, v3, c)] ⟨by simp, by simpa using ⟨r1, r2, r3⟩, fun _ => rfl⟩⟩
    | .tuple [], e | .tuple [_], e | .tuple [_, _], e | .tuple (_ :: _ :: _ :: _ :: _), e => cases e
    | .none, e | .bool _, e | .int _, e | .str _, e | .list _, e | .dict _, e => cases e
/-! ### comprehensions -/
def nox {α : Type} : R α → R α
  | .ex _ => .no
  | m => m
@[simp] theorem nox_ok {α : Type} (a : α) : nox (.ok a) = .ok a := rfl
@[simp] theorem nox_no {α : Type} : nox (.no : R α) = .no := rfl
/-- [f d for d in ds] -/
def mapR (f : D → R D) : List D → R (List D)
  | [] => .ok []
  | d :: ds => (nox (f d)).bind fun t => (mapR f ds).bind fun ts => .ok (t :: ts)
/-- [f d for d in ds if p d] -/
def filR (p : D → R Bool) (f : D → R D) : List D → R (List D)
  | [] => .ok []
  | d :: ds => (nox (p d)).bind fun b => if b = true then (nox (f d)).bind fun t => (filR p f ds).bind fun ts => .ok (t :: ts) else filR p f ds
/-- the slots' trees without these -/
def wipeE (ρ : En) : List Nat → En
  | [] => ρ
  | v :: vs => setN (wipeE ρ vs) v none
theorem Ep.wipe {K : PySem.W.Frag} {G : Hp} {ρ : En} {σ : L2.St} (h : Ep K G ρ σ) : ∀ {vs : List Nat}, Ep K G (wipeE ρ vs) (L2.wipe σ vs)
  | [] => h
  | _ :: vs => (Ep.wipe h (vs := vs)).drop
theorem PostP.e0 {α β : Type} {Rp : PySem.W.Frag → Hp → β → α → Prop} {K : PySem.W.Frag} {mg : Str → Option Value} {G H : Hp} {t : α} {m : R α} {Q : β → Hp → Prop} (e : nox m = .ok t) (q : PostP Rp K mg E0 G H (.ok t) Q) : PostP Rp K mg E0 G H m Q := by
  cases m with
  | no => cases e
  | ex c => cases e
  | ok a => cases e; exact q
theorem drop_get {α : Type} {xs : List α} {i : Nat} {x : α} {r : List α} (h : xs.drop i = x :: r) : xs[i]? = some x ∧ xs.drop (i + 1) = r := by
  have h1 : xs[i]? = (xs.drop i)[0]? := by rw [List.getElem?_drop]; rfl
  refine ⟨by rw [h1, h]; rfl, ?_⟩
  rw [← List.drop_drop, h]
  rfl
/-- what a comprehension has made so far -/
structure LcAt (K : PySem.W.Frag) (G1 H1 : Hp) (D0 : Addr) (F : List D → R (List D)) (its rs : List D) (i : Nat) (H : Hp) (G : Hp) (acc : List V) (ad rr : List D) : Prop where
  fr : Fr G1 H1 G H
  at_ : H D0 = some (.lst acc)
  un : G D0 = none
  rep : RepAll K G acc ad
  rest : F (its.drop i) = .ok rr
  all : rs = ad ++ rr
  few : acc.length ≤ i
theorem LcAt.fin {K : PySem.W.Frag} {G1 H1 : Hp} {D0 : Addr} {F : List D → R (List D)} {its rs : List D} {H G : Hp} {acc : List V} {ad rr : List D} (h : LcAt K G1 H1 D0 F its rs its.length H G acc ad rr) (hF : F [] = .ok []) : OwnAt K G H D0 (.list rs) := by
  have e := h.rest
  rw [List.drop_length, hF] at e
  cases e
  have ea : rs = ad := by rw [h.all, List.append_nil]
  subst ea
  exact ⟨h.un, .inl ⟨acc, rs, rfl, h.at_, h.rep⟩⟩
theorem LcAt.mid {K : PySem.W.Frag} {G1 H1 G H G' H' : Hp} {D0 : Addr} {F : List D → R (List D)} {its rs : List D} {i : Nat} {acc : List V} {ad rr : List D} (h : LcAt K G1 H1 D0 F its rs i H G acc ad rr) (fr : Fr G H G' H') :
    Fr G1 H1 G' H' ∧ H' D0 = some (.lst acc) ∧ G' D0 = none ∧ RepAll K G' acc ad :=
  ⟨h.fr.trans fr, fr.hh _ _ h.at_, fr.nw _ h.un (by rw [h.at_]; exact fun z => nomatch z), h.rep.mono fr.gg⟩
/-- one more is laid on -/
theorem LcAt.more {K : PySem.W.Frag} {G1 H1 G H G' H' : Hp} {D0 : Addr} {F : List D → R (List D)} {its rs : List D} {i : Nat} {acc : List V} {ad ts : List D} {v : V} {t : D} (h : LcAt K G1 H1 D0 F its rs i H G acc ad (t :: ts)) (nD : H1 D0 = none) (fr : Fr G H G' H') (r : Rep K G' v t)
    (e : F (its.drop (i + 1)) = .ok ts) : LcAt K G1 H1 D0 F its rs (i + 1) (upd H' D0 (.lst (acc ++ [v]))) G' (acc ++ [v]) (ad ++ [t]) ts := by
  obtain ⟨f, a, u, rp⟩ := h.mid fr
  refine ⟨⟨f.gg, fun b o eb => ?_, fun b o eb => ?_, f.nw⟩, upd_same, u, rp.append (.cons r .nil), e, by rw [h.all, List.append_assoc]; rfl, by
    rw [List.length_append]
    have := h.few
    simp only [List.length_cons, List.length_nil]
    omega⟩
  · rw [upd_ne (ne_of_none eb u)]
    exact f.gh _ _ eb
  · rw [upd_ne (ne_of_none eb nD)]
    exact f.hh _ _ eb
theorem LcAt.skip {K : PySem.W.Frag} {G1 H1 G H G' H' : Hp} {D0 : Addr} {F : List D → R (List D)} {its rs : List D} {i : Nat} {acc : List V} {ad rr : List D} (h : LcAt K G1 H1 D0 F its rs i H G acc ad rr) (fr : Fr G H G' H')
    (e : F (its.drop (i + 1)) = .ok rr) : LcAt K G1 H1 D0 F its rs (i + 1) H' G' acc ad rr := by
  obtain ⟨f, a, u, rp⟩ := h.mid fr
  exact ⟨f, a, u, rp, e, h.all, Nat.le_succ_of_le h.few⟩
theorem filR_ex {p : D → R Bool} {f : D → R D} : ∀ {ds : List D} {c : Str}, filR p f ds ≠ .ex c
  | [], _, h => nomatch h
  | d :: ds, c, h => by
    unfold filR at h
    cases e1 : nox (p d) with
    | no => rw [e1] at h; exact nomatch h
    | ex c' => cases e2 : p d <;> rw [e2] at e1 <;> exact nomatch e1
    | ok b =>
      rw [e1] at h
      cases b with
      | false => exact filR_ex (ds := ds) (c := c) (by simpa using h)
      | true =>
        cases e3 : nox (f d) with
        | no => rw [e3] at h; exact nomatch h
        | ex c' => cases e2 : f d <;> rw [e2] at e3 <;> exact nomatch e3
        | ok t =>
          rw [e3] at h
          cases e4 : filR p f ds with
          | no => rw [e4] at h; exact nomatch h
          | ex c' => exact filR_ex e4
          | ok ts => rw [e4] at h; exact nomatch h
theorem mapR_fil {α : Type} {u : D → R α} {me : α → R D} : ∀ ds : List D, mapR (fun d => (u d).bind me) ds = filR (fun d => (u d).bind fun _ => .ok true) (fun d => (u d).bind me) ds
  | [] => rfl
  | d :: ds => by
    unfold mapR filR
    rw [mapR_fil ds]
    cases u d <;> rfl
theorem filR_cons {p : D → R Bool} {f : D → R D} {d : D} {ds ts : List D} (h : filR p f (d :: ds) = .ok ts) : ∃ b, p d = .ok b ∧ (b = false → filR p f ds = .ok ts) ∧ (b = true → ∃ t ts', f d = .ok t ∧ filR p f ds = .ok ts' ∧ ts = t :: ts') := by
  unfold filR at h
  cases e1 : p d with
  | no => rw [e1] at h; exact nomatch h
  | ex c => rw [e1] at h; exact nomatch h
  | ok b =>
    rw [e1] at h
    refine ⟨b, rfl, fun hb => ?_, fun hb => ?_⟩
    · subst hb
      simpa using h
    · subst hb
      cases e2 : f d with
      | no => rw [e2] at h; exact nomatch h
      | ex c => rw [e2] at h; exact nomatch h
      | ok t =>
        rw [e2] at h
        cases e3 : filR p f ds with
        | no => rw [e3] at h; exact nomatch h
        | ex c => rw [e3] at h; exact nomatch h
        | ok ts' =>
          rw [e3] at h
          cases h
          exact ⟨t, ts', rfl, rfl, rfl⟩
/-- from the parts' readings to the comprehension's -/
theorem lc_read {K : PySem.W.Frag} {mg : Str → Option Value} {α : Type} {wi : R (List D)} {sl vs : List Nat} {u : D → R α} {put : α → En → En} {cond : α → R Bool} {me : α → R D} {tt : TT} {σ : L2.St} {H : Hp} {Q : VK} (hsub : ∀ i ∈ sl, i ∈ vs)
    (ht : ∀ (a : α) (b : Bool) (σ2 : L2.St) (H2 G2 : Hp) (Qb : Bool → Hp → Prop), cond a = .ok b → Same G2 H2 → Ep K G2 (put a (wipeE ρ vs)) σ2 → (∀ G3 H3, Fr G2 H2 G3 H3 → Qb b H3) → tt σ2 H2 Qb)
    (h : rdF K mg E ρ (wi.bind fun its => (filR (fun d => (u d).bind cond) (fun d => (u d).bind me) its).bind fun rs => .ok (.list rs)) σ H Q) :
    ∀ te : TE, (∀ (a : α) (t : D) (σ2 : L2.St) (H2 G2 : Hp) (Qe : VK), me a = .ok t → Same G2 H2 → Ep K G2 (put a (wipeE ρ vs)) σ2 → (∀ v G3 H3, Fr G2 H2 G3 H3 → Rep K G3 v t → Qe v H3) → te σ2 H2 Qe) →
    tLc (rdI K mg E ρ wi) (rdG K sl u put) tt te vs σ H Q := by
  intro te hte
  obtain ⟨G, sa, ep, q⟩ := h
  refine ⟨G, sa, ep, ?_⟩
  cases wi with
  | no => exact q.elim
  | ex c => exact q
  | ok its =>
    intro J G1 H1 fr hz io D0 nD
    have q' : PostF K mg E G H ((filR (fun d => (u d).bind cond) (fun d => (u d).bind me) its).bind fun rs => .ok (.list rs)) Q := q
    cases eF : filR (fun d => (u d).bind cond) (fun d => (u d).bind me) its with
    | no => rw [eF] at q'; exact q'.elim
    | ex c => exact absurd eF filR_ex
    | ok rs =>
      rw [eF] at q'
      · have hD : H D0 = none := by
          cases z : H D0 with
          | none => rfl
          | some o => rw [fr.hh _ _ z] at nD; cases nD
        refine ⟨fun i m H => m = its.length - i ∧ i ≤ its.length ∧ ∃ G acc ad rr, LcAt K G1 H1 D0 (filR (fun d => (u d).bind cond) (fun d => (u d).bind me)) its rs i H G acc ad rr, ⟨its.length, by simp, Nat.zero_le _, G1, [], [], rs, ?_⟩, ?_⟩
        · refine ⟨⟨Same.refl _, fun b o eb => ?_, fun b o eb => ?_, fun _ h _ => h⟩, upd_same, (fr.gh.free nD), .nil, eF, rfl, Nat.le_refl _⟩
          · rw [upd_ne (ne_of_none (fr.gh _ _ eb) nD)]
            exact fr.gh _ _ eb
          · rw [upd_ne (ne_of_none eb nD)]
            exact eb
        · rintro i m H2 ⟨rfl, hi, G2, acc, ad, rr, hL⟩
          by_cases hlt : i < its.length
          · right
            have hget := List.getElem?_eq_getElem hlt
            have hdrop : its.drop i = its[i] :: its.drop (i + 1) := List.drop_eq_getElem_cons hlt
            refine ⟨io.go i H2 hlt (hL.fr.gg.trans hL.fr.gh), fun H' => ∃ G acc ad rr, LcAt K G1 H1 D0 (filR (fun d => (u d).bind cond) (fun d => (u d).bind me)) its rs (i + 1) H' G acc ad rr, fun H' hN => ⟨its.length - (i + 1), by omega, rfl, hlt, hN⟩, fun x H' hy => ?_⟩
            obtain ⟨G3, fr3, r3⟩ := io.yld i x G2 H2 H' its[i] hget hL.fr.gg hL.fr.gh hy
            have er := hL.rest
            rw [hdrop] at er
            obtain ⟨b, eb, h0, h1⟩ := filR_cons er
            cases eu : u its[i] with
            | no => rw [eu] at eb; exact nomatch eb
            | ex c => rw [eu] at eb; exact nomatch eb
            | ok a =>
              rw [eu] at eb
              refine ⟨G3, its[i], a, fr3.gh, r3, eu, fun ps hp => ?_⟩
              have ho : Only sl (wipe σ vs) (putsS ps (wipe σ vs)) := puts_only hp.sub only_refl
              have epA : Ep K G3 (put a (wipeE ρ vs)) (putsS ps (wipe σ vs)) := by
                rw [hp.eq]
                exact puts_ep hp.rep ((((ep.mono fr.gg).mono hL.fr.gg).mono fr3.gg).wipe)
              generalize putsS ps (wipe σ vs) = σ2 at ho epA ⊢
              have hw : wipe σ2 vs = wipe σ vs := by
                have h1 : Only vs (wipe σ vs) σ2 := ⟨ho.1, fun j hj => ho.2 j fun hm => hj (hsub j hm)⟩
                rw [wipe_only h1]
                exact wipe_only ⟨by rw [wipe_length], fun j hj => by
                  cases e : (wipe σ vs)[j]? with
                  | none =>
                    have : σ.length ≤ j := by
                      have := List.getElem?_eq_none_iff.mp e
                      rw [wipe_length] at this
                      exact this
                    exact (List.getElem?_eq_none this).symm
                  | some o =>
                    have key : ∀ (l : List Nat) (j : Nat), j ∉ l → (wipe σ l)[j]? = σ[j]? := by
                      intro l
                      induction l with
                      | nil => intro j _; rfl
                      | cons v l ih =>
                        intro j hj
                        show ((wipe σ l).set v none)[j]? = _
                        rw [List.getElem?_set_ne (fun z : v = j => hj (by rw [z]; exact List.mem_cons_self))]
                        exact ih j fun hm => hj (List.mem_cons_of_mem _ hm)
                    rw [← e, key vs j hj]⟩
              refine ⟨hw, ht a b σ2 H' G3 _ eb fr3.gh epA fun G4 H4 fr4 => ?_⟩
              cases b with
              | false =>
                rw [if_neg Bool.false_ne_true]
                exact ⟨G4, acc, ad, rr, hL.skip (fr3.trans fr4) (h0 rfl)⟩
              | true =>
                rw [if_pos rfl]
                obtain ⟨t, ts', ef, er', rfl⟩ := h1 rfl
                simp only [eu, R.ok_bind] at ef
                refine hte a t σ2 H4 G4 _ ef fr4.gh (epA.mono fr4.gg) fun v G5 H5 fr5 r5 => ?_
                have frA := (fr3.trans fr4).trans fr5
                obtain ⟨_, a5, _, _⟩ := hL.mid frA
                exact ⟨acc, a5, by have := hL.few; omega, G5, _, _, _, hL.more nD frA r5 er'⟩
          · left
            have e : i = its.length := by omega
            subst e
            exact ⟨io.stop H2 (hL.fr.gg.trans hL.fr.gh), q' D0 G2 H2 (fr.trans hL.fr) hD (hL.fin rfl)⟩
end
end TL
/-! the tree layer, 6: owned lists, expressions that change them -/
namespace TL
open PySem PySem.Spec PyProof.Rows L2
/-- the state: the slots in own hold objects of their own -/
structure Er (K : PySem.W.Frag) (own : List Nat) (ρ : En) (ad : Nat → Addr) (σ : L2.St) (G H : Hp) : Prop where
  len : ρ.length = σ.length
  gh : Same G H
  fz : ∀ i t, getN ρ i = some t → i ∉ own → ∃ v, σ[i]? = some (some v) ∧ Rep K G v t
  ow : ∀ i ∈ own, ∃ t, getN ρ i = some t ∧ σ[i]? = some (some (.ref (ad i))) ∧ OwnAt K G H (ad i) t
  inj : ∀ i ∈ own, ∀ j ∈ own, ad i = ad j → i = j
structure FrO (own : List Nat) (ad : Nat → Addr) (G H G' H' : Hp) : Prop where
  gg : Same G G'
  hh : ∀ b o, H b = some o → (∀ i ∈ own, b ≠ ad i) → H' b = some o
  nw : ∀ b, G b = none → H b ≠ none → G' b = none
theorem FrO.refl {own : List Nat} {ad : Nat → Addr} {G H : Hp} : FrO own ad G H G H := ⟨Same.refl _, fun _ _ e _ => e, fun _ h _ => h⟩
theorem FrO.trans {K : PySem.W.Frag} {own : List Nat} {ρ : En} {σ : L2.St} {ad : Nat → Addr} {G H G1 H1 G2 H2 : Hp} (a : FrO own ad G H G1 H1) (b : FrO own ad G1 H1 G2 H2) (er : Er K own ρ ad σ G2 H2) : FrO own ad G H G2 H2 :=
  ⟨a.gg.trans b.gg, fun c o e h => b.hh c o (a.hh c o e h) h, fun c h1 h2 => by
    by_cases hc : ∃ i ∈ own, c = ad i
    · obtain ⟨i, hi, rfl⟩ := hc
      obtain ⟨t, _, _, o⟩ := er.ow i hi
      exact o.1
    · refine b.nw c (a.nw c h1 h2) ?_
      cases q : H c with
      | none => exact absurd q h2
      | some o =>
        rw [a.hh c o q fun i hi z => hc ⟨i, hi, z⟩]
        exact fun z => nomatch z⟩
/-- the slots without those in own -/
def hideE (own : List Nat) (ρ : En) : En := wipeE ρ own
theorem getN_wipe {ρ : En} {i : Nat} {t : D} : ∀ {own : List Nat}, getN (wipeE ρ own) i = some t → getN ρ i = some t ∧ i ∉ own
  | [], h => ⟨h, List.not_mem_nil⟩
  | v :: vs, h => by
    unfold wipeE at h
    by_cases hi : i = v
    · subst hi
      have := getN_setN_same (w := none) h
      cases this
    · rw [getN_setN_ne hi] at h
      obtain ⟨h1, h2⟩ := getN_wipe h
      exact ⟨h1, fun z => by
        rcases List.mem_cons.mp z with z | z
        · exact hi z
        · exact h2 z⟩
theorem wipeE_length {ρ : En} : ∀ {own : List Nat}, (wipeE ρ own).length = ρ.length
  | [] => rfl
  | _ :: vs => (setN_length).trans (wipeE_length (own := vs))
/-- how an expression that changes nothing sees the owned slots: not at all, or all of them (then it hands back no list) -/
def Bor (own : List Nat) (ρ ρe : En) (m : R D) : Prop := ρe = hideE own ρ ∨ (ρe = ρ ∧ ∀ t, m = .ok t → noL t = true)
theorem bor_hide {own : List Nat} {ρ : En} {m : R D} : Bor own ρ (hideE own ρ) m := .inl rfl
theorem bor_nil {ρ : En} {m : R D} : Bor [] ρ ρ m := .inl rfl
theorem bor_flat {own : List Nat} {ρ : En} {m : R D} (h : ∀ t, m = .ok t → noL t = true) : Bor own ρ ρ m := .inr ⟨rfl, h⟩
/-- a result that is no list and holds none -/
def nl (m : R D) : R D := m.bind fun t => if noL t = true then .ok t else .no
theorem nl_nl {m : R D} : ∀ t, nl m = .ok t → noL t = true := fun t h => by
  cases m with
  | no => exact nomatch h
  | ex c => exact nomatch h
  | ok a =>
    simp only [nl, R.ok_bind] at h
    split at h
    · rename_i e
      cases h
      exact e
    · exact nomatch h
/-- the frozen heap with the owned objects -/
noncomputable def allG (own : List Nat) (ad : Nat → Addr) (G H : Hp) : Hp := fun b => open Classical in if ∃ i ∈ own, b = ad i then H b else G b
theorem allG_in {own : List Nat} {ad : Nat → Addr} {G H : Hp} {i : Nat} (hi : i ∈ own) : allG own ad G H (ad i) = H (ad i) := by
  unfold allG
  rw [if_pos ⟨i, hi, rfl⟩]
theorem allG_out {own : List Nat} {ad : Nat → Addr} {G H : Hp} {b : Addr} (h : ¬ ∃ i ∈ own, b = ad i) : allG own ad G H b = G b := by
  unfold allG
  rw [if_neg h]
section
variable {K : PySem.W.Frag} {own : List Nat} {ρ : En} {ad : Nat → Addr} {σ : L2.St} {G H : Hp}
theorem Er.g_none (er : Er K own ρ ad σ G H) {i : Nat} (hi : i ∈ own) : G (ad i) = none := by
  obtain ⟨_, _, _, o⟩ := er.ow i hi
  exact o.1
theorem Er.same_all (er : Er K own ρ ad σ G H) : Same G (allG own ad G H) := fun b o e => by
  by_cases hb : ∃ i ∈ own, b = ad i
  · obtain ⟨i, hi, rfl⟩ := hb
    rw [er.g_none hi] at e
    cases e
  · rw [allG_out hb]
    exact e
theorem Er.all_same (er : Er K own ρ ad σ G H) : Same (allG own ad G H) H := fun b o e => by
  by_cases hb : ∃ i ∈ own, b = ad i
  · obtain ⟨i, hi, rfl⟩ := hb
    rw [allG_in hi] at e
    exact e
  · rw [allG_out hb] at e
    exact er.gh _ _ e
theorem Er.ep_all (er : Er K own ρ ad σ G H) : Ep K (allG own ad G H) ρ σ := ⟨er.len, fun i t e => by
  by_cases hi : i ∈ own
  · obtain ⟨t', e', es, o⟩ := er.ow i hi
    rw [e] at e'
    cases e'
    exact ⟨_, es, o.rep er.same_all (allG_in hi)⟩
  · obtain ⟨v, es, r⟩ := er.fz i t e hi
    exact ⟨v, es, r.mono er.same_all⟩⟩
theorem Er.ep_hide (er : Er K own ρ ad σ G H) : Ep K G (hideE own ρ) σ := ⟨wipeE_length.trans er.len, fun i t e => by
  obtain ⟨e1, hi⟩ := getN_wipe e
  exact er.fz i t e1 hi⟩
/-- behind an expression that changed nothing: the same state over more -/
theorem Er.after (er : Er K own ρ ad σ G H) {G' H' : Hp} (gg : Same G G') (gh : Same G' H') (hh : Same H H') (no : ∀ i ∈ own, G' (ad i) = none) : Er K own ρ ad σ G' H' where
  len := er.len
  gh := gh
  fz := fun i t e hi => by
    obtain ⟨v, es, r⟩ := er.fz i t e hi
    exact ⟨v, es, r.mono gg⟩
  ow := fun i hi => by
    obtain ⟨t, e, es, o⟩ := er.ow i hi
    refine ⟨t, e, es, o.keep gg (no i hi) ?_⟩
    obtain ⟨u, eu, _⟩ := o.some_of
    rw [hh _ _ eu, eu]
  inj := er.inj
theorem Er.bor {α : Type} {Rp : PySem.W.Frag → Hp → V → α → Prop} {m : R α} {mg : Str → Option Value} {E : XK} {ρe : En} {Q : V → Hp → Prop} (er : Er K own ρ ad σ G H)
    (hb : ρe = hideE own ρ ∨ (ρe = ρ ∧ ∀ t, m = .ok t → ∀ (G1 : Hp) (p : Addr → Prop) [DecidablePred p] v, (∀ b, p b → NotTup (G1 b)) → Rp K G1 v t → Rp K (cutH G1 p) v t))
    (hno : m ≠ .no) (hex : ∀ c, m = .ex c → ∀ H', Same H H' → E (cls mg c) none H')
    (hok : ∀ t v G' H', m = .ok t → Er K own ρ ad σ G' H' → Fr G H G' H' → Rp K G' v t → Q v H') : ∃ G1, Same G1 H ∧ Ep K G1 ρe σ ∧ PostP Rp K mg E G1 H m Q := by
  rcases hb with rfl | ⟨rfl, hcut⟩
  · refine ⟨G, er.gh, er.ep_hide, ?_⟩
    cases m with
    | no => exact absurd rfl hno
    | ex c => exact hex c rfl
    | ok t =>
      intro v G' H' fr r
      refine hok t v G' H' rfl (er.after fr.gg fr.gh fr.hh fun i hi => ?_) fr r
      obtain ⟨_, _, _, o⟩ := er.ow i hi
      exact fr.nw _ o.1 o.ne
  · refine ⟨allG own ad G H, er.all_same, er.ep_all, ?_⟩
    cases m with
    | no => exact absurd rfl hno
    | ex c => exact hex c rfl
    | ok t =>
      intro v G' H' fr r
      let p : Addr → Prop := fun b => ∃ i ∈ own, b = ad i
      haveI : DecidablePred p := fun b => Classical.propDecidable _
      have np : ∀ b, p b → NotTup (G' b) := fun b ⟨i, hi, e⟩ => by
        subst e
        obtain ⟨_, _, _, o⟩ := er.ow i hi
        obtain ⟨u, eu, nt⟩ := o.some_of
        rw [fr.gg _ _ ((allG_in hi).trans eu)]
        exact nt
      have g1 : Same G (cutH G' p) := fun b o e => cutH_of (fr.gg _ _ (er.same_all _ _ e)) fun ⟨i, hi, z⟩ => by
        subst z
        rw [er.g_none hi] at e
        cases e
      have g2 : Same (cutH G' p) H' := (cutH_same G' p).trans fr.gh
      have no : ∀ i ∈ own, cutH G' p (ad i) = none := fun i hi => cutH_none ⟨i, hi, rfl⟩
      refine hok t v (cutH G' p) H' rfl (er.after g1 g2 fr.hh no) ⟨g1, g2, fr.hh, fun b h1 h2 => ?_⟩ (hcut t rfl G' p v np r)
      by_cases hp : p b
      · exact cutH_none hp
      · exact cutH_free (fr.nw b (by rw [allG_out hp]; exact h1) h2)
theorem Fr.toO {G' H' : Hp} (fr : Fr G H G' H') : FrO own ad G H G' H' := ⟨fr.gg, fun b o e _ => fr.hh b o e, fr.nw⟩
end
/-! ### expressions over a state: S the part that they change -/
section
variable {X : Cx} {own : List Nat} {S : Type} {emb : S → En}
/-- behind: the answer, the state -/
def PostJ {α β : Type} (Rp : PySem.W.Frag → Hp → β → α → Prop) (K : PySem.W.Frag) (own : List Nat) (emb : S → En) (ad : Nat → Addr) (σ : L2.St) (G H : Hp) (m : R (α × S)) (Q : β → Hp → Prop) : Prop :=
  ∃ t s, m = .ok (t, s) ∧ ∀ v G' H', Er K own (emb s) ad σ G' H' → FrO own ad G H G' H' → Rp K G' v t → Q v H'
theorem PostJ.mono {α β : Type} {Rp : PySem.W.Frag → Hp → β → α → Prop} {K : PySem.W.Frag} {ad : Nat → Addr} {σ : L2.St} {G H : Hp} {m : R (α × S)} {Q Q' : β → Hp → Prop} (h : PostJ Rp K own emb ad σ G H m Q) (f : ∀ v H, Q v H → Q' v H) : PostJ Rp K own emb ad σ G H m Q' := by
  obtain ⟨t, s, e, q⟩ := h
  exact ⟨t, s, e, fun v G' H' a b c => f _ _ (q v G' H' a b c)⟩
def rdJ (K : PySem.W.Frag) (own : List Nat) (emb : S → En) (m : S → R (D × S)) : TE := fun σ H Q => ∃ s ad G, Er K own (emb s) ad σ G H ∧ PostJ Rep K own emb ad σ G H (m s) Q
def rdJA (K : PySem.W.Frag) (own : List Nat) (emb : S → En) (m : S → R (List D × S)) : TA := fun σ H Q => ∃ s ad G, Er K own (emb s) ad σ G H ∧ PostJ RepAll K own emb ad σ G H (m s) Q
def rdJB (K : PySem.W.Frag) (own : List Nat) (emb : S → En) (m : S → R (Bool × S)) : TT := fun σ H Q => ∃ s ad G, Er K own (emb s) ad σ G H ∧ PostJ RepB K own emb ad σ G H (m s) Q
abbrev JP (X : Cx) (own : List Nat) (emb : S → En) (e : Expr) (m : S → R (D × S)) : Prop := PE X e (rdJ X.K own emb m)
abbrev JB (X : Cx) (own : List Nat) (emb : S → En) (e : Expr) (m : S → R (Bool × S)) : Prop := PT X e (rdJB X.K own emb m)
abbrev JW (X : Cx) (own : List Nat) (emb : S → En) (e : Expr) (m : S → R (Bool × S)) : Prop := PW X e (rdJB X.K own emb m)
/-- the first part ran -/
theorem PostJ.bind {α β γ δ : Type} {Rp : PySem.W.Frag → Hp → β → α → Prop} {Rq : PySem.W.Frag → Hp → δ → γ → Prop} {K : PySem.W.Frag} {ad : Nat → Addr} {σ : L2.St} {G H : Hp} {m : R (α × S)} {f : α × S → R (γ × S)} {Q : δ → Hp → Prop}
    (h : PostJ Rq K own emb ad σ G H (m.bind f) Q) : PostJ Rp K own emb ad σ G H m fun v H1 => ∃ G1 t s, Er K own (emb s) ad σ G1 H1 ∧ Rp K G1 v t ∧ FrO own ad G H G1 H1 ∧ PostJ Rq K own emb ad σ G1 H1 (f (t, s)) Q := by
  obtain ⟨u, s2, e, q⟩ := h
  cases m with
  | no => exact nomatch e
  | ex c => exact nomatch e
  | ok p =>
    obtain ⟨t, s⟩ := p
    refine ⟨t, s, rfl, fun v G1 H1 er fr r => ⟨G1, t, s, er, r, fr, u, s2, e, fun w G2 H2 er2 fr2 r2 => q w G2 H2 er2 (fr.trans fr2 er2) r2⟩⟩
/-- pure within -/
theorem PostJ.pure {γ δ : Type} {Rq : PySem.W.Frag → Hp → δ → γ → Prop} {K : PySem.W.Frag} {ad : Nat → Addr} {σ : L2.St} {G H : Hp} {m : R γ} {s : S} {Q : δ → Hp → Prop} {mg : Str → Option Value} (er : Er K own (emb s) ad σ G H)
    (h : PostJ Rq K own emb ad σ G H (m.bind fun z => .ok (z, s)) Q) : PostP Rq K mg E0 G H m Q := by
  obtain ⟨u, s2, e, q⟩ := h
  cases m with
  | no => exact nomatch e
  | ex c => exact nomatch e
  | ok z =>
    cases e
    intro v G' H' fr r
    refine q v G' H' (er.after fr.gg fr.gh fr.hh fun i hi => ?_) fr.toO r
    obtain ⟨_, _, _, o⟩ := er.ow i hi
    exact fr.nw _ o.1 o.ne
variable {a b c : Expr} {pos : Pos}
/-- an expression that changes nothing, within -/
theorem jp_of {ρe : S → En} {m : S → R D} (h : ∀ s, XP X E0 (ρe s) a (m s)) (hb : ∀ s, Bor own (emb s) (ρe s) (m s)) : JP X own emb a (fun s => (m s).bind fun t => .ok (t, s)) := by
  refine ⟨fun pins st σ H Q I hq => ?_⟩
  obtain ⟨s, ad, G, er, t, s', e, q⟩ := hq
  dsimp only at e
  cases em : m s with
  | no => rw [em] at e; exact nomatch e
  | ex c => rw [em] at e; exact nomatch e
  | ok t0 =>
    rw [em] at e
    cases e
    refine (h s).run pins st σ H Q I (er.bor (m := m s) ?_ (by rw [em]; exact fun z => nomatch z) (fun c z => by rw [em] at z; exact nomatch z) fun t' v G' H' e' er' fr r => ?_)
    · rcases hb s with z | ⟨z1, z2⟩
      · exact .inl z
      · exact .inr ⟨z1, fun t e' G1 p _ v np r => Rep.cut np r (z2 t e')⟩
    · rw [em] at e'
      cases e'
      exact q v G' H' er' fr.toO r
theorem two_j {σ : L2.St} {H : Hp} {Q : VK} {f : D → D → R D} {ma mb : S → R (D × S)} (h : rdJ X.K own emb (fun s => (ma s).bind fun p => (mb p.2).bind fun q => (f p.1 q.1).bind fun z => .ok (z, q.2)) σ H Q) :
    rdJ X.K own emb ma σ H fun x H1 => rdJ X.K own emb mb σ H1 fun y H2 => r2 X.K X.mg E0 f x y H2 Q := by
  obtain ⟨s, ad, G, er, q⟩ := h
  refine ⟨s, ad, G, er, (PostJ.bind (Rp := Rep) q).mono fun x H1 ⟨G1, t, s1, er1, r1, fr1, q1⟩ => ?_⟩
  refine ⟨s1, ad, G1, er1, ?_⟩
  obtain ⟨u, s2, e2, q2⟩ := PostJ.bind (Rp := Rep) q1
  refine ⟨u, s2, e2, fun y G2 H2 er2 fr2 r2 => ?_⟩
  obtain ⟨G2', u', s2', er2', r2', fr2', q3⟩ := q2 y G2 H2 er2 fr2 r2
  exact ⟨G2', t, u', er2'.gh, r1.mono fr2'.gg, r2', PostJ.pure er2' q3⟩
theorem jp_bin {op : Operator} {f : D → D → R D} {ma mb : S → R (D × S)} (ho : OpD X E0 (binaryOp op) f) (ha : JP X own emb a ma) (hb : JP X own emb b mb) : JP X own emb (.BinOp a op b pos) (fun s => (ma s).bind fun p => (mb p.2).bind fun q => (f p.1 q.1).bind fun z => .ok (z, q.2)) :=
  pe_weak (pe_op ho ha hb) fun _ _ _ h => two_j h
theorem jp_cmp {op : CmpOp} {f : D → D → R D} {ma mb : S → R (D × S)} (ho : OpD X E0 (compareOp op) f) (ha : JP X own emb a ma) (hb : JP X own emb b mb) (hm : behindInMarks op b = false := by first | exact nomark _ | rfl | with_unfolding_all rfl) :
    JP X own emb (.Compare a [op] [b] pos) (fun s => (ma s).bind fun p => (mb p.2).bind fun q => (f p.1 q.1).bind fun z => .ok (z, q.2)) := pe_weak (pe_cmpR ho ha hb hm) fun _ _ _ h => two_j h
theorem jp_ix {f : D → D → R D} {ma mb : S → R (D × S)} (hr : IxD X E0 f) (ha : JP X own emb a ma) (hb : JP X own emb b mb) (hs : PlainIx b := by exact fun _ _ => rfl) : JP X own emb (.Subscript a b pos) (fun s => (ma s).bind fun p => (mb p.2).bind fun q => (f p.1 q.1).bind fun z => .ok (z, q.2)) :=
  pe_weak (pe_ix hr ha hb hs) fun _ _ _ h => two_j h
theorem jp_un {op : UnaryOp} {f : D → R D} {ma : S → R (D × S)} (ho : UnD X E0 (unaryOp op) f) (ha : JP X own emb a ma) : JP X own emb (.UnaryOp op a pos) (fun s => (ma s).bind fun p => (f p.1).bind fun z => .ok (z, p.2)) :=
  pe_weak (pe_un ho ha) fun σ H Q h => by
    obtain ⟨s, ad, G, er, q⟩ := h
    exact ⟨s, ad, G, er, (PostJ.bind (Rp := Rep) q).mono fun x H1 ⟨G1, t, s1, er1, r1, fr1, q1⟩ => ⟨G1, t, er1.gh, r1, PostJ.pure er1 q1⟩⟩
/-! tests -/
theorem jb_cmp {op : CmpOp} {f : D → D → R D} {ma mb : S → R (D × S)} (ho : OpD X E0 (compareOp op) f) (ha : JP X own emb a ma) (hb : JP X own emb b mb) (hm : behindInMarks op b = false := by first | exact nomark _ | rfl | with_unfolding_all rfl) :
    JB X own emb (.Compare a [op] [b] pos) (fun s => (ma s).bind fun p => (mb p.2).bind fun q => ((f p.1 q.1).bind asB).bind fun z => .ok (z, q.2)) :=
  pt_weak (pt_cmpR ho ha hb hm) fun σ H Q h => by
    obtain ⟨s, ad, G, er, q⟩ := h
    refine ⟨s, ad, G, er, (PostJ.bind (Rp := Rep) q).mono fun x H1 ⟨G1, t, s1, er1, r1, fr1, q1⟩ => ?_⟩
    refine ⟨s1, ad, G1, er1, (PostJ.bind (Rp := Rep) q1).mono fun y H2 ⟨G2, u, s2, er2, r2, fr2, q2⟩ => ?_⟩
    refine ⟨G2, t, u, er2.gh, r1.mono fr2.gg, r2, ((PostJ.pure (mg := X.mg) er2 q2).bind (Rp := Rep)).mono fun z H3 ⟨G3, w, fr3, r3, _, q3⟩ => ?_⟩
    cases r3 with
    | bl k => exact ⟨k, rfl, q3 k G3 H3 (Fr.refl fr3.gh) rfl⟩
    | _ => exact q3.elim
theorem jb_val {ma : S → R (D × S)} (ha : JP X own emb a ma) (he : ∀ whole, isTrue a X.env whole = (do let v ← whole; standAt a.pos; holding [v] (truthy v)) := by intro _; rfl) : JB X own emb a (fun s => (ma s).bind fun p => (tru p.1).bind fun z => .ok (z, p.2)) :=
  pt_weak (pt_truth ha he) fun σ H Q h => by
    obtain ⟨s, ad, G, er, q⟩ := h
    refine ⟨s, ad, G, er, (PostJ.bind (Rp := Rep) q).mono fun x H1 ⟨G1, t, s1, er1, r1, fr1, q1⟩ => tru_post (mg := X.mg) (E := E0) er1.gh r1 (PostJ.pure er1 q1)⟩
theorem jb_of {ρe : S → En} {m : S → R Bool} (h : ∀ s, XB X E0 (ρe s) a (m s)) (hb : ∀ s, ρe s = hideE own (emb s) ∨ ρe s = emb s) : JB X own emb a (fun s => (m s).bind fun t => .ok (t, s)) := by
  refine ⟨fun pins st σ H Q I hq => ?_⟩
  obtain ⟨s, ad, G, er, t, s', e, q⟩ := hq
  dsimp only at e
  cases em : m s with
  | no => rw [em] at e; exact nomatch e
  | ex c => rw [em] at e; exact nomatch e
  | ok t0 =>
    rw [em] at e
    cases e
    obtain ⟨G1, h1, h2, h3⟩ := er.bor (m := m s) (Rp := fun _ _ (v : V) (b : Bool) => v = .bl b) (mg := X.mg) (E := E0) (Q := fun v H' => ∀ b, v = .bl b → Q b H') (ρe := ρe s) ((hb s).imp id fun z => ⟨z, fun _ _ _ _ _ _ _ r => r⟩) (by rw [em]; exact fun z => nomatch z) (fun c z => by rw [em] at z; exact nomatch z) (fun t' v G' H' e' er' fr r b hv => by
      rw [em] at e'
      cases e'
      subst r
      cases hv
      exact q _ G' H' er' fr.toO rfl)
    refine (h s).run pins st σ H Q I ⟨G1, h1, h2, ?_⟩
    rw [em] at h3 ⊢
    intro v G' H' fr r
    have r' : v = t := r
    subst r'
    exact h3 (.bl v) G' H' fr rfl v rfl
theorem jb_not {m : S → R (Bool × S)} (ha : JB X own emb a m) : JB X own emb (.UnaryOp .Not a pos) (fun s => (m s).bind fun p => .ok (!p.1, p.2)) :=
  pt_weak (pt_not ha) fun σ H Q h => by
    obtain ⟨s, ad, G, er, q⟩ := h
    refine ⟨s, ad, G, er, (PostJ.bind (Rp := RepB) q).mono fun x H1 ⟨G1, t, s1, er1, r1, fr1, u, s2, e, q1⟩ => ?_⟩
    cases r1
    cases e
    exact q1 _ G1 H1 er1 FrO.refl rfl
theorem jw_and1 {m : S → R (Bool × S)} (ha : JB X own emb a m) : JW X own emb (.BoolOp .And [a] pos) m := pw_and1 ha
theorem jw_or1 {m : S → R (Bool × S)} (ha : JB X own emb a m) : JW X own emb (.BoolOp .Or [a] pos) m := pw_or1 ha
theorem jw_and {rest : List Expr} {m n : S → R (Bool × S)} (ha : JB X own emb a m) (hb : JW X own emb (.BoolOp .And (b :: rest) pos) n) : JW X own emb (.BoolOp .And (a :: b :: rest) pos) (fun s => (m s).bind fun p => if p.1 = true then n p.2 else .ok (false, p.2)) :=
  pw_weak (pw_and ha hb) fun σ H Q h => by
    obtain ⟨s, ad, G, er, q⟩ := h
    refine ⟨s, ad, G, er, (PostJ.bind (Rp := RepB) q).mono fun x H1 ⟨G1, t, s1, er1, r1, fr1, q1⟩ => ?_⟩
    cases r1
    cases x with
    | true =>
      rw [if_pos rfl]
      exact ⟨s1, ad, G1, er1, q1⟩
    | false =>
      rw [if_neg Bool.false_ne_true]
      obtain ⟨u, s2, e, q1⟩ := q1
      cases e
      exact q1 _ G1 H1 er1 FrO.refl rfl
theorem jw_or {rest : List Expr} {m n : S → R (Bool × S)} (ha : JB X own emb a m) (hb : JW X own emb (.BoolOp .Or (b :: rest) pos) n) : JW X own emb (.BoolOp .Or (a :: b :: rest) pos) (fun s => (m s).bind fun p => if p.1 = true then .ok (true, p.2) else n p.2) :=
  pw_weak (pw_or ha hb) fun σ H Q h => by
    obtain ⟨s, ad, G, er, q⟩ := h
    refine ⟨s, ad, G, er, (PostJ.bind (Rp := RepB) q).mono fun x H1 ⟨G1, t, s1, er1, r1, fr1, q1⟩ => ?_⟩
    cases r1
    cases x with
    | true =>
      rw [if_pos rfl]
      obtain ⟨u, s2, e, q1⟩ := q1
      cases e
      exact q1 _ G1 H1 er1 FrO.refl rfl
    | false =>
      rw [if_neg Bool.false_ne_true]
      exact ⟨s1, ad, G1, er1, q1⟩
theorem jb_w {m : S → R (Bool × S)} (h : JW X own emb a m) : JB X own emb a m := PW.pt h
/-! and, or as values -/
theorem jp_one {op : BoolOp} {ma : S → R (D × S)} (ha : JP X own emb a ma) : JP X own emb (.BoolOp op [a] pos) ma := pe_one ha
theorem jp_and {rest : List Expr} {ma mb : S → R (D × S)} (ha : JP X own emb a ma) (hb : JP X own emb (.BoolOp .And (b :: rest) pos) mb) : JP X own emb (.BoolOp .And (a :: b :: rest) pos) (fun s => (ma s).bind fun p => (tru p.1).bind fun k => if k = true then mb p.2 else .ok p) :=
  pe_weak (pe_andT ha hb) fun σ H Q h => by
    obtain ⟨s, ad, G, er, q⟩ := h
    refine ⟨s, ad, G, er, (PostJ.bind (Rp := Rep) q).mono fun x H1 ⟨G1, t, s1, er1, r1, fr1, u, s2, e, q1⟩ => ?_⟩
    cases et : tru t with
    | no => simp only [et] at e; exact nomatch e
    | ex c => simp only [et] at e; exact nomatch e
    | ok k =>
      simp only [et, R.ok_bind] at e
      refine ⟨k, truV_of er1.gh r1 et, ?_⟩
      cases k with
      | true =>
        rw [if_pos rfl]
        rw [if_pos rfl] at e
        exact ⟨s1, ad, G1, er1, u, s2, e, q1⟩
      | false =>
        rw [if_neg Bool.false_ne_true]
        rw [if_neg Bool.false_ne_true] at e
        cases e
        exact q1 x G1 H1 er1 FrO.refl r1
theorem jp_or {rest : List Expr} {ma mb : S → R (D × S)} (ha : JP X own emb a ma) (hb : JP X own emb (.BoolOp .Or (b :: rest) pos) mb) : JP X own emb (.BoolOp .Or (a :: b :: rest) pos) (fun s => (ma s).bind fun p => (tru p.1).bind fun k => if k = true then .ok p else mb p.2) :=
  pe_weak (pe_orT ha hb) fun σ H Q h => by
    obtain ⟨s, ad, G, er, q⟩ := h
    refine ⟨s, ad, G, er, (PostJ.bind (Rp := Rep) q).mono fun x H1 ⟨G1, t, s1, er1, r1, fr1, u, s2, e, q1⟩ => ?_⟩
    cases et : tru t with
    | no => simp only [et] at e; exact nomatch e
    | ex c => simp only [et] at e; exact nomatch e
    | ok k =>
      simp only [et, R.ok_bind] at e
      refine ⟨k, truV_of er1.gh r1 et, ?_⟩
      cases k with
      | true =>
        rw [if_pos rfl]
        rw [if_pos rfl] at e
        cases e
        exact q1 x G1 H1 er1 FrO.refl r1
      | false =>
        rw [if_neg Bool.false_ne_true]
        rw [if_neg Bool.false_ne_true] at e
        exact ⟨s1, ad, G1, er1, u, s2, e, q1⟩
theorem jp_ifexp {m : S → R (Bool × S)} {ma mb : S → R (D × S)} (hc : JB X own emb c m) (ha : JP X own emb a ma) (hb : JP X own emb b mb) : JP X own emb (.IfExp c a b pos) (fun s => (m s).bind fun p => if p.1 = true then ma p.2 else mb p.2) :=
  pe_weak (pe_ifExp hc ha hb) fun σ H Q h => by
    obtain ⟨s, ad, G, er, q⟩ := h
    refine ⟨s, ad, G, er, (PostJ.bind (Rp := RepB) q).mono fun x H1 ⟨G1, t, s1, er1, r1, fr1, q1⟩ => ?_⟩
    cases r1
    cases x with
    | true =>
      rw [if_pos rfl]
      exact ⟨s1, ad, G1, er1, q1⟩
    | false =>
      rw [if_neg Bool.false_ne_true]
      exact ⟨s1, ad, G1, er1, q1⟩
/-! argument lists, displays, calls -/
abbrev CJ (S : Type) := (β : Type) → S → (List D → S → R β) → R β
def JAk (X : Cx) (own : List Nat) (emb : S → En) (es : List Expr) (mk : CJ S) : Prop := ∃ m : S → R (List D × S), (∀ (β : Type) (s : S) (k : List D → S → R β), mk β s k = (m s).bind fun p => k p.1 p.2) ∧ (∀ s p, m s = .ok p → p.1.length = es.length) ∧ PA X es (rdJA X.K own emb m)
theorem ja_nil : JAk X own emb [] (fun β s k => k [] s) := ⟨fun s => .ok ([], s), fun _ _ _ => rfl, fun _ p h => by cases h; rfl, pa_weak pa_nil fun σ H Q h => by
  obtain ⟨s, ad, G, er, t, s', e, q⟩ := h
  cases e
  exact q [] G H er FrO.refl .nil⟩
theorem ja_cons {es : List Expr} {ma : S → R (D × S)} {mk : CJ S} (ha : JP X own emb a ma) (hr : JAk X own emb es mk) (hs : starEach (a :: es) X.env = (false, eval a X.env) :: starEach es X.env := by rfl) :
    JAk X own emb (a :: es) (fun β s k => (ma s).bind fun p => mk β p.2 fun xs s' => k (p.1 :: xs) s') := by
  obtain ⟨m, e, hl, h⟩ := hr
  refine ⟨fun s => (ma s).bind fun p => (m p.2).bind fun q => .ok (p.1 :: q.1, q.2), fun β s k => ?_, fun s p he => ?_, pa_weak (pa_cons ha h hs) fun σ H Q hq => ?_⟩
  · show ((ma s).bind fun p => mk β p.2 fun xs s' => k (p.1 :: xs) s') = _
    rw [R.bind_assoc]
    congr 1
    funext p
    rw [e, R.bind_assoc]
    rfl
  · cases h1 : ma s with
    | ok p1 =>
      simp only [h1, R.ok_bind] at he
      cases h2 : m p1.2 with
      | ok p2 =>
        simp only [h2, R.ok_bind] at he
        cases he
        exact congrArg (· + 1) (hl _ _ h2)
      | no => simp only [h2] at he; exact nomatch he
      | ex c => simp only [h2] at he; exact nomatch he
    | no => simp only [h1] at he; exact nomatch he
    | ex c => simp only [h1] at he; exact nomatch he
  · obtain ⟨s, ad, G, er, q⟩ := hq
    refine ⟨s, ad, G, er, (PostJ.bind (Rp := Rep) q).mono fun x H1 ⟨G1, t, s1, er1, r1, fr1, q1⟩ => ?_⟩
    refine ⟨s1, ad, G1, er1, (PostJ.bind (Rp := RepAll) q1).mono fun xs H2 ⟨G2, ts, s2, er2, r2, fr2, u, s3, e3, q2⟩ => ?_⟩
    cases e3
    exact q2 _ G2 H2 er2 FrO.refl (.cons (r1.mono fr2.gg) r2)
theorem jp_tup {es : List Expr} {mk : CJ S} {x1} (h : JAk X own emb es mk) (hl : es.length ≤ 1000 := by decide) : JP X own emb (.Tuple es x1 pos) (fun s => mk (D × S) s fun ts s' => .ok (.tuple ts, s')) := by
  obtain ⟨m, e, hl', h⟩ := h
  rw [show (fun s => mk (D × S) s fun ts s' => R.ok (.tuple ts, s')) = fun s => (m s).bind fun p => .ok (.tuple p.1, p.2) from funext fun s => e _ _ _]
  refine pe_weak (pe_tupU h) fun σ H Q hq => ?_
  obtain ⟨s, ad, G, er, q⟩ := hq
  refine ⟨s, ad, G, er, ?_⟩
  obtain ⟨u, s2, e2, q2⟩ := q
  cases em : m s with
  | no => simp only [em] at e2; exact nomatch e2
  | ex c => simp only [em] at e2; exact nomatch e2
  | ok p =>
    simp only [em, R.ok_bind] at e2
    cases e2
    refine ⟨p.1, p.2, rfl, fun vs G1 H1 er1 fr1 r1 => ⟨?_, fun a u np tu => ?_⟩⟩
    · rw [r1.length, hl' s p em, sizeLine_eq]
      omega
    · have fr2 := Fr.new (o := u) er1.gh np
      refine q2 _ _ _ (er1.after fr2.gg fr2.gh fr2.hh fun i hi => ?_) (fr1.trans (K := X.K) (ρ := emb p.2) (σ := σ) fr2.toO (er1.after fr2.gg fr2.gh fr2.hh fun i hi => ?_)) (rep_newT er1.gh np tu r1)
      all_goals
        obtain ⟨_, _, _, o⟩ := er1.ow i hi
        exact fr2.nw _ o.1 o.ne
theorem jp_lst {es : List Expr} {mk : CJ S} (h : JAk X own emb es mk) (hl : es.length ≤ 1000 := by decide) : JP X own emb (.List es pos) (fun s => mk (D × S) s fun ts s' => .ok (.list ts, s')) := by
  obtain ⟨m, e, hl', h⟩ := h
  rw [show (fun s => mk (D × S) s fun ts s' => R.ok (.list ts, s')) = fun s => (m s).bind fun p => .ok (.list p.1, p.2) from funext fun s => e _ _ _]
  refine pe_weak (pe_lst h) fun σ H Q hq => ?_
  obtain ⟨s, ad, G, er, q⟩ := hq
  refine ⟨s, ad, G, er, ?_⟩
  obtain ⟨u, s2, e2, q2⟩ := q
  cases em : m s with
  | no => simp only [em] at e2; exact nomatch e2
  | ex c => simp only [em] at e2; exact nomatch e2
  | ok p =>
    simp only [em, R.ok_bind] at e2
    cases e2
    refine ⟨p.1, p.2, rfl, fun vs G1 H1 er1 fr1 r1 => ⟨?_, fun a np => ?_⟩⟩
    · rw [r1.length, hl' s p em, sizeLine_eq]
      omega
    · have fr2 := Fr.new (o := .lst vs) er1.gh np
      refine q2 _ _ _ (er1.after fr2.gg fr2.gh fr2.hh fun i hi => ?_) (fr1.trans (K := X.K) (ρ := emb p.2) (σ := σ) fr2.toO (er1.after fr2.gg fr2.gh fr2.hh fun i hi => ?_)) (rep_newL er1.gh np r1)
      all_goals
        obtain ⟨_, _, _, o⟩ := er1.ow i hi
        exact fr2.nw _ o.1 o.ne
theorem jp_callB {x : Str} {p : Pos} {id : String} {es : List Expr} {mk : CJ S} {f : List D → R D} (hc : CallD X E0 (.builtin id) f) (hm : X.mg x = none) (ha : JAk X own emb (a :: es) mk) (hv : bootBuiltins x = some (.builtin id) := by decide +kernel) (hg : Gl X x := by rfl) (hn : x ≠ "__name__" := by decide)
    (hdb : (x == ("__debug__" : Str)) = false := by decide) (he : starEach (a :: es) X.env = (false, eval a X.env) :: starEach es X.env := by rfl) (hpl : (backTo pos (starEach es X.env)).any (·.1) = false := by rfl) : JP X own emb (.Call (.Name x p) (a :: es) [] pos) (fun s => mk (D × S) s fun ts s' => (f ts).bind fun z => .ok (z, s')) := by
  obtain ⟨m, e, _, h⟩ := ha
  rw [show (fun s => mk (D × S) s fun ts s' => (f ts).bind fun z => R.ok (z, s')) = fun s => (m s).bind fun p => (f p.1).bind fun z => .ok (z, p.2) from funext fun s => e _ _ _]
  refine pe_weak (pe_callB hc hg hm hv h hn hdb he hpl) fun σ H Q hq => ?_
  obtain ⟨s, ad, G, er, q⟩ := hq
  exact ⟨s, ad, G, er, (PostJ.bind (Rp := RepAll) q).mono fun vs H1 ⟨G1, ts, s1, er1, r1, fr1, q1⟩ => ⟨G1, ts, er1.gh, r1, PostJ.pure er1 q1⟩⟩
theorem jp_callT {x : Str} {p : Pos} {T : String} {es : List Expr} {mk : CJ S} {f : List D → R D} (hc : CallD X E0 (.type T) f) (hm : X.mg x = none) (ha : JAk X own emb (a :: es) mk) (hv : bootBuiltins x = some (.type T) := by decide +kernel) (hg : Gl X x := by rfl) (hn : x ≠ "__name__" := by decide)
    (hdb : (x == ("__debug__" : Str)) = false := by decide) (he : starEach (a :: es) X.env = (false, eval a X.env) :: starEach es X.env := by rfl) (hpl : (backTo pos (starEach es X.env)).any (·.1) = false := by rfl) : JP X own emb (.Call (.Name x p) (a :: es) [] pos) (fun s => mk (D × S) s fun ts s' => (f ts).bind fun z => .ok (z, s')) := by
  obtain ⟨m, e, _, h⟩ := ha
  rw [show (fun s => mk (D × S) s fun ts s' => (f ts).bind fun z => R.ok (z, s')) = fun s => (m s).bind fun p => (f p.1).bind fun z => .ok (z, p.2) from funext fun s => e _ _ _]
  refine pe_weak (pe_callTy hc hg hm hv h hn hdb he hpl) fun σ H Q hq => ?_
  obtain ⟨s, ad, G, er, q⟩ := hq
  exact ⟨s, ad, G, er, (PostJ.bind (Rp := RepAll) q).mono fun vs H1 ⟨G1, ts, s1, er1, r1, fr1, q1⟩ => ⟨G1, ts, er1.gh, r1, PostJ.pure er1 q1⟩⟩
end
end TL
/-! the tree layer, 7: promises, calls, statements -/
namespace TL
open PySem PySem.Spec PyProof.Rows L2
/-! ### what a def promises -/
/-- behind a call: a frozen answer, or (fr) a new list or dict that nobody else knows -/
def Ans (K : PySem.W.Frag) (fr : Bool) (H G' H' : Hp) (v : V) (t : D) : Prop :=
  match fr with
  | false => Rep K G' v t
  | true => ∃ p, v = .ref p ∧ H p = none ∧ OwnAt K G' H' p t
def spP (K : PySem.W.Frag) (mg : Str → Option Value) (np : Nat) (fr : Bool) (mf : List D → R D) : Sp := fun vs H Q E => vs.length = np ∧ ∃ G ts, Same G H ∧ RepAll K G vs ts ∧ match mf ts with
  | .no => False
  | .ex c => ∀ H', Same H H' → E (cls mg c) none H'
  | .ok t => ∀ v G' H', Fr G H G' H' → Ans K fr H G' H' v t → Q v H'
/-- the first argument is a box that the def may change -/
def spB (K : PySem.W.Frag) (np : Nat) (fr : Bool) (mf : D → List D → R (D × D)) : Sp := fun vs H Q E => vs.length = np ∧ ∃ G a ws b ts, vs = .ref a :: ws ∧ Same G H ∧ OwnAt K G H a b ∧ RepAll K G ws ts ∧ ∃ t b', mf b ts = .ok (t, b') ∧
  ∀ v G' H', Same G G' → Same G' H' → (∀ c o, H c = some o → c ≠ a → H' c = some o) → (∀ c, G c = none → H c ≠ none → G' c = none) → OwnAt K G' H' a b' → Ans K fr H G' H' v t → Q v H'
/-- the def that a name of the module holds keeps this promise -/
def CalOk (P : Program) (w : World) (K : PySem.W.Frag) (mg : Str → Option Value) (base : Heap) (k : Nat) (x : Str) (sp : Sp) : Prop :=
  ∃ f fd ps, FnOk P w K mg base (L2.CX P w) k f fd ps sp ∧ mg x = some (.ref f) ∧ PySem.W.keepIn K (.ref f) = true ∧ Binds K fd ps []
theorem CalOk.mono {P : Program} {w : World} {K : PySem.W.Frag} {mg : Str → Option Value} {base : Heap} {j k : Nat} {x : Str} {sp : Sp} (h : CalOk P w K mg base j x sp) (hk : j ≤ k) : CalOk P w K mg base k x sp := by
  obtain ⟨f, fd, ps, F, r⟩ := h
  exact ⟨f, fd, ps, F.mono hk, r⟩
section
variable {X : Cx} {E : XK} {ρ : En} {a : Expr} {pos : Pos}
/-- weaker: frozen -/
theorem Fr.freeze {K : PySem.W.Frag} {G H G' H' : Hp} {p : Addr} {t : D} (fr : Fr G H G' H') (np : H p = none) (o : OwnAt K G' H' p t) : ∃ G2, Fr G H G2 H' ∧ Rep K G2 (.ref p) t := by
  obtain ⟨u, eu, _⟩ := o.some_of
  have gn := o.1
  refine ⟨upd G' p u, ⟨fun b x e => ?_, fun b x e => ?_, fr.hh, fun b h1 h2 => ?_⟩, o.rep (same_new gn) (by rw [upd_same, eu])⟩
  · rw [upd_ne (ne_of_none (fr.gg _ _ e) gn)]
    exact fr.gg _ _ e
  · by_cases hb : b = p
    · subst hb
      rw [upd_same] at e
      rw [eu, e]
    · rw [upd_ne hb] at e
      exact fr.gh _ _ e
  · have : b ≠ p := fun z => h2 (by rw [z]; exact np)
    rw [upd_ne this]
    exact fr.nw b h1 h2
theorem xp_call {x : Str} {p : Pos} {k j np : Nat} {fr : Bool} {es : List Expr} {mk : CP} {mf : List D → R D} (C : CalOk X.prog X.w X.K X.mg X.base j x (spP X.K X.mg np fr mf)) (hr : Room k X.A) (hjk : j ≤ k) (hx : Passes (L2.CX X.prog X.w) X E) (ha : XAk X E ρ (a :: es) mk)
    (hnp : (a :: es).length = np := by rfl) (hg : Gl X x := by rfl) (hdb : (x == ("__debug__" : Str)) = false := by decide) (he : starEach (a :: es) X.env = (false, eval a X.env) :: starEach es X.env := by rfl) (hpl : (backTo pos (starEach es X.env)).any (·.1) = false := by rfl) :
    XP X E ρ (.Call (.Name x p) (a :: es) [] pos) (mk D mf) := by
  obtain ⟨f, fd, ps, F, hm, hk, hb⟩ := C
  obtain ⟨m, e, hl, h⟩ := ha
  rw [e]
  refine pe_weak (pe_call F (hr.mono hjk) hg hm hk hb .nil hx h hdb he hpl) fun σ H Q hq => ?_
  obtain ⟨G, sa, ep, q⟩ := hq
  refine ⟨G, sa, ep, ?_⟩
  cases em : m with
  | no => rw [em] at q; exact q.elim
  | ex c => rw [em] at q; exact q
  | ok ts =>
    rw [em] at q
    intro vs G1 H1 fr1 ra
    have q' : PostP Rep X.K X.mg E G H (mf ts) Q := q
    rw [List.append_nil]
    refine ⟨by rw [ra.length, hl ts em]; exact hnp, G1, ts, fr1.gh, ra, ?_⟩
    cases e2 : mf ts with
    | no => rw [e2] at q'; exact q'.elim
    | ex c => rw [e2] at q'; exact fun H' s => q' H' (fr1.hh.trans s)
    | ok t =>
      rw [e2] at q'
      intro v G2 H2 fr2 an
      cases fr with
      | false => exact q' v G2 H2 (fr1.trans fr2) an
      | true =>
        obtain ⟨p, rfl, np, o⟩ := an
        obtain ⟨G3, fr3, r3⟩ := fr2.freeze np o
        exact q' _ G3 H2 (fr1.trans fr3) r3
theorem xp_call0 {x : Str} {p : Pos} {k j : Nat} {fr : Bool} {mf : List D → R D} (C : CalOk X.prog X.w X.K X.mg X.base j x (spP X.K X.mg 0 fr mf)) (hr : Room k X.A) (hjk : j ≤ k) (hx : Passes (L2.CX X.prog X.w) X E)
    (hg : Gl X x := by rfl) (hdb : (x == ("__debug__" : Str)) = false := by decide) : XP X E ρ (.Call (.Name x p) [] [] pos) (mf []) := by
  obtain ⟨f, fd, ps, F, hm, hk, hb⟩ := C
  refine pe_weak (pe_call0 F (hr.mono hjk) hg hm hk hb .nil hx hdb) fun σ H Q hq => ?_
  obtain ⟨G, sa, ep, q⟩ := hq
  refine ⟨rfl, G, [], sa, .nil, ?_⟩
  cases e2 : mf [] with
  | no => rw [e2] at q; exact q.elim
  | ex c => rw [e2] at q; exact q
  | ok t =>
    rw [e2] at q
    intro v G2 H2 fr2 an
    cases fr with
    | false => exact q v G2 H2 fr2 an
    | true =>
      obtain ⟨p, rfl, np, o⟩ := an
      obtain ⟨G3, fr3, r3⟩ := fr2.freeze np o
      exact q _ G3 H2 fr3 r3
/-! ### expressions that give a new list or dict of one's own -/
abbrev XF (X : Cx) (E : XK) (ρ : En) (e : Expr) (m : R D) : Prop := PE X e (rdF X.K X.mg E ρ m)
theorem xp_of_xf {m : R D} (h : XF X E ρ a m) : XP X E ρ a m := pe_weak h fun σ H Q ⟨G, s, ep, q⟩ => ⟨G, s, ep, by
  cases m with
  | no => exact q
  | ex c => exact q
  | ok t =>
    intro p G' H' fr np o
    obtain ⟨G3, fr3, r3⟩ := fr.freeze np o
    exact q _ G3 H' fr3 r3⟩
theorem own_new {K : PySem.W.Frag} {G H : Hp} {p : Addr} {vs : List V} {ts : List D} (s : Same G H) (np : H p = none) (r : RepAll K G vs ts) : OwnAt K G (upd H p (.lst vs)) p (.list ts) := ⟨s.free np, .inl ⟨vs, ts, rfl, upd_same, r⟩⟩
theorem Fr.newU {G H : Hp} (s : Same G H) {p : Addr} {o : HO} (h : H p = none) : Fr G H G (upd H p o) :=
  ⟨Same.refl _, fun b x e => by rw [upd_ne (ne_of_none (s _ _ e) h)]; exact s _ _ e, fun b x e => by rw [upd_ne (ne_of_none e h)]; exact e, fun _ h _ => h⟩
theorem xf_lst {es : List Expr} {mk : CP} (h : XAk X E ρ es mk) (hl : es.length ≤ 1000 := by decide) : XF X E ρ (.List es pos) (mk D fun ts => .ok (.list ts)) := by
  obtain ⟨m, e, hl', h⟩ := h
  rw [e]
  refine pe_weak (pe_lst h) fun σ H Q hq => ?_
  obtain ⟨G, s, ep, q⟩ := hq
  refine ⟨G, s, ep, ?_⟩
  cases em : m with
  | no => rw [em] at q; exact q.elim
  | ex c => rw [em] at q; exact q
  | ok ts =>
    rw [em] at q
    intro vs G1 H1 fr r
    refine ⟨?_, fun p np => ?_⟩
    · rw [r.length, hl' ts em, sizeLine_eq]
      omega
    · have hp : H p = none := by
        cases z : H p with
        | none => rfl
        | some o => rw [fr.hh _ _ z] at np; cases np
      exact q p G1 _ (fr.trans (Fr.newU fr.gh np)) hp (own_new fr.gh np r)
theorem xf_call {x : Str} {p : Pos} {k j np : Nat} {es : List Expr} {mk : CP} {mf : List D → R D} (C : CalOk X.prog X.w X.K X.mg X.base j x (spP X.K X.mg np true mf)) (hr : Room k X.A) (hjk : j ≤ k) (hx : Passes (L2.CX X.prog X.w) X E) (ha : XAk X E ρ (a :: es) mk)
    (hnp : (a :: es).length = np := by rfl) (hg : Gl X x := by rfl) (hdb : (x == ("__debug__" : Str)) = false := by decide) (he : starEach (a :: es) X.env = (false, eval a X.env) :: starEach es X.env := by rfl) (hpl : (backTo pos (starEach es X.env)).any (·.1) = false := by rfl) :
    XF X E ρ (.Call (.Name x p) (a :: es) [] pos) (mk D mf) := by
  obtain ⟨f, fd, ps, F, hm, hk, hb⟩ := C
  obtain ⟨m, e, hl, h⟩ := ha
  rw [e]
  refine pe_weak (pe_call F (hr.mono hjk) hg hm hk hb .nil hx h hdb he hpl) fun σ H Q hq => ?_
  obtain ⟨G, sa, ep, q⟩ := hq
  refine ⟨G, sa, ep, ?_⟩
  cases em : m with
  | no => rw [em] at q; exact q.elim
  | ex c => rw [em] at q; exact q
  | ok ts =>
    rw [em] at q
    intro vs G1 H1 fr1 ra
    rw [List.append_nil]
    refine ⟨by rw [ra.length, hl ts em]; exact hnp, G1, ts, fr1.gh, ra, ?_⟩
    have q' : PostF X.K X.mg E G H (mf ts) Q := q
    cases e2 : mf ts with
    | no => rw [e2] at q'; exact q'.elim
    | ex c =>
      rw [e2] at q'
      exact fun H' s => q' H' (fr1.hh.trans s)
    | ok t =>
      rw [e2] at q'
      intro v G2 H2 fr2 an
      obtain ⟨p, rfl, np, o⟩ := an
      have hp : H p = none := by
        cases z : H p with
        | none => rfl
        | some o => rw [fr1.hh _ _ z] at np; cases np
      exact q' p G2 H2 (fr1.trans fr2) hp o
/-! ### list comprehensions -/
section
variable {α : Type} {tg iter elt : Expr} {scope : Scope} {own : List (Str × Nat)} {sl : List Nat} {u : D → R α} {put : α → En → En} {wi : R (List D)} {me : α → R D} {cond : α → R Bool} {c : Expr}
/-- the reading of the comprehension's parts that depend on the item -/
def anyE (K : PySem.W.Frag) (mg : Str → Option Value) (f : α → En) (m : α → R D) : TE := fun σ H Q => ∃ a, rdP K mg E0 (f a) (m a) σ H Q
def anyB (K : PySem.W.Frag) (mg : Str → Option Value) (f : α → En) (m : α → R Bool) : TT := fun σ H Q => ∃ a, rdB K mg E0 (f a) (m a) σ H Q
/-- a comprehension, as a value and as what a name takes on one line -/
structure LCx (X : Cx) (elt tg iter : Expr) (ifs : List Expr) (scope : Scope) (t : TE) : Prop where
  pe : ∀ pos, PE X (.ListComp elt [⟨tg, iter, ifs, 0⟩] scope pos) t
  ps : ∀ (i : Nat) (y : Str) (py pos spos : Pos), X.N[i]? = some y → X.env.scope.names.lookup y = some .local → swapsWith (.ListComp elt [⟨tg, iter, ifs, 0⟩] scope pos) (some (.Name y py)) spos.line X.env = pure true → PS X (.Assign [.Name y py] (.ListComp elt [⟨tg, iter, ifs, 0⟩] scope pos) spos) (tAsg t (gName i))
theorem LCx.map {X : Cx} {elt tg iter : Expr} {ifs : List Expr} {scope : Scope} {t t' : TE} (h : LCx X elt tg iter ifs scope t) (f : ∀ σ H Q, t' σ H Q → t σ H Q) : LCx X elt tg iter ifs scope t' :=
  ⟨fun pos => pe_weak (h.pe pos) f, fun i y py pos spos h1 h2 h3 => ⟨fun pins s σ H Dn I q => (h.ps i y py pos spos h1 h2 h3).run pins s σ H Dn I (f _ _ _ q)⟩⟩
theorem lcx_of {X : Cx} {elt tg iter : Expr} {ifs : List Expr} {scope : Scope} {own : List (Str × Nat)} {wi : TI} {g : TG} {tt : TT} {te t : TE} (hc : X.calm = true) (hN : X.N.Nodup) (hi : PI X tg iter wi) (ok : BlkOk X.N X.env.scope scope own)
    (hg : ∀ (s : Shared) (H : Hp) (C : Addr) (cl : List (Str × Addr)) (fp : List Addr), PG (X.blk s H scope (compEnvC scope cl C X.env) fp) tg g) (ht : ∀ (s : Shared) (H : Hp) (C : Addr) (cl : List (Str × Addr)) (fp : List Addr), PTs (X.blk s H scope (compEnvC scope cl C X.env) fp) ifs tt)
    (he : ∀ (s : Shared) (H : Hp) (C : Addr) (cl : List (Str × Addr)) (fp : List Addr), PE (X.blk s H scope (compEnvC scope cl C X.env) fp) elt te) (hs : ∀ x, foldedSetIterable iter X.env x = pure x) (hq : ∀ σ H Q, t σ H Q → tLc wi g tt te (own.map (·.2)) σ H Q) : LCx X elt tg iter ifs scope t :=
  ⟨fun pos => pe_weak (pe_lc hc hN hi ok hg ht he hs) hq, fun i y py pos spos h1 h2 h3 => ⟨fun pins s σ H Dn I q => (ps_setLc hc hN h1 h2 h3 hi ok hg ht he hs).run pins s σ H Dn I (hq _ _ _ q)⟩⟩
theorem lcx_lcf (hN : X.N.Nodup) (hi : XI X E ρ tg iter wi) (hg : ∀ (s : Shared) (H : Hp) (C : Addr) (cl : List (Str × Addr)) (fp : List Addr), XG (X.blk s H scope (compEnvC scope cl C X.env) fp) tg sl u put)
    (ht : ∀ (s : Shared) (H : Hp) (C : Addr) (cl : List (Str × Addr)) (fp : List Addr) (x : α), XB (X.blk s H scope (compEnvC scope cl C X.env) fp) E0 (put x (wipeE ρ (own.map (·.2)))) c (cond x))
    (he : ∀ (s : Shared) (H : Hp) (C : Addr) (cl : List (Str × Addr)) (fp : List Addr) (x : α), XP (X.blk s H scope (compEnvC scope cl C X.env) fp) E0 (put x (wipeE ρ (own.map (·.2)))) elt (me x))
    (ok : BlkOk X.N X.env.scope scope own) (hsub : ∀ i ∈ sl, i ∈ own.map (·.2) := by decide) (hc : X.calm = true := by rfl) (hs : ∀ x, foldedSetIterable iter X.env x = pure x := by intro _; rfl) :
    LCx X elt tg iter [c] scope (rdF X.K X.mg E ρ (wi.bind fun its => (filR (fun d => (u d).bind cond) (fun d => (u d).bind me) its).bind fun rs => .ok (.list rs))) := by
  refine lcx_of (own := own) (g := rdG X.K sl u put) hc hN hi ok hg (fun s H C cl fp => pts_one (t := anyB X.K X.mg (fun x => put x (wipeE ρ (own.map (·.2)))) cond) ⟨fun pins s' σ H' Q I ⟨x, q⟩ => (ht s H C cl fp x).run pins s' σ H' Q I q⟩)
    (fun s H C cl fp => (⟨fun pins s' σ H' Q I ⟨x, q⟩ => (he s H C cl fp x).run pins s' σ H' Q I q⟩ : PE _ elt (anyE X.K X.mg (fun x => put x (wipeE ρ (own.map (·.2)))) me))) hs fun σ H Q hq => ?_
  refine lc_read (me := me) (cond := cond) hsub (fun x b σ2 H2 G2 Qb ec s2 ep2 k => ⟨x, G2, s2, ep2, by
    rw [ec]
    intro v G3 H3 fr r
    cases r
    exact k G3 H3 fr⟩) hq _ fun x t σ2 H2 G2 Qe em s2 ep2 k => ⟨x, G2, s2, ep2, by
    rw [em]
    exact fun v G3 H3 fr r => k v G3 H3 fr r⟩
theorem lcx_lc (hN : X.N.Nodup) (hi : XI X E ρ tg iter wi) (hg : ∀ (s : Shared) (H : Hp) (C : Addr) (cl : List (Str × Addr)) (fp : List Addr), XG (X.blk s H scope (compEnvC scope cl C X.env) fp) tg sl u put)
    (he : ∀ (s : Shared) (H : Hp) (C : Addr) (cl : List (Str × Addr)) (fp : List Addr) (x : α), XP (X.blk s H scope (compEnvC scope cl C X.env) fp) E0 (put x (wipeE ρ (own.map (·.2)))) elt (me x))
    (ok : BlkOk X.N X.env.scope scope own) (hsub : ∀ i ∈ sl, i ∈ own.map (·.2) := by decide) (hc : X.calm = true := by rfl) (hs : ∀ x, foldedSetIterable iter X.env x = pure x := by intro _; rfl) :
    LCx X elt tg iter [] scope (rdF X.K X.mg E ρ (wi.bind fun its => (mapR (fun d => (u d).bind me) its).bind fun rs => .ok (.list rs))) := by
  refine lcx_of (own := own) (g := rdG X.K sl u put) hc hN hi ok hg (fun s H C cl fp => pts_nil)
    (fun s H C cl fp => (⟨fun pins s' σ H' Q I ⟨x, q⟩ => (he s H C cl fp x).run pins s' σ H' Q I q⟩ : PE _ elt (anyE X.K X.mg (fun x => put x (wipeE ρ (own.map (·.2)))) me))) hs fun σ H Q hq => ?_
  refine lc_read (me := me) (cond := fun _ => .ok true) hsub (fun x b σ2 H2 G2 Qb ec s2 ep2 k => by
    cases ec
    exact k G2 H2 (Fr.refl s2)) ?_ _ fun x t σ2 H2 G2 Qe em s2 ep2 k => ⟨x, G2, s2, ep2, by
    rw [em]
    exact fun v G3 H3 fr r => k v G3 H3 fr r⟩
  · have e : (fun its => (mapR (fun d => (u d).bind me) its).bind fun rs => R.ok (PyData.list rs)) = fun its => (filR (fun d => (u d).bind fun _ => .ok true) (fun d => (u d).bind me) its).bind fun rs => .ok (PyData.list rs) := funext fun its => by rw [mapR_fil]
    rw [e] at hq
    exact hq
theorem xf_lc {ifs : List Expr} {m : R D} (h : LCx X elt tg iter ifs scope (rdF X.K X.mg E ρ m)) : XF X E ρ (.ListComp elt [⟨tg, iter, ifs, 0⟩] scope pos) m := h.pe pos
end
end
end TL
/-! the tree layer, 8: comprehensions that change the state, pops, boxes -/
namespace TL
open PySem PySem.Spec PyProof.Rows L2
section
variable {K : PySem.W.Frag} {own : List Nat} {ρ : En} {ad : Nat → Addr} {σ σ' : L2.St} {G H : Hp}
theorem Er.setO (er : Er K own ρ ad σ G H) {i : Nat} {v : V} {d : D} (hi : i ∉ own) (r : Rep K G v d) : Er K own (setN ρ i (some d)) ad (σ.set i (some v)) G H where
  len := by rw [setN_length, List.length_set]; exact er.len
  gh := er.gh
  fz := fun j t e hj => by
    by_cases hji : j = i
    · subst hji
      have hlt : j < σ.length := by
        have := getN_lt e
        rw [setN_length, er.len] at this
        exact this
      have e2 := getN_setN_same (w := some d) e
      cases e2
      exact ⟨v, by rw [List.getElem?_set_self hlt], r⟩
    · rw [getN_setN_ne hji] at e
      obtain ⟨w, q, r2⟩ := er.fz j t e hj
      exact ⟨w, by rw [List.getElem?_set_ne (Ne.symm hji)]; exact q, r2⟩
  ow := fun j hj => by
    have hji : j ≠ i := fun z => hi (by rw [← z]; exact hj)
    obtain ⟨t, e, q, o⟩ := er.ow j hj
    exact ⟨t, by rw [getN_setN_ne hji]; exact e, by rw [List.getElem?_set_ne (Ne.symm hji)]; exact q, o⟩
  inj := er.inj
theorem Er.dropO (er : Er K own ρ ad σ G H) {i : Nat} {o : Option V} (hi : i ∉ own) : Er K own (setN ρ i none) ad (σ.set i o) G H where
  len := by rw [setN_length, List.length_set]; exact er.len
  gh := er.gh
  fz := fun j t e hj => by
    by_cases hji : j = i
    · subst hji
      have e2 := getN_setN_same (w := none) e
      cases e2
    · rw [getN_setN_ne hji] at e
      obtain ⟨w, q, r2⟩ := er.fz j t e hj
      exact ⟨w, by rw [List.getElem?_set_ne (Ne.symm hji)]; exact q, r2⟩
  ow := fun j hj => by
    have hji : j ≠ i := fun z => hi (by rw [← z]; exact hj)
    obtain ⟨t, e, q, o⟩ := er.ow j hj
    exact ⟨t, by rw [getN_setN_ne hji]; exact e, by rw [List.getElem?_set_ne (Ne.symm hji)]; exact q, o⟩
  inj := er.inj
theorem Er.wipeO (er : Er K own ρ ad σ G H) : ∀ {vs : List Nat}, (∀ i ∈ vs, i ∉ own) → Er K own (wipeE ρ vs) ad (L2.wipe σ vs) G H
  | [], _ => er
  | v :: vs, h => (Er.wipeO er (vs := vs) fun i hi => h i (List.mem_cons_of_mem _ hi)).dropO (h v List.mem_cons_self)
theorem puts_er : ∀ {ps : List (Nat × V × D)} {σ : L2.St} {ρ : En}, (∀ p ∈ ps, Rep K G p.2.1 p.2.2) → (∀ p ∈ ps, p.1 ∉ own) → Er K own ρ ad σ G H → Er K own (putsE ps ρ) ad (putsS ps σ) G H
  | [], _, _, _, _, h => h
  | p :: ps, _, _, hs, ho, h => puts_er (ps := ps) (fun q hq => hs q (List.mem_cons_of_mem _ hq)) (fun q hq => ho q (List.mem_cons_of_mem _ hq)) (h.setO (ho p List.mem_cons_self) (hs p List.mem_cons_self))
theorem puts_get {i : Nat} : ∀ {ps : List (Nat × V × D)} {ρ : En}, (∀ p ∈ ps, p.1 ≠ i) → getN (putsE ps ρ) i = getN ρ i
  | [], _, _ => rfl
  | p :: ps, ρ, h => (puts_get (ps := ps) (ρ := setN ρ p.1 (some p.2.2)) fun q hq => h q (List.mem_cons_of_mem _ hq)).trans (getN_setN_ne (Ne.symm (h p List.mem_cons_self)))
/-- back to the slots that were ahead: only slots beside the owned ones have changed -/
theorem Er.back {ρ' : En} (er : Er K own ρ' ad σ' G H) (hl : ρ.length = σ.length) (hfz : ∀ i t, getN ρ i = some t → i ∉ own → ∃ v, σ[i]? = some (some v) ∧ Rep K G v t) (how : ∀ i ∈ own, getN ρ i = getN ρ' i ∧ σ[i]? = σ'[i]?) : Er K own ρ ad σ G H where
  len := hl
  gh := er.gh
  fz := hfz
  ow := fun i hi => by
    obtain ⟨t, e, q, o⟩ := er.ow i hi
    obtain ⟨h1, h2⟩ := how i hi
    exact ⟨t, h1.trans e, h2.trans q, o⟩
  inj := er.inj
end
section
variable {X : Cx} {own : List Nat} {S : Type} {emb : S → En}
def rdIJ (K : PySem.W.Frag) (own : List Nat) (emb : S → En) (m : S → R (List D × S)) : TI := fun σ H Rr => ∃ s ad G, Er K own (emb s) ad σ G H ∧ ∃ its s', m s = .ok (its, s') ∧
  ∀ J G' H', Er K own (emb s') ad σ G' H' → FrO own ad G H G' H' → its.length ≤ sizeLine → ItOk K J G' its → Rr J H'
abbrev JI (X : Cx) (own : List Nat) (emb : S → En) (tg iter : Expr) (m : S → R (List D × S)) : Prop := PI X tg iter (rdIJ X.K own emb m)
/-- a walk over something that changes nothing and sees no owned slot -/
theorem ji_of {tg iter : Expr} {m : S → R (List D)} (h : ∀ s, XI X E0 (hideE own (emb s)) tg iter (m s)) : JI X own emb tg iter (fun s => (m s).bind fun its => .ok (its, s)) := by
  refine ⟨fun pins st σ H Rr I hq => ?_⟩
  obtain ⟨s, ad, G, er, its, s', e, q⟩ := hq
  dsimp only at e
  cases em : m s with
  | no => rw [em] at e; exact nomatch e
  | ex c => rw [em] at e; exact nomatch e
  | ok its0 =>
    rw [em] at e
    cases e
    refine (h s).run pins st σ H Rr I ⟨G, er.gh, er.ep_hide, ?_⟩
    rw [em]
    intro J G' H' fr hz io
    refine q J G' H' (er.after fr.gg fr.gh fr.hh fun i hi => ?_) fr.toO hz io
    obtain ⟨_, _, _, o⟩ := er.ow i hi
    exact fr.nw _ o.1 o.ne
theorem ji_val {tg iter : Expr} {m : S → R (D × S)} (h : JP X own emb iter m) : JI X own emb tg iter (fun s => (m s).bind fun p => (items p.1).bind fun its => .ok (its, p.2)) := by
  refine ⟨fun pins st σ H Rr I hq => ?_⟩
  obtain ⟨s, ad, G, er, its, s', e, q⟩ := hq
  dsimp only at e
  cases em : m s with
  | no => rw [em] at e; exact nomatch e
  | ex c => rw [em] at e; exact nomatch e
  | ok p =>
    obtain ⟨t, s1⟩ := p
    rw [em] at e
    simp only [R.ok_bind] at e
    cases t with
    | list ds =>
      cases e
      refine (pi_list (pe_len h)).run pins st σ H Rr I ⟨s, ad, G, er, .list its, s', em, fun v G' H' er' fr r lo => ?_⟩
      cases r with
      | lst h1 a => exact ⟨_, rfl, ⟨_, same_lst er'.gh h1⟩, q _ G' H' er' fr (by rw [← a.length]; exact lo _ _ rfl (.inl (same_lst er'.gh h1))) (itOk_list (.of h1) a)⟩
    | tuple ds =>
      cases e
      refine (pi_tup (pe_len h)).run pins st σ H Rr I ⟨s, ad, G, er, .tuple its, s', em, fun v G' H' er' fr r lo => ?_⟩
      cases r with
      | tup h1 a => exact ⟨_, rfl, ⟨_, same_seqT er'.gh h1⟩, q _ G' H' er' fr (by rw [← a.length]; exact lo _ _ rfl (.inr (same_seqT er'.gh h1))) (itOk_tup h1.t a)⟩
    | none | bool _ | int _ | str _ | dict _ => exact nomatch e
theorem ji_range1 {tg a : Expr} {p pos : Pos} {mk : CJ S} (hm : X.mg "range" = none) (ha : JAk X own emb [a] mk) (hg : Gl X "range" := by rfl) (hs : starEach [a] X.env = [(false, eval a X.env)] := by rfl) :
    JI X own emb tg (.Call (.Name "range" p) [a] [] pos) (fun s => mk (List D × S) s fun ts s' => (pyRange ts).bind fun its => .ok (its, s')) := by
  obtain ⟨m, e, hl, h⟩ := ha
  rw [show (fun s => mk (List D × S) s fun ts s' => (pyRange ts).bind fun its => R.ok (its, s')) = fun s => (m s).bind fun p => (pyRange p.1).bind fun its => .ok (its, p.2) from funext fun s => e _ _ _]
  refine ⟨fun pins st σ H Rr I hq => (pi_range1 hg hm h hs).run pins st σ H Rr I ?_⟩
  obtain ⟨s, ad, G, er, its, s', e2, q⟩ := hq
  dsimp only at e2
  cases em : m s with
  | no => rw [em] at e2; exact nomatch e2
  | ex c => rw [em] at e2; exact nomatch e2
  | ok p =>
    have hl1 := hl s p em
    refine ⟨s, ad, G, er, p.1, p.2, em, fun vs G1 H1 er1 fr ra => ?_⟩
    simp only [em, R.ok_bind] at e2
    obtain ⟨ts, s1⟩ := p
    match ts, hl1 with
    | [.int j], _ =>
      obtain ⟨v, rfl, r1⟩ := repAll1 ra
      cases r1
      simp only [pyRange] at e2
      by_cases hc : -(2 ^ 62) ≤ j ∧ j ≤ 16777216
      · simp only [if_pos hc, R.ok_bind] at e2
        cases e2
        exact ⟨j, rfl, hc.1, by omega, q _ G1 H1 er1 fr (by rw [upto_length, sizeLine_eq]; omega) itOk_range⟩
      · simp only [if_neg hc] at e2
        exact nomatch e2
    | [.none], _ | [.bool _], _ | [.str _], _ | [.list _], _ | [.tuple _], _ | [.dict _], _ => exact nomatch e2
def rdJF (K : PySem.W.Frag) (own : List Nat) (emb : S → En) (m : S → R (D × S)) : TE := fun σ H Q => ∃ s ad G, Er K own (emb s) ad σ G H ∧ ∃ t s', m s = .ok (t, s') ∧
  ∀ p G' H', Er K own (emb s') ad σ G' H' → FrO own ad G H G' H' → H p = none → OwnAt K G' H' p t → Q (.ref p) H'
/-- a new list or dict, the state changed -/
abbrev JF (X : Cx) (own : List Nat) (emb : S → En) (e : Expr) (m : S → R (D × S)) : Prop := PE X e (rdJF X.K own emb m)
theorem Er.freezeO {K : PySem.W.Frag} {ρ : En} {ad : Nat → Addr} {σ : L2.St} {G H G1 H1 : Hp} (er : Er K own ρ ad σ G1 H1) (fr : FrO own ad G H G1 H1) {p : Addr} {t : D} (np : H p = none) (hno : ∀ i ∈ own, p ≠ ad i) (o : OwnAt K G1 H1 p t) :
    ∃ G2, Er K own ρ ad σ G2 H1 ∧ FrO own ad G H G2 H1 ∧ Rep K G2 (.ref p) t := by
  obtain ⟨u, eu, _⟩ := o.some_of
  have gn := o.1
  refine ⟨upd G1 p u, er.after (same_new gn) (fun b x e => ?_) (Same.refl _) (fun i hi => ?_), ⟨fr.gg.trans (same_new gn), fr.hh, fun b h1 h2 => ?_⟩, o.rep (same_new gn) (by rw [upd_same, eu])⟩
  · by_cases hb : b = p
    · subst hb
      rw [upd_same] at e
      rw [eu, e]
    · rw [upd_ne hb] at e
      exact er.gh _ _ e
  · rw [upd_ne (Ne.symm (hno i hi))]
    exact er.g_none hi
  · have : b ≠ p := fun z => h2 (by rw [z]; exact np)
    rw [upd_ne this]
    exact fr.nw b h1 h2
theorem Er.new_ne {K : PySem.W.Frag} {ρ : En} {ad : Nat → Addr} {σ : L2.St} {G H : Hp} (er : Er K own ρ ad σ G H) {p : Addr} (np : H p = none) : ∀ i ∈ own, p ≠ ad i := fun i hi z => by
  obtain ⟨_, _, _, o⟩ := er.ow i hi
  exact o.ne (by rw [← z]; exact np)
theorem jp_of_jf {a : Expr} {m : S → R (D × S)} (h : JF X own emb a m) : JP X own emb a m := pe_weak h fun σ H Q hq => by
  obtain ⟨s, ad, G, er, t, s', e, q⟩ := hq
  refine ⟨s, ad, G, er, t, s', e, fun p G' H' er' fr np o => ?_⟩
  obtain ⟨G2, er2, fr2, r2⟩ := er'.freezeO fr np (er.new_ne np) o
  exact q _ G2 H' er2 fr2 r2
theorem jf_lst {es : List Expr} {mk : CJ S} {pos : Pos} (h : JAk X own emb es mk) (hl : es.length ≤ 1000 := by decide) : JF X own emb (.List es pos) (fun s => mk (D × S) s fun ts s' => .ok (.list ts, s')) := by
  obtain ⟨m, e, hl', h⟩ := h
  rw [show (fun s => mk (D × S) s fun ts s' => R.ok (PyData.list ts, s')) = fun s => (m s).bind fun p => .ok (PyData.list p.1, p.2) from funext fun s => e _ _ _]
  refine pe_weak (pe_lst h) fun σ H Q hq => ?_
  obtain ⟨s, ad, G, er, u, s2, e2, q2⟩ := hq
  refine ⟨s, ad, G, er, ?_⟩
  cases em : m s with
  | no => simp only [em] at e2; exact nomatch e2
  | ex c => simp only [em] at e2; exact nomatch e2
  | ok p =>
    simp only [em, R.ok_bind] at e2
    cases e2
    refine ⟨p.1, p.2, rfl, fun vs G1 H1 er1 fr1 r1 => ⟨?_, fun a np => ?_⟩⟩
    · rw [r1.length, hl' s p em, sizeLine_eq]
      omega
    · have fr2 := Fr.newU (o := .lst vs) er1.gh np
      have er2 := er1.after fr2.gg fr2.gh fr2.hh fun i hi => er1.g_none hi
      have hp : H a = none := by
        cases z : H a with
        | none => rfl
        | some o =>
          rw [fr1.hh _ _ z (er1.new_ne np)] at np
          cases np
      exact q2 a G1 _ er2 (fr1.trans fr2.toO er2) hp (own_new er1.gh np r1)
/-! ### comprehensions with a state -/
def mapJ (f : D → S → R (D × S)) : List D → S → R (List D × S)
  | [], s => .ok ([], s)
  | d :: ds, s => (f d s).bind fun p => (mapJ f ds p.2).bind fun q => .ok (p.1 :: q.1, q.2)
def filJ (p : D → S → R (Bool × S)) (f : D → S → R (D × S)) : List D → S → R (List D × S)
  | [], s => .ok ([], s)
  | d :: ds, s => (p d s).bind fun b => if b.1 = true then (f d b.2).bind fun q => (filJ p f ds q.2).bind fun r => .ok (q.1 :: r.1, r.2) else filJ p f ds b.2
theorem filJ_cons {p : D → S → R (Bool × S)} {f : D → S → R (D × S)} {d : D} {ds ts : List D} {s s' : S} (h : filJ p f (d :: ds) s = .ok (ts, s')) :
    ∃ b s1, p d s = .ok (b, s1) ∧ (b = false → filJ p f ds s1 = .ok (ts, s')) ∧ (b = true → ∃ t s2 ts', f d s1 = .ok (t, s2) ∧ filJ p f ds s2 = .ok (ts', s') ∧ ts = t :: ts') := by
  unfold filJ at h
  cases e1 : p d s with
  | no => rw [e1] at h; exact nomatch h
  | ex c => rw [e1] at h; exact nomatch h
  | ok b =>
    obtain ⟨b, s1⟩ := b
    rw [e1] at h
    refine ⟨b, s1, rfl, fun hb => ?_, fun hb => ?_⟩
    · subst hb
      simpa using h
    · subst hb
      simp only [R.ok_bind, if_pos] at h
      cases e2 : f d s1 with
      | no => rw [e2] at h; exact nomatch h
      | ex c => rw [e2] at h; exact nomatch h
      | ok t =>
        obtain ⟨t, s2⟩ := t
        rw [e2] at h
        simp only [R.ok_bind] at h
        cases e3 : filJ p f ds s2 with
        | no => rw [e3] at h; exact nomatch h
        | ex c => rw [e3] at h; exact nomatch h
        | ok r =>
          obtain ⟨ts', s3⟩ := r
          rw [e3] at h
          cases h
          exact ⟨t, s2, ts', rfl, e3, rfl⟩
theorem mapJ_fil {α : Type} {u : D → R α} {me : α → S → R (D × S)} : ∀ (ds : List D) (s : S), mapJ (fun d s => (u d).bind fun a => me a s) ds s = filJ (fun d s => (u d).bind fun _ => .ok (true, s)) (fun d s => (u d).bind fun a => me a s) ds s
  | [], _ => rfl
  | d :: ds, s => by
    unfold mapJ filJ
    cases e : u d with
    | no => rfl
    | ex c => rfl
    | ok a =>
      simp only [R.ok_bind, if_pos]
      congr 1
      funext p
      rw [mapJ_fil ds]
/-- from the parts' readings to the comprehension's, the state told -/
theorem lcj_read {K : PySem.W.Frag} {α : Type} {wi : S → R (List D × S)} {sl vs : List Nat} {u : D → R α} {put : α → En → En} {cond : α → S → R (Bool × S)} {me : α → S → R (D × S)} {tt : TT} {te : TE} {σ : L2.St} {H : Hp} {Q : VK} (hsub : ∀ i ∈ sl, i ∈ vs) (hdis : ∀ i ∈ vs, i ∉ own)
    (hfix : ∀ s s' i, i ∉ own → getN (emb s) i = getN (emb s') i) (hlen : ∀ s s', (emb s).length = (emb s').length)
    (ht : ∀ (a : α) (b : Bool) (s s' : S) ad (σ2 : L2.St) (H2 G2 : Hp) (Qb : Bool → Hp → Prop), cond a s = .ok (b, s') → Er K own (put a (wipeE (emb s) vs)) ad σ2 G2 H2 → (∀ G3 H3, Er K own (put a (wipeE (emb s') vs)) ad σ2 G3 H3 → FrO own ad G2 H2 G3 H3 → Qb b H3) → tt σ2 H2 Qb)
    (hte : ∀ (a : α) (t : D) (s s' : S) ad (σ2 : L2.St) (H2 G2 : Hp) (Qe : VK), me a s = .ok (t, s') → Er K own (put a (wipeE (emb s) vs)) ad σ2 G2 H2 → (∀ v G3 H3, Er K own (put a (wipeE (emb s') vs)) ad σ2 G3 H3 → FrO own ad G2 H2 G3 H3 → Rep K G3 v t → Qe v H3) → te σ2 H2 Qe)
    (h : rdJF K own emb (fun s => (wi s).bind fun p => (filJ (fun d s => (u d).bind fun a => cond a s) (fun d s => (u d).bind fun a => me a s) p.1 p.2).bind fun r => .ok (.list r.1, r.2)) σ H Q) :
    tLc (rdIJ K own emb wi) (rdG K sl u put) tt te vs σ H Q := by
  obtain ⟨s, ad, G, er, t0, sf', e0, q⟩ := h
  refine ⟨s, ad, G, er, ?_⟩
  dsimp only at e0
  cases ew : wi s with
  | no => rw [ew] at e0; exact nomatch e0
  | ex c => rw [ew] at e0; exact nomatch e0
  | ok pw =>
    obtain ⟨its, s0⟩ := pw
    rw [ew] at e0
    simp only [R.ok_bind] at e0
    cases eF : filJ (fun d s => (u d).bind fun a => cond a s) (fun d s => (u d).bind fun a => me a s) its s0 with
    | no => rw [eF] at e0; exact nomatch e0
    | ex c => rw [eF] at e0; exact nomatch e0
    | ok pr =>
      obtain ⟨rs, sf'⟩ := pr
      rw [eF] at e0
      cases e0
      refine ⟨its, s0, rfl, fun J G1 H1 er1 fr1 hz io D0 nD => ?_⟩
      -- behind i turns
      refine ⟨fun i m H2 => m = its.length - i ∧ i ≤ its.length ∧ ∃ s2 G2 acc ds rr, Er K own (emb s2) ad σ G2 H2 ∧ FrO own ad G1 H1 G2 H2 ∧ H2 D0 = some (.lst acc) ∧ G2 D0 = none ∧ RepAll K G2 acc ds ∧
          filJ (fun d s => (u d).bind fun a => cond a s) (fun d s => (u d).bind fun a => me a s) (its.drop i) s2 = .ok (rr, sf') ∧ rs = ds ++ rr ∧ acc.length ≤ i, ⟨its.length, by simp, Nat.zero_le _, s0, G1, [], [], rs, ?_⟩, ?_⟩
      · have fr2 := Fr.newU (o := .lst []) er1.gh nD
        refine ⟨er1.after fr2.gg fr2.gh fr2.hh fun i hi => er1.g_none hi, fr2.toO, upd_same, er1.gh.free nD, .nil, eF, rfl, Nat.le_refl _⟩
      · rintro i m H2 ⟨rfl, hi, s2, G2, acc, ds, rr, er2, fr2, at2, un2, rp2, ef2, al2, few2⟩
        have neD : ∀ j ∈ own, D0 ≠ ad j := fun j hj z => by
          obtain ⟨t, _, _, o⟩ := er1.ow j hj
          exact o.ne (by rw [← z]; exact nD)
        by_cases hlt : i < its.length
        · right
          have hget := List.getElem?_eq_getElem hlt
          have hdrop : its.drop i = its[i] :: its.drop (i + 1) := List.drop_eq_getElem_cons hlt
          refine ⟨io.go i H2 hlt (fr2.gg.trans er2.gh), fun H' => ∃ s2 G2 acc ds rr, Er K own (emb s2) ad σ G2 H' ∧ FrO own ad G1 H1 G2 H' ∧ H' D0 = some (.lst acc) ∧ G2 D0 = none ∧ RepAll K G2 acc ds ∧
            filJ (fun d s => (u d).bind fun a => cond a s) (fun d s => (u d).bind fun a => me a s) (its.drop (i + 1)) s2 = .ok (rr, sf') ∧ rs = ds ++ rr ∧ acc.length ≤ i + 1, fun H' hN => ⟨its.length - (i + 1), by omega, rfl, hlt, hN⟩, fun x H' hy => ?_⟩
          obtain ⟨G3, fr3, r3⟩ := io.yld i x G2 H2 H' its[i] hget fr2.gg er2.gh hy
          have er3 : Er K own (emb s2) ad σ G3 H' := er2.after fr3.gg fr3.gh fr3.hh fun j hj => fr3.nw _ (er2.g_none hj) (by
            obtain ⟨_, _, _, o⟩ := er2.ow j hj
            exact o.ne)
          rw [hdrop] at ef2
          obtain ⟨b, s3, eb, hb0, hb1⟩ := filJ_cons ef2
          cases eu : u its[i] with
          | no => rw [eu] at eb; exact nomatch eb
          | ex c => rw [eu] at eb; exact nomatch eb
          | ok a =>
            simp only [eu, R.ok_bind] at eb hb1
            have erw : Er K own (wipeE (emb s2) vs) ad (L2.wipe σ vs) G3 H' := er3.wipeO hdis
            refine ⟨G3, its[i], a, er3.gh, r3, eu, fun ps hp => ?_⟩
            have ho : Only sl (L2.wipe σ vs) (putsS ps (L2.wipe σ vs)) := puts_only hp.sub only_refl
            have erA : Er K own (put a (wipeE (emb s2) vs)) ad (putsS ps (L2.wipe σ vs)) G3 H' := by
              rw [hp.eq]
              exact puts_er hp.rep (fun p hq => hdis _ (hsub _ (hp.sub p hq))) erw
            have hput : ∀ ρ i, i ∉ sl → getN (put a ρ) i = getN ρ i := fun ρ i hi => by
              rw [hp.eq]
              exact puts_get fun p hq z => hi (by rw [← z]; exact hp.sub p hq)
            generalize putsS ps (L2.wipe σ vs) = σ2 at ho erA ⊢
            have key : ∀ (l : List Nat) (j : Nat), j ∉ l → (L2.wipe σ l)[j]? = σ[j]? := by
              intro l
              induction l with
              | nil => intro j _; rfl
              | cons v l ih =>
                intro j hj
                show ((L2.wipe σ l).set v none)[j]? = _
                rw [List.getElem?_set_ne (fun z : v = j => hj (by rw [z]; exact List.mem_cons_self))]
                exact ih j fun hm => hj (List.mem_cons_of_mem _ hm)
            have onlyV : Only vs σ σ2 := ⟨by rw [ho.1, wipe_length], fun j hj => by rw [ho.2 j fun hm => hj (hsub j hm), key vs j hj]⟩
            have hw : L2.wipe σ2 vs = L2.wipe σ vs := wipe_only onlyV
            -- out of the block again
            have out : ∀ (s' : S) (G4 H4 : Hp), Same G3 G4 → Er K own (put a (wipeE (emb s') vs)) ad σ2 G4 H4 → Er K own (emb s') ad σ G4 H4 := fun s' G4 H4 sg er4 => by
              have kw : ∀ (l : List Nat) (j : Nat), j ∉ l → getN (wipeE (emb s') l) j = getN (emb s') j := by
                intro l
                induction l with
                | nil => intro j _; rfl
                | cons v l ih =>
                  intro j hj
                  show getN (setN (wipeE (emb s') l) v none) j = _
                  rw [getN_setN_ne (fun z : j = v => hj (by rw [z]; exact List.mem_cons_self))]
                  exact ih j fun hm => hj (List.mem_cons_of_mem _ hm)
              refine er4.back ((hlen s' s2).trans er3.len) (fun j t e hj => ?_) fun j hj => ⟨?_, ?_⟩
              · rw [hfix s' s2 j hj] at e
                obtain ⟨v, e1, r1⟩ := er3.fz j t e hj
                exact ⟨v, e1, r1.mono sg⟩
              · have nv : j ∉ vs := fun hm => hdis j hm hj
                rw [hput _ j fun hm => nv (hsub j hm), kw vs j nv]
              · have nv : j ∉ vs := fun hm => hdis j hm hj
                exact (onlyV.2 j nv).symm
            have frA : FrO own ad G1 H1 G3 H' := fr2.trans fr3.toO er3
            have at3 : H' D0 = some (.lst acc) := fr3.hh _ _ at2
            have un3 : G3 D0 = none := fr3.nw _ un2 (by rw [at2]; exact fun z => nomatch z)
            refine ⟨hw, ht a b s2 s3 ad σ2 H' G3 _ eb erA fun G4 H4 er4 fr4 => ?_⟩
            have at4 : H4 D0 = some (.lst acc) := fr4.hh _ _ at3 neD
            have un4 : G4 D0 = none := fr4.nw _ un3 (by rw [at3]; exact fun z => nomatch z)
            have er4' := out s3 G4 H4 fr4.gg er4
            cases b with
            | false =>
              rw [if_neg Bool.false_ne_true]
              exact ⟨s3, G4, acc, ds, rr, er4', frA.trans fr4 er4', at4, un4, (rp2.mono fr3.gg).mono fr4.gg, hb0 rfl, al2, Nat.le_succ_of_le few2⟩
            | true =>
              rw [if_pos rfl]
              obtain ⟨t, s4, ts', ef, er', rfl⟩ := hb1 rfl
              refine hte a t s3 s4 ad σ2 H4 G4 _ ef er4 fun v G5 H5 er5 fr5 r5 => ?_
              have at5 : H5 D0 = some (.lst acc) := fr5.hh _ _ at4 neD
              have un5 : G5 D0 = none := fr5.nw _ un4 (by rw [at4]; exact fun z => nomatch z)
              have er5' := out s4 G5 H5 (fr4.gg.trans fr5.gg) er5
              have fr5' : FrO own ad G1 H1 G5 H5 := (frA.trans fr4 er4').trans fr5 er5'
              refine ⟨acc, at5, by omega, s4, G5, acc ++ [v], ds ++ [t], ts', ?_, ⟨fr5'.gg, fun b o e hne => ?_, fr5'.nw⟩, upd_same, un5, (((rp2.mono fr3.gg).mono fr4.gg).mono fr5.gg).append (.cons r5 .nil), er', by rw [al2, List.append_assoc]; rfl, by
                rw [List.length_append]
                simp only [List.length_cons, List.length_nil]
                omega⟩
              · refine ⟨er5'.len, fun b o e => ?_, er5'.fz, fun j hj => ?_, er5'.inj⟩
                · rw [upd_ne (ne_of_none e un5)]
                  exact er5'.gh _ _ e
                · obtain ⟨t, e, q, o⟩ := er5'.ow j hj
                  exact ⟨t, e, q, o.keep (Same.refl _) o.1 (upd_ne (Ne.symm (neD j hj)))⟩
              · rw [upd_ne (ne_of_none e nD)]
                exact fr5'.hh b o e hne
        · left
          have e : i = its.length := by omega
          subst e
          rw [List.drop_length] at ef2
          cases ef2
          rw [List.append_nil] at al2
          subst al2
          refine ⟨io.stop H2 (fr2.gg.trans er2.gh), ?_⟩
          have own2 : OwnAt K G2 H2 D0 (.list rs) := ⟨un2, .inl ⟨acc, rs, rfl, at2, rp2⟩⟩
          have hD : H D0 = none := by
            cases z : H D0 with
            | none => rfl
            | some o =>
              rw [fr1.hh _ _ z (er1.new_ne nD)] at nD
              cases nD
          exact q D0 G2 H2 er2 (fr1.trans fr2 er2) hD own2
end
end TL
/-! the tree layer, 9: effects as expressions; statements -/
namespace TL
open PySem PySem.Spec PyProof.Rows L2
/-- the part of the state that an expression changes: nothing, one slot, two -/
def emb0 (ρ : En) : Unit → En := fun _ => ρ
def emb1 (i : Nat) (ρ : En) : D → En := fun d => setN ρ i (some d)
def emb2 (i j : Nat) (ρ : En) : D × D → En := fun p => setN (setN ρ i (some p.1)) j (some p.2)
def emb3 (i j k : Nat) (ρ : En) : D × D × D → En := fun p => setN (setN (setN ρ i (some p.1)) j (some p.2.1)) k (some p.2.2)
structure EmbOk {S : Type} (own : List Nat) (emb : S → En) : Prop where
  fix : ∀ s s' i, i ∉ own → getN (emb s) i = getN (emb s') i
  len : ∀ s s', (emb s).length = (emb s').length
theorem emb1_ok {own : List Nat} {i : Nat} {ρ : En} (hi : i ∈ own) : EmbOk own (emb1 i ρ) := ⟨fun s s' j hj => by
  have : j ≠ i := fun z => hj (by rw [z]; exact hi)
  show getN (setN _ _ _) _ = getN (setN _ _ _) _
  rw [getN_setN_ne this, getN_setN_ne this], fun s s' => by
  show (setN _ _ _).length = (setN _ _ _).length
  rw [setN_length, setN_length]⟩
theorem emb2_ok {own : List Nat} {i k : Nat} {ρ : En} (hi : i ∈ own) (hk : k ∈ own) : EmbOk own (emb2 i k ρ) := ⟨fun s s' j hj => by
  have h1 : j ≠ i := fun z => hj (by rw [z]; exact hi)
  have h2 : j ≠ k := fun z => hj (by rw [z]; exact hk)
  show getN (setN (setN _ _ _) _ _) _ = getN (setN (setN _ _ _) _ _) _
  rw [getN_setN_ne h2, getN_setN_ne h2, getN_setN_ne h1, getN_setN_ne h1], fun s s' => by
  show (setN (setN _ _ _) _ _).length = (setN (setN _ _ _) _ _).length
  simp only [setN_length]⟩
structure SlotOf {S : Type} (emb : S → En) (i : Nat) (get : S → D) (put : S → D → S) : Prop where
  g : ∀ s, getN (emb s) i = some (get s)
  p : ∀ s d, emb (put s d) = setN (emb s) i (some d)
/-- it is a list -/
def lstD : D → R Unit
  | .list _ => .ok ()
  | _ => .no
/-- the last item goes -/
def popD : D → R (D × D)
  | .list ts => match ts[ts.length - 1]? with
    | some t => .ok (t, .list ts.dropLast)
    | none => .no
  | _ => .no
def popAtD : D → D → R (D × D)
  | .list ts, .int i => if -(2 ^ 63) ≤ i ∧ i < 2 ^ 63 then (match seqIndex? i ts.length with
      | some k => (match ts[k]? with
        | some t => .ok (t, .list (ts.eraseIdx k))
        | none => .no)
      | none => .no) else .no
  | _, _ => .no
def appD : D → D → R D
  | .list ts, t => if ts.length < sizeLine then .ok (.list (ts ++ [t])) else .no
  | _, _ => .no
def extD : D → D → R D
  | .list ts, .list us => if ts.length + us.length ≤ sizeLine then .ok (.list (ts ++ us)) else .no
  | .list ts, .tuple us => if ts.length + us.length ≤ sizeLine then .ok (.list (ts ++ us)) else .no
  | _, _ => .no
section
variable {K : PySem.W.Frag} {own : List Nat} {ρ : En} {ad : Nat → Addr} {σ : L2.St} {G H : Hp}
/-- an owned object is changed -/
theorem Er.write (er : Er K own ρ ad σ G H) {i : Nat} (hi : i ∈ own) {o : HO} {t : D} (hn : OwnAt K G (upd H (ad i) o) (ad i) t) : Er K own (setN ρ i (some t)) ad σ G (upd H (ad i) o) ∧ FrO own ad G H G (upd H (ad i) o) := by
  have gn := er.g_none hi
  refine ⟨⟨setN_length.trans er.len, fun b x e => ?_, fun j u e hj => ?_, fun j hj => ?_, er.inj⟩, Same.refl _, fun b x e hne => ?_, fun _ h _ => h⟩
  · rw [upd_ne (ne_of_none e gn)]
    exact er.gh _ _ e
  · have hji : j ≠ i := fun z => hj (by rw [z]; exact hi)
    rw [getN_setN_ne hji] at e
    exact er.fz j u e hj
  · by_cases hji : j = i
    · subst hji
      obtain ⟨u, e, q, _⟩ := er.ow j hj
      refine ⟨t, ?_, q, hn⟩
      have key : ∀ (l : En) (k : Nat), k < l.length → getN (setN l k (some t)) k = some t := by
        intro l
        induction l with
        | nil => intro k hk; exact absurd hk (Nat.not_lt_zero _)
        | cons x l ih =>
          intro k hk
          cases k with
          | zero => rfl
          | succ k => exact ih k (Nat.lt_of_succ_lt_succ hk)
      exact key ρ j (getN_lt e)
    · obtain ⟨u, e, q, o2⟩ := er.ow j hj
      refine ⟨u, by rw [getN_setN_ne hji]; exact e, q, o2.keep (Same.refl _) o2.1 (upd_ne fun z => hji (er.inj j hj i hi z))⟩
  · rw [upd_ne (hne i hi)]
    exact e
theorem Er.ownL (er : Er K own ρ ad σ G H) {i : Nat} (hi : i ∈ own) {ts : List D} (e : getN ρ i = some (.list ts)) : ∃ xs, σ[i]? = some (some (.ref (ad i))) ∧ H (ad i) = some (.lst xs) ∧ RepAll K G xs ts := by
  obtain ⟨t, e', q, _, ⟨xs, ts', rfl, eh, r⟩ | ⟨_, _, rfl, _⟩ | ⟨_, _, rfl, _⟩⟩ := er.ow i hi
  · rw [e] at e'
    cases e'
    exact ⟨xs, q, eh, r⟩
  · rw [e] at e'
    cases e'
  · rw [e] at e'
    cases e'
end
theorem RepAll.dropLast {K : PySem.W.Frag} {G : Hp} {vs : List V} {ds : List D} (h : RepAll K G vs ds) : RepAll K G vs.dropLast ds.dropLast := by
  rw [List.dropLast_eq_take, List.dropLast_eq_take, h.length]
  exact h.take _
theorem RepAll.eraseIdx {K : PySem.W.Frag} {G : Hp} : ∀ {vs : List V} {ds : List D} (k : Nat), RepAll K G vs ds → RepAll K G (vs.eraseIdx k) (ds.eraseIdx k)
  | _, _, _, .nil => .nil
  | _, _, 0, .cons _ t => t
  | _, _, k + 1, .cons r t => .cons r (RepAll.eraseIdx k t)
theorem own_at {K : PySem.W.Frag} {G H : Hp} {a : Addr} {xs : List V} {ts : List D} (g : G a = none) (r : RepAll K G xs ts) : OwnAt K G (upd H a (.lst xs)) a (.list ts) := ⟨g, .inl ⟨xs, ts, rfl, upd_same, r⟩⟩
section
variable {X : Cx} {own : List Nat} {S : Type} {emb : S → En} {i : Nat} {get : S → D} {put : S → D → S} {x : Str} {p apos pos : Pos} {a : Expr}
theorem jp_pop0 (i : Nat) (so : SlotOf emb i get put) (hi : i ∈ own := by decide) (hN : X.N[i]? = some x := by rfl) (hv : Vis X.env.scope x := by first | exact Or.inl rfl | exact Or.inr (Or.inl rfl) | exact Or.inr (Or.inr rfl)) (hd : (x == ("__debug__" : Str)) = false := by decide)
    (hcd : (x == ("__classdict__" : Str)) = false := by decide) (hbase : attributeBase (.Name x p) "pop" X.env (eval (.Name x p) X.env) = eval (.Name x p) X.env := by rfl) (hline : (apos.endLine == pos.line) = true := by rfl) : JP X own emb (.Call (.Attribute (.Name x p) "pop" apos) [] [] pos) (fun s => (popD (get s)).bind fun q => .ok (q.1, put s q.2)) :=
  pe_weak (pe_bm0 PySem.F.plainAttrs_list PySem.F.slot_list_pop PySem.F.type_list_pop mt_pop (pe_var hN hv hd hcd) hbase hline) fun σ H Q h => by
    obtain ⟨s, ad, G, er, t, s', e, q⟩ := h
    dsimp only at e
    cases eg : get s with
    | list ts =>
      have ei := so.g s
      rw [eg] at ei e
      obtain ⟨xs, es, eh, r⟩ := er.ownL hi ei
      simp only [popD] at e
      cases el : ts[ts.length - 1]? with
      | none => rw [el] at e; exact nomatch e
      | some u =>
        rw [el] at e
        cases e
        obtain ⟨v, ev, rv⟩ := r.get el
        rw [← r.length] at ev
        have on := own_at (H := H) (er.g_none hi) r.dropLast
        obtain ⟨er2, fr2⟩ := er.write hi on
        exact ⟨_, es, .inl ⟨rfl, _, SqL.of eh⟩, _, xs, v, rfl, rfl, eh, ev, q v G _ (by rw [so.p]; exact er2) fr2 rv⟩
    | none | bool _ | int _ | str _ | tuple _ | dict _ => rw [eg] at e; exact nomatch e
theorem jp_popAt (i : Nat) {ma : S → R (D × S)} (so : SlotOf emb i get put) (ha : JP X own emb a ma) (hi : i ∈ own := by decide) (hN : X.N[i]? = some x := by rfl) (hv : Vis X.env.scope x := by first | exact Or.inl rfl | exact Or.inr (Or.inl rfl) | exact Or.inr (Or.inr rfl)) (hd : (x == ("__debug__" : Str)) = false := by decide)
    (hcd : (x == ("__classdict__" : Str)) = false := by decide) (hbase : attributeBase (.Name x p) "pop" X.env (eval (.Name x p) X.env) = eval (.Name x p) X.env := by rfl)
    (hfew : ((backTo pos (starEach [a] X.env)).all (fun x => !x.1) && (backToKw pos (keywordEach [] X.env)).all (fun x => x.1.isSome) && decide ([a].length + ([] : List Keyword).length + (if ([] : List Keyword).isEmpty then 0 else 1) < 30)) = true := by rfl)
    (hline : (apos.endLine == pos.line) = true := by rfl) (hs : starEach [a] X.env = (false, eval a X.env) :: starEach [] X.env := by rfl) (hplain : (backTo pos (starEach [] X.env)).any (·.1) = false := by rfl) :
    JP X own emb (.Call (.Attribute (.Name x p) "pop" apos) [a] [] pos) (fun s => (lstD (get s)).bind fun _ => (ma s).bind fun r => (popAtD (get r.2) r.1).bind fun q => .ok (q.1, put r.2 q.2)) :=
  pe_weak (pe_bm PySem.F.plainAttrs_list PySem.F.slot_list_pop PySem.F.type_list_pop mt_popAt (pe_var hN hv hd hcd) (pa_cons ha pa_nil hs) hbase hfew hline hs hplain) fun σ H Q h => by
    obtain ⟨s, ad, G, er, q⟩ := h
    obtain ⟨t0, e0, es0, o0⟩ := er.ow i hi
    have ei0 := so.g s
    rw [e0] at ei0
    cases ei0
    have ty : tyV X.K "list" (.ref (ad i)) H := by
      obtain ⟨t, s', e, _⟩ := q
      dsimp only at e
      obtain ⟨_, ⟨xs, ts, eg, eh, _⟩ | ⟨_, _, eg, eh, _⟩ | ⟨_, _, eg, eh, _⟩⟩ := o0
      · exact .inl ⟨rfl, _, SqL.of eh⟩
      · rw [eg] at e
        exact nomatch e
      · rw [eg] at e
        exact nomatch e
    have q : PostJ Rep X.K own emb ad σ G H ((ma s).bind fun r => (popAtD (get r.2) r.1).bind fun q => .ok (q.1, put r.2 q.2)) Q := by
      obtain ⟨t, s', e, q⟩ := q
      dsimp only at e
      cases eg : get s with
      | list ts =>
        rw [eg] at e
        exact ⟨t, s', e, q⟩
      | none | bool _ | int _ | str _ | tuple _ | dict _ => rw [eg] at e; exact nomatch e
    refine ⟨_, es0, ty, s, ad, G, er, (PostJ.bind (Rp := Rep) q).mono fun w H1 ⟨G1, t1, s1, er1, r1, fr1, t, s', e, q1⟩ => ?_⟩
    cases eg : get s1 with
    | list ts =>
      have ei := so.g s1
      rw [eg] at ei
      simp only [eg] at e
      obtain ⟨xs, es, eh, r⟩ := er1.ownL hi ei
      cases r1 with
      | int j =>
        simp only [popAtD] at e
        split at e
        · rename_i hj
          cases ek : seqIndex? j ts.length with
          | none => simp only [ek] at e; exact nomatch e
          | some k =>
            simp only [ek] at e
            cases el : ts[k]? with
            | none => simp only [el] at e; exact nomatch e
            | some u =>
              simp only [el] at e
              cases e
              obtain ⟨v, ev, rv⟩ := r.get el
              have on := own_at (H := H1) (er1.g_none hi) (r.eraseIdx k)
              obtain ⟨er2, fr2⟩ := er1.write hi on
              exact ⟨_, xs, j, k, v, rfl, rfl, eh, hj.1, hj.2, by rw [r.length]; exact ek, ev, q1 v G1 _ (by rw [so.p]; exact er2) fr2 rv⟩
        · exact nomatch e
      | _ => exact nomatch e
    | none | bool _ | int _ | str _ | tuple _ | dict _ => simp only [eg, popAtD] at e; exact nomatch e
/-- f(box, ..): the box is an owned slot -/
theorem jp_box {es : List Expr} {k j np : Nat} {fr : Bool} {mk : CJ S} {mf : D → List D → R (D × D)} {f : Str} {pf : Pos} (i : Nat) (so : SlotOf emb i get put) (C : CalOk X.prog X.w X.K X.mg X.base j f (spB X.K np fr mf)) (hr : Room k X.A) (hjk : j ≤ k) (hx : Passes (L2.CX X.prog X.w) X E0)
    (ha : JAk X own emb es mk) (hi : i ∈ own := by decide) (hnp : es.length + 1 = np := by rfl) (hN : X.N[i]? = some x := by rfl) (hv : Vis X.env.scope x := by first | exact Or.inl rfl | exact Or.inr (Or.inl rfl) | exact Or.inr (Or.inr rfl)) (hg : Gl X f := by rfl) (hd : (x == ("__debug__" : Str)) = false := by decide) (hcd : (x == ("__classdict__" : Str)) = false := by decide)
    (hdb : (f == ("__debug__" : Str)) = false := by decide) (he : starEach (Expr.Name x p :: es) X.env = (false, eval (.Name x p) X.env) :: starEach es X.env := by rfl) (hpl : (backTo pos (starEach es X.env)).any (·.1) = false := by rfl) :
    JP X own emb (.Call (.Name f pf) (.Name x p :: es) [] pos) (fun s => mk (D × S) s fun ts s' => (mf (get s') ts).bind fun q => .ok (q.1, put s' q.2)) := by
  obtain ⟨fa, fd, ps, F, hm, hk, hb⟩ := C
  obtain ⟨m, e, hl, h⟩ := ha
  rw [show (fun s => mk (D × S) s fun ts s' => (mf (get s') ts).bind fun q => R.ok (q.1, put s' q.2)) = fun s => (m s).bind fun r => (mf (get r.2) r.1).bind fun q => .ok (q.1, put r.2 q.2) from funext fun s => e _ _ _]
  refine pe_weak (pe_call F (hr.mono hjk) hg hm hk hb .nil hx (pa_cons (pe_var hN hv hd hcd) h he) hdb he hpl) fun σ H Q hq => ?_
  obtain ⟨s, ad, G, er, q⟩ := hq
  obtain ⟨t0, e0, es0, o0⟩ := er.ow i hi
  refine ⟨_, es0, s, ad, G, er, ?_⟩
  obtain ⟨u, sf, e2, q⟩ := q
  dsimp only at e2
  cases em : m s with
  | no => rw [em] at e2; exact nomatch e2
  | ex c => rw [em] at e2; exact nomatch e2
  | ok r =>
    obtain ⟨ts, s1⟩ := r
    rw [em] at e2
    simp only [R.ok_bind] at e2
    refine ⟨ts, s1, rfl, fun vs G1 H1 er1 fr1 ra => ?_⟩
    cases ef : mf (get s1) ts with
    | no => rw [ef] at e2; exact nomatch e2
    | ex c => rw [ef] at e2; exact nomatch e2
    | ok r =>
      obtain ⟨t, b'⟩ := r
      rw [ef] at e2
      cases e2
      obtain ⟨t1, e1, es1, o1⟩ := er1.ow i hi
      rw [so.g] at e1
      cases e1
      rw [List.append_nil]
      refine ⟨by rw [List.length_cons, ra.length, hl s _ em]; exact hnp, G1, ad i, vs, get s1, ts, rfl, er1.gh, o1, ra, t, b', ef, fun v G2 H2 gg gh hh nw ob an => ?_⟩
      have fin : ∀ G3, Same G2 G3 → Same G3 H2 → (∀ c, G1 c = none → H1 c ≠ none → G3 c = none) → Rep X.K G3 v t → Q v H2 := fun G3 g23 g3h nw3 r3 => by
        have no3 : ∀ j ∈ own, G3 (ad j) = none := fun j hj => nw3 _ (er1.g_none hj) (by
          obtain ⟨_, _, _, o⟩ := er1.ow j hj
          exact o.ne)
        have erF : Er X.K own (emb (put s1 b')) ad σ G3 H2 := by
          rw [so.p]
          refine ⟨setN_length.trans er1.len, g3h, fun j w ej hj => ?_, fun j hj => ?_, er1.inj⟩
          · have hji : j ≠ i := fun z => hj (by rw [z]; exact hi)
            rw [getN_setN_ne hji] at ej
            obtain ⟨v', q', r'⟩ := er1.fz j w ej hj
            exact ⟨v', q', (r'.mono gg).mono g23⟩
          · by_cases hji : j = i
            · subst hji
              refine ⟨b', ?_, es1, ob.keep g23 (no3 j hj) rfl⟩
              have := so.g (put s1 b')
              rw [so.p] at this
              have key : ∀ (l : En) (k : Nat) (w : D), k < l.length → getN (setN l k (some w)) k = some w := by
                intro l
                induction l with
                | nil => intro k w hk; exact absurd hk (Nat.not_lt_zero _)
                | cons x l ih =>
                  intro k w hk
                  cases k with
                  | zero => rfl
                  | succ k => exact ih k w (Nat.lt_of_succ_lt_succ hk)
              exact key _ _ _ (getN_lt (so.g s1))
            · obtain ⟨w, ej, qj, oj⟩ := er1.ow j hj
              refine ⟨w, by rw [getN_setN_ne hji]; exact ej, qj, oj.keep (gg.trans g23) (no3 j hj) ?_⟩
              obtain ⟨z, ez, _⟩ := oj.some_of
              rw [ez, hh _ _ ez fun y => hji (er1.inj j hj i hi y)]
        refine q v G3 H2 erF (fr1.trans (K := X.K) (ρ := emb (put s1 b')) (σ := σ) ⟨gg.trans g23, fun b o eb hne => hh b o eb (hne i hi), nw3⟩ erF) r3
      cases fr with
      | false => exact fin G2 (Same.refl _) gh nw an
      | true =>
        obtain ⟨pp, rfl, np, o⟩ := an
        obtain ⟨w, ew, _⟩ := o.some_of
        have gn := o.1
        refine fin (upd G2 pp w) (same_new gn) (fun b z ez => ?_) (fun b h1 h2 => ?_) (o.rep (same_new gn) (by rw [upd_same, ew]))
        · by_cases hb : b = pp
          · subst hb
            rw [upd_same] at ez
            rw [ew, ez]
          · rw [upd_ne hb] at ez
            exact gh _ _ ez
        · have : b ≠ pp := fun z => h2 (by rw [z]; exact np)
          rw [upd_ne this]
          exact nw b h1 h2
end
section
variable {X : Cx} {own : List Nat} {S : Type} {emb : S → En} {α : Type} {tg iter elt : Expr} {scope : Scope} {ow : List (Str × Nat)} {sl : List Nat} {u : D → R α} {put : α → En → En} {wi : S → R (List D × S)} {me : α → S → R (D × S)} {cond : α → S → R (Bool × S)} {c : Expr} {pos : Pos}
def anyJ (K : PySem.W.Frag) (own : List Nat) (f : α → S → En) (m : α → S → R (D × S)) : TE := fun σ H Q => ∃ a, rdJ K own (f a) (m a) σ H Q
def anyJB (K : PySem.W.Frag) (own : List Nat) (f : α → S → En) (m : α → S → R (Bool × S)) : TT := fun σ H Q => ∃ a, rdJB K own (f a) (m a) σ H Q
theorem jlcx_lcf (hN : X.N.Nodup) (eo : EmbOk own emb) (hi : JI X own emb tg iter wi) (hg : ∀ (s : Shared) (H : Hp) (C : Addr) (cl : List (Str × Addr)) (fp : List Addr), XG (X.blk s H scope (compEnvC scope cl C X.env) fp) tg sl u put)
    (ht : ∀ (s : Shared) (H : Hp) (C : Addr) (cl : List (Str × Addr)) (fp : List Addr) (x : α), JB (X.blk s H scope (compEnvC scope cl C X.env) fp) own (fun s => put x (wipeE (emb s) (ow.map (·.2)))) c (cond x))
    (he : ∀ (s : Shared) (H : Hp) (C : Addr) (cl : List (Str × Addr)) (fp : List Addr) (x : α), JP (X.blk s H scope (compEnvC scope cl C X.env) fp) own (fun s => put x (wipeE (emb s) (ow.map (·.2)))) elt (me x))
    (ok : BlkOk X.N X.env.scope scope ow) (hsub : ∀ i ∈ sl, i ∈ ow.map (·.2) := by decide) (hdis : ∀ i ∈ ow.map (·.2), i ∉ own := by decide) (hc : X.calm = true := by rfl) (hs : ∀ x, foldedSetIterable iter X.env x = pure x := by intro _; rfl) :
    LCx X elt tg iter [c] scope (rdJF X.K own emb (fun s => (wi s).bind fun p => (filJ (fun d s => (u d).bind fun a => cond a s) (fun d s => (u d).bind fun a => me a s) p.1 p.2).bind fun r => .ok (.list r.1, r.2))) := by
  refine lcx_of (own := ow) (g := rdG X.K sl u put) hc hN hi ok hg (fun s H C cl fp => pts_one (t := anyJB X.K own (fun x s => put x (wipeE (emb s) (ow.map (·.2)))) cond) ⟨fun pins s' σ H' Q I ⟨x, q⟩ => (ht s H C cl fp x).run pins s' σ H' Q I q⟩)
    (fun s H C cl fp => (⟨fun pins s' σ H' Q I ⟨x, q⟩ => (he s H C cl fp x).run pins s' σ H' Q I q⟩ : PE _ elt (anyJ X.K own (fun x s => put x (wipeE (emb s) (ow.map (·.2)))) me))) hs fun σ H Q hq => ?_
  exact lcj_read (me := me) (cond := cond) hsub hdis eo.fix eo.len (fun x b s s' ad σ2 H2 G2 Qb ec er2 k => ⟨x, s, ad, G2, er2, b, s', ec, fun v G3 H3 er3 fr r => by cases r; exact k G3 H3 er3 fr⟩)
    (fun x t s s' ad σ2 H2 G2 Qe em er2 k => ⟨x, s, ad, G2, er2, t, s', em, fun v G3 H3 er3 fr r => k v G3 H3 er3 fr r⟩) hq
theorem jlcx_lc (hN : X.N.Nodup) (eo : EmbOk own emb) (hi : JI X own emb tg iter wi) (hg : ∀ (s : Shared) (H : Hp) (C : Addr) (cl : List (Str × Addr)) (fp : List Addr), XG (X.blk s H scope (compEnvC scope cl C X.env) fp) tg sl u put)
    (he : ∀ (s : Shared) (H : Hp) (C : Addr) (cl : List (Str × Addr)) (fp : List Addr) (x : α), JP (X.blk s H scope (compEnvC scope cl C X.env) fp) own (fun s => put x (wipeE (emb s) (ow.map (·.2)))) elt (me x))
    (ok : BlkOk X.N X.env.scope scope ow) (hsub : ∀ i ∈ sl, i ∈ ow.map (·.2) := by decide) (hdis : ∀ i ∈ ow.map (·.2), i ∉ own := by decide) (hc : X.calm = true := by rfl) (hs : ∀ x, foldedSetIterable iter X.env x = pure x := by intro _; rfl) :
    LCx X elt tg iter [] scope (rdJF X.K own emb (fun s => (wi s).bind fun p => (mapJ (fun d s => (u d).bind fun a => me a s) p.1 p.2).bind fun r => .ok (.list r.1, r.2))) := by
  refine lcx_of (own := ow) (g := rdG X.K sl u put) hc hN hi ok hg (fun s H C cl fp => pts_nil)
    (fun s H C cl fp => (⟨fun pins s' σ H' Q I ⟨x, q⟩ => (he s H C cl fp x).run pins s' σ H' Q I q⟩ : PE _ elt (anyJ X.K own (fun x s => put x (wipeE (emb s) (ow.map (·.2)))) me))) hs fun σ H Q hq => ?_
  refine lcj_read (me := me) (cond := fun _ s => .ok (true, s)) hsub hdis eo.fix eo.len (fun x b s s' ad σ2 H2 G2 Qb ec er2 k => ?_)
    (fun x t s s' ad σ2 H2 G2 Qe em er2 k => ⟨x, s, ad, G2, er2, t, s', em, fun v G3 H3 er3 fr r => k v G3 H3 er3 fr r⟩) ?_
  · cases ec
    exact k G2 H2 er2 FrO.refl
  · have e : (fun s => (wi s).bind fun p => (mapJ (fun d s => (u d).bind fun a => me a s) p.1 p.2).bind fun r => R.ok (PyData.list r.1, r.2)) = fun s => (wi s).bind fun p => (filJ (fun d s => (u d).bind fun _ => .ok (true, s)) (fun d s => (u d).bind fun a => me a s) p.1 p.2).bind fun r => .ok (PyData.list r.1, r.2) := by
      funext s
      congr 1
      funext p
      rw [mapJ_fil]
    rw [e] at hq
    exact hq
theorem jf_lc {ifs : List Expr} {m : S → R (D × S)} (h : LCx X elt tg iter ifs scope (rdJF X.K own emb m)) : JF X own emb (.ListComp elt [⟨tg, iter, ifs, 0⟩] scope pos) m := h.pe pos
end
end TL
/-! the tree layer, 10: statements -/
namespace TL
open PySem PySem.Spec PyProof.Rows L2
/-! ### an expression as a statement meets it: the answer and the state behind -/
section
variable (K : PySem.W.Frag) (mg : Str → Option Value) (E : XK) (own : List Nat) (ρ : En)
def rdV {A : Type} (m : R A) (val : A → D) (env : A → En) : TE := fun σ H Q => ∃ ad G, Er K own ρ ad σ G H ∧ match m with
  | .no => False
  | .ex c => ∀ H', Same H H' → E (cls mg c) none H'
  | .ok a => ∀ v G' H', Er K own (env a) ad σ G' H' → FrO own ad G H G' H' → Rep K G' v (val a) → Q v H'
def rdVF {A : Type} (m : R A) (val : A → D) (env : A → En) : TE := fun σ H Q => ∃ ad G, Er K own ρ ad σ G H ∧ match m with
  | .no => False
  | .ex c => ∀ H', Same H H' → E (cls mg c) none H'
  | .ok a => ∀ p G' H', Er K own (env a) ad σ G' H' → FrO own ad G H G' H' → H p = none → OwnAt K G' H' p (val a) → Q (.ref p) H'
def rdVB {A : Type} (m : R A) (val : A → Bool) (env : A → En) : TT := fun σ H Q => ∃ ad G, Er K own ρ ad σ G H ∧ match m with
  | .no => False
  | .ex c => ∀ H', Same H H' → E (cls mg c) none H'
  | .ok a => ∀ G' H', Er K own (env a) ad σ G' H' → FrO own ad G H G' H' → Q (val a) H'
def rdVI {A : Type} (m : R A) (its : A → List D) (env : A → En) : TI := fun σ H Rr => ∃ ad G, Er K own ρ ad σ G H ∧ match m with
  | .no => False
  | .ex c => ∀ H', Same H H' → E (cls mg c) none H'
  | .ok a => ∀ J G' H', Er K own (env a) ad σ G' H' → FrO own ad G H G' H' → ItOk K J G' (its a) → Rr J H'
end
abbrev VP (X : Cx) (E : XK) (own : List Nat) (ρ : En) {A : Type} (e : Expr) (m : R A) (val : A → D) (env : A → En) : Prop := PE X e (rdV X.K X.mg E own ρ m val env)
abbrev VF (X : Cx) (E : XK) (own : List Nat) (ρ : En) {A : Type} (e : Expr) (m : R A) (val : A → D) (env : A → En) : Prop := PE X e (rdVF X.K X.mg E own ρ m val env)
abbrev VB (X : Cx) (E : XK) (own : List Nat) (ρ : En) {A : Type} (e : Expr) (m : R A) (val : A → Bool) (env : A → En) : Prop := PT X e (rdVB X.K X.mg E own ρ m val env)
abbrev VI (X : Cx) (E : XK) (own : List Nat) (ρ : En) {A : Type} (tg e : Expr) (m : R A) (its : A → List D) (env : A → En) : Prop := PI X tg e (rdVI X.K X.mg E own ρ m its env)
/-- the items of a new list are no lists -/
def itemsFlat : D → Bool
  | .list ts => noLAll ts
  | _ => false
section
variable {X : Cx} {E : XK} {own : List Nat} {ρ ρe : En} {e : Expr}
theorem vp_rd {K : PySem.W.Frag} {mg : Str → Option Value} {m : R D} (hb : Bor own ρ ρe m) : ∀ σ H Q, rdV K mg E own ρ m (fun t => t) (fun _ => ρ) σ H Q → rdP K mg E ρe m σ H Q := fun σ H Q hq => by
  obtain ⟨ad, G, er, q⟩ := hq
  refine er.bor (m := m) (Rp := Rep) ?_ ?_ ?_ ?_
  · rcases hb with z | ⟨z1, z2⟩
    · exact .inl z
    · exact .inr ⟨z1, fun t e' G1 p _ v np r => Rep.cut np r (z2 t e')⟩
  · intro z
    rw [z] at q
    exact q
  · intro c z
    rw [z] at q
    exact q
  · intro t v G' H' z er' fr r
    rw [z] at q
    exact q v G' H' er' fr.toO r
theorem vp_p {m : R D} (h : XP X E ρe e m) (hb : Bor own ρ ρe m := by exact bor_nil) : VP X E own ρ e m (fun t => t) (fun _ => ρ) := pe_weak h (vp_rd hb)
theorem er_pure {own : List Nat} {K : PySem.W.Frag} {ρ : En} {ad : Nat → Addr} {σ : L2.St} {G H G' H' : Hp} (er : Er K own ρ ad σ G H) (fr : Fr G H G' H') : Er K own ρ ad σ G' H' := er.after fr.gg fr.gh fr.hh fun i hi => by
  obtain ⟨_, _, _, o⟩ := er.ow i hi
  exact fr.nw _ o.1 o.ne
theorem vpj_rd {K : PySem.W.Frag} {mg : Str → Option Value} {S : Type} {emb : S → En} {m : S → R (D × S)} (s : S) : ∀ σ H Q, rdV K mg E own (emb s) (nox (m s)) (fun p => p.1) (fun p => emb p.2) σ H Q → rdJ K own emb m σ H Q := fun σ H Q hq => by
  obtain ⟨ad, G, er, q⟩ := hq
  cases em : m s with
  | no => rw [em] at q; exact q.elim
  | ex c => rw [em] at q; exact q.elim
  | ok p =>
    rw [em] at q
    exact ⟨s, ad, G, er, p.1, p.2, em, q⟩
theorem vp_j {S : Type} {emb : S → En} {m : S → R (D × S)} (s : S) (h : JP X own emb e m) : VP X E own (emb s) e (nox (m s)) (fun p => p.1) (fun p => emb p.2) := pe_weak h (vpj_rd s)
/-- a new list: seen with the owned slots only if it holds no list -/
def BorF (own : List Nat) (ρ ρe : En) (m : R D) : Prop := ρe = hideE own ρ ∨ (ρe = ρ ∧ ∀ t, m = .ok t → itemsFlat t = true)
theorem borF_hide {m : R D} : BorF own ρ (hideE own ρ) m := .inl rfl
theorem borF_nil {m : R D} : BorF [] ρ ρ m := .inl rfl
/-- a new list without lists within -/
def nf (m : R D) : R D := m.bind fun t => if itemsFlat t = true then .ok t else .no
theorem nf_nf {m : R D} : ∀ t, nf m = .ok t → itemsFlat t = true := fun t h => by
  cases m with
  | no => exact nomatch h
  | ex c => exact nomatch h
  | ok a =>
    simp only [nf, R.ok_bind] at h
    split at h
    · rename_i e
      cases h
      exact e
    · exact nomatch h
theorem xp_nl {m : R D} (h : XP X E ρ e m) : XP X E ρ e (nl m) := pe_weak h fun σ H Q ⟨G, s, ep, q⟩ => ⟨G, s, ep, by
  cases m with
  | no => exact q
  | ex c => exact q
  | ok t =>
    simp only [nl, R.ok_bind] at q
    split at q
    · exact q
    · exact q.elim⟩
theorem xf_nf {m : R D} (h : XF X E ρ e m) : XF X E ρ e (nf m) := pe_weak h fun σ H Q ⟨G, s, ep, q⟩ => ⟨G, s, ep, by
  cases m with
  | no => exact q
  | ex c => exact q
  | ok t =>
    simp only [nf, R.ok_bind] at q
    split at q
    · exact q
    · exact q.elim⟩
theorem vf_rd {K : PySem.W.Frag} {mg : Str → Option Value} {m : R D} (hb : BorF own ρ ρe m) : ∀ σ H Q, rdVF K mg E own ρ m (fun t => t) (fun _ => ρ) σ H Q → rdF K mg E ρe m σ H Q := fun σ H Q hq => by
  obtain ⟨ad, G, er, q⟩ := hq
  rcases hb with rfl | ⟨rfl, hfl⟩
  · refine ⟨G, er.gh, er.ep_hide, ?_⟩
    cases m with
    | no => exact q
    | ex c => exact q
    | ok t => exact fun p G' H' fr np o => q p G' H' (er_pure er fr) fr.toO np o
  · refine ⟨allG own ad G H, er.all_same, er.ep_all, ?_⟩
    cases m with
    | no => exact q
    | ex c => exact q
    | ok t =>
      intro a G' H' fr np o
      let p : Addr → Prop := fun b => ∃ i ∈ own, b = ad i
      haveI : DecidablePred p := fun b => Classical.propDecidable _
      have np' : ∀ b, p b → NotTup (G' b) := fun b ⟨i, hi, e⟩ => by
        subst e
        obtain ⟨_, _, _, o⟩ := er.ow i hi
        obtain ⟨u, eu, nt⟩ := o.some_of
        rw [fr.gg _ _ ((allG_in hi).trans eu)]
        exact nt
      have g1 : Same G (cutH G' p) := fun b o e => cutH_of (fr.gg _ _ (er.same_all _ _ e)) fun ⟨i, hi, z⟩ => by
        subst z
        rw [er.g_none hi] at e
        cases e
      have no : ∀ i ∈ own, cutH G' p (ad i) = none := fun i hi => cutH_none ⟨i, hi, rfl⟩
      have er' := er.after g1 ((cutH_same G' p).trans fr.gh) fr.hh no
      have o' : OwnAt K G' H' a t → OwnAt K (cutH G' p) H' a t := fun _ => by
        obtain ⟨gn, ⟨xs, ts, rfl, eh, r⟩ | ⟨kvs, es, rfl, _⟩ | ⟨kvs, es, rfl, _⟩⟩ := o
        · exact ⟨cutH_free gn, .inl ⟨xs, ts, rfl, eh, RepAll.cut np' r (hfl _ rfl)⟩⟩
        · exact nomatch hfl _ rfl
        · exact nomatch hfl _ rfl
      refine q a (cutH G' p) H' er' ⟨g1, fun b o e _ => fr.hh b o e, fun b h1 h2 => ?_⟩ np (o' o)
      by_cases hp : p b
      · exact cutH_none hp
      · exact cutH_free (fr.nw b (by rw [allG_out hp]; exact h1) h2)
theorem vf_p {m : R D} (h : XF X E ρe e m) (hb : BorF own ρ ρe m := by exact borF_nil) : VF X E own ρ e m (fun t => t) (fun _ => ρ) := pe_weak h (vf_rd hb)
theorem vfj_rd {K : PySem.W.Frag} {mg : Str → Option Value} {S : Type} {emb : S → En} {m : S → R (D × S)} (s : S) : ∀ σ H Q, rdVF K mg E own (emb s) (nox (m s)) (fun p => p.1) (fun p => emb p.2) σ H Q → rdJF K own emb m σ H Q := fun σ H Q hq => by
  obtain ⟨ad, G, er, q⟩ := hq
  cases em : m s with
  | no => rw [em] at q; exact q.elim
  | ex c => rw [em] at q; exact q.elim
  | ok p =>
    rw [em] at q
    exact ⟨s, ad, G, er, p.1, p.2, em, q⟩
theorem vf_j {S : Type} {emb : S → En} {m : S → R (D × S)} (s : S) (h : JF X own emb e m) : VF X E own (emb s) e (nox (m s)) (fun p => p.1) (fun p => emb p.2) := pe_weak h (vfj_rd s)
theorem vb_p {m : R Bool} (h : XB X E ρe e m) (hb : ρe = hideE own ρ ∨ ρe = ρ := by first | exact .inr rfl | exact .inl rfl) : VB X E own ρ e m (fun b => b) (fun _ => ρ) := ⟨fun pins st σ H Q I hq => by
  obtain ⟨ad, G, er, q⟩ := hq
  obtain ⟨G1, h1, h2, h3⟩ := er.bor (m := m) (Rp := fun _ _ (v : V) (b : Bool) => v = .bl b) (mg := X.mg) (E := E) (Q := fun v H' => ∀ b, v = .bl b → Q b H') (ρe := ρe) (hb.imp id fun z => ⟨z, fun _ _ _ _ _ _ _ r => r⟩)
    (fun z => by rw [z] at q; exact q) (fun c z => by rw [z] at q; exact q) (fun t v G' H' e' er' fr r b hv => by
      rw [e'] at q
      subst r
      cases hv
      exact q G' H' er' fr.toO)
  refine h.run pins st σ H Q I ⟨G1, h1, h2, ?_⟩
  cases m with
  | no => exact q
  | ex c => exact h3
  | ok t =>
    intro v G' H' fr r
    have r' : v = t := r
    subst r'
    exact h3 (.bl v) G' H' fr rfl v rfl⟩
theorem vb_j {S : Type} {emb : S → En} {m : S → R (Bool × S)} (s : S) (h : JB X own emb e m) : VB X E own (emb s) e (nox (m s)) (fun p => p.1) (fun p => emb p.2) := pt_weak h fun σ H Q hq => by
  obtain ⟨ad, G, er, q⟩ := hq
  cases em : m s with
  | no => rw [em] at q; exact q.elim
  | ex c => rw [em] at q; exact q.elim
  | ok p =>
    rw [em] at q
    exact ⟨s, ad, G, er, p.1, p.2, em, fun v G' H' er' fr r => by cases r; exact q G' H' er' fr⟩
theorem vi_p {tg : Expr} {m : R (List D)} (h : XI X E (hideE own ρ) tg e m) : VI X E own ρ tg e m (fun t => t) (fun _ => ρ) := ⟨fun pins st σ H Rr I hq => by
  obtain ⟨ad, G, er, q⟩ := hq
  refine h.run pins st σ H Rr I ⟨G, er.gh, er.ep_hide, ?_⟩
  cases m with
  | no => exact q
  | ex c => exact q
  | ok its => exact fun J G' H' fr hz io => q J G' H' (er_pure er fr) fr.toO io⟩
theorem vi_j {S : Type} {emb : S → En} {tg : Expr} {m : S → R (List D × S)} (s : S) (h : JI X own emb tg e m) : VI X E own (emb s) tg e (nox (m s)) (fun p => p.1) (fun p => emb p.2) := ⟨fun pins st σ H Rr I hq => by
  obtain ⟨ad, G, er, q⟩ := hq
  cases em : m s with
  | no => rw [em] at q; exact q.elim
  | ex c => rw [em] at q; exact q.elim
  | ok p =>
    rw [em] at q
    exact h.run pins st σ H Rr I ⟨s, ad, G, er, p.1, p.2, em, fun J G' H' er' fr hz io => q J G' H' er' fr io⟩⟩
end
/-! ### blocks -/
/-- how a block ends -/
inductive Fin where
  | nx (ρ : En)
  | rt (t b : D)
  | bk (ρ : En)
/-- since the def's entry -/
structure Fr0 (io : Bool) (G0 H0 : Hp) (A0 : Addr) (own : List Nat) (ad : Nat → Addr) (G H : Hp) : Prop where
  g0 : Same G0 G
  h0 : ∀ b o, H0 b = some o → (io = true → b ≠ A0) → H b = some o
  nw : ∀ b, G0 b = none → H0 b ≠ none → G b = none
  fs : ∀ i ∈ own, H0 (ad i) = none ∨ (io = true ∧ ad i = A0)
  bx : io = true → 0 ∈ own ∧ ad 0 = A0
structure RetOk (K : PySem.W.Frag) (io fr : Bool) (G0 H0 : Hp) (A0 : Addr) (v : V) (G H : Hp) (t b : D) : Prop where
  gh : Same G H
  g0 : Same G0 G
  h0 : ∀ b o, H0 b = some o → (io = true → b ≠ A0) → H b = some o
  nw : ∀ b, G0 b = none → H0 b ≠ none → G b = none
  an : Ans K fr H0 G H v t
  bx : io = true → OwnAt K G H A0 b
def Post (K : PySem.W.Frag) (io fr : Bool) (G0 H0 : Hp) (A0 : Addr) (own' : List Nat) (Dn : Ends) : Fin → Prop
  | .nx ρ' => ∀ ad σ G H, Er K own' ρ' ad σ G H → Fr0 io G0 H0 A0 own' ad G H → Dn.nx σ H
  | .bk ρ' => ∀ ad σ G H, Er K own' ρ' ad σ G H → Fr0 io G0 H0 A0 own' ad G H → Dn.bk σ H
  | .rt t b => ∀ v G H, RetOk K io fr G0 H0 A0 v G H t b → Dn.rt v H
def PostR (K : PySem.W.Frag) (mg : Str → Option Value) (E : XK) (io fr : Bool) (G0 H0 : Hp) (A0 : Addr) (own' : List Nat) {A : Type} (m : R A) (post : A → Fin) (Dn : Ends) : Prop :=
  match m with
  | .no => False
  | .ex c => ∀ H', (∀ b o, H0 b = some o → (io = true → b ≠ A0) → H' b = some o) → E (cls mg c) none H'
  | .ok a => Post K io fr G0 H0 A0 own' Dn (post a)
def rdS (K : PySem.W.Frag) (mg : Str → Option Value) (E : XK) (io fr : Bool) (own : List Nat) (ρ : En) {A : Type} (m : R A) (post : A → Fin) (own' : List Nat) : TS := fun Dn σ H =>
  ∃ G0 H0 A0 ad G, Er K own ρ ad σ G H ∧ Fr0 io G0 H0 A0 own ad G H ∧ PostR K mg E io fr G0 H0 A0 own' m post Dn
abbrev SS (X : Cx) (E : XK) (io fr : Bool) (own : List Nat) (ρ : En) {A : Type} (st : Stmt) (m : R A) (post : A → Fin) (own' : List Nat) : Prop := PS X st (rdS X.K X.mg E io fr own ρ m post own')
abbrev BS (X : Cx) (E : XK) (io fr : Bool) (own : List Nat) (ρ : En) {A : Type} (sts : List Stmt) (m : R A) (post : A → Fin) (own' : List Nat) : Prop := PSs X sts (rdS X.K X.mg E io fr own ρ m post own')
theorem ps_weak {X : Cx} {st : Stmt} {t t' : TS} (h : PS X st t) (f : ∀ Dn σ H, t' Dn σ H → t Dn σ H) : PS X st t' := ⟨fun pins s σ H Dn I q => h.run pins s σ H Dn I (f _ _ _ q)⟩
theorem pss_weak {X : Cx} {st : List Stmt} {t t' : TS} (h : PSs X st t) (f : ∀ Dn σ H, t' Dn σ H → t Dn σ H) : PSs X st t' := ⟨fun pins s σ H Dn I q => h.run pins s σ H Dn I (f _ _ _ q)⟩
theorem Fr0.step {K : PySem.W.Frag} {io : Bool} {G0 H0 : Hp} {A0 : Addr} {own : List Nat} {ρ : En} {σ : L2.St} {ad : Nat → Addr} {G H G' H' : Hp} (f : Fr0 io G0 H0 A0 own ad G H) (fr : FrO own ad G H G' H') (er' : Er K own ρ ad σ G' H') (hb : ∀ b, H b = none → H0 b = none) : Fr0 io G0 H0 A0 own ad G' H' where
  g0 := f.g0.trans fr.gg
  h0 := fun b o e hne => fr.hh b o (f.h0 b o e hne) fun i hi z => by
    rcases f.fs i hi with y | ⟨y1, y2⟩
    · rw [z, y] at e
      cases e
    · exact hne y1 (z.trans y2)
  nw := fun b h1 h2 => by
    by_cases hc : ∃ i ∈ own, b = ad i
    · obtain ⟨i, hi, rfl⟩ := hc
      exact er'.g_none hi
    · refine fr.nw b (f.nw b h1 h2) fun z => h2 (hb b z)
  fs := f.fs
  bx := f.bx
theorem Fr0.back {K : PySem.W.Frag} {io : Bool} {G0 H0 : Hp} {A0 : Addr} {own : List Nat} {ρ : En} {σ : L2.St} {ad : Nat → Addr} {G H : Hp} (f : Fr0 io G0 H0 A0 own ad G H) (er : Er K own ρ ad σ G H) : ∀ b, H b = none → H0 b = none := fun b hb => by
  cases e : H0 b with
  | none => rfl
  | some o =>
    by_cases hc : io = true ∧ b = A0
    · obtain ⟨h1, h2⟩ := f.bx hc.1
      obtain ⟨_, _, _, ob⟩ := er.ow 0 h1
      exact absurd (by rw [h2, ← hc.2]; exact hb) ob.ne
    · rw [f.h0 b o e fun z y => hc ⟨z, y⟩] at hb
      cases hb
theorem Fr0.next {K : PySem.W.Frag} {io : Bool} {G0 H0 : Hp} {A0 : Addr} {own : List Nat} {ρ ρ' : En} {σ σ' : L2.St} {ad : Nat → Addr} {G H G' H' : Hp} (f : Fr0 io G0 H0 A0 own ad G H) (er : Er K own ρ ad σ G H) (fr : FrO own ad G H G' H') (er' : Er K own ρ' ad σ' G' H') : Fr0 io G0 H0 A0 own ad G' H' :=
  f.step fr er' (f.back er)
section
variable {X : Cx} {E : XK} {io fr : Bool} {own own' own1 : List Nat} {ρ ρ' : En} {A B : Type} {st : Stmt} {rest : List Stmt} {post : A → Fin} {post1 : B → Fin} {e : Expr} {pos : Pos}
/-- a statement, then the rest -/
theorem bs_seq {J : Type} {emb : J → En} {m1 : R J} {k : J → R A} (h1 : SS X E io fr own ρ st m1 (fun j => .nx (emb j)) own1) (h2 : ∀ j, BS X E io fr own1 (emb j) rest (k j) post own') : BS X E io fr own ρ (st :: rest) (m1.bind k) post own' := by
  refine ⟨fun pins s σ H Dn I hq => ?_⟩
  obtain ⟨G0, H0, A0, ad, G, er, f, q⟩ := hq
  cases em : m1 with
  | no => rw [em] at q; exact q.elim
  | ex c => exact (pss_cons h1 (pss_never (sts := rest))).run pins s σ H Dn I ⟨G0, H0, A0, ad, G, er, f, by rw [em] at q ⊢; exact q⟩
  | ok j =>
    rw [em] at q
    exact (pss_cons h1 (h2 j)).run pins s σ H Dn I ⟨G0, H0, A0, ad, G, er, f, by
      rw [em]
      exact fun ad' σ' G' H' er' f' => ⟨G0, H0, A0, ad', G', er', f', q⟩⟩
/-- a loop or an if may have returned -/
inductive Oc (J : Type) where
  | nx (j : J)
  | rt (t b : D)
  | bk (j : J)
def thenO {J : Type} (m : R (Oc J)) (ret : D → D → A) (k : J → R A) : R A := m.bind fun o => match o with
  | .nx j => k j
  | .rt t b => .ok (ret t b)
  | .bk _ => .no
theorem bs_seqO {J : Type} {emb : J → En} {m1 : R (Oc J)} {ret : D → D → A} {k : J → R A} (h1 : SS X E io fr own ρ st m1 (fun o => match o with
  | .nx j => .nx (emb j)
  | .rt t b => .rt t b
  | .bk j => .bk (emb j)) own1) (h2 : ∀ j, BS X E io fr own1 (emb j) rest (k j) post own') (hr : ∀ t b, post (ret t b) = .rt t b := by intro _ _; rfl) : BS X E io fr own ρ (st :: rest) (thenO m1 ret k) post own' := by
  refine ⟨fun pins s σ H Dn I hq => ?_⟩
  obtain ⟨G0, H0, A0, ad, G, er, f, q⟩ := hq
  cases em : m1 with
  | no => rw [em] at q; exact q.elim
  | ex c => exact (pss_cons h1 (pss_never (sts := rest))).run pins s σ H Dn I ⟨G0, H0, A0, ad, G, er, f, by rw [em] at q ⊢; exact q⟩
  | ok o =>
    cases o with
    | nx j =>
      rw [em] at q
      exact (pss_cons h1 (h2 j)).run pins s σ H Dn I ⟨G0, H0, A0, ad, G, er, f, by
        rw [em]
        exact fun ad' σ' G' H' er' f' => ⟨G0, H0, A0, ad', G', er', f', q⟩⟩
    | rt t b =>
      rw [em] at q
      have q' : Post X.K io fr G0 H0 A0 own' Dn (post (ret t b)) := q
      rw [hr] at q'
      exact (pss_cons h1 (pss_never (sts := rest))).run pins s σ H Dn I ⟨G0, H0, A0, ad, G, er, f, by rw [em]; exact q'⟩
    | bk j => rw [em] at q; exact q.elim
/-- the block's end: these slots are forgotten -/
theorem Er.lessO {K : PySem.W.Frag} {ad : Nat → Addr} {σ : L2.St} {G H : Hp} (er : Er K own ρ ad σ G H) (dead : List Nat) : Er K (own.filter fun i => !dead.contains i) (wipeE ρ dead) ad σ G H where
  len := wipeE_length.trans er.len
  gh := er.gh
  fz := fun i t e hi => by
    obtain ⟨e1, h2⟩ := getN_wipe e
    refine er.fz i t e1 fun z => hi (List.mem_filter.mpr ⟨z, ?_⟩)
    simpa using h2
  ow := fun i hi => by
    obtain ⟨h1, h2⟩ := List.mem_filter.mp hi
    obtain ⟨t, e, q, o⟩ := er.ow i h1
    refine ⟨t, ?_, q, o⟩
    have nd : i ∉ dead := by simpa using h2
    have key : ∀ (l : List Nat), i ∉ l → getN (wipeE ρ l) i = getN ρ i := by
      intro l
      induction l with
      | nil => intro _; rfl
      | cons v l ih =>
        intro hj
        show getN (setN (wipeE ρ l) v none) i = _
        rw [getN_setN_ne (fun z : i = v => hj (by rw [z]; exact List.mem_cons_self))]
        exact ih fun hm => hj (List.mem_cons_of_mem _ hm)
    rw [key dead nd]
    exact e
  inj := fun i hi j hj => er.inj i (List.mem_filter.mp hi).1 j (List.mem_filter.mp hj).1
theorem Fr0.lessO {G0 H0 : Hp} {A0 : Addr} {ad : Nat → Addr} {G H : Hp} (f : Fr0 io G0 H0 A0 own ad G H) (dead : List Nat) (h0 : io = true → 0 ∉ dead) : Fr0 io G0 H0 A0 (own.filter fun i => !dead.contains i) ad G H :=
  ⟨f.g0, f.h0, f.nw, fun i hi => f.fs i (List.mem_filter.mp hi).1, fun z => ⟨List.mem_filter.mpr ⟨(f.bx z).1, by simpa using h0 z⟩, (f.bx z).2⟩⟩
theorem bs_end (dead : List Nat) {a : A} (hp : post a = .nx (wipeE ρ dead) := by rfl) (ho : own' = own.filter (fun i => !dead.contains i) := by rfl) (h0 : io = true → 0 ∉ dead := by decide) : BS X E io fr own ρ [] (.ok a) post own' := by
  subst ho
  refine pss_weak pss_nil fun Dn σ H hq => ?_
  obtain ⟨G0, H0, A0, ad, G, er, f, q⟩ := hq
  have q' : Post X.K io fr G0 H0 A0 _ Dn (post a) := q
  rw [hp] at q'
  exact q' ad σ G H (er.lessO dead) (f.lessO dead h0)
/-- the def's end without a return -/
theorem bs_none {a : A} {b : D} (hp : post a = .rt .none b := by rfl) : True := trivial
/-- an owned object is frozen -/
theorem bs_freeze (i : Nat) {m : R A} {sts : List Stmt} (h : BS X E io fr (own.filter (fun j => j != i)) ρ sts m post own') (h0 : io = true → i ≠ 0 := by decide) (hi : i ∈ own := by decide) : BS X E io fr own ρ sts m post own' := by
  refine pss_weak h fun Dn σ H hq => ?_
  obtain ⟨G0, H0, A0, ad, G, er, f, q⟩ := hq
  obtain ⟨t, e, es, o⟩ := er.ow i hi
  obtain ⟨u, eu, _⟩ := o.some_of
  have gn := o.1
  have er2 : Er X.K (own.filter (fun j => j != i)) ρ ad σ (upd G (ad i) u) H := by
    refine ⟨er.len, fun b x e => ?_, fun j w ej hj => ?_, fun j hj => ?_, fun j hj k hk => er.inj j (List.mem_filter.mp hj).1 k (List.mem_filter.mp hk).1⟩
    · by_cases hb : b = ad i
      · subst hb
        rw [upd_same] at e
        rw [eu, e]
      · rw [upd_ne hb] at e
        exact er.gh _ _ e
    · by_cases hji : j = i
      · subst hji
        rw [e] at ej
        cases ej
        exact ⟨_, es, o.rep (same_new gn) (by rw [upd_same, eu])⟩
      · have : j ∉ own := fun z => hj (List.mem_filter.mpr ⟨z, by simpa using hji⟩)
        obtain ⟨v, q1, r1⟩ := er.fz j w ej this
        exact ⟨v, q1, r1.mono (same_new gn)⟩
    · obtain ⟨h1, h2⟩ := List.mem_filter.mp hj
      have hji : j ≠ i := by simpa using h2
      obtain ⟨w, ej, qj, oj⟩ := er.ow j h1
      exact ⟨w, ej, qj, oj.keep (same_new gn) (by rw [upd_ne fun z => hji (er.inj j h1 i hi z)]; exact oj.1) rfl⟩
  refine ⟨G0, H0, A0, ad, _, er2, ⟨f.g0.trans (same_new gn), f.h0, fun b h1 h2 => ?_, fun j hj => f.fs j (List.mem_filter.mp hj).1, fun z => ⟨List.mem_filter.mpr ⟨(f.bx z).1, by simpa using Ne.symm (h0 z)⟩, (f.bx z).2⟩⟩, q⟩
  have nb : b ≠ ad i := fun z => by
    subst z
    rcases f.fs i hi with y | ⟨y1, y2⟩
    · exact h2 y
    · obtain ⟨z1, z2⟩ := f.bx y1
      exact h0 y1 (er.inj i hi 0 z1 (y2.trans z2.symm))
  rw [upd_ne nb]
  exact f.nw b h1 h2
theorem ss_setP (i : Nat) {m : R A} {val : A → D} {env : A → En} (h : PS X st (tAsg (rdV X.K X.mg E own ρ m val env) (gName i))) (hi : i ∉ own := by decide) : SS X E io fr own ρ st m (fun a => .nx (setN (env a) i (some (val a)))) own :=
  ps_weak h fun Dn σ H hq => by
    obtain ⟨G0, H0, A0, ad, G, er, f, q⟩ := hq
    refine ⟨ad, G, er, ?_⟩
    cases em : m with
    | no => rw [em] at q; exact q.elim
    | ex c => rw [em] at q; exact fun H' s => q H' fun b o e hne => s _ _ (f.h0 b o e hne)
    | ok a =>
      rw [em] at q
      exact fun v G' H' er' fr' r => q ad _ G' H' (er'.setO hi r) (f.next er fr' er')
/-- x = e, frozen -/
theorem ss_set {x : Str} {px : Pos} (i : Nat) {m : R A} {val : A → D} {env : A → En} (hN : X.N.Nodup) (he : VP X E own ρ e m val env) (hi : i ∉ own := by decide) (hx : X.N[i]? = some x := by rfl) (hl : Loc X.env.scope x := by first | exact .inl rfl | exact .inr rfl)
    (hs : swapsWith e (some (.Name x px)) pos.line X.env = pure false := by rfl) (hf : X.fn x = true ∨ X.env.scope.names.lookup x = some .local := by first | exact .inl rfl | exact .inr rfl) :
    SS X E io fr own ρ (.Assign [.Name x px] e pos) m (fun a => .nx (setN (env a) i (some (val a)))) own := ss_setP i (ps_set hN hx hl he hs hf) hi
end
end TL
/-! the tree layer, 11: statements, further -/
namespace TL
open PySem PySem.Spec PyProof.Rows L2
section
variable {K : PySem.W.Frag} {own : List Nat} {ρ : En} {ad : Nat → Addr} {σ : L2.St} {G H : Hp}
/-- a slot takes a new object of its own -/
theorem Er.take (er : Er K own ρ ad σ G H) {i : Nat} {p : Addr} {t : D} (hi : i ∉ own) (hlt : i < ρ.length) (o : OwnAt K G H p t) (hne : ∀ j ∈ own, p ≠ ad j) :
    Er K (i :: own) (setN ρ i (some t)) (fun j => if j = i then p else ad j) (σ.set i (some (.ref p))) G H where
  len := by rw [setN_length, List.length_set]; exact er.len
  gh := er.gh
  fz := fun j u e hj => by
    have hji : j ≠ i := fun z => hj (by rw [z]; exact List.mem_cons_self)
    rw [getN_setN_ne hji] at e
    obtain ⟨w, q, r⟩ := er.fz j u e fun z => hj (List.mem_cons_of_mem _ z)
    exact ⟨w, by rw [List.getElem?_set_ne (Ne.symm hji)]; exact q, r⟩
  ow := fun j hj => by
    by_cases hji : j = i
    · subst hji
      refine ⟨t, ?_, ?_, ?_⟩
      · have key : ∀ (l : En) (k : Nat), k < l.length → getN (setN l k (some t)) k = some t := by
          intro l
          induction l with
          | nil => intro k hk; exact absurd hk (Nat.not_lt_zero _)
          | cons x l ih =>
            intro k hk
            cases k with
            | zero => rfl
            | succ k => exact ih k (Nat.lt_of_succ_lt_succ hk)
        exact key ρ j hlt
      · rw [List.getElem?_set_self (by rw [← er.len]; exact hlt), if_pos rfl]
      · rw [if_pos rfl]
        exact o
    · have hj' : j ∈ own := (List.mem_cons.mp hj).resolve_left hji
      obtain ⟨u, e, q, oj⟩ := er.ow j hj'
      exact ⟨u, by rw [getN_setN_ne hji]; exact e, by rw [List.getElem?_set_ne (Ne.symm hji), if_neg hji]; exact q, by rw [if_neg hji]; exact oj⟩
  inj := fun j hj k hk e => by
    by_cases h1 : j = i
    · by_cases h2 : k = i
      · rw [h1, h2]
      · have hk' : k ∈ own := (List.mem_cons.mp hk).resolve_left h2
        simp only [if_pos h1, if_neg h2] at e
        exact absurd e (hne k hk')
    · have hj' : j ∈ own := (List.mem_cons.mp hj).resolve_left h1
      by_cases h2 : k = i
      · simp only [if_neg h1, if_pos h2] at e
        exact absurd e.symm (hne j hj')
      · have hk' : k ∈ own := (List.mem_cons.mp hk).resolve_left h2
        simp only [if_neg h1, if_neg h2] at e
        exact er.inj j hj' k hk' e
theorem Er.drop1 (er : Er K own ρ ad σ G H) (i : Nat) : Er K (own.filter fun j => j != i) (setN ρ i none) ad σ G H where
  len := setN_length.trans er.len
  gh := er.gh
  fz := fun j t e hj => by
    by_cases hji : j = i
    · subst hji
      have e2 := getN_setN_same (w := none) e
      cases e2
    · rw [getN_setN_ne hji] at e
      exact er.fz j t e fun z => hj (List.mem_filter.mpr ⟨z, by simpa using hji⟩)
  ow := fun j hj => by
    obtain ⟨h1, h2⟩ := List.mem_filter.mp hj
    have hji : j ≠ i := by simpa using h2
    obtain ⟨t, e, q, o⟩ := er.ow j h1
    exact ⟨t, by rw [getN_setN_ne hji]; exact e, q, o⟩
  inj := fun j hj k hk => er.inj j (List.mem_filter.mp hj).1 k (List.mem_filter.mp hk).1
end
theorem setN_setN {α : Type} {v w : Option α} : ∀ {xs : List (Option α)} {i : Nat}, setN (setN xs i v) i w = setN xs i w
  | [], _ => rfl
  | _ :: _, 0 => rfl
  | x :: xs, i + 1 => congrArg (x :: ·) (setN_setN (xs := xs) (i := i))
section
variable {X : Cx} {E : XK} {io fr : Bool} {own own' own1 : List Nat} {ρ ρ' : En} {A B : Type} {st : Stmt} {rest : List Stmt} {post : A → Fin} {e : Expr} {pos : Pos}
/-- a name that held an object of its own takes another value: the object is let go ahead of it -/
theorem bs_free (i : Nat) {m : R A} {sts : List Stmt} (h : BS X E io fr (own.filter (fun j => j != i)) (setN ρ i none) sts m post own') (h0 : io = true → i ≠ 0 := by decide) : BS X E io fr own ρ sts m post own' := by
  refine pss_weak h fun Dn σ H hq => ?_
  obtain ⟨G0, H0, A0, ad, G, er, f, q⟩ := hq
  exact ⟨G0, H0, A0, ad, G, er.drop1 i, ⟨f.g0, f.h0, f.nw, fun j hj => f.fs j (List.mem_filter.mp hj).1, fun z => ⟨List.mem_filter.mpr ⟨(f.bx z).1, by simpa using Ne.symm (h0 z)⟩, (f.bx z).2⟩⟩, q⟩
/-- less is known -/
theorem bs_less (dead : List Nat) {m : R A} {sts : List Stmt} (h : BS X E io fr (own.filter fun i => !dead.contains i) (wipeE ρ dead) sts m post own') (h0 : io = true → 0 ∉ dead := by decide) : BS X E io fr own ρ sts m post own' := by
  refine pss_weak h fun Dn σ H hq => ?_
  obtain ⟨G0, H0, A0, ad, G, er, f, q⟩ := hq
  exact ⟨G0, H0, A0, ad, G, er.lessO dead, f.lessO dead h0, q⟩
theorem ss_setFP (i : Nat) {m : R A} {val : A → D} {env : A → En} (h : PS X st (tAsg (rdVF X.K X.mg E own ρ m val env) (gName i))) (hi : i ∉ own := by decide) (hlt : ∀ a, i < (env a).length := by intro _; exact Nat.le_of_ble_eq_true rfl) (h0 : io = true → i ≠ 0 := by decide) :
    SS X E io fr own ρ st m (fun a => .nx (setN (env a) i (some (val a)))) (i :: own) :=
  ps_weak h fun Dn σ H hq => by
    obtain ⟨G0, H0, A0, ad, G, er, f, q⟩ := hq
    refine ⟨ad, G, er, ?_⟩
    cases em : m with
    | no => rw [em] at q; exact q.elim
    | ex c => rw [em] at q; exact fun H' s => q H' fun b o e hne => s _ _ (f.h0 b o e hne)
    | ok a =>
      rw [em] at q
      intro p G' H' er' fr' np o
      have f' := f.next er fr' er'
      have hne := er.new_ne np
      have h0p : H0 p = none := f.back er p np
      refine q _ _ G' H' (er'.take hi (hlt a) o hne) ⟨f'.g0, f'.h0, f'.nw, fun j hj => ?_, fun z => ?_⟩
      · by_cases hji : j = i
        · rw [if_pos hji]
          exact .inl h0p
        · rw [if_neg hji]
          exact f'.fs j ((List.mem_cons.mp hj).resolve_left hji)
      · have := f'.bx z
        rw [if_neg (Ne.symm (h0 z))]
        exact ⟨List.mem_cons_of_mem _ this.1, this.2⟩
/-- x = e, the slot's own -/
theorem ss_setF {x : Str} {px : Pos} (i : Nat) {m : R A} {val : A → D} {env : A → En} (hN : X.N.Nodup) (he : VF X E own ρ e m val env) (hi : i ∉ own := by decide) (hlt : ∀ a, i < (env a).length := by intro _; exact Nat.le_of_ble_eq_true rfl) (hx : X.N[i]? = some x := by rfl) (hl : Loc X.env.scope x := by first | exact .inl rfl | exact .inr rfl)
    (hs : swapsWith e (some (.Name x px)) pos.line X.env = pure false := by rfl) (hf : X.fn x = true ∨ X.env.scope.names.lookup x = some .local := by first | exact .inl rfl | exact .inr rfl) (h0 : io = true → i ≠ 0 := by decide) :
    SS X E io fr own ρ (.Assign [.Name x px] e pos) m (fun a => .nx (setN (env a) i (some (val a)))) (i :: own) := ss_setFP i (ps_set hN hx hl he hs hf) hi hlt h0
/-- y = [..] on one line, y a local of the def's own -/
theorem ss_setLc {y : Str} {py p0 : Pos} {elt tg iter : Expr} {ifs : List Expr} {scope : Scope} (i : Nat) {m : R A} {val : A → D} {env : A → En} (h : LCx X elt tg iter ifs scope (rdV X.K X.mg E own ρ m val env)) (hi : i ∉ own := by decide) (hx : X.N[i]? = some y := by rfl) (hl : X.env.scope.names.lookup y = some .local := by rfl)
    (hs : swapsWith (.ListComp elt [⟨tg, iter, ifs, 0⟩] scope p0) (some (.Name y py)) pos.line X.env = pure true := by rfl) :
    SS X E io fr own ρ (.Assign [.Name y py] (.ListComp elt [⟨tg, iter, ifs, 0⟩] scope p0) pos) m (fun a => .nx (setN (env a) i (some (val a)))) own := ss_setP i (h.ps i y py p0 pos hx hl hs) hi
theorem ss_setLcF {y : Str} {py p0 : Pos} {elt tg iter : Expr} {ifs : List Expr} {scope : Scope} (i : Nat) {m : R A} {val : A → D} {env : A → En} (h : LCx X elt tg iter ifs scope (rdVF X.K X.mg E own ρ m val env)) (hi : i ∉ own := by decide) (hlt : ∀ a, i < (env a).length := by intro _; exact Nat.le_of_ble_eq_true rfl) (hx : X.N[i]? = some y := by rfl) (hl : X.env.scope.names.lookup y = some .local := by rfl)
    (hs : swapsWith (.ListComp elt [⟨tg, iter, ifs, 0⟩] scope p0) (some (.Name y py)) pos.line X.env = pure true := by rfl) (h0 : io = true → i ≠ 0 := by decide) :
    SS X E io fr own ρ (.Assign [.Name y py] (.ListComp elt [⟨tg, iter, ifs, 0⟩] scope p0) pos) m (fun a => .nx (setN (env a) i (some (val a)))) (i :: own) := ss_setFP i (h.ps i y py p0 pos hx hl hs) hi hlt h0
theorem xpf_rd {K : PySem.W.Frag} {mg : Str → Option Value} {m : R D} : ∀ σ H Q, rdP K mg E ρ m σ H Q → rdF K mg E ρ m σ H Q := fun σ H Q ⟨G, s, ep, q⟩ => ⟨G, s, ep, by
  cases m with
  | no => exact q
  | ex c => exact q
  | ok t =>
    intro p G' H' fr np o
    obtain ⟨G3, fr3, r3⟩ := fr.freeze np o
    exact q _ G3 H' fr3 r3⟩
theorem jpf_rd {K : PySem.W.Frag} {S : Type} {emb : S → En} {m : S → R (D × S)} : ∀ σ H Q, rdJ K own emb m σ H Q → rdJF K own emb m σ H Q := fun σ H Q hq => by
  obtain ⟨s, ad, G, er, t, s', e, q⟩ := hq
  refine ⟨s, ad, G, er, t, s', e, fun p G1 H1 er1 fr1 np o => ?_⟩
  obtain ⟨G2, er2, fr2, r2⟩ := er1.freezeO fr1 np (er.new_ne np) o
  exact q _ G2 H1 er2 fr2 r2
/-- an expression for its refusal alone -/
theorem ss_expr {m : R A} {val : A → D} {env : A → En} (he : VP X E own ρ e m val env) (hs : swapsWith e none pos.line X.env = pure false := by rfl) : SS X E io fr own ρ (.Expr e pos) m (fun a => .nx (env a)) own :=
  ps_weak (ps_expr he hs) fun Dn σ H hq => by
    obtain ⟨G0, H0, A0, ad, G, er, f, q⟩ := hq
    refine ⟨ad, G, er, ?_⟩
    cases em : m with
    | no => rw [em] at q; exact q.elim
    | ex c => rw [em] at q; exact fun H' s => q H' fun b o e hne => s _ _ (f.h0 b o e hne)
    | ok a =>
      rw [em] at q
      exact fun v G' H' er' fr' r => q ad _ G' H' er' (f.next er fr' er')
/-- x.m(e), a method that changes a list: what it does, in trees -/
def MethD (K : PySem.W.Frag) (r : V → List V → Hp → VK → Prop) (f : D → D → R D) : Prop := ∀ l xs ts v t t' (G H : Hp) (Q : VK), Same G H → G l = none → H l = some (.lst xs) → RepAll K G xs ts → Rep K G v t → f (.list ts) t = .ok t' →
  (∀ xs' ts', t' = .list ts' → RepAll K G xs' ts' → Q .non (upd H l (.lst xs'))) → r (.ref l) [v] H Q
def remD : D → D → R D
  | .list ts, .int k => match nums ts with
    | some ns => match ns.findIdx? (fun n => n == k) with
      | some j => .ok (.list ((ns.eraseIdx j).map .int))
      | none => .no
    | none => .no
  | _, _ => .no
theorem meth_append {K : PySem.W.Frag} : MethD K rAppend appD := fun l xs ts v t t' G H Q sa gn hl r rv e q => by
  simp only [appD] at e
  split at e
  · rename_i hz
    cases e
    exact ⟨l, xs, v, rfl, rfl, hl, by rw [r.length]; exact hz, q _ _ rfl (r.append (.cons rv .nil))⟩
  · exact nomatch e
def rExtendU (K : PySem.W.Frag) : V → List V → Hp → VK → Prop := fun x vs H Q => ∃ l b xs zs, x = .ref l ∧ vs = [.ref b] ∧ H l = some (.lst xs) ∧ (H b = some (.lst zs) ∨ SqU K H b zs) ∧ xs.length + zs.length ≤ sizeLine ∧ Q .non (upd H l (.lst (xs ++ zs)))
theorem mt_extendU {X : Cx} : MtR X "list.extend" (rExtendU X.K) := by
  intro pins s σ H x vs v us Q I rx rv h
  obtain ⟨l, b, xs, zs, rfl, rfl, hH, hB, hz, q⟩ := h
  rcases hB with hB | hB
  · exact mt_extend pins s σ H _ _ v us Q I rx rv ⟨l, b, xs, zs, rfl, rfl, hH, hB, hz, q⟩
  · cases rx
    obtain ⟨u, rfl, ru⟩ := rv.one
    cases ru
    obtain ⟨z, its, n, r, hl, e⟩ := I.lstM hH
    obtain ⟨⟨cls, dd, data, sl⟩, its2, n2, e2, c2, d2, ⟨t1, t2⟩, r2, _⟩ := SqU.obj I hB
    simp only at c2 d2 t1 t2
    subst c2 d2 t1 t2
    have hl2 := r2.length
    simp only [Array.length_toList] at hl2
    have hsz : its.toArray.size + its2.size ≤ sizeLine := by rw [List.size_toArray]; omega
    have hlong : ¬ (!its.toArray.isEmpty && Builtin.List.listTooLong (its.toArray.size + its2.size)) = true := by
      rw [notLongL hsz, Bool.and_false]
      exact Bool.false_ne_true
    refine call_meets F.slot_list_extend ⟨_, e, rfl⟩ F.entry_list_extend (F.args_list_extend_2 _ _)
      (AutoSeq1.list_extend_list_tuple_0 l its.toArray n b its2 n2 hlong (by rw [List.size_toArray]; omega) (by omega)) ⟨e, e2, ?_⟩
    refine ⟨.non, _, I.lset (its' := its ++ its2.toList) hH e (by simp) (r.append r2) ?_, rfl, q⟩
    rw [List.length_append]
    omega
theorem meth_extend {K : PySem.W.Frag} : MethD K (rExtendU K) extD := fun l xs ts v t t' G H Q sa gn hl r rv e q => by
  cases rv with
  | lst h a =>
    simp only [extD] at e
    split at e
    · rename_i hz
      cases e
      exact ⟨l, _, xs, _, rfl, rfl, hl, .inl (sa _ _ h), by rw [r.length, a.length]; exact hz, q _ _ rfl (r.append a)⟩
    · exact nomatch e
  | tup h a =>
    simp only [extD] at e
    split at e
    · rename_i hz
      cases e
      exact ⟨l, _, xs, _, rfl, rfl, hl, .inr (h.same sa), by rw [r.length, a.length]; exact hz, q _ _ rfl (r.append a)⟩
    · exact nomatch e
  | _ => exact nomatch e
theorem meth_remove {K : PySem.W.Frag} : MethD K rRemI remD := fun l xs ts v t t' G H Q sa gn hl r rv e q => by
  cases rv with
  | int k =>
    simp only [remD] at e
    cases en : nums ts with
    | none => rw [en] at e; exact nomatch e
    | some ns =>
      rw [en] at e
      cases ej : ns.findIdx? (fun n => n == k) with
      | none => simp only [ej] at e; exact nomatch e
      | some j =>
        simp only [ej] at e
        cases e
        rw [nums_eq en] at r
        rw [repAll_nums r] at hl
        obtain ⟨h1, h2, h3⟩ := List.findIdx?_eq_some_iff_getElem.mp ej
        refine ⟨l, ns, k, j, rfl, rfl, hl, ?_, fun m hm => ?_, q _ _ rfl (nums_repAll _)⟩
        · rw [List.getElem?_eq_getElem h1]
          exact congrArg some (by simpa using h2)
        · intro z
          have hml : m < ns.length := Nat.lt_trans hm h1
          rw [List.getElem?_eq_getElem hml] at z
          have := h3 m hm
          simp at this
          exact this (Option.some.inj z)
  | _ => exact nomatch e
theorem ss_meth {x mn : Str} {id : String} {r : V → List V → Hp → VK → Prop} {f : D → D → R D} {J : Type} {emb : J → En} {px apos cpos : Pos} (i : Nat) {us : D} {ts : A → D} (pk : A → D → J) {m : R A} {val : A → D} {env : A → En} (slot : Slot "list" mn id) (hty : typeOf (.builtin id) = pure (.type "method_descriptor")) (hm : MtR X id r) (hr : MethD X.K r f)
    (hf : ∀ a b, f a b ≠ .no → ∃ ts, a = .list ts) (hfl : ∀ a b c, f a b = .ok c → ∃ ts, c = .list ts) (hfe : ∀ a b c, f a b ≠ .ex c)
    (he : VP X E own ρ e m val env) (hu : getN ρ i = some us := by rfl) (ht : ∀ a, getN (env a) i = some (ts a) := by intro _; rfl) (hpk : ∀ a r, emb (pk a r) = setN (env a) i (some r) := by intro _ _; rfl) (hi : i ∈ own := by decide) (hN : X.N[i]? = some x := by rfl)
    (hv : Vis X.env.scope x := by first | exact Or.inl rfl | exact Or.inr (Or.inl rfl) | exact Or.inr (Or.inr rfl)) (hd : (x == ("__debug__" : Str)) = false := by decide) (hcd : (x == ("__classdict__" : Str)) = false := by decide)
    (hbase : attributeBase (.Name x px) mn X.env (eval (.Name x px) X.env) = eval (.Name x px) X.env := by rfl)
    (hfew : ((backTo cpos (starEach [e] X.env)).all (fun x => !x.1) && (backToKw cpos (keywordEach [] X.env)).all (fun x => x.1.isSome) && decide ([e].length + ([] : List Keyword).length + (if ([] : List Keyword).isEmpty then 0 else 1) < 30)) = true := by rfl)
    (hline : (apos.endLine == cpos.line) = true := by rfl) (hst : starEach [e] X.env = (false, eval e X.env) :: starEach [] X.env := by rfl) (hplain : (backTo cpos (starEach [] X.env)).any (·.1) = false := by rfl)
    (hs : swapsWith (.Call (.Attribute (.Name x px) mn apos) [e] [] cpos) none pos.line X.env = pure false := by rfl) :
    SS X E io fr own ρ (.Expr (.Call (.Attribute (.Name x px) mn apos) [e] [] cpos) pos) ((lstD us).bind fun _ => m.bind fun a => (f (ts a) (val a)).bind fun r => .ok (pk a r)) (fun j => .nx (emb j)) own :=
  ps_weak (ps_expr (pe_bm PySem.F.plainAttrs_list slot hty hm (pe_var hN hv hd hcd) (pa_cons he pa_nil hst) hbase hfew hline hst hplain) hs) fun Dn σ H hq => by
    obtain ⟨G0, H0, A0, ad, G, er, f0, q⟩ := hq
    obtain ⟨t0, e0, es0, o0⟩ := er.ow i hi
    rw [hu] at e0
    cases e0
    cases el : lstD us with
    | no => rw [el] at q; exact q.elim
    | ex c => cases us <;> exact nomatch el
    | ok w =>
      rw [el] at q
      have ty : tyV X.K "list" (.ref (ad i)) H := by
        obtain ⟨_, ⟨xs, us, eg, eh, _⟩ | ⟨_, _, eg, eh, _⟩ | ⟨_, _, eg, eh, _⟩⟩ := o0
        · exact .inl ⟨rfl, _, SqL.of eh⟩
        · rw [eg] at el
          exact nomatch el
        · rw [eg] at el
          exact nomatch el
      refine ⟨_, es0, ty, ad, G, er, ?_⟩
      cases em : m with
      | no => rw [em] at q; exact q.elim
      | ex c => rw [em] at q; exact fun H' s => q H' fun b o e hne => s _ _ (f0.h0 b o e hne)
      | ok a =>
        rw [em] at q
        intro v G' H' er' fr' rv
        have q' : PostR X.K X.mg E io fr G0 H0 A0 own ((f (ts a) (val a)).bind fun r => .ok (pk a r)) (fun j => .nx (emb j)) Dn := q
        cases ef : f (ts a) (val a) with
        | no => rw [ef] at q'; exact q'.elim
        | ex c => exact absurd ef (hfe _ _ _)
        | ok t' =>
          rw [ef] at q'
          obtain ⟨ds, ed⟩ := hf (ts a) (val a) (by rw [ef]; exact fun z => nomatch z)
          have e1 := ht a
          rw [ed] at e1 ef
          obtain ⟨xs, es, eh, rr⟩ := er'.ownL hi e1
          refine hr (ad i) xs ds v (val a) t' G' H' _ er'.gh (er'.g_none hi) eh rr rv ef fun xs' ts' et rr' => ?_
          subst et
          have on := own_at (H := H') (er'.g_none hi) rr'
          obtain ⟨er2, fr2⟩ := er'.write hi on
          refine q' ad σ G' _ (by rw [hpk]; exact er2) ((f0.next er fr' er').next er' fr2 er2)
theorem app_l : ∀ a b, appD a b ≠ .no → ∃ ts, a = .list ts := fun a b h => by cases a <;> first | exact ⟨_, rfl⟩ | exact absurd rfl h
theorem ext_l : ∀ a b, extD a b ≠ .no → ∃ ts, a = .list ts := fun a b h => by cases a <;> first | exact ⟨_, rfl⟩ | exact absurd rfl h
theorem rem_l : ∀ a b, remD a b ≠ .no → ∃ ts, a = .list ts := fun a b h => by cases a <;> first | exact ⟨_, rfl⟩ | exact absurd rfl h
theorem app_ex : ∀ a b c, appD a b ≠ .ex c := fun a b c h => by
  unfold appD at h
  split at h
  · split at h <;> exact nomatch h
  · exact nomatch h
theorem ext_ex : ∀ a b c, extD a b ≠ .ex c := fun a b c h => by
  unfold extD at h
  split at h
  · split at h <;> exact nomatch h
  · split at h <;> exact nomatch h
  · exact nomatch h
theorem rem_ex : ∀ a b c, remD a b ≠ .ex c := fun a b c h => by
  unfold remD at h
  split at h
  · split at h
    · split at h <;> exact nomatch h
    · exact nomatch h
  · exact nomatch h
theorem app_r : ∀ a b c, appD a b = .ok c → ∃ ts, c = .list ts := fun a b c h => by
  unfold appD at h
  split at h
  · split at h
    · cases h; exact ⟨_, rfl⟩
    · exact nomatch h
  · exact nomatch h
theorem ext_r : ∀ a b c, extD a b = .ok c → ∃ ts, c = .list ts := fun a b c h => by
  unfold extD at h
  split at h
  · split at h
    · cases h; exact ⟨_, rfl⟩
    · exact nomatch h
  · split at h
    · cases h; exact ⟨_, rfl⟩
    · exact nomatch h
  · exact nomatch h
theorem rem_r : ∀ a b c, remD a b = .ok c → ∃ ts, c = .list ts := fun a b c h => by
  unfold remD at h
  split at h
  · split at h
    · split at h
      · cases h; exact ⟨_, rfl⟩
      · exact nomatch h
    · exact nomatch h
  · exact nomatch h
/-! ### returns -/
theorem bs_ret {m : R B} {val : B → D} {env : B → En} {g : B → A} {bx : B → D} (he : VP X E own ρ e m val env) (hp : ∀ b, post (g b) = .rt (val b) (bx b) := by intro _; rfl) (hb : ∀ b, io = true → getN (env b) 0 = some (bx b) := by first | (intro _ z; exact nomatch z) | (intro _ _; rfl)) (hf : fr = false := by rfl) :
    BS X E io fr own ρ [.Return (some e) pos] (m.bind fun b => .ok (g b)) post own' :=
  pss_weak (pss_one (ps_ret he)) fun Dn σ H hq => by
    subst hf
    obtain ⟨G0, H0, A0, ad, G, er, f0, q⟩ := hq
    refine ⟨ad, G, er, ?_⟩
    cases em : m with
    | no => rw [em] at q; exact q.elim
    | ex c => rw [em] at q; exact fun H' s => q H' fun b o e hne => s _ _ (f0.h0 b o e hne)
    | ok b =>
      rw [em] at q
      intro v G' H' er' fr' rv
      have q' : Post X.K io false G0 H0 A0 own' Dn (post (g b)) := q
      rw [hp] at q'
      have f1 := f0.next er fr' er'
      refine q' v G' H' ⟨er'.gh, f1.g0, f1.h0, f1.nw, rv, fun z => ?_⟩
      obtain ⟨h1, h2⟩ := f1.bx z
      obtain ⟨t, e1, _, o⟩ := er'.ow 0 h1
      rw [hb b z] at e1
      cases e1
      rw [← h2]
      exact o
theorem bs_retF {m : R B} {val : B → D} {env : B → En} {g : B → A} {bx : B → D} (he : VF X E own ρ e m val env) (hp : ∀ b, post (g b) = .rt (val b) (bx b) := by intro _; rfl) (hb : ∀ b, io = true → getN (env b) 0 = some (bx b) := by first | (intro _ z; exact nomatch z) | (intro _ _; rfl)) (hf : fr = true := by rfl) :
    BS X E io fr own ρ [.Return (some e) pos] (m.bind fun b => .ok (g b)) post own' :=
  pss_weak (pss_one (ps_ret he)) fun Dn σ H hq => by
    subst hf
    obtain ⟨G0, H0, A0, ad, G, er, f0, q⟩ := hq
    refine ⟨ad, G, er, ?_⟩
    cases em : m with
    | no => rw [em] at q; exact q.elim
    | ex c => rw [em] at q; exact fun H' s => q H' fun b o e hne => s _ _ (f0.h0 b o e hne)
    | ok b =>
      rw [em] at q
      intro p G' H' er' fr' np oo
      have q' : Post X.K io true G0 H0 A0 own' Dn (post (g b)) := q
      rw [hp] at q'
      have f1 := f0.next er fr' er'
      refine q' _ G' H' ⟨er'.gh, f1.g0, f1.h0, f1.nw, ⟨p, rfl, f0.back er p np, oo⟩, fun z => ?_⟩
      obtain ⟨h1, h2⟩ := f1.bx z
      obtain ⟨t, e1, _, o⟩ := er'.ow 0 h1
      rw [hb b z] at e1
      cases e1
      rw [← h2]
      exact o
/-- return x, x the slot's own -/
theorem bs_retO {x : Str} {px : Pos} (i : Nat) {a : A} {t b : D} (ht : getN ρ i = some t := by rfl) (hp : post a = .rt t b := by rfl) (hb : io = true → getN ρ 0 = some b := by first | (intro z; exact nomatch z) | (intro _; rfl)) (h0 : io = true → i ≠ 0 := by decide) (hi : i ∈ own := by decide) (hf : fr = true := by rfl) (hN : X.N[i]? = some x := by rfl)
    (hv : Vis X.env.scope x := by first | exact Or.inl rfl | exact Or.inr (Or.inl rfl) | exact Or.inr (Or.inr rfl)) (hd : (x == ("__debug__" : Str)) = false := by decide) (hcd : (x == ("__classdict__" : Str)) = false := by decide) : BS X E io fr own ρ [.Return (some (.Name x px)) pos] (.ok a) post own' :=
  pss_weak (pss_one (ps_ret (pe_var hN hv hd hcd))) fun Dn σ H hq => by
    subst hf
    obtain ⟨G0, H0, A0, ad, G, er, f0, q⟩ := hq
    obtain ⟨t1, e1, es, o⟩ := er.ow i hi
    rw [ht] at e1
    cases e1
    have q' : Post X.K io true G0 H0 A0 own' Dn (post a) := q
    rw [hp] at q'
    refine ⟨_, es, q' _ G H ⟨er.gh, f0.g0, f0.h0, f0.nw, ⟨ad i, rfl, ?_, o⟩, fun z => ?_⟩⟩
    · rcases f0.fs i hi with y | ⟨y1, y2⟩
      · exact y
      · obtain ⟨h1, h2⟩ := f0.bx y1
        exact absurd (er.inj i hi 0 h1 (y2.trans h2.symm)) (h0 y1)
    · obtain ⟨h1, h2⟩ := f0.bx z
      obtain ⟨u, e2, _, o2⟩ := er.ow 0 h1
      rw [hb z] at e2
      cases e2
      rw [← h2]
      exact o2
/-! ### if -/
/-- if c: (a block that never goes on) ; the rest -/
theorem bs_if {c : Expr} {s1 : List Stmt} {mc : R B} {vb : B → Bool} {env : B → En} {m1 m2 : B → R A} (hc : VB X E own ρ c mc vb env) (h1 : ∀ b, BS X E io fr own (env b) s1 (m1 b) post own') (h2 : ∀ b, BS X E io fr own (env b) rest (m2 b) post own') (hn : ∀ b a, m1 b = .ok a → ∀ ρ', post a ≠ .nx ρ') :
    BS X E io fr own ρ (.If c s1 [] pos :: rest) (mc.bind fun b => if vb b = true then m1 b else m2 b) post own' := by
  refine ⟨fun pins s σ H Dn I hq => ?_⟩
  obtain ⟨G0, H0, A0, ad, G, er, f, q⟩ := hq
  cases em : mc with
  | no => rw [em] at q; exact q.elim
  | ex c' =>
    refine (pss_cons (ps_if hc (pss_never (sts := s1)) pss_nil) (pss_never (sts := rest))).run pins s σ H Dn I ⟨ad, G, er, ?_⟩
    rw [em] at q ⊢
    exact fun H' s => q H' fun b o e hne => s _ _ (f.h0 b o e hne)
  | ok b =>
    rw [em] at q
    have q' : PostR X.K X.mg E io fr G0 H0 A0 own' (if vb b = true then m1 b else m2 b) post Dn := q
    refine (pss_cons (ps_if hc (h1 b) pss_nil) (h2 b)).run pins s σ H Dn I ⟨ad, G, er, ?_⟩
    rw [em]
    intro G' H' er' fr'
    have f' := f.next er fr' er'
    cases ev : vb b with
    | true =>
      rw [if_pos ev] at q'
      rw [if_pos rfl]
      refine ⟨G0, H0, A0, ad, G', er', f', ?_⟩
      cases e1 : m1 b with
      | no => rw [e1] at q'; exact q'.elim
      | ex c' => rw [e1] at q'; exact q'
      | ok a =>
        rw [e1] at q'
        have hn' := hn b a e1
        show Post _ _ _ _ _ _ _ _ (post a)
        have q2 : Post X.K io fr G0 H0 A0 own' Dn (post a) := q'
        cases ep : post a with
        | nx ρ' => exact absurd ep (hn' ρ')
        | rt t b => rw [ep] at q2; exact q2
        | bk ρ' => rw [ep] at q2; exact q2
    | false =>
      rw [if_neg (by rw [ev]; exact Bool.false_ne_true)] at q'
      rw [if_neg Bool.false_ne_true]
      exact ⟨G0, H0, A0, ad, G', er', f', q'⟩
/-- if c: a else: b, as a statement -/
theorem ss_if {c : Expr} {s1 s2 : List Stmt} {mc : R B} {vb : B → Bool} {env : B → En} {m1 m2 : B → R A} (hc : VB X E own ρ c mc vb env) (h1 : ∀ b, BS X E io fr own (env b) s1 (m1 b) post own') (h2 : ∀ b, BS X E io fr own (env b) s2 (m2 b) post own') :
    SS X E io fr own ρ (.If c s1 s2 pos) (mc.bind fun b => if vb b = true then m1 b else m2 b) post own' := by
  refine ⟨fun pins s σ H Dn I hq => ?_⟩
  obtain ⟨G0, H0, A0, ad, G, er, f, q⟩ := hq
  cases em : mc with
  | no => rw [em] at q; exact q.elim
  | ex c' =>
    refine (ps_if hc (pss_never (sts := s1)) (pss_never (sts := s2))).run pins s σ H Dn I ⟨ad, G, er, ?_⟩
    rw [em] at q ⊢
    exact fun H' s => q H' fun b o e hne => s _ _ (f.h0 b o e hne)
  | ok b =>
    rw [em] at q
    have q' : PostR X.K X.mg E io fr G0 H0 A0 own' (if vb b = true then m1 b else m2 b) post Dn := q
    refine (ps_if hc (h1 b) (h2 b)).run pins s σ H Dn I ⟨ad, G, er, ?_⟩
    rw [em]
    intro G' H' er' fr'
    have f' := f.next er fr' er'
    cases ev : vb b with
    | true =>
      rw [if_pos ev] at q'
      rw [if_pos rfl]
      exact ⟨G0, H0, A0, ad, G', er', f', q'⟩
    | false =>
      rw [if_neg (by rw [ev]; exact Bool.false_ne_true)] at q'
      rw [if_neg Bool.false_ne_true]
      exact ⟨G0, H0, A0, ad, G', er', f', q'⟩
end
end TL
/-! the tree layer, 12: loops, stores, slices, isinstance -/
namespace TL
open PySem PySem.Spec PyProof.Rows L2
/-- for: the turns -/
def foldR {α J : Type} (u : D → R α) (mb : J → α → R J) : List D → J → R J
  | [], j => .ok j
  | d :: ds, j => (nox (u d)).bind fun a => (mb j a).bind fun j' => foldR u mb ds j'
def foldO {α J : Type} (u : D → R α) (mb : J → α → R (Oc J)) : List D → J → R (Oc J)
  | [], j => .ok (.nx j)
  | d :: ds, j => (nox (u d)).bind fun a => (mb j a).bind fun o => match o with
    | .nx j' => foldO u mb ds j'
    | .rt t b => .ok (.rt t b)
    | .bk j' => .ok (.nx j')
def postO {J : Type} (emb : J → En) : Oc J → Fin
  | .nx j => .nx (emb j)
  | .rt t b => .rt t b
  | .bk j => .bk (emb j)
theorem foldO_R {α J : Type} {u : D → R α} {mb : J → α → R J} : ∀ (ds : List D) (j : J), foldO u (fun j a => (mb j a).bind fun j' => .ok (.nx j')) ds j = (foldR u mb ds j).bind fun j' => .ok (.nx j')
  | [], j => rfl
  | d :: ds, j => by
    unfold foldO foldR
    cases nox (u d) with
    | no => rfl
    | ex c => rfl
    | ok a =>
      simp only [R.ok_bind]
      cases mb j a with
      | no => rfl
      | ex c => rfl
      | ok j' => simp only [R.ok_bind]; exact foldO_R ds j'
section
variable {X : Cx} {E : XK} {io fr : Bool} {own own' own1 : List Nat} {ρ ρ' : En} {A B : Type} {st : Stmt} {rest : List Stmt} {post : A → Fin} {e : Expr} {pos : Pos}
theorem Fr0.base {G0 H0 G H : Hp} {A0 : Addr} {ad : Nat → Addr} (f : Fr0 io G0 H0 A0 own ad G H) : Fr0 io G H0 A0 own ad G H := ⟨Same.refl _, f.h0, fun _ h _ => h, f.fs, f.bx⟩
theorem Fr0.unbase {G0 H0 G H G2 H2 : Hp} {A0 : Addr} {ad ad2 : Nat → Addr} (f : Fr0 io G0 H0 A0 own1 ad G H) (f2 : Fr0 io G H0 A0 own ad2 G2 H2) : Fr0 io G0 H0 A0 own ad2 G2 H2 := ⟨f.g0.trans f2.g0, f2.h0, fun b h1 h2 => f2.nw b (f.nw b h1 h2) h2, f2.fs, f2.bx⟩
theorem RetOk.unbase {K : PySem.W.Frag} {G0 H0 G H G2 H2 : Hp} {A0 : Addr} {ad : Nat → Addr} {v : V} {t b : D} (f : Fr0 io G0 H0 A0 own1 ad G H) (r : RetOk K io fr G H0 A0 v G2 H2 t b) : RetOk K io fr G0 H0 A0 v G2 H2 t b := ⟨r.gh, f.g0.trans r.g0, r.h0, fun b h1 h2 => r.nw b (f.nw b h1 h2) h2, r.an, r.bx⟩
theorem bs_post {A' : Type} {sts : List Stmt} {m : R A} {f : A → A'} {post' : A' → Fin} (h : BS X E io fr own ρ sts m post own') (hp : ∀ a, post' (f a) = post a) : BS X E io fr own ρ sts (m.bind fun a => .ok (f a)) post' own' := pss_weak h fun Dn σ H hq => by
  obtain ⟨G0, H0, A0, ad, G, er, f0, q⟩ := hq
  refine ⟨G0, H0, A0, ad, G, er, f0, ?_⟩
  cases m with
  | no => exact q
  | ex c => exact q
  | ok a =>
    have q' : Post X.K io fr G0 H0 A0 own' Dn (post' (f a)) := q
    rw [hp] at q'
    exact q'
theorem ss_post {A' : Type} {m : R A} {f : A → A'} {post' : A' → Fin} (h : SS X E io fr own ρ st (m.bind fun a => .ok (f a)) post' own') (hp : ∀ a, post' (f a) = post a) : SS X E io fr own ρ st m post own' := ps_weak h fun Dn σ H hq => by
  obtain ⟨G0, H0, A0, ad, G, er, f0, q⟩ := hq
  refine ⟨G0, H0, A0, ad, G, er, f0, ?_⟩
  cases m with
  | no => exact q
  | ex c => exact q
  | ok a =>
    have q' : Post X.K io fr G0 H0 A0 own' Dn (post a) := q
    rw [← hp] at q'
    exact q'
/-- for tg in iter: body; the body may return, break -/
theorem ss_forO {α J : Type} {tg iter : Expr} {body : List Stmt} {emb : J → En} {m : R B} {its : B → List D} {env : B → En} {sl : List Nat} {u : D → R α} {put : α → En → En} {mb : J → α → R (Oc J)} (j0 : B → J) (hpass : PassesOwn (model X.prog X.w) X.A X.env X.xe) (hcalm : X.calm = true)
    (hi : VI X E own ρ tg iter m its env) (hg : XG X tg sl u put) (hb : ∀ j a, BS X E io fr own (put a (emb j)) body (mb j a) (postO emb) own)
    (hsl : ∀ i ∈ sl, i ∉ own := by decide) (h0 : ∀ b, env b = emb (j0 b) := by intro _; rfl) (hs : ∀ x, foldedSetIterable iter X.env x = pure x := by intro _; rfl) :
    SS X E io fr own ρ (.For tg iter body [] pos) (m.bind fun b => foldO u mb (its b) (j0 b)) (postO emb) own := by
  refine ⟨fun pins s σ H Dn I hq => ?_⟩
  obtain ⟨G0, H0, A0, ad0, G, er, f, q⟩ := hq
  cases em : m with
  | no => rw [em] at q; exact q.elim
  | ex c' =>
    refine (ps_for (tb := fun _ _ _ => False) hpass hcalm hi hg (pss_never (sts := body)) hs).run pins s σ H Dn I ⟨ad0, G, er, ?_⟩
    rw [em] at q ⊢
    exact fun H' s => q H' fun b o e hne => s _ _ (f.h0 b o e hne)
  | ok b =>
    rw [em] at q
    have q' : PostR X.K X.mg E io fr G0 H0 A0 own (foldO u mb (its b) (j0 b)) (postO emb) Dn := q
    by_cases hnever : its b = [] ∧ False
    · exact hnever.2.elim
    let tb : TS := fun Dn σ H => ∃ j a, rdS X.K X.mg E io fr own (put a (emb j)) (mb j a) (postO emb) own Dn σ H
    have hbody : PSs X body tb := ⟨fun pins s σ H Dn I ⟨j, a, hq⟩ => (hb j a).run pins s σ H Dn I hq⟩
    refine (ps_for hpass hcalm hi hg hbody hs).run pins s σ H Dn I ⟨ad0, G, er, ?_⟩
    rw [em]
    intro J1 G1 H1 er1 fr1 io1
    have f1 := f.next er fr1 er1
    rw [h0] at er1
    generalize foldO u mb (its b) (j0 b) = res at q'
    refine ⟨fun i m σ H => m = (its b).length - i ∧ i ≤ (its b).length ∧ ∃ j ad G2, Er X.K own (emb j) ad σ G2 H ∧ Fr0 io G1 H0 A0 own ad G2 H ∧ PostR X.K X.mg E io fr G0 H0 A0 own (foldO u mb ((its b).drop i) j) (postO emb) Dn, ⟨_, rfl, Nat.zero_le _, j0 b, ad0, G1, er1, f1.base, q⟩, ?_⟩
    rintro i m1 σ1 H2 ⟨rfl, hi2, j, ad, G2, er2, f2, q2⟩
    by_cases hlt : i < (its b).length
    · right
      have hget := List.getElem?_eq_getElem hlt
      have hdrop : (its b).drop i = (its b)[i] :: (its b).drop (i + 1) := List.drop_eq_getElem_cons hlt
      rw [hdrop] at q2
      refine ⟨io1.go i H2 hlt (f2.g0.trans er2.gh), fun σ' H' => ∃ j ad G2, Er X.K own (emb j) ad σ' G2 H' ∧ Fr0 io G1 H0 A0 own ad G2 H' ∧ PostR X.K X.mg E io fr G0 H0 A0 own (foldO u mb ((its b).drop (i + 1)) j) (postO emb) Dn, fun σ' H' hN => ⟨(its b).length - (i + 1), by omega, rfl, hlt, hN⟩, fun x H' hy => ?_⟩
      obtain ⟨G3, fr3, r3⟩ := io1.yld i x G2 H2 H' (its b)[i] hget f2.g0 er2.gh hy
      have er3 := er_pure er2 fr3
      have f3 := f2.next er2 fr3.toO er3
      have q3 : PostR X.K X.mg E io fr G0 H0 A0 own ((nox (u (its b)[i])).bind fun a => (mb j a).bind fun o => match o with
        | .nx j' => foldO u mb ((its b).drop (i + 1)) j'
        | .rt t b => .ok (.rt t b)
        | .bk j' => .ok (.nx j')) (postO emb) Dn := q2
      cases eu : u (its b)[i] with
      | no => rw [eu] at q3; exact q3.elim
      | ex c => rw [eu] at q3; exact q3.elim
      | ok a =>
        rw [eu] at q3
        refine ⟨G3, _, a, er3.gh, r3, eu, fun ps hp => ?_⟩
        have er4 : Er X.K own (put a (emb j)) ad (putsS ps σ1) G3 H' := by
          rw [hp.eq]
          exact puts_er hp.rep (fun p hq => hsl _ (hp.sub p hq)) er3
        refine ⟨j, a, G1, H0, A0, ad, G3, er4, f3, ?_⟩
        have q4 : PostR X.K X.mg E io fr G0 H0 A0 own ((mb j a).bind fun o => match o with
          | .nx j' => foldO u mb ((its b).drop (i + 1)) j'
          | .rt t b => .ok (.rt t b)
          | .bk j' => .ok (.nx j')) (postO emb) Dn := q3
        cases eb : mb j a with
        | no => rw [eb] at q4; exact q4.elim
        | ex c => rw [eb] at q4; exact q4
        | ok o =>
          rw [eb] at q4
          cases o with
          | nx j' => exact fun ad' σ' G' H' er' f' => ⟨j', ad', G', er', f', q4⟩
          | rt t b => exact fun v G' H' r => q4 v G' H' (r.unbase f1)
          | bk j' => exact fun ad' σ' G' H' er' f' => q4 ad' σ' G' H' er' (f1.unbase f')
    · left
      have e : i = (its b).length := by omega
      subst e
      rw [List.drop_length] at q2
      exact ⟨io1.stop H2 (f2.g0.trans er2.gh), q2 ad σ1 G2 H2 er2 (f1.unbase f2)⟩
theorem ss_for {α J : Type} {tg iter : Expr} {body : List Stmt} {emb : J → En} {m : R B} {its : B → List D} {env : B → En} {sl : List Nat} {u : D → R α} {put : α → En → En} {mb : J → α → R J} (j0 : B → J) (hpass : PassesOwn (model X.prog X.w) X.A X.env X.xe) (hcalm : X.calm = true)
    (hi : VI X E own ρ tg iter m its env) (hg : XG X tg sl u put) (hb : ∀ j a, BS X E io fr own (put a (emb j)) body (mb j a) (fun j' => .nx (emb j')) own)
    (hsl : ∀ i ∈ sl, i ∉ own := by decide) (h0 : ∀ b, env b = emb (j0 b) := by intro _; rfl) (hs : ∀ x, foldedSetIterable iter X.env x = pure x := by intro _; rfl) :
    SS X E io fr own ρ (.For tg iter body [] pos) (m.bind fun b => foldR u mb (its b) (j0 b)) (fun j => .nx (emb j)) own := by
  refine ss_post (f := Oc.nx) (post' := postO emb) ?_ fun _ => rfl
  have h := ss_forO (pos := pos) (mb := fun j a => (mb j a).bind fun j' => .ok (Oc.nx j')) (emb := emb) j0 hpass hcalm hi hg (fun j a => bs_post (hb j a) fun _ => rfl) hsl h0 hs
  have e : (m.bind fun b => foldO u (fun j a => (mb j a).bind fun j' => .ok (.nx j')) (its b) (j0 b)) = ((m.bind fun b => foldR u mb (its b) (j0 b)).bind fun j => .ok (.nx j)) := by
    rw [R.bind_assoc]
    exact congrArg m.bind (funext fun b => foldO_R _ _)
  rw [← e]
  exact h
end
end TL
/-! the tree layer, 13: isinstance, slices, sorted(set(..)), ranges as lists -/
namespace TL
open PySem PySem.Spec PyProof.Rows L2
/-! ### isinstance -/
def tyN : D → Option String
  | .none => some "NoneType"
  | .bool _ => some "bool"
  | .int _ => some "int"
  | .str _ => some "str"
  | .list _ => some "list"
  | .tuple _ => some "tuple"
  | .dict ((.none, _) :: _) => none
  | .dict _ => some "dict"
/-- what is told of d being a T -/
def isA1 (T : String) (d : D) : Option Bool := (tyN d).bind fun n => kitB n T
def isAny (Ts : List String) (d : D) : Option Bool := match Ts with
  | [] => some false
  | T :: Ts => (isA1 T d).bind fun b => if b = true then some true else isAny Ts d
def isD (Ts : List String) (d : D) : R D := match isAny Ts d with
  | some b => .ok (.bool b)
  | none => .no
theorem tyX_of {K : PySem.W.Frag} {G H : Hp} {v : V} {d : D} {n : String} (s : Same G H) (r : Rep K G v d) (h : tyN d = some n) : TyX K H v (.type n) := by
  cases r with
  | non => cases h; exact .base .non
  | bl b => cases h; exact .base (.bl b)
  | int i => cases h; exact .base (.int i)
  | str x => cases h; exact .base (.str x)
  | lst e _ => cases h; exact .base (.lst (s _ _ e))
  | tup e _ =>
    cases h
    rcases e with ⟨u, e, o, _, rfl⟩ | ⟨o, its, n, e, c, _⟩
    · exact .fTuple (s _ _ e)
    · exact .kTuple e c
  | dK e ek _ =>
    have hn : n = "dict" := by
      rename_i kvs es _
      cases es with
      | nil => cases h; rfl
      | cons p ps =>
        cases kvs with
        | nil => cases ek
        | cons k ks =>
          have e1 : p.1 = keyD k.1 := by
            have := congrArg List.head? ek
            simpa using this
          obtain ⟨p1, p2⟩ := p
          simp only at e1
          subst e1
          rcases k with ⟨k | k, w⟩ <;> (cases h; rfl)
    subst hn
    rcases e with e | ⟨o, e⟩
    · exact .base (.dK (s _ _ e))
    · exact .fDict (s _ _ e)
  | dT e ek _ =>
    have hn : n = "dict" := by
      rename_i kvs es _
      cases es with
      | nil => cases h; rfl
      | cons p ps =>
        cases kvs with
        | nil => cases ek
        | cons k ks =>
          have e1 : p.1 = .tuple (k.1.map keyD) := by
            have := congrArg List.head? ek
            simpa using this
          obtain ⟨p1, p2⟩ := p
          simp only at e1
          subst e1
          cases h
          rfl
    subst hn
    exact .base (.dT (s _ _ e))
  | scr _ => cases h
theorem kitAny_is {K : PySem.W.Frag} {n : String} {d : D} (h : tyN d = some n) : ∀ (Ts : List String) {b : Bool}, isAny Ts d = some b → PySem.W.kitAny K (.type n) (Ts.map Value.type) = some b
  | [], b, e => by
    cases e
    rfl
  | T :: Ts, b, e => by
    unfold isAny at e
    cases e1 : isA1 T d with
    | none => rw [e1] at e; cases e
    | some c =>
      rw [e1] at e
      have k1 : kitB n T = some c := by
        unfold isA1 at e1
        rw [h] at e1
        exact e1
      refine kitAny_cons (kit_ty k1) (fun hc => ?_) (fun hc => ?_)
      · subst hc
        exact kitAny_is h Ts e
      · subst hc
        cases e
        rfl
section
variable {X : Cx} {E : XK} {ρ : En} {a b : Expr} {m : R D} {pos : Pos}
theorem isD_ty {Ts : List String} {d : D} {t : D} (h : isD Ts d = .ok t) : ∃ b, isAny Ts d = some b ∧ t = .bool b := by
  unfold isD at h
  cases e : isAny Ts d with
  | none => rw [e] at h; cases h
  | some b => rw [e] at h; cases h; exact ⟨b, rfl, rfl⟩
theorem isD_ex {Ts : List String} {d : D} {c : Str} : isD Ts d ≠ .ex c := fun h => by
  unfold isD at h
  cases e : isAny Ts d with
  | none => rw [e] at h; cases h
  | some b => rw [e] at h; cases h
/-- isinstance(a, T) -/
theorem ep_isi {T : Str} {n : String} {p p2 : Pos} (hm : X.mg "isinstance" = none) (hT : X.mg T = none) (ha : XP X E ρ a m) (hv : bootBuiltins T = some (.type n) := by decide +kernel) (hT2 : tyN .none = some "NoneType" := by rfl) (hg : Gl X "isinstance" := by rfl) (hgT : Gl X T := by rfl) (hn : T ≠ "__name__" := by decide) (hdb : (T == ("__debug__" : Str)) = false := by decide)
    (he : starEach [a, .Name T p2] X.env = (false, eval a X.env) :: starEach [.Name T p2] X.env := by rfl) (he2 : starEach [.Name T p2] X.env = (false, eval (.Name T p2) X.env) :: starEach [] X.env := by rfl) (hpl : (backTo pos (starEach [.Name T p2] X.env)).any (·.1) = false := by rfl) :
    XP X E ρ (.Call (.Name "isinstance" p) [a, .Name T p2] [] pos) (m.bind fun d => isD [n] d) := by
  refine pe_weak (pe_callB call_isi hg hm (by decide +kernel) (pa_cons ha (pa_cons (pe_bltn (v := .ty n) hgT hT hv rfl hn hdb) pa_nil he2) he) (by decide) (by decide) he hpl) fun σ H Q ⟨G, s, ep, q⟩ => ⟨G, s, ep, ?_⟩
  cases m with
  | no => exact q
  | ex c => exact q
  | ok d =>
    intro v G1 H1 fr r
    have q' : PostP Rep X.K X.mg E G H (isD [n] d) Q := q
    cases ei : isD [n] d with
    | no => rw [ei] at q'; exact q'.elim
    | ex c => exact absurd ei isD_ex
    | ok t =>
      rw [ei] at q'
      obtain ⟨b, e1, rfl⟩ := isD_ty ei
      have : ∃ k, tyN d = some k ∧ kitB k n = some b := by
        unfold isAny isA1 at e1
        cases ty : tyN d with
        | none => rw [ty] at e1; cases e1
        | some k =>
          refine ⟨k, rfl, ?_⟩
          rw [ty] at e1
          simp only [Option.bind_some] at e1
          cases hk : kitB k n with
          | none => rw [hk] at e1; cases e1
          | some c =>
            rw [hk] at e1
            simp only [Option.bind_some] at e1
            cases c
            · simp only [isAny] at e1
              exact e1
            · exact e1
      obtain ⟨k, ty, hk⟩ := this
      exact ⟨v, .ty n, .type k, .type n, b, rfl, .ty n, tyX_of fr.gh r ty, kit_ty hk, q' _ G1 H1 fr (.bl b)⟩
/-- isinstance(a, (T, U)) -/
theorem ep_isi2 {T U : Str} {n1 n2 : String} {p p2 p3 p4 : Pos} {kk} (hm : X.mg "isinstance" = none) (hT : X.mg T = none) (hU : X.mg U = none) (ha : XP X E ρ a m) (hv : bootBuiltins T = some (.type n1) := by decide +kernel) (hvU : bootBuiltins U = some (.type n2) := by decide +kernel) (hg : Gl X "isinstance" := by rfl) (hgT : Gl X T := by rfl) (hn : T ≠ "__name__" := by decide) (hdb : (T == ("__debug__" : Str)) = false := by decide) (hgU : Gl X U := by rfl) (hnU : U ≠ "__name__" := by decide) (hdbU : (U == ("__debug__" : Str)) = false := by decide)
    (he : starEach [a, .Tuple [.Name T p2, .Name U p3] kk p4] X.env = (false, eval a X.env) :: starEach [.Tuple [.Name T p2, .Name U p3] kk p4] X.env := by rfl) (he2 : starEach [.Tuple [.Name T p2, .Name U p3] kk p4] X.env = (false, eval (.Tuple [.Name T p2, .Name U p3] kk p4) X.env) :: starEach [] X.env := by rfl) (hpl : (backTo pos (starEach [.Tuple [.Name T p2, .Name U p3] kk p4] X.env)).any (·.1) = false := by rfl)
    (ht : starEach [.Name T p2, .Name U p3] X.env = (false, eval (.Name T p2) X.env) :: starEach [.Name U p3] X.env := by rfl) (ht2 : starEach [.Name U p3] X.env = (false, eval (.Name U p3) X.env) :: starEach [] X.env := by rfl) :
    XP X E ρ (.Call (.Name "isinstance" p) [a, .Tuple [.Name T p2, .Name U p3] kk p4] [] pos) (m.bind fun d => isD [n1, n2] d) := by
  refine pe_weak (pe_callB call_isiT hg hm (by decide +kernel) (pa_cons ha (pa_cons (pe_tup (pa_cons (pe_bltn (v := .ty n1) hgT hT hv rfl hn hdb) (pa_cons (pe_bltn (v := .ty n2) hgU hU hvU rfl hnU hdbU) pa_nil ht2) ht)) pa_nil he2) he) (by decide) (by decide) he hpl) fun σ H Q ⟨G, s, ep, q⟩ => ⟨G, s, ep, ?_⟩
  cases m with
  | no => exact q
  | ex c => exact q
  | ok d =>
    intro v G1 H1 fr r
    have q' : PostP Rep X.K X.mg E G H (isD [n1, n2] d) Q := q
    cases ei : isD [n1, n2] d with
    | no => rw [ei] at q'; exact q'.elim
    | ex c => exact absurd ei isD_ex
    | ok t =>
      rw [ei] at q'
      obtain ⟨b, e1, rfl⟩ := isD_ty ei
      refine ⟨by show 2 ≤ sizeLine; rw [sizeLine_eq]; decide, fun tp np => ?_⟩
      cases ty : tyN d with
      | none =>
        unfold isAny isA1 at e1
        rw [ty] at e1
        cases e1
      | some k =>
        have f2 := Fr.newU (o := .tup [.ty n1, .ty n2]) fr.gh np
        exact ⟨v, tp, [.ty n1, .ty n2], .type k, [.type n1, .type n2], b, rfl, upd_same, .cons (.ty n1) (.cons (.ty n2) .nil), tyX_of (fr.trans f2).gh r ty, kitAny_is ty [n1, n2] e1, q' _ G1 _ (fr.trans f2) (.bl b)⟩
end
end TL
/-! the tree layer, 14: slices, sorted(set(..)), ranges as lists, new lists by calls -/
namespace TL
open PySem PySem.Spec PyProof.Rows L2
/-! ### slices -/
def cutD (xs : List D) (lo hi : Option Int) : List D := (xs.drop (HT.sIx xs.length 0 lo)).take (HT.sIx xs.length xs.length hi - HT.sIx xs.length 0 lo)
def pySl (d : D) (lo hi : Option Int) : R D := match d with
  | .list xs => .ok (.list (cutD xs lo hi))
  | .tuple xs => .ok (.tuple (cutD xs lo hi))
  | .str z => if z.length ≤ sizeLine then .ok (.str (cutS z lo hi)) else .no
  | _ => .no
def partD : D → R (Option Int)
  | .int i => .ok (some i)
  | _ => .no
theorem RepAll.cutD {K : PySem.W.Frag} {G : Hp} {vs : List V} {ds : List D} (h : RepAll K G vs ds) (lo hi : Option Int) : RepAll K G (cutV vs lo hi) (TL.cutD ds lo hi) := by
  unfold cutV TL.cutD
  rw [← h.length]
  exact (h.drop _).take _
theorem cutV_whole {xs : List V} {lo hi : Option Int} (h : HT.sIx xs.length 0 lo = 0 ∧ HT.sIx xs.length xs.length hi = xs.length) : cutV xs lo hi = xs := by
  unfold cutV
  rw [h.1, h.2, List.drop_zero, Nat.sub_zero, List.take_length]
section
variable {X : Cx} {E : XK} {ρ : En} {a b : Expr} {m : R D} {pos p2 : Pos}
def rdO (K : PySem.W.Frag) (mg : Str → Option Value) (E : XK) (ρ : En) (m : R (Option Int)) : TO := fun σ H Q => ∃ G, Same G H ∧ Ep K G ρ σ ∧ match m with
  | .no => False
  | .ex c => ∀ H', Same H H' → E (cls mg c) none H'
  | .ok o => ∀ G' H', Fr G H G' H' → Q o H'
abbrev XO (X : Cx) (E : XK) (ρ : En) (e : Option Expr) (m : R (Option Int)) : Prop := PO X e (rdO X.K X.mg E ρ m)
theorem po_weak {e : Option Expr} {t t' : TO} (h : PO X e t) (f : ∀ σ H Q, t' σ H Q → t σ H Q) : PO X e t' := ⟨fun pins s σ H Q I q => h.run pins s σ H Q I (f _ _ _ q)⟩
theorem xo_none : XO X E ρ none (.ok none) := po_weak po_none fun σ H Q ⟨G, s, ep, q⟩ => q G H (Fr.refl s)
theorem xo_some (h : XP X E ρ a m) : XO X E ρ (some a) (m.bind partD) := po_weak (po_some h) fun σ H Q ⟨G, s, ep, q⟩ => ⟨G, s, ep, by
  cases m with
  | no => exact q
  | ex c => exact q
  | ok d =>
    intro v G1 H1 fr r
    cases r with
    | int i => exact ⟨i, rfl, q G1 H1 fr⟩
    | _ => exact q.elim⟩
theorem sl_any : SlR X (fun x lo hi H Q => (rSlL X.K x lo hi H Q ∨ rSlU X.K x lo hi H Q) ∨ rSlS x lo hi H Q) := (sl_list.or sl_tupU).or sl_str
theorem xp_slice {lo hi : Option Expr} {ml mh : R (Option Int)} (he : XP X E ρ a m) (hl : XO X E ρ lo ml) (hh : XO X E ρ hi mh) : XP X E ρ (.Subscript a (.Slice lo hi none p2) pos) (m.bind fun d => ml.bind fun l => mh.bind fun h => pySl d l h) :=
  pe_weak (pe_slice sl_any he hl hh) fun σ H Q ⟨G, s, ep, q⟩ => ⟨G, s, ep, by
    refine (PostP.bind (Rp := Rep) q).mono fun x H1 ⟨G1, d, fr1, r1, em, q1⟩ => ⟨G1, fr1.gh, ep.mono fr1.gg, ?_⟩
    cases ml with
    | no => exact q1
    | ex c => exact q1
    | ok l =>
      intro G2 H2 fr2
      refine ⟨G2, fr2.gh, (ep.mono fr1.gg).mono fr2.gg, ?_⟩
      have q2 : PostP Rep X.K X.mg E G1 H1 (mh.bind fun h => pySl d l h) Q := q1
      cases mh with
      | no => exact q2
      | ex c => exact fun H' s' => q2 H' (fr2.hh.trans s')
      | ok h =>
        intro G3 H3 fr3
        have q3 : PostP Rep X.K X.mg E G1 H1 (pySl d l h) Q := q2
        have fr := fr2.trans fr3
        cases r1 with
        | lst e ra => exact .inl (.inl ⟨_, _, rfl, same_lst (fr.gg.trans fr.gh) e, fun p np => q3 _ _ _ (fr.trans (Fr.new fr.gh np)) (rep_newL fr.gh np ((ra.cutD l h).mono fr.gg))⟩)
        | tup e ra =>
          refine .inl (.inr ⟨_, _, rfl, same_seqT (fr.gg.trans fr.gh) e, fun hw => ?_, fun _ p u np tu => q3 _ _ _ (fr.trans (Fr.new fr.gh np)) (rep_newT fr.gh np tu ((ra.cutD l h).mono fr.gg))⟩)
          refine q3 _ G3 H3 fr (.tup (e.same fr.gg) ?_)
          have := ra.cutD l h
          rw [cutV_whole hw] at this
          exact this.mono fr.gg
        | str z =>
          simp only [pySl] at q3
          split at q3
          · rename_i hz
            exact .inr ⟨z, rfl, hz, q3 _ G3 H3 fr (.str _)⟩
          · exact q3.elim
        | _ => exact q3.elim⟩
/-- a list's slice: a new list -/
theorem xf_slice {lo hi : Option Expr} {ml mh : R (Option Int)} (he : XP X E ρ a m) (hl : XO X E ρ lo ml) (hh : XO X E ρ hi mh) : XF X E ρ (.Subscript a (.Slice lo hi none p2) pos) (m.bind fun d => ml.bind fun l => mh.bind fun h => (lstD d).bind fun _ => pySl d l h) :=
  pe_weak (pe_slice sl_list he hl hh) fun σ H Q ⟨G, s, ep, q⟩ => ⟨G, s, ep, by
    cases m with
    | no => exact q
    | ex c => exact q
    | ok d =>
      intro x G1 H1 fr1 r1
      refine ⟨G1, fr1.gh, ep.mono fr1.gg, ?_⟩
      have q1 : PostF X.K X.mg E G H (ml.bind fun l => mh.bind fun h => (lstD d).bind fun _ => pySl d l h) Q := q
      cases ml with
      | no => exact q1
      | ex c => exact fun H' s' => q1 H' (fr1.hh.trans s')
      | ok l =>
        intro G2 H2 fr2
        refine ⟨G2, fr2.gh, (ep.mono fr1.gg).mono fr2.gg, ?_⟩
        have q2 : PostF X.K X.mg E G H (mh.bind fun h => (lstD d).bind fun _ => pySl d l h) Q := q1
        cases mh with
        | no => exact q2
        | ex c => exact fun H' s' => q2 H' (fr1.hh.trans (fr2.hh.trans s'))
        | ok h =>
          intro G3 H3 fr3
          have q3 : PostF X.K X.mg E G H ((lstD d).bind fun _ => pySl d l h) Q := q2
          have fr := (fr1.trans fr2).trans fr3
          have fr23 := fr2.trans fr3
          cases r1 with
          | lst e ra =>
            refine ⟨_, _, rfl, same_lst (fr23.gg.trans fr23.gh) e, fun p np => ?_⟩
            have hp : H p = none := by
              cases z : H p with
              | none => rfl
              | some o => rw [fr.hh _ _ z] at np; cases np
            exact q3 p G3 _ (fr.trans (Fr.newU fr.gh np)) hp (own_new fr.gh np ((ra.cutD l h).mono fr23.gg))
          | _ => exact q3.elim⟩
/-! ### new lists by a call -/
def rLtF (K : PySem.W.Frag) (mg : Str → Option Value) (E : XK) (f : List D → R D) : List V → Hp → VK → Prop := fun xs H Q => ∃ G ts, Same G H ∧ RepAll K G xs ts ∧ PostF K mg E G H (f ts) Q
abbrev CallF (X : Cx) (E : XK) (g : Value) (f : List D → R D) : Prop := CallR X g (rLtF X.K X.mg E f)
theorem PostF.newL {K : PySem.W.Frag} {mg : Str → Option Value} {E : XK} {G H : Hp} {Q : VK} {vs : List V} {ts : List D} (s : Same G H) (r : RepAll K G vs ts) (q : PostF K mg E G H (.ok (.list ts)) Q) : ∀ p, H p = none → Q (.ref p) (upd H p (.lst vs)) := fun p np => q p G _ (Fr.newU s np) np (own_new s np r)
theorem cf_list : CallF X E (.type "list") pyList := by
  intro pins s σ H vs us Q I r ⟨G, ts, sa, ra, q⟩
  match ts, q with
  | [.list xs], q =>
    obtain ⟨v, rfl, r1⟩ := repAll1 ra
    cases r1 with
    | lst h a => exact call_list_of pins s σ H _ us Q I r ⟨_, _, rfl, .inl (same_lst sa h), q.newL sa a⟩
  | [.tuple xs], q =>
    obtain ⟨v, rfl, r1⟩ := repAll1 ra
    cases r1 with
    | tup h a => exact call_list_of pins s σ H _ us Q I r ⟨_, _, rfl, .inr (same_seqT sa h), q.newL sa a⟩
  | [.none], q | [.bool _], q | [.int _], q | [.dict _], q | [.str _], q | [], q => exact q.elim
  | _ :: _ :: _, q => simp only [pyList] at q; exact q.elim
theorem cf_sorted (hu : X.A.units + 66 < cLine) : CallF X E (.builtin "sorted") pySorted := by
  intro pins s σ H vs us Q I r ⟨G, ts, sa, ra, q⟩
  cases em : pySorted ts with
  | no => rw [em] at q; exact q.elim
  | ex c =>
    unfold pySorted at em
    split at em <;> first | (split at em <;> cases em) | cases em
  | ok t => 
    match ts, em with
    | [.list xs], em =>
      obtain ⟨v, rfl, r1⟩ := repAll1 ra
      have em0 := em
      simp only [pySorted] at em
      split at em
      · rename_i hs
        cases em
        obtain ⟨al, so, ft⟩ := sortable_spec hs
        cases r1 with
        | lst h a =>
          rename_i l ws
          obtain ⟨its, rv, pl, hz⟩ := I.list (same_lst sa h)
          rw [Vals.ref1 r]
          obtain ⟨e1, e2⟩ := reads_all I sa a rv ft
          have hzip := zip_snd a.length
          have hl : (ws.zip xs).length = ws.length := by
            rw [List.length_zip, a.length]
            omega
          refine PySem.W.sorted_data (enc := fun b : V × D => b.2) pl.isList e1 e2 (by rw [hzip]; exact al) (by rw [hzip]; exact so) (by rw [hl]; exact hz) (fun b hb => ?_) fun out ho hout => ?_
          · have : b.2 ∈ xs := by
              rw [← hzip]
              exact List.mem_map.mpr ⟨b, hb, rfl⟩
            have := fit_depth (List.all_eq_true.mp ft _ this)
            omega
          · obtain ⟨v1, v2⟩ := each_vals hout
            have em : ((ws.zip xs).mergeSort (PySem.W.dataLe false fun b => b.2)).map (·.2) = sortD xs := by
              have := PySem.W.sort_maps (r := PySem.W.dataLe false fun b : V × D => b.2) (s := PySem.W.dataLe false fun d : D => d) (fun b : V × D => b.2) (l := ws.zip xs) (fun _ _ _ _ => rfl)
              rw [this, hzip]
              rfl
            rw [em] at v2
            obtain ⟨ep, he⟩ := sortedAll_at s.heap its out.toArray
            have hlen : (((ws.zip xs).mergeSort (PySem.W.dataLe false fun b => b.2)).map (·.1)).length ≤ sizeLine := by
              rw [List.length_map, List.length_mergeSort, hl]
              exact hz
            have np : H (s.heap.objs.size + 1) = none := I.hok.fresh (Nat.le_succ _)
            rw [em0] at q
            exact ⟨.ref _, upd H (s.heap.objs.size + 1) (.lst _), I.laid (t' := s.toks) (fun _ _ => sortedAll_old) (Nat.le_succ _) ⟨hlen, out, ep, v1, he⟩, rfl, q.newL sa v2 _ np⟩
      · cases em
    | [.tuple xs], em =>
      obtain ⟨v, rfl, r1⟩ := repAll1 ra
      have em0 := em
      simp only [pySorted] at em
      split at em
      · rename_i hs
        cases em
        obtain ⟨al, so, ft⟩ := sortable_spec hs
        cases r1 with
        | tup h a =>
          rename_i l ws
          obtain ⟨its, rv, pl, hz⟩ := I.tuple (same_seqT sa h)
          rw [Vals.ref1 r]
          obtain ⟨e1, e2⟩ := reads_all I sa a rv ft
          have hzip := zip_snd a.length
          have hl : (ws.zip xs).length = ws.length := by
            rw [List.length_zip, a.length]
            omega
          refine PySem.W.sortedT_data (enc := fun b : V × D => b.2) pl e1 e2 (by rw [hzip]; exact al) (by rw [hzip]; exact so) (by rw [hl]; exact hz) (fun b hb => ?_) fun out ho hout => ?_
          · have : b.2 ∈ xs := by
              rw [← hzip]
              exact List.mem_map.mpr ⟨b, hb, rfl⟩
            have := fit_depth (List.all_eq_true.mp ft _ this)
            omega
          · obtain ⟨v1, v2⟩ := each_vals hout
            have em : ((ws.zip xs).mergeSort (PySem.W.dataLe false fun b => b.2)).map (·.2) = sortD xs := by
              have := PySem.W.sort_maps (r := PySem.W.dataLe false fun b : V × D => b.2) (s := PySem.W.dataLe false fun d : D => d) (fun b : V × D => b.2) (l := ws.zip xs) (fun _ _ _ _ => rfl)
              rw [this, hzip]
              rfl
            rw [em] at v2
            obtain ⟨ep, he⟩ := sortedAll_at s.heap its out.toArray
            have hlen : (((ws.zip xs).mergeSort (PySem.W.dataLe false fun b => b.2)).map (·.1)).length ≤ sizeLine := by
              rw [List.length_map, List.length_mergeSort, hl]
              exact hz
            have np : H (s.heap.objs.size + 1) = none := I.hok.fresh (Nat.le_succ _)
            rw [em0] at q
            exact ⟨.ref _, upd H (s.heap.objs.size + 1) (.lst _), I.laid (t' := s.toks) (fun _ _ => sortedAll_old) (Nat.le_succ _) ⟨hlen, out, ep, v1, he⟩, rfl, q.newL sa v2 _ np⟩
      · cases em
    | [.none], em | [.bool _], em | [.int _], em | [.dict _], em | [.str _], em | [], em => cases em
    | _ :: _ :: _, em => simp only [pySorted] at em; cases em
theorem xf_callB {x : Str} {p : Pos} {id : String} {es : List Expr} {mk : CP} {f : List D → R D} (hc : CallF X E (.builtin id) f) (hm : X.mg x = none) (ha : XAk X E ρ (a :: es) mk) (hv : bootBuiltins x = some (.builtin id) := by decide +kernel) (hg : Gl X x := by rfl) (hn : x ≠ "__name__" := by decide)
    (hdb : (x == ("__debug__" : Str)) = false := by decide) (he : starEach (a :: es) X.env = (false, eval a X.env) :: starEach es X.env := by rfl) (hpl : (backTo pos (starEach es X.env)).any (·.1) = false := by rfl) : XF X E ρ (.Call (.Name x p) (a :: es) [] pos) (mk D f) := by
  obtain ⟨m, e, _, h⟩ := ha
  rw [e]
  refine pe_weak (pe_callB hc hg hm hv h hn hdb he hpl) fun σ H Q hq => ?_
  obtain ⟨G, s, ep, q⟩ := hq
  refine ⟨G, s, ep, ?_⟩
  cases m with
  | no => exact q
  | ex c => exact q
  | ok ts =>
    intro vs G1 H1 fr r
    refine ⟨G1, ts, fr.gh, r, ?_⟩
    have q' : PostF X.K X.mg E G H (f ts) Q := q
    cases ef : f ts with
    | no => rw [ef] at q'; exact q'.elim
    | ex c => rw [ef] at q'; exact fun H' s' => q' H' (fr.hh.trans s')
    | ok t =>
      rw [ef] at q'
      exact fun p G2 H2 fr2 np o => q' p G2 H2 (fr.trans fr2) (by
        cases z : H p with
        | none => rfl
        | some o => rw [fr.hh _ _ z] at np; cases np) o
theorem xf_callT {x : Str} {p : Pos} {T : String} {es : List Expr} {mk : CP} {f : List D → R D} (hc : CallF X E (.type T) f) (hm : X.mg x = none) (ha : XAk X E ρ (a :: es) mk) (hv : bootBuiltins x = some (.type T) := by decide +kernel) (hg : Gl X x := by rfl) (hn : x ≠ "__name__" := by decide)
    (hdb : (x == ("__debug__" : Str)) = false := by decide) (he : starEach (a :: es) X.env = (false, eval a X.env) :: starEach es X.env := by rfl) (hpl : (backTo pos (starEach es X.env)).any (·.1) = false := by rfl) : XF X E ρ (.Call (.Name x p) (a :: es) [] pos) (mk D f) := by
  obtain ⟨m, e, _, h⟩ := ha
  rw [e]
  refine pe_weak (pe_callTy hc hg hm hv h hn hdb he hpl) fun σ H Q hq => ?_
  obtain ⟨G, s, ep, q⟩ := hq
  refine ⟨G, s, ep, ?_⟩
  cases m with
  | no => exact q
  | ex c => exact q
  | ok ts =>
    intro vs G1 H1 fr r
    refine ⟨G1, ts, fr.gh, r, ?_⟩
    have q' : PostF X.K X.mg E G H (f ts) Q := q
    cases ef : f ts with
    | no => rw [ef] at q'; exact q'.elim
    | ex c => rw [ef] at q'; exact fun H' s' => q' H' (fr.hh.trans s')
    | ok t =>
      rw [ef] at q'
      exact fun p G2 H2 fr2 np o => q' p G2 H2 (fr.trans fr2) (by
        cases z : H p with
        | none => rfl
        | some o => rw [fr.hh _ _ z] at np; cases np) o
/-! ### list(range(..)), tuple(range(..)) -/
def rdRg (K : PySem.W.Frag) (mg : Str → Option Value) (E : XK) (ρ : En) (m : R (Int × Int)) : L2.St → Hp → (Int → Int → Hp → Prop) → Prop := fun σ H Q => ∃ G, Same G H ∧ Ep K G ρ σ ∧ match m with
  | .no => False
  | .ex c => ∀ H', Same H H' → E (cls mg c) none H'
  | .ok p => ∀ G' H', Fr G H G' H' → Q p.1 p.2 H'
def XRg (X : Cx) (E : XK) (ρ : En) (e : Expr) (m : R (Int × Int)) : Prop := PRg X e (rdRg X.K X.mg E ρ m)
def asInt : D → R Int
  | .int i => .ok i
  | _ => .no
theorem prg_weak {e : Expr} {t t' : L2.St → Hp → (Int → Int → Hp → Prop) → Prop} (h : PRg X e t) (f : ∀ σ H Q, t' σ H Q → t σ H Q) : PRg X e t' := fun pins s σ H Q I q => h pins s σ H Q I (f _ _ _ q)
theorem xrg_1 {p : Pos} (hm : X.mg "range" = none) (ha : XP X E ρ a m) (hg : Gl X "range" := by rfl) (na : starEach [a] X.env = (false, eval a X.env) :: starEach [] X.env := by rfl) : XRg X E ρ (.Call (.Name "range" p) [a] [] pos) (m.bind fun x => (asInt x).bind fun n => .ok (0, n)) :=
  prg_weak (prg_1 hg hm ha na) fun σ H Q ⟨G, s, ep, q⟩ => ⟨G, s, ep, by
    cases m with
    | no => exact q
    | ex c => exact q
    | ok d =>
      intro v G1 H1 fr r
      cases r with
      | int i => exact ⟨i, rfl, q G1 H1 fr⟩
      | _ => exact q.elim⟩
theorem xrg_2 {p : Pos} {mb : R D} (hm : X.mg "range" = none) (ha : XP X E ρ a m) (hb : XP X E ρ b mb) (hg : Gl X "range" := by rfl) (na : starEach [a, b] X.env = (false, eval a X.env) :: starEach [b] X.env := by rfl)
    (nb : starEach [b] X.env = (false, eval b X.env) :: starEach [] X.env := by rfl) (hp : (backTo pos (starEach [b] X.env)).any (·.1) = false := by rfl) : XRg X E ρ (.Call (.Name "range" p) [a, b] [] pos) (m.bind fun x => mb.bind fun y => (asInt x).bind fun i => (asInt y).bind fun j => .ok (i, j)) :=
  prg_weak (prg_2 hg hm ha hb na nb hp) fun σ H Q ⟨G, s, ep, q⟩ => ⟨G, s, ep, by
    cases m with
    | no => exact q
    | ex c => exact q
    | ok d =>
      intro v G1 H1 fr r
      refine ⟨G1, fr.gh, ep.mono fr.gg, ?_⟩
      cases mb with
      | no => exact q
      | ex c => exact fun H' s' => q H' (fr.hh.trans s')
      | ok d2 =>
        intro v2 G2 H2 fr2 r2
        cases r with
        | int i => cases r2 with
          | int j => exact ⟨i, j, rfl, rfl, q G2 H2 (fr.trans fr2)⟩
          | _ => exact q.elim
        | _ => exact q.elim⟩
def rgOk (a b : Int) : Bool := decide (-(2 ^ 62) ≤ a ∧ a < 2 ^ 62 ∧ -(2 ^ 62) ≤ b ∧ b < 2 ^ 62 ∧ (b - a).toNat ≤ 2 ^ 24)
def rgL (p : Int × Int) : R (List D) := if rgOk p.1 p.2 = true then .ok (upto p.1 (p.2 - p.1).toNat) else .no
theorem rg_rep {K : PySem.W.Frag} {G : Hp} {a b : Int} : RepAll K G (rgV a b) (upto a (b - a).toNat) := by
  unfold rgV upto
  have key : ∀ l : List Nat, RepAll K G (l.map fun i : Nat => V.int (a + (i : Nat))) (l.map fun k : Nat => (PyData.int (a + k))) := by
    intro l
    induction l with
    | nil => exact .nil
    | cons x l ih => exact .cons (.int _) ih
  exact key _
theorem xf_listRg {e : Expr} {mr : R (Int × Int)} {p : Pos} (hm : X.mg "list" = none) (he : XRg X E ρ e mr) (hc : X.calm = true := by rfl) (hg : Gl X "list" := by rfl) (na : starEach [e] X.env = (false, eval e X.env) :: starEach [] X.env := by rfl) : XF X E ρ (.Call (.Name "list" p) [e] [] pos) (mr.bind fun q => (rgL q).bind fun ts => .ok (.list ts)) :=
  pe_weak (pe_listRg hc hg hm he na) fun σ H Q ⟨G, s, ep, q⟩ => ⟨G, s, ep, by
    cases mr with
    | no => exact q
    | ex c => exact q
    | ok r =>
      intro G1 H1 fr
      have q' : PostF X.K X.mg E G H ((rgL r).bind fun ts => .ok (.list ts)) Q := q
      unfold rgL at q'
      by_cases hr : rgOk r.1 r.2 = true
      · rw [if_pos hr] at q'
        refine ⟨by unfold RgOk; exact of_decide_eq_true hr, fun p np => ?_⟩
        have hp : H p = none := by
          cases z : H p with
          | none => rfl
          | some o => rw [fr.hh _ _ z] at np; cases np
        exact q' p G1 _ (fr.trans (Fr.newU fr.gh np)) hp (own_new fr.gh np rg_rep)
      · rw [if_neg hr] at q'
        exact q'.elim⟩
def tTupRgU (te : L2.St → Hp → (Int → Int → Hp → Prop) → Prop) : TE := fun σ H Q => te σ H fun a b H1 => RgOk a b ∧ ∀ p u, H1 p = none → TupH u (rgV a b) → Q (.ref p) (upd H1 p u)
theorem pe_tupRgU {X : Cx} {e : Expr} {te : L2.St → Hp → (Int → Int → Hp → Prop) → Prop} {p pos : Pos} (hc : X.calm = true) (hg : Gl X "tuple") (hm : X.mg "tuple" = none) (he : PRg X e te) (na : starEach [e] X.env = (false, eval e X.env) :: starEach [] X.env := by rfl) : PE X (.Call (.Name "tuple" p) [e] [] pos) (tTupRgU te) := by
  refine ⟨fun pins s σ H Q I h => ?_⟩
  refine Call_ (ld_blt I hg hm boot_tuple (PyProof.Rows.callWith_type1 (args_cons (thn (he pins s σ H _ I h) fun x s1 ⟨r, a, b, t, u, v, H1, ex, hr, I1, ok, q⟩ => args_nil ?_) na) na))
  subst ex
  obtain ⟨b1, b2, b3, b4, b5⟩ := ok
  refine call_tuple_range (n := (b - a).toNat) (I1.ok.hd hc) hr (small_one b1 b2 b3 b4) (rangeSize_nat a b) b5 fun h' tk acc hk hi => ?_
  have I2 : Inv X pins σ H1 { s1 with heap := h', toks := tk } := I1.kept hk
  refine ⟨.ref h'.objs.size, upd H1 h'.objs.size (.frz { cls := .type "tuple", data := .seq acc } (.tup (rgV a b))), I2.laid (t' := tk) (fun c o e => Heap.get?_push_of_some _ e) (Nat.le_refl _) (okU (its := acc.toList) (n := 0) ?_ (vals_rg hi) (Heap.get?_push_size _ rfl) rfl ?_), rfl, q _ _ (I2.hok.fresh (Nat.le_refl _)) ⟨_, ⟨rfl, rfl⟩, rfl⟩⟩
  · rw [rgV_length, sizeLine_eq]; omega
  · rw [Array.toArray_toList]
theorem xp_tupRg {e : Expr} {mr : R (Int × Int)} {p : Pos} (hm : X.mg "tuple" = none) (he : XRg X E ρ e mr) (hc : X.calm = true := by rfl) (hg : Gl X "tuple" := by rfl) (na : starEach [e] X.env = (false, eval e X.env) :: starEach [] X.env := by rfl) : XP X E ρ (.Call (.Name "tuple" p) [e] [] pos) (mr.bind fun q => (rgL q).bind fun ts => .ok (.tuple ts)) :=
  pe_weak (pe_tupRgU hc hg hm he na) fun σ H Q ⟨G, s, ep, q⟩ => ⟨G, s, ep, by
    cases mr with
    | no => exact q
    | ex c => exact q
    | ok r =>
      intro G1 H1 fr
      have q' : PostP Rep X.K X.mg E G H ((rgL r).bind fun ts => .ok (.tuple ts)) Q := q
      unfold rgL at q'
      by_cases hr : rgOk r.1 r.2 = true
      · rw [if_pos hr] at q'
        refine ⟨by unfold RgOk; exact of_decide_eq_true hr, fun p u np tu => ?_⟩
        exact q' _ _ _ (fr.trans (Fr.new fr.gh np)) (rep_newT fr.gh np tu rg_rep)
      · rw [if_neg hr] at q'
        exact q'.elim⟩
end
end TL
/-! the tree layer, 15: sorted(set(..)), stores, op=, while -/
namespace TL
open PySem PySem.Spec PyProof.Rows L2
section
variable {X : Cx} {E : XK} {ρ : En} {a b : Expr} {m : R D} {pos p2 : Pos}
def rSetOf (K : PySem.W.Frag) (w : World) : List V → Hp → VK → Prop := fun vs H Q => ∃ (l : Addr) (ns : List Int), vs = [.ref l] ∧ (SqL K H l (ns.map V.int) ∨ SqT K H l (ns.map V.int)) ∧ ns.length + 1 < scanBound ∧
  ∀ p c, H p = none → c ≤ ns.length → Q (.ref p) (upd H p (SetO w p (fun j => decide (j ∈ ns)) c))
theorem cr_setOf (hc : X.calm = true) : CallR X (.type "set") (rSetOf X.K X.w) := by
  intro pins s σ H vs us Q I r h
  obtain ⟨l, ns, rfl, hl, few, q⟩ := h
  have hn : H s.heap.objs.size = none := I.hok.fresh (Nat.le_refl _)
  rw [Vals.ref1 r]
  rcases hl with hl | hl
  · obtain ⟨its, rv, pl, hz⟩ := I.list hl
    refine setOfL ns (I.ok.hd hc) pl.isList (by rw [List.toList_toArray]; exact intsAre_of rv) few fun g tk c R lec kp => ?_
    exact ⟨.ref _, upd H s.heap.objs.size (SetO X.w s.heap.objs.size (fun j => decide (j ∈ ns)) c), I.laid (t' := tk) kp (Nat.le_refl _) (setO_new R), rfl, q _ c hn lec⟩
  · obtain ⟨its, rv, pl, hz⟩ := I.tuple hl
    refine setOfT ns (I.ok.hd hc) pl (by rw [List.toList_toArray]; exact intsAre_of rv) few fun g tk c R lec kp => ?_
    exact ⟨.ref _, upd H s.heap.objs.size (SetO X.w s.heap.objs.size (fun j => decide (j ∈ ns)) c), I.laid (t' := tk) kp (Nat.le_refl _) (setO_new R), rfl, q _ c hn lec⟩
/-- the members, rising -/
def insN (k : Int) : List Int → List Int
  | [] => [k]
  | x :: xs => if k < x then k :: x :: xs else if k = x then x :: xs else x :: insN k xs
def setN' (ns : List Int) : List Int := ns.foldr insN []
theorem insN_mem {k j : Int} : ∀ {xs : List Int}, j ∈ insN k xs ↔ j = k ∨ j ∈ xs
  | [] => by simp [insN]
  | x :: xs => by
    unfold insN
    split
    · simp
    · split
      · rename_i h
        subst h
        simp
      · simp only [List.mem_cons, insN_mem (xs := xs)]
        constructor
        · rintro (h | h | h) <;> simp [h]
        · rintro (h | h | h) <;> simp [h]
theorem insN_up {k : Int} : ∀ {xs : List Int}, xs.Pairwise (· < ·) → (insN k xs).Pairwise (· < ·)
  | [], _ => by simp [insN]
  | x :: xs, h => by
    obtain ⟨h1, h2⟩ := List.pairwise_cons.mp h
    unfold insN
    split
    · rename_i hk
      exact List.pairwise_cons.mpr ⟨fun y hy => by
        rcases List.mem_cons.mp hy with z | z
        · rw [z]; exact hk
        · exact Int.lt_trans hk (h1 y z), h⟩
    · split
      · exact h
      · rename_i h3 h4
        refine List.pairwise_cons.mpr ⟨fun y hy => ?_, insN_up h2⟩
        rcases insN_mem.mp hy with z | z
        · rw [z]; omega
        · exact h1 y z
theorem setN'_mem {j : Int} : ∀ {ns : List Int}, j ∈ setN' ns ↔ j ∈ ns
  | [] => by simp [setN']
  | n :: ns => by
    show j ∈ insN n (setN' ns) ↔ _
    rw [insN_mem, setN'_mem (ns := ns), List.mem_cons]
theorem setN'_up : ∀ {ns : List Int}, (setN' ns).Pairwise (· < ·)
  | [] => List.Pairwise.nil
  | n :: ns => insN_up setN'_up
theorem up_eq : ∀ {xs ys : List Int}, xs.Pairwise (· < ·) → ys.Pairwise (· < ·) → (∀ k, k ∈ xs ↔ k ∈ ys) → xs = ys
  | [], [], _, _, _ => rfl
  | [], y :: ys, _, _, h => absurd ((h y).mpr List.mem_cons_self) List.not_mem_nil
  | x :: xs, [], _, _, h => absurd ((h x).mp List.mem_cons_self) List.not_mem_nil
  | x :: xs, y :: ys, h1, h2, h => by
    obtain ⟨a1, b1⟩ := List.pairwise_cons.mp h1
    obtain ⟨a2, b2⟩ := List.pairwise_cons.mp h2
    have e : x = y := by
      rcases List.mem_cons.mp ((h x).mp List.mem_cons_self) with z | z
      · exact z
      · rcases List.mem_cons.mp ((h y).mpr List.mem_cons_self) with z2 | z2
        · exact z2.symm
        · have := a2 x z
          have := a1 y z2
          omega
    subst e
    rw [up_eq b1 b2 fun k => ⟨fun hk => ?_, fun hk => ?_⟩]
    · rcases List.mem_cons.mp ((h k).mp (List.mem_cons_of_mem _ hk)) with z | z
      · have := a1 k hk; omega
      · exact z
    · rcases List.mem_cons.mp ((h k).mpr (List.mem_cons_of_mem _ hk)) with z | z
      · have := a2 k hk; omega
      · exact z
theorem setN'_len : ∀ {ns : List Int}, (setN' ns).length ≤ ns.length
  | [] => Nat.le_refl _
  | n :: ns => by
    have key : ∀ xs : List Int, (insN n xs).length ≤ xs.length + 1 := by
      intro xs
      induction xs with
      | nil => simp [insN]
      | cons x xs ih =>
        unfold insN
        split
        · simp
        · split
          · simp
          · simp only [List.length_cons]; omega
    have := key (setN' ns)
    have := setN'_len (ns := ns)
    show (insN n (setN' ns)).length ≤ ns.length + 1
    omega
def setLD (ts : List D) : R D := match nums ts with
  | some ns => if ns.length < 64 then .ok (.list ((setN' ns).map .int)) else .no
  | none => .no
def pySortedSet (d : D) : R D := match d with
  | .list ts => setLD ts
  | .tuple ts => setLD ts
  | _ => .no
/-- sorted(set(a)), a a list of whole numbers -/
theorem xf_sortedSet {p p1 pos1 : Pos} (hm : X.mg "sorted" = none) (hms : X.mg "set" = none) (ha : XP X E ρ a m) (hc : X.calm = true := by rfl) (hg : Gl X "sorted" := by rfl) (hgs : Gl X "set" := by rfl)
    (he : starEach [a] X.env = (false, eval a X.env) :: starEach [] X.env := by rfl) (he2 : starEach [.Call (.Name "set" p1) [a] [] pos1] X.env = (false, eval (.Call (.Name "set" p1) [a] [] pos1) X.env) :: starEach [] X.env := by rfl) :
    XF X E ρ (.Call (.Name "sorted" p) [.Call (.Name "set" p1) [a] [] pos1] [] pos) (m.bind pySortedSet) :=
  pe_weak (pe_callB (cr_sortedSet hc) hg hm (by decide +kernel) (pa_cons (pe_callTy (cr_setOf hc) hgs hms (by decide +kernel) (pa_cons ha pa_nil he) (by decide) (by decide) he rfl) pa_nil he2) (by decide) (by decide) he2 rfl) fun σ H Q ⟨G, s, ep, q⟩ => ⟨G, s, ep, by
    cases m with
    | no => exact q
    | ex c => exact q
    | ok d =>
      intro v G1 H1 fr r
      have q' : PostF X.K X.mg E G H (pySortedSet d) Q := q
      cases r with
      | @lst l xs ts e ra =>
        have q' : PostF X.K X.mg E G H (setLD ts) Q := q'
        unfold setLD at q'
        cases en : nums ts with
        | none => rw [en] at q'; exact q'.elim
        | some ns =>
          rw [en] at q'
          have q' : PostF X.K X.mg E G H (if ns.length < 64 then .ok (.list ((setN' ns).map .int)) else .no) Q := q'
          split at q'
          · rename_i h64
            rw [nums_eq en] at ra
            rw [repAll_nums ra] at e
            refine ⟨l, ns, rfl, .inl (same_lst fr.gh e), by show _ < 4096; omega, fun p c np lec => ?_⟩
            have f2 := Fr.newU (o := SetO X.w p (fun j => decide (j ∈ ns)) c) fr.gh np
            refine ⟨p, _, c, rfl, upd_same, by omega, fun ks q2 hk hmem hlen nq => ?_⟩
            have ek : ks = setN' ns := up_eq hk setN'_up fun k => by rw [hmem, setN'_mem]; exact decide_eq_true_iff
            subst ek
            have hq : H q2 = none := by
              cases z : H q2 with
              | none => rfl
              | some o => rw [f2.hh _ _ (fr.hh _ _ z)] at nq; cases nq
            exact q' q2 G1 _ ((fr.trans f2).trans (Fr.newU f2.gh nq)) hq (own_new f2.gh nq (nums_repAll _))
          · exact q'.elim
      | @tup l xs ts e ra =>
        have q' : PostF X.K X.mg E G H (setLD ts) Q := q'
        unfold setLD at q'
        cases en : nums ts with
        | none => rw [en] at q'; exact q'.elim
        | some ns =>
          rw [en] at q'
          have q' : PostF X.K X.mg E G H (if ns.length < 64 then .ok (.list ((setN' ns).map .int)) else .no) Q := q'
          split at q'
          · rename_i h64
            rw [nums_eq en] at ra
            rw [repAll_nums ra] at e
            refine ⟨l, ns, rfl, .inr (same_seqT fr.gh e), by show _ < 4096; omega, fun p c np lec => ?_⟩
            have f2 := Fr.newU (o := SetO X.w p (fun j => decide (j ∈ ns)) c) fr.gh np
            refine ⟨p, _, c, rfl, upd_same, by omega, fun ks q2 hk hmem hlen nq => ?_⟩
            have ek : ks = setN' ns := up_eq hk setN'_up fun k => by rw [hmem, setN'_mem]; exact decide_eq_true_iff
            subst ek
            have hq : H q2 = none := by
              cases z : H q2 with
              | none => rfl
              | some o => rw [f2.hh _ _ (fr.hh _ _ z)] at nq; cases nq
            exact q' q2 G1 _ ((fr.trans f2).trans (Fr.newU f2.gh nq)) hq (own_new f2.gh nq (nums_repAll _))
          · exact q'.elim
      | _ => exact q'.elim⟩
end
end TL
/-! the tree layer, 16: stores, op=, while, defs -/
namespace TL
open PySem PySem.Spec PyProof.Rows L2
def setD : D → D → D → R D
  | .list ts, .int k, v => match ixN ts.length k with
    | some j => .ok (.list (ts.set j v))
    | none => .no
  | _, _, _ => .no
def iopD (f : Int → Int → Int) : D → D → R D
  | .int i, .int j => .ok (.int (f i j))
  | _, _ => .no
section
variable {X : Cx} {E : XK} {io fr : Bool} {own own' own1 : List Nat} {ρ ρ' : En} {A B : Type} {st : Stmt} {rest : List Stmt} {post : A → Fin} {e : Expr} {pos : Pos}
/-- x[k] = e, x the slot's own list -/
theorem ss_store {x : Str} {ix : Expr} {px tpos : Pos} {J : Type} {emb : J → En} (i : Nat) {ts : A → D} (pk : A → D → J) {m : R A} {val : A → D} {env : A → En} {mi : A → R D}
    (he : VP X E own ρ e m val env) (hx : ∀ a, XP X E (hideE own (env a)) ix (mi a)) (ht : ∀ a, getN (env a) i = some (ts a) := by intro _; rfl) (hpk : ∀ a r, emb (pk a r) = setN (env a) i (some r) := by intro _ _; rfl) (hi : i ∈ own := by decide) (hN : X.N[i]? = some x := by rfl)
    (hv : Vis X.env.scope x := by first | exact Or.inl rfl | exact Or.inr (Or.inl rfl) | exact Or.inr (Or.inr rfl)) (hd : (x == ("__debug__" : Str)) = false := by decide) (hcd : (x == ("__classdict__" : Str)) = false := by decide)
    (hass : ∀ v, assign (.Subscript (.Name x px) ix tpos) X.env v = (do
      let ov ← holding [v] (eval (.Name x px) X.env)
      let iv ← holding [v, ov] (eval ix X.env)
      standAt tpos
      holding [v, ov, iv] (setItem ov iv v)
      release [v, ov, iv] []) := by intro _; rfl)
    (hs : swapsWithSole [.Subscript (.Name x px) ix tpos] e pos.line X.env = pure false := by rfl) (hw : swappedStores [.Subscript (.Name x px) ix tpos] e X.env = pure none := by rfl)
    (h1 : (assignEach [.Subscript (.Name x px) ix tpos] X.env).map (·.2) = [assign (.Subscript (.Name x px) ix tpos) X.env] := by rfl) :
    SS X E io fr own ρ (.Assign [.Subscript (.Name x px) ix tpos] e pos) (m.bind fun a => (mi a).bind fun k => (setD (ts a) k (val a)).bind fun r => .ok (pk a r)) (fun j => .nx (emb j)) own :=
  ps_weak (t := tAsg (rdV X.K X.mg E own ρ m val env) (fun v σ H Q => ∃ a, (gSub (tVar i) (rdP X.K X.mg E (hideE own (env a)) (mi a)) rSetL) v σ H Q)) (ps_asg he ⟨fun pins s σ H v u Q I r ⟨a, q⟩ => (pg_sub (pe_var hN hv hd hcd) (hx a) set_list hass).run pins s σ H v u Q I r q⟩ hs hw h1) fun Dn σ H hq => by
    obtain ⟨G0, H0, A0, ad, G, er, f, q⟩ := hq
    refine ⟨ad, G, er, ?_⟩
    cases em : m with
    | no => rw [em] at q; exact q.elim
    | ex c => rw [em] at q; exact fun H' s => q H' fun b o e hne => s _ _ (f.h0 b o e hne)
    | ok a =>
      rw [em] at q
      intro v G' H' er' fr' r
      have f' := f.next er fr' er'
      obtain ⟨t0, e0, es0, o0⟩ := er'.ow i hi
      refine ⟨a, _, es0, G', er'.gh, er'.ep_hide, ?_⟩
      have q1 : PostR X.K X.mg E io fr G0 H0 A0 own ((mi a).bind fun k => (setD (ts a) k (val a)).bind fun r => .ok (pk a r)) (fun j => .nx (emb j)) Dn := q
      cases ei : mi a with
      | no => rw [ei] at q1; exact q1.elim
      | ex c => rw [ei] at q1; exact fun H' s => q1 H' fun b o e hne => s _ _ (f'.h0 b o e hne)
      | ok k =>
        rw [ei] at q1
        intro kv G2 H2 fr2 rk
        have er2 := er_pure er' fr2
        have f2 := f'.next er' fr2.toO er2
        have q2 : PostR X.K X.mg E io fr G0 H0 A0 own ((setD (ts a) k (val a)).bind fun r => .ok (pk a r)) (fun j => .nx (emb j)) Dn := q1
        cases rk with
        | int n =>
          have et := ht a
          cases ety : ts a with
          | list us =>
            rw [ety] at q2 et
            obtain ⟨xs, es, eh, rr⟩ := er2.ownL hi et
            have q3 : PostR X.K X.mg E io fr G0 H0 A0 own ((match ixN us.length n with
              | some j => R.ok (PyData.list (us.set j (val a)))
              | none => R.no).bind fun r => .ok (pk a r)) (fun j => .nx (emb j)) Dn := q2
            cases ej : ixN us.length n with
            | none => rw [ej] at q3; exact q3.elim
            | some j =>
              rw [ej] at q3
              refine ⟨_, xs, n, j, rfl, rfl, eh, by rw [rr.length]; exact ej, ?_⟩
              have on := own_at (H := H2) (er2.g_none hi) (rr.set (v := v) (d := val a) (r.mono fr2.gg) j)
              obtain ⟨er3, fr3⟩ := er2.write hi on
              exact q3 ad σ G2 _ (by rw [hpk]; exact er3) (f2.next er2 fr3 er3)
          | _ => rw [ety] at q2; exact q2.elim
        | _ => simp only [setD] at q2; first | exact q2.elim | (cases ety : ts a <;> rw [ety] at q2 <;> exact q2.elim)
/-- x op= e, whole numbers -/
theorem ss_aug {x : Str} {px : Pos} {op : Operator} {g : Int → Int → Int} (i : Nat) {t : D} {m : R A} {val : A → D} {env : A → En} (hop : PIp X op (ipI g)) (hN : X.N.Nodup) (he : VP X E own ρ e m val env) (ht : getN ρ i = some t := by rfl) (hi : i ∉ own := by decide) (hx : X.N[i]? = some x := by rfl) (hl : Loc X.env.scope x := by first | exact .inl rfl | exact .inr rfl)
    (hf : X.fn x = true ∨ X.env.scope.names.lookup x = some .local := by first | exact .inl rfl | exact .inr rfl) :
    SS X E io fr own ρ (.AugAssign (.Name x px) op e pos) (m.bind fun a => (iopD g t (val a)).bind fun r => .ok (a, r)) (fun p => .nx (setN (env p.1) i (some p.2))) own :=
  ps_weak (ps_aug hN hx hl he hop hf) fun Dn σ H hq => by
    obtain ⟨G0, H0, A0, ad, G, er, f, q⟩ := hq
    obtain ⟨v0, e0, r0⟩ := er.fz i t ht hi
    refine ⟨v0, e0, ad, G, er, ?_⟩
    cases em : m with
    | no => rw [em] at q; exact q.elim
    | ex c => rw [em] at q; exact fun H' s => q H' fun b o e hne => s _ _ (f.h0 b o e hne)
    | ok a =>
      rw [em] at q
      intro v G' H' er' fr' r
      have q1 : PostR X.K X.mg E io fr G0 H0 A0 own ((iopD g t (val a)).bind fun r => .ok (a, r)) (fun p => .nx (setN (env p.1) i (some p.2))) Dn := q
      cases et : t with
      | int n =>
        cases ev : val a with
        | int k =>
          rw [et, ev] at q1
          rw [et] at r0
          rw [ev] at r
          cases r0
          cases r
          exact ⟨n, k, rfl, rfl, q1 ad _ G' H' (er'.setO hi (.int _)) (f.next er fr' er')⟩
        | _ => rw [et, ev] at q1; exact q1.elim
      | _ => rw [et] at q1; exact q1.elim
/-! ### while -/
def whO {B J : Type} (mc : J → R B) (vb : B → Bool) (mb : J → B → R (Oc J)) (out : J → B → J) : Nat → J → R (Oc J)
  | 0, _ => .no
  | n + 1, j => (mc j).bind fun b => if vb b = true then (mb j b).bind fun o => match o with
    | .nx j' => whO mc vb mb out n j'
    | .rt t b => .ok (.rt t b)
    | .bk j' => .ok (.nx j') else .ok (.nx (out j b))
theorem whO_succ {B J : Type} {mc : J → R B} {vb : B → Bool} {mb : J → B → R (Oc J)} {out : J → B → J} : ∀ (n : Nat) (j : J), whO mc vb mb out n j ≠ .no → whO mc vb mb out (n + 1) j = whO mc vb mb out n j
  | 0, j, h => absurd rfl h
  | n + 1, j, h => by
    unfold whO at h ⊢
    cases hm : mc j with
    | no => rfl
    | ex c => rfl
    | ok b =>
      rw [hm] at h
      simp only [R.ok_bind] at h ⊢
      cases hb : vb b with
      | false => simp
      | true =>
        rw [hb] at h
        simp only [if_true] at h ⊢
        cases hmb : mb j b with
        | no => rfl
        | ex c => rfl
        | ok o =>
          rw [hmb] at h
          cases o with
          | nx j' => exact whO_succ n j' h
          | rt t b => rfl
          | bk j' => rfl
theorem whO_le {B J : Type} {mc : J → R B} {vb : B → Bool} {mb : J → B → R (Oc J)} {out : J → B → J} {n : Nat} {j : J} (h : whO mc vb mb out n j ≠ .no) : ∀ k, whO mc vb mb out (n + k) j = whO mc vb mb out n j
  | 0 => rfl
  | k + 1 => by
    have := whO_le h k
    rw [show n + (k + 1) = (n + k) + 1 from rfl, whO_succ (n + k) j (by rw [this]; exact h), this]
open Classical in
/-- the loop's end, if it comes -/
noncomputable def whX {B J : Type} (mc : J → R B) (vb : B → Bool) (mb : J → B → R (Oc J)) (out : J → B → J) (j : J) : R (Oc J) :=
  if h : ∃ n, whO mc vb mb out n j ≠ .no then whO mc vb mb out h.choose j else .no
theorem whX_eq {B J : Type} {mc : J → R B} {vb : B → Bool} {mb : J → B → R (Oc J)} {out : J → B → J} {n : Nat} {j : J} (h : whO mc vb mb out n j ≠ .no) : whX mc vb mb out j = whO mc vb mb out n j := by
  have hx : ∃ n, whO mc vb mb out n j ≠ .no := ⟨n, h⟩
  unfold whX
  rw [dif_pos hx]
  have hc := hx.choose_spec
  rcases Nat.le_total n hx.choose with hl | hl
  · obtain ⟨k, e⟩ := Nat.exists_eq_add_of_le hl
    rw [e]
    exact whO_le h k
  · obtain ⟨k, e⟩ := Nat.exists_eq_add_of_le hl
    have := whO_le hc k
    rw [← e] at this
    exact this.symm
theorem whX_some {B J : Type} {mc : J → R B} {vb : B → Bool} {mb : J → B → R (Oc J)} {out : J → B → J} {j : J} (h : whX mc vb mb out j ≠ .no) : ∃ n, whX mc vb mb out j = whO mc vb mb out n j := by
  unfold whX at h ⊢
  by_cases hx : ∃ n, whO mc vb mb out n j ≠ .no
  · rw [dif_pos hx]
    exact ⟨_, rfl⟩
  · rw [dif_neg hx] at h
    exact absurd rfl h
/-- while c: body -/
theorem ss_whileO {J : Type} {c : Expr} {body : List Stmt} {emb : J → En} {mc : J → R B} {vb : B → Bool} {mb : J → B → R (Oc J)} {env : J → B → En} (j0 : J) (out : J → B → J) (hpass : PassesOwn (model X.prog X.w) X.A X.env X.xe) (hc : ∀ j, VB X E own (emb j) c (mc j) vb (env j))
    (hb : ∀ j b, BS X E io fr own (env j b) body (mb j b) (postO emb) own) (h0 : ρ = emb j0 := by rfl) (hx : ∀ j b, env j b = emb (out j b) := by intro _ _; rfl) :
    SS X E io fr own ρ (.While c body [] pos) (whX mc vb mb out j0) (postO emb) own := by
  subst h0
  let tb : TS := fun Dn σ H => ∃ j b, rdS X.K X.mg E io fr own (env j b) (mb j b) (postO emb) own Dn σ H
  have hbody : PSs X body tb := ⟨fun pins s σ H Dn I ⟨j, b, hq⟩ => (hb j b).run pins s σ H Dn I hq⟩
  let tc : TT := fun σ H Q => ∃ j, rdVB X.K X.mg E own (emb j) (mc j) vb (env j) σ H Q
  have hcond : PT X c tc := ⟨fun pins s σ H Q I ⟨j, hq⟩ => (hc j).run pins s σ H Q I hq⟩
  refine ps_weak (ps_while hpass hcond hbody) fun Dn σ H hq => ?_
  obtain ⟨G0, H0, A0, ad0, G, er, f, q⟩ := hq
  have hne : whX mc vb mb out j0 ≠ .no := fun z => by rw [z] at q; exact q.elim
  obtain ⟨n0, e0⟩ := whX_some hne
  rw [e0] at q
  refine ⟨fun n σ H => ∃ j ad G2, Er X.K own (emb j) ad σ G2 H ∧ Fr0 io G0 H0 A0 own ad G2 H ∧ PostR X.K X.mg E io fr G0 H0 A0 own (whO mc vb mb out n j) (postO emb) Dn, ⟨n0, j0, ad0, G, er, f, q⟩, ?_⟩
  rintro n σ1 H1 ⟨j, ad, G1, er1, f1, q1⟩
  refine ⟨j, ad, G1, er1, ?_⟩
  cases n with
  | zero => exact q1.elim
  | succ n =>
    have q2 : PostR X.K X.mg E io fr G0 H0 A0 own ((mc j).bind fun b => if vb b = true then (mb j b).bind fun o => match o with
      | .nx j' => whO mc vb mb out n j'
      | .rt t b => .ok (.rt t b)
      | .bk j' => .ok (.nx j') else .ok (.nx (out j b))) (postO emb) Dn := q1
    cases em : mc j with
    | no => rw [em] at q2; exact q2.elim
    | ex c' => rw [em] at q2; exact fun H' s => q2 H' fun b o e hne => s _ _ (f1.h0 b o e hne)
    | ok b =>
      rw [em] at q2
      intro G2 H2 er2 fr2
      have f2 := f1.next er1 fr2 er2
      have q3 : PostR X.K X.mg E io fr G0 H0 A0 own (if vb b = true then (mb j b).bind fun o => match o with
        | .nx j' => whO mc vb mb out n j'
        | .rt t b => .ok (.rt t b)
        | .bk j' => .ok (.nx j') else .ok (.nx (out j b))) (postO emb) Dn := q2
      cases hv : vb b with
      | false =>
        rw [hv, if_neg Bool.false_ne_true] at q3
        rw [if_neg Bool.false_ne_true]
        rw [hx] at er2
        exact q3 ad σ1 G2 H2 er2 f2
      | true =>
        rw [hv, if_pos rfl] at q3
        rw [if_pos rfl]
        refine ⟨fun σ' H' => ∃ j ad G2, Er X.K own (emb j) ad σ' G2 H' ∧ Fr0 io G0 H0 A0 own ad G2 H' ∧ PostR X.K X.mg E io fr G0 H0 A0 own (whO mc vb mb out n j) (postO emb) Dn, fun σ' H' hN => ⟨n, Nat.lt_succ_self n, hN⟩, j, b, G0, H0, A0, ad, G2, er2, f2, ?_⟩
        cases eb : mb j b with
        | no => rw [eb] at q3; exact q3.elim
        | ex c => rw [eb] at q3; exact q3
        | ok o =>
          rw [eb] at q3
          cases o with
          | nx j' => exact fun ad' σ' G' H' er' f' => ⟨j', ad', G', er', f', q3⟩
          | rt t b => exact q3
          | bk j' => exact fun ad' σ' G' H' er' f' => q3 ad' σ' G' H' er' f'
end
/-! ### a def -/
def startE (N : List Str) (ts : List D) : En := ts.map some ++ List.replicate (N.length - ts.length) none
theorem getN_none {α : Type} : ∀ {n i : Nat} {t : α}, getN (List.replicate n (none : Option α)) i ≠ some t
  | 0, _, _, h => by cases h
  | _ + 1, 0, _, h => by cases h
  | n + 1, i + 1, _, h => getN_none (n := n) (i := i) h
theorem start_get {K : PySem.W.Frag} {G : Hp} {m : Nat} : ∀ {vs : List V} {ts : List D} {i : Nat} {t : D}, RepAll K G vs ts → getN (ts.map some ++ List.replicate m none) i = some t → ∃ v, (vs.map some ++ List.replicate m none)[i]? = some (some v) ∧ Rep K G v t
  | [], _, i, t, .nil, h => absurd h getN_none
  | v :: vs, d :: ds, 0, t, .cons r _, h => by
    cases h
    exact ⟨v, rfl, r⟩
  | v :: vs, d :: ds, i + 1, t, .cons _ q, h => by
    obtain ⟨w, e, r⟩ := start_get (i := i) (t := t) q h
    exact ⟨w, e, r⟩
theorem start_len {K : PySem.W.Frag} {G : Hp} {N : List Str} {vs : List V} {ts : List D} (h : RepAll K G vs ts) : (startE N ts).length = (L2.start N vs).length := by
  unfold startE L2.start
  rw [List.length_append, List.length_append, List.length_map, List.length_map, List.length_replicate, List.length_replicate, h.length]
theorem Er.start {K : PySem.W.Frag} {G H : Hp} {N : List Str} {vs : List V} {ts : List D} {ad : Nat → Addr} (sa : Same G H) (h : RepAll K G vs ts) : Er K [] (startE N ts) ad (L2.start N vs) G H where
  len := start_len h
  gh := sa
  fz := fun i t e _ => by
    unfold startE at e
    unfold L2.start
    rw [h.length]
    exact start_get h e
  ow := fun _ h => nomatch h
  inj := fun _ h => nomatch h
theorem Er.startB {K : PySem.W.Frag} {G H : Hp} {N : List Str} {a : Addr} {b : D} {vs : List V} {ts : List D} (sa : Same G H) (o : OwnAt K G H a b) (h : RepAll K G vs ts) : Er K [0] (startE N (b :: ts)) (fun _ => a) (L2.start N (.ref a :: vs)) G H where
  len := by
    unfold startE L2.start
    simp only [List.length_append, List.length_map, List.length_replicate, List.length_cons, h.length]
  gh := sa
  fz := fun i t e hi => by
    cases i with
    | zero => exact absurd List.mem_cons_self hi
    | succ i =>
      have e' : getN (ts.map some ++ List.replicate (N.length - (ts.length + 1)) none) i = some t := e
      obtain ⟨v, e2, r⟩ := start_get h e'
      refine ⟨v, ?_, r⟩
      rw [← h.length] at e2
      exact e2
  ow := fun i hi => by
    obtain rfl := List.mem_singleton.mp hi
    exact ⟨b, rfl, rfl, o⟩
  inj := fun i hi j hj _ => (List.mem_singleton.mp hi).trans (List.mem_singleton.mp hj).symm
section
variable {P : Program} {w : World} {K : PySem.W.Frag} {mg : Str → Option Value} {base : Heap}
theorem cal_no {k : Nat} {x : Str} {np : Nat} {fr : Bool} {st : Stmt} {f : Addr} {fd : FuncData} {ps : List Str} (F : Fun K x x st f fd) (hb : Binds K fd ps []) (hm : mg x = some (.ref f)) {mf : List D → R D} (h : ∀ ts, mf ts = .no) : CalOk P w K mg base k x (spP K mg np fr mf) :=
  ⟨f, fd, ps, ⟨fun vs H Q E ⟨_, G, ts, _, _, q⟩ => by rw [h] at q; exact q.elim, fun A outer s H args us vs Q E _ _ _ _ ⟨_, G, ts, _, _, q⟩ => by rw [h] at q; exact q.elim⟩, hm, F.kp, hb⟩
theorem cal_fn {k : Nat} {x : Str} {np : Nat} {fr : Bool} {st : Stmt} {f : Addr} {fd : FuncData} {N ps : List Str} {mf : List D → R D} (F : Fun K x x st f fd) (S : FnScope N ps (defScope st)) (hb : Binds K fd ps []) (hm : mg x = some (.ref f)) (hnp : np = ps.length)
    (hbody : ∀ (cdv : Value) (A : Around) (outer : List Env) (s : Shared) (H : Hp) (E : XK), Room k (A.deeper (envOfC x (defScope st) s.heap.objs.size f cdv)) → ∀ ts : List D, ts.length = np →
      BS (cxOf (L2.CX P w) P w K mg base N x (defScope st) f cdv A outer s H E) E false fr [] (startE N ts) (defBody st) (mf ts) (fun t => .rt t .none) []) :
    CalOk P w K mg base (k + 1) x (spP K mg np fr mf) := by
  refine ⟨f, fd, ps, F.okX S (fun vs H Q E h => h.1.trans hnp) fun cdv A outer s H vs Q E hr h => ?_, hm, F.kp, hb⟩
  obtain ⟨hl, G, ts, sa, ra, q⟩ := h
  refine ⟨_, hbody cdv A outer s H E hr ts (by rw [← ra.length]; exact hl), G, H, 0, fun _ => 0, G, Er.start sa ra, ⟨Same.refl _, fun _ _ e _ => e, fun _ h _ => h, (fun _ h => nomatch h), (fun z => nomatch z)⟩, ?_⟩
  cases em : mf ts with
  | no => rw [em] at q; exact q.elim
  | ex c => rw [em] at q; exact fun H' h => q H' fun b o e => h b o e fun z => nomatch z
  | ok t =>
    rw [em] at q
    exact fun v G' H' r => q v G' H' ⟨r.g0, r.gh, (fun b o e => r.h0 b o e (fun z => nomatch z)), r.nw⟩ r.an
theorem cal_box {k : Nat} {x : Str} {np : Nat} {fr : Bool} {st : Stmt} {f : Addr} {fd : FuncData} {N ps : List Str} {mf : D → List D → R (D × D)} (F : Fun K x x st f fd) (S : FnScope N ps (defScope st)) (hb : Binds K fd ps []) (hm : mg x = some (.ref f)) (hnp : np = ps.length)
    (hbody : ∀ (cdv : Value) (A : Around) (outer : List Env) (s : Shared) (H : Hp) (E : XK), Room k (A.deeper (envOfC x (defScope st) s.heap.objs.size f cdv)) → ∀ (b : D) (ts : List D), ts.length + 1 = np →
      BS (cxOf (L2.CX P w) P w K mg base N x (defScope st) f cdv A outer s H E) E true fr [0] (startE N (b :: ts)) (defBody st) (mf b ts) (fun p => .rt p.1 p.2) []) :
    CalOk P w K mg base (k + 1) x (spB K np fr mf) := by
  refine ⟨f, fd, ps, F.okX S (fun vs H Q E h => h.1.trans hnp) fun cdv A outer s H vs Q E hr h => ?_, hm, F.kp, hb⟩
  obtain ⟨hl, G, a, ws, b, ts, rfl, sa, o, ra, t, b', em, q⟩ := h
  refine ⟨_, hbody cdv A outer s H E hr b ts (by rw [← ra.length]; exact hl), G, H, a, fun _ => a, G, Er.startB sa o ra, ⟨Same.refl _, fun _ _ e _ => e, fun _ h _ => h, fun i hi => .inr ⟨rfl, rfl⟩, fun _ => ⟨List.mem_cons_self, rfl⟩⟩, ?_⟩
  rw [em]
  exact fun v G' H' r => q v G' H' r.g0 r.gh (fun c o e hne => r.h0 c o e fun _ => hne) r.nw (r.bx rfl) r.an
theorem cal_boxNo {k : Nat} {x : Str} {np : Nat} {fr : Bool} {st : Stmt} {f : Addr} {fd : FuncData} {ps : List Str} (F : Fun K x x st f fd) (hb : Binds K fd ps []) (hm : mg x = some (.ref f)) {mf : D → List D → R (D × D)} (h : ∀ b ts, mf b ts = .no) : CalOk P w K mg base k x (spB K np fr mf) :=
  ⟨f, fd, ps, ⟨fun vs H Q E ⟨_, G, a, ws, b, ts, _, _, _, _, t, b', q, _⟩ => (by rw [h] at q; cases q), fun A outer s H args us vs Q E _ _ _ _ ⟨_, G, a, ws, b, ts, _, _, _, _, t, b', q, _⟩ => (by rw [h] at q; cases q)⟩, hm, F.kp, hb⟩
theorem pass_cx {N : List Str} {x : Str} {sc : Scope} {f : Addr} {cdv : Value} {A : Around} {outer : List Env} {s : Shared} {H : Hp} {E : XK} : Passes (L2.CX P w) (cxOf (L2.CX P w) P w K mg base N x sc f cdv A outer s H E) E :=
  passes_call (takes_of rfl rfl rfl rfl) fun _ _ _ _ h => h
theorem own_cx {N : List Str} {x : Str} {sc : Scope} {f : Addr} {cdv : Value} {A : Around} {outer : List Env} {s : Shared} {H : Hp} {E : XK} : PassesOwn (model P w) (cxOf (L2.CX P w) P w K mg base N x sc f cdv A outer s H E).A (cxOf (L2.CX P w) P w K mg base N x sc f cdv A outer s H E).env (cxOf (L2.CX P w) P w K mg base N x sc f cdv A outer s H E).xe :=
  passes_of (X := cxOf (L2.CX P w) P w K mg base N x sc f cdv A outer s H E) rfl
end
end TL
/-! the tree layer, 17: joints for the printed terms -/
namespace TL
open PySem PySem.Spec PyProof.Rows L2
section
variable {X : Cx} {E : XK} {ρ : En} {e tg : Expr}
theorem xq {m m' : R D} (h : XP X E ρ e m) (q : m' = m := by rfl) : XP X E ρ e m' := q ▸ h
theorem xqF {m m' : R D} (h : XF X E ρ e m) (q : m' = m := by rfl) : XF X E ρ e m' := q ▸ h
theorem xqB {m m' : R Bool} (h : XB X E ρ e m) (q : m' = m := by rfl) : XB X E ρ e m' := q ▸ h
theorem xqI {m m' : R (List D)} (h : XI X E ρ tg e m) (q : m' = m := by rfl) : XI X E ρ tg e m' := q ▸ h
end
section
variable {X : Cx} {own : List Nat} {S : Type} {emb : S → En} {e tg : Expr}
theorem jq {m m' : S → R (D × S)} (h : JP X own emb e m) (q : m' = m := by rfl) : JP X own emb e m' := q ▸ h
theorem jqF {m m' : S → R (D × S)} (h : JF X own emb e m) (q : m' = m := by rfl) : JF X own emb e m' := q ▸ h
theorem jqB {m m' : S → R (Bool × S)} (h : JB X own emb e m) (q : m' = m := by rfl) : JB X own emb e m' := q ▸ h
theorem jqI {m m' : S → R (List D × S)} (h : JI X own emb tg e m) (q : m' = m := by rfl) : JI X own emb tg e m' := q ▸ h
theorem lq {elt tg iter : Expr} {ifs : List Expr} {scope : Scope} {K : PySem.W.Frag} {mg : Str → Option Value} {E : XK} {ρ : En} {m m' : R D} (h : LCx X elt tg iter ifs scope (rdF K mg E ρ m)) (q : m' = m := by rfl) : LCx X elt tg iter ifs scope (rdF K mg E ρ m') := q ▸ h
theorem ljq {elt tg iter : Expr} {ifs : List Expr} {scope : Scope} {K : PySem.W.Frag} {m m' : S → R (D × S)} (h : LCx X elt tg iter ifs scope (rdJF K own emb m)) (q : m' = m := by rfl) : LCx X elt tg iter ifs scope (rdJF K own emb m') := q ▸ h
end
section
variable {X : Cx} {E : XK} {io fr : Bool} {own own' own1 : List Nat} {ρ ρe ρ' : En} {A B : Type} {st : Stmt} {rest : List Stmt} {post : A → Fin} {post1 : B → Fin} {e : Expr} {pos : Pos}
theorem bs_seqP {J : Type} {emb : J → En} {m1 : R (Oc J)} (ret : D → D → A) {k : J → R A} (h1 : SS X E io fr own ρ st m1 (postO emb) own1) (h2 : ∀ j, BS X E io fr own1 (emb j) rest (k j) post own') (hr : ∀ t b, post (ret t b) = .rt t b := by intro _ _; rfl) : BS X E io fr own ρ (st :: rest) (thenO m1 ret k) post own' := by
  refine ⟨fun pins s σ H Dn I hq => ?_⟩
  obtain ⟨G0, H0, A0, ad, G, er, f, q⟩ := hq
  cases em : m1 with
  | no => rw [em] at q; exact q.elim
  | ex c => exact (pss_cons h1 (pss_never (sts := rest))).run pins s σ H Dn I ⟨G0, H0, A0, ad, G, er, f, by rw [em] at q ⊢; exact q⟩
  | ok o =>
    cases o with
    | nx j =>
      rw [em] at q
      exact (pss_cons h1 (h2 j)).run pins s σ H Dn I ⟨G0, H0, A0, ad, G, er, f, by
        rw [em]
        exact fun ad' σ' G' H' er' f' => ⟨G0, H0, A0, ad', G', er', f', q⟩⟩
    | rt t b =>
      rw [em] at q
      have q' : Post X.K io fr G0 H0 A0 own' Dn (post (ret t b)) := q
      rw [hr] at q'
      exact (pss_cons h1 (pss_never (sts := rest))).run pins s σ H Dn I ⟨G0, H0, A0, ad, G, er, f, by rw [em]; exact q'⟩
    | bk j => rw [em] at q; exact q.elim
/-- a loop or an if may have returned, no box -/
theorem bs_seqN {J : Type} {emb : J → En} {m1 : R (Oc J)} (ret : D → D → A) {k : J → R A} (h1 : SS X E false fr own ρ st m1 (postO emb) own1) (h2 : ∀ j, BS X E false fr own1 (emb j) rest (k j) post own') (hr : ∀ t b, ∃ b', post (ret t b) = .rt t b' := by intro _ _; exact ⟨_, rfl⟩) : BS X E false fr own ρ (st :: rest) (thenO m1 ret k) post own' := by
  refine ⟨fun pins s σ H Dn I hq => ?_⟩
  obtain ⟨G0, H0, A0, ad, G, er, f, q⟩ := hq
  cases em : m1 with
  | no => rw [em] at q; exact q.elim
  | ex c => exact (pss_cons h1 (pss_never (sts := rest))).run pins s σ H Dn I ⟨G0, H0, A0, ad, G, er, f, by rw [em] at q ⊢; exact q⟩
  | ok o =>
    cases o with
    | nx j =>
      rw [em] at q
      exact (pss_cons h1 (h2 j)).run pins s σ H Dn I ⟨G0, H0, A0, ad, G, er, f, by
        rw [em]
        exact fun ad' σ' G' H' er' f' => ⟨G0, H0, A0, ad', G', er', f', q⟩⟩
    | rt t b =>
      rw [em] at q
      have q' : Post X.K false fr G0 H0 A0 own' Dn (post (ret t b)) := q
      obtain ⟨b', eb⟩ := hr t b
      rw [eb] at q'
      exact (pss_cons h1 (pss_never (sts := rest))).run pins s σ H Dn I ⟨G0, H0, A0, ad, G, er, f, by rw [em]; exact fun v G' H' r => q' v G' H' ⟨r.gh, r.g0, r.h0, r.nw, r.an, fun z => nomatch z⟩⟩
    | bk j => rw [em] at q; exact q.elim
theorem bs_last {m : R A} (h : SS X E io fr own ρ st m post own') : BS X E io fr own ρ [st] m post own' := pss_one h
theorem bs_bk {emb : B → En} {a : B} {dead : List Nat} (hp : emb a = wipeE ρ dead := by rfl) (ho : own' = own.filter (fun i => !dead.contains i) := by rfl) (h0 : io = true → 0 ∉ dead := by decide) : BS X E io fr own ρ [.Break pos] (.ok (Oc.bk a)) (postO emb) own' := by
  subst ho
  refine pss_weak (pss_one ps_break) fun Dn σ H hq => ?_
  obtain ⟨G0, H0, A0, ad, G, er, f, q⟩ := hq
  have q' : Post X.K io fr G0 H0 A0 _ Dn (.bk (emb a)) := q
  rw [hp] at q'
  exact q' ad σ G H (er.lessO dead) (f.lessO dead h0)
/-- the readings of a comprehension for a name on one line -/
theorem lv_p {elt tg iter : Expr} {ifs : List Expr} {scope : Scope} {m : R D} (h : LCx X elt tg iter ifs scope (rdF X.K X.mg E ρe m)) (hb : Bor own ρ ρe m := by exact bor_nil) : LCx X elt tg iter ifs scope (rdV X.K X.mg E own ρ m (fun t => t) (fun _ => ρ)) := h.map fun σ H Q q => xpf_rd σ H Q (vp_rd hb σ H Q q)
theorem lv_fp {elt tg iter : Expr} {ifs : List Expr} {scope : Scope} {m : R D} (h : LCx X elt tg iter ifs scope (rdF X.K X.mg E ρe m)) (hb : BorF own ρ ρe m := by exact borF_nil) : LCx X elt tg iter ifs scope (rdVF X.K X.mg E own ρ m (fun t => t) (fun _ => ρ)) := h.map fun σ H Q q => vf_rd hb σ H Q q
theorem lv_j {elt tg iter : Expr} {ifs : List Expr} {scope : Scope} {S : Type} {emb : S → En} {m : S → R (D × S)} (s : S) (h : LCx X elt tg iter ifs scope (rdJF X.K own emb m)) : LCx X elt tg iter ifs scope (rdV X.K X.mg E own (emb s) (nox (m s)) (fun p => p.1) (fun p => emb p.2)) := h.map fun σ H Q q => jpf_rd σ H Q (vpj_rd s σ H Q q)
theorem lv_fj {elt tg iter : Expr} {ifs : List Expr} {scope : Scope} {S : Type} {emb : S → En} {m : S → R (D × S)} (s : S) (h : LCx X elt tg iter ifs scope (rdJF X.K own emb m)) : LCx X elt tg iter ifs scope (rdVF X.K X.mg E own (emb s) (nox (m s)) (fun p => p.1) (fun p => emb p.2)) := h.map fun σ H Q q => vfj_rd s σ H Q q
theorem lx_nf {elt tg iter : Expr} {ifs : List Expr} {scope : Scope} {m : R D} (h : LCx X elt tg iter ifs scope (rdF X.K X.mg E ρ m)) : LCx X elt tg iter ifs scope (rdF X.K X.mg E ρ (nf m)) := h.map fun σ H Q ⟨G, s, ep, q⟩ => ⟨G, s, ep, by
  cases m with
  | no => exact q
  | ex c => exact q
  | ok t =>
    simp only [nf, R.ok_bind] at q
    split at q
    · exact q
    · exact q.elim⟩
/-- a list and a list: a new list -/
theorem xf_add {a b : Expr} {ma mb : R D} (ha : XP X E ρ a ma) (hb : XP X E ρ b mb) : XF X E ρ (.BinOp a .Add b pos) (ma.bind fun x => mb.bind fun y => (lstD x).bind fun _ => pyAdd x y) :=
  pe_weak (pe_op (fun pins s σ H x y v u Q I rx ry (h : ∃ a b xs ys, x = .ref a ∧ y = .ref b ∧ SqL X.K H a xs ∧ SqL X.K H b ys ∧ xs.length + ys.length ≤ sizeLine ∧ ∀ p, H p = none → Q (.ref p) (upd H p (.lst (xs ++ ys)))) => by
    obtain ⟨a, b, xs, ys, rfl, rfl, h1, h2, hz, q⟩ := h
    cases rx
    cases ry
    exact op_catL2 I h1 h2 hz q) ha hb) fun σ H Q ⟨G, s, ep, q⟩ => ⟨G, s, ep, by
    cases ma with
    | no => exact q
    | ex c => exact q
    | ok d =>
      intro v G1 H1 fr r
      refine ⟨G1, fr.gh, ep.mono fr.gg, ?_⟩
      cases mb with
      | no => exact q
      | ex c => exact fun H' s' => q H' (fr.hh.trans s')
      | ok d2 =>
        intro v2 G2 H2 fr2 r2
        have q' : PostF X.K X.mg E G H ((lstD d).bind fun _ => pyAdd d d2) Q := q
        have frr := fr.trans fr2
        cases r with
        | @lst a xs ts e1 ra =>
          cases r2 with
          | @lst b ys us e2 rb =>
            have q' : PostF X.K X.mg E G H (if ts.length + us.length ≤ sizeLine then .ok (.list (ts ++ us)) else .no) Q := q'
            by_cases hz : ts.length + us.length ≤ sizeLine
            · rw [if_pos hz] at q'
              refine ⟨a, b, xs, ys, rfl, rfl, same_lst (fr2.gg.trans fr2.gh) e1, same_lst fr2.gh e2, by rw [ra.length, rb.length]; exact hz, fun p np => ?_⟩
              have hp : H p = none := by
                cases z : H p with
                | none => rfl
                | some o => rw [frr.hh _ _ z] at np; cases np
              exact q' p G2 _ (frr.trans (Fr.newU frr.gh np)) hp (own_new frr.gh np ((ra.mono fr2.gg).append rb))
            · rw [if_neg hz] at q'
              exact q'.elim
          | _ => exact q'.elim
        | _ => exact q'.elim⟩
end
/-! ### a block that never goes on -/
def Nev {A : Type} (m : R A) (post : A → Fin) : Prop := ∀ a, m = .ok a → ∀ ρ', post a ≠ .nx ρ'
theorem nev_rt {J : Type} {emb : J → En} {t b : D} : Nev (R.ok (Oc.rt t b)) (postO emb) := fun a h ρ' e => by
  cases h
  cases e
theorem nev_bk {J : Type} {emb : J → En} {j : J} : Nev (R.ok (Oc.bk j)) (postO emb) := fun a h ρ' e => by
  cases h
  cases e
theorem nev_bind {A B : Type} {m : R A} {f : A → R B} {post : B → Fin} (h : ∀ a, Nev (f a) post) : Nev (m.bind f) post := fun a e => by
  cases m with
  | no => exact nomatch e
  | ex c => exact nomatch e
  | ok x => exact h x a e
theorem nev_ite {A : Type} {c : Prop} [Decidable c] {m n : R A} {post : A → Fin} (h1 : Nev m post) (h2 : Nev n post) : Nev (if c then m else n) post := by
  split
  · exact h1
  · exact h2
theorem nev_then {A J J2 : Type} {m : R (Oc J)} {emb : J2 → En} {k : J → R (Oc J2)} (h : ∀ j, Nev (k j) (postO emb)) : Nev (thenO m (fun t b => Oc.rt t b) k) (postO emb) := nev_bind fun o => by
  cases o with
  | nx j => exact h j
  | rt t b => exact nev_rt
  | bk j => exact fun _ e => nomatch e
/-! ### the end of a law -/
theorem rep_true {K : PySem.W.Frag} {G : Hp} {v : V} (h : Rep K G v (.bool true)) : v = .bl true := by
  cases h
  rfl
def scrD (ns : List Int) : D := .dict [(.none, .list (ns.map .int))]
/-- what the law is asked: true at every script -/
def spT (K : PySem.W.Frag) : Sp := fun vs H Q _ => ∃ (a : Addr) (ns : List Int), vs = [.ref a] ∧ SqL K H a (ns.map V.int) ∧ ns.length ≤ 63 ∧ ∀ H', Q (.bl true) H'
theorem law_fn {P : Program} {w : World} {K : PySem.W.Frag} {mg : Str → Option Value} {base : Heap} {k : Nat} {f : Addr} {fd : FuncData} {ps : List Str} {mf : List D → R D} (h : ∀ ns : List Int, ns.length ≤ 63 → mf [scrD ns] = .ok (.bool true)) (F : FnOk P w K mg base (L2.CX P w) k f fd ps (spP K mg 1 false mf)) : FnOk P w K mg base (L2.CX P w) k f fd ps (spT K) :=
  F.imp fun vs H Q E ⟨a, ns, e, hS, hl, q⟩ => ⟨by rw [e]; rfl, H, [scrD ns], Same.refl _, by rw [e]; exact .cons (.scr hS) .nil, by
    rw [h ns hl]
    intro v G' H' fr an
    have e2 := rep_true an
    subst e2
    exact q H'⟩
end TL
/-! the tree layer, 18: more of what changes slots -/
namespace TL
open PySem PySem.Spec PyProof.Rows L2
def ixO : D → D → R D
  | .list ts, .int i => match atI ts i with
    | some t => .ok t
    | none => .no
  | _, _ => .no
section
variable {X : Cx} {own : List Nat} {S : Type} {emb : S → En} {x : Str} {p pos : Pos} {b : Expr}
/-- x[b], x an owned slot -/
theorem jp_ixO {get : S → D} {mb : S → R (D × S)} (i : Nat) (hb : JP X own emb b mb) (hg : ∀ s, getN (emb s) i = some (get s) := by intro _; rfl) (hi : i ∈ own := by decide) (hN : X.N[i]? = some x := by rfl) (hv : Vis X.env.scope x := by first | exact Or.inl rfl | exact Or.inr (Or.inl rfl) | exact Or.inr (Or.inr rfl)) (hd : (x == ("__debug__" : Str)) = false := by decide)
    (hcd : (x == ("__classdict__" : Str)) = false := by decide) (hs : PlainIx b := by exact fun _ _ => rfl) : JP X own emb (.Subscript (.Name x p) b pos) (fun s => (mb s).bind fun q => (ixO (get q.2) q.1).bind fun z => .ok (z, q.2)) :=
  pe_weak (pe_ix ix_list (pe_var hN hv hd hcd) hb hs) fun σ H Q hq => by
    obtain ⟨s, ad, G, er, t, s', e, q⟩ := hq
    obtain ⟨t0, e0, es0, o0⟩ := er.ow i hi
    refine ⟨_, es0, s, ad, G, er, ?_⟩
    dsimp only at e
    cases em : mb s with
    | no => rw [em] at e; exact nomatch e
    | ex c => rw [em] at e; exact nomatch e
    | ok r =>
      rw [em] at e
      simp only [R.ok_bind] at e
      refine ⟨r.1, r.2, rfl, fun v G' H' er' fr' rv => ?_⟩
      have ei := hg r.2
      cases eg : get r.2 with
      | list ts =>
        rw [eg] at e ei
        cases ek : r.1 with
        | int k =>
          rw [ek] at e rv
          cases rv
          simp only [ixO] at e
          cases ea : L2.atI ts k with
          | none => rw [ea] at e; exact nomatch e
          | some u =>
            rw [ea] at e
            cases e
            obtain ⟨xs, es, eh, rr⟩ := er'.ownL hi ei
            obtain ⟨w, ew, rw'⟩ := rr.atI ea
            exact ⟨_, xs, k, w, rfl, rfl, SqL.of eh, ew, q w G' H' er' fr' rw'⟩
        | none | bool _ | str _ | tuple _ | dict _ | list _ => rw [ek] at e; exact nomatch e
      | none | bool _ | int _ | str _ | tuple _ | dict _ => rw [eg] at e; cases r.1 <;> exact nomatch e
end
section
variable {P : Program} {w : World} {K : PySem.W.Frag} {mg : Str → Option Value} {base : Heap}
/-- as cal_fn, for the law itself -/
theorem fn_fn {k : Nat} {x : Str} {np : Nat} {fr : Bool} {st : Stmt} {f : Addr} {fd : FuncData} {N ps : List Str} {mf : List D → R D} (F : Fun K x x st f fd) (S : FnScope N ps (defScope st)) (hnp : np = ps.length)
    (hbody : ∀ (cdv : Value) (A : Around) (outer : List Env) (s : Shared) (H : Hp) (E : XK), Room k (A.deeper (envOfC x (defScope st) s.heap.objs.size f cdv)) → ∀ ts : List D, ts.length = np →
      BS (cxOf (L2.CX P w) P w K mg base N x (defScope st) f cdv A outer s H E) E false fr [] (startE N ts) (defBody st) (mf ts) (fun t => .rt t .none) []) :
    FnOk P w K mg base (L2.CX P w) (k + 1) f fd ps (spP K mg np fr mf) := by
  refine F.okX S (fun vs H Q E h => h.1.trans hnp) fun cdv A outer s H vs Q E hr h => ?_
  obtain ⟨hl, G, ts, sa, ra, q⟩ := h
  refine ⟨_, hbody cdv A outer s H E hr ts (by rw [← ra.length]; exact hl), G, H, 0, fun _ => 0, G, Er.start sa ra, ⟨Same.refl _, fun _ _ e _ => e, fun _ h _ => h, (fun _ h => nomatch h), (fun z => nomatch z)⟩, ?_⟩
  cases em : mf ts with
  | no => rw [em] at q; exact q.elim
  | ex c => rw [em] at q; exact fun H' h => q H' fun b o e => h b o e fun z => nomatch z
  | ok t =>
    rw [em] at q
    exact fun v G' H' r => q v G' H' ⟨r.g0, r.gh, (fun b o e => r.h0 b o e (fun z => nomatch z)), r.nw⟩ r.an
theorem cx_end {w : World} {H : Hp} {s : Shared} {e : Value} {s' : Shared} (h : L2.CX P w [] H s (fun _ _ _ => False) e s') : False := by
  obtain ⟨_, _, _, _, _, _, _, _, _, _, _, _, z⟩ := h
  exact z
end
end TL
/-! the tree layer: enumerate of a tuple -/
namespace TL
open PySem PySem.Spec PyProof.Rows L2
/-- the new iterator over the tuple at l; the enumerate object over it -/
abbrev obTi (l : Addr) : Obj := { cls := .type "tuple_iterator", data := .fields #[.ref l, .int 0 0] }
abbrev obEn (i : Addr) : Obj := { cls := .type "enumerate", data := .fields #[.none, .bool false, .ref i, rawInt 0, .none, .none] }
theorem en_newT (l : Addr) (items : Array Value) (n : Nat) (dct : Option Addr) (sl : Array (Option Value)) : Meets (Builtin.«enumerate.__new__» ⟨[.type "enumerate", .ref l], []⟩) (fun _ R s => s.heap.get? l = some { cls := .type "tuple", dict := dct, data := .seq items n, slots := sl } ∧ R (.ok (.ret (.ref (s.heap.push (obTi l)).objs.size))) { s with heap := (s.heap.push (obTi l)).push (obEn s.heap.objs.size) }) :=
  .of_wp fun prog w A R ⟨hp, g, d, tk, os⟩ ⟨hl, h⟩ => by
    have hsub := sub_enumerate
    have hL : Heap.IsTuple (Shared.heap ⟨hp, g, d, tk, os⟩) l items := ⟨_, hl, rfl, n, rfl⟩
    wp_walk using AutoSeq1.wpAny_loadPart' hl
    refine wpAny_stack_any fun stk => wpAny_pure (by
      split
      · rename_i c _ _ _ _ _
        cases (c == Value.type "enumerate") <;> (wp_walk using AutoSeq1.wpAny_loadPart' hl, wpAny_pyIter_tuple hL) <;> exact ⟨_, rfl, h⟩
      · (wp_walk using AutoSeq1.wpAny_loadPart' hl, wpAny_pyIter_tuple hL) <;> exact ⟨_, rfl, h⟩)
section
variable {prog : Program} {w : World} {A : Around} {E : Value → Shared → Prop} {s : Shared}
theorem en_callT {l : Addr} {items : Array Value} {Q : Value → Shared → Prop} (hL : s.heap.IsTuple l items) (h : ∀ h', IsEnum h' (s.heap.objs.size + 1) s.heap.objs.size 0 .none → h'.IsTupleIter s.heap.objs.size l 0 → h'.objs.size = s.heap.objs.size + 2 → (∀ b o, s.heap.get? b = some o → h'.get? b = some o) → Q (.ref (s.heap.objs.size + 1)) { s with heap := h' }) :
    wpAny (model prog w) A (call (.type "enumerate") [.ref l]) Q E s := by
  obtain ⟨⟨c, dct, dt, sl⟩, hl, hc, n, hd⟩ := hL
  simp only at hc hd
  subst hc
  subst hd
  have hz : (s.heap.push (obTi l)).objs.size = s.heap.objs.size + 1 := Heap.size_push ..
  have he : IsEnum ((s.heap.push (obTi l)).push (obEn s.heap.objs.size)) (s.heap.objs.size + 1) s.heap.objs.size 0 .none := by
    have hp := Heap.get?_push_size (s.heap.push (obTi l)) (o := obEn s.heap.objs.size) rfl
    rw [hz] at hp
    exact hp
  refine callType_new F.called_enumerate (by decide) (F.typeCall_enumerate_1 _) (F.newCall_enumerate_1 _) (fun obj => F.args_object_init_2 obj _) F.entry_enumerate_new (en_newT l items n dct sl) ⟨hl, ?_⟩
  show _ ∧ _
  rw [hz]
  exact ⟨⟨_, he, rfl⟩, h _ he ⟨_, Heap.get?_push_of_some _ (Heap.get?_push_size _ rfl), rfl, rfl⟩ (by rw [Heap.size_push, hz]) fun b o x => Heap.get?_push_of_some _ (Heap.get?_push_of_some _ x)⟩
end
/-- the list or tuple at a, each item in a new pair with its place -/
def IteU (K : PySem.W.Frag) (k : Kd) (a : Addr) : It :=
  ⟨fun i H => ∃ (xs : List V) (x : V), SqK k K H a xs ∧ xs[i]? = some x, fun i H v H' => ∃ T x u, v = .ref T ∧ H T = none ∧ TupH u [.int (i : Nat), x] ∧ H' = upd H T u ∧ ∀ xs, SqK k K H a xs → xs[i]? = some x, fun i H => ∃ xs : List V, SqK k K H a xs ∧ xs.length = i⟩
def InT (k : Kd) (a e it : Addr) (i : Nat) (h : Heap) : Prop := (∃ old, IsEnum h e it ((i : Nat) : Int) old) ∧ IsIt k h it a i ∧ e ≠ it ∧ a ≠ it ∧ e ≠ a
theorem turn_enT {P : Program} {w : World} {K : PySem.W.Frag} {elts : List Expr} {kk : Nat} {tpos : Pos} (k : Kd) (a e it : Addr) : Turn P w K (.Tuple elts kk tpos) (IteU K k a) [e, it] e (InT k a e it) where
  mem := by simp
  obj := fun i h ⟨⟨old, he⟩, hi, _⟩ b hb => by
    rcases (by simpa using hb : b = e ∨ b = it) with rfl | rfl
    · exact ⟨_, he, fun v q => nomatch q⟩
    · exact hi.obj
  keep := fun i h h' ⟨⟨old, he⟩, hi, hr⟩ q => ⟨⟨old, q e (by simp) _ he⟩, hi.keep fun o z => q it (by simp) o z, hr⟩
  item := by
    intro X hP hw hK hc i pins s σ H E I hf ⟨⟨old, he⟩, hit, hne, hai, hea⟩ hg
    subst hP hw hK
    obtain ⟨xs, x, hq, hx⟩ := hg
    obtain ⟨its, rv, p, hz, _⟩ := hq.is I
    obtain ⟨u, hu, ru⟩ := rv.get hx
    have hel : e < s.heap.objs.size := Heap.lt_size he
    have hil : it < s.heap.objs.size := let ⟨_, q, _⟩ := hit.obj; Heap.lt_size q
    have lt : i < its.toArray.size := by
      rw [List.size_toArray]
      exact (List.getElem?_eq_some_iff.mp hu).1
    refine wpAny_pyNext_enum_itemD (drawsK k (A := X.A.in1) (I.ok.hd hc) it a hai its.toArray) he ⟨hit, p⟩ lt hne (by simp [hne, hea]) fun v h' tk hv ho ⟨hit', _⟩ hT hsz hk => ?_
    obtain rfl : v = u := by
      have : its[i]? = some v := by simpa using hv
      rw [hu] at this
      exact (Option.some.inj this).symm
    refine ⟨_, rfl, wpAny_letOwnedTupleGo_enum (s := { s with heap := h', toks := tk + 1 }) ho fun h'' he' sb => ?_⟩
    have hT2 : h''.get? s.heap.objs.size = some { cls := .type "tuple", data := .seq #[.int i tk, v] } := (sb.2 _ (Nat.ne_of_gt hel)).trans hT
    have new : ObjOk X.prog X.w (upd H s.heap.objs.size (.frz { cls := .type "tuple", data := .seq #[.int i tk, v] } (.tup [.int (i : Nat), x]))) h'' s.heap.objs.size (.frz { cls := .type "tuple", data := .seq #[.int i tk, v] } (.tup [.int (i : Nat), x])) := okU (its := [.int i tk, v]) (by show 2 ≤ sizeLine; decide) (.cons ⟨_, rfl⟩ (.cons ru .nil)) hT2 rfl rfl
    have I1 : Inv X pins σ (upd H s.heap.objs.size (.frz { cls := .type "tuple", data := .seq #[.int i tk, v] } (.tup [.int (i : Nat), x]))) { s with heap := h'', toks := tk + 1 } := I.turnedNew (ch := [e, it]) (fun b ob hb q => (sb.2 b (fun z => hb (by simp [z]))).trans (hk b ob (fun z => hb (by simp [z])) (fun z => hb (by simp [z])) q)) hf (Nat.le_refl _) new
    refine ⟨.ref s.heap.objs.size, _, I1, rfl, ⟨_, x, _, rfl, I.hok.fresh (Nat.le_refl _), ⟨_, ⟨rfl, rfl⟩, rfl⟩, rfl, fun ys hy => by rw [hy.inj hq I]; exact hx⟩, ⟨⟨v, ?_⟩, hit'.keep fun o q => (sb.2 it (Ne.symm hne)).trans q, hne, hai, hea⟩, fun b hb => ?_⟩
    · rw [show ((i + 1 : Nat) : Int) = (i : Int) + 1 by omega]
      exact he'
    · have hb' : b < s.heap.objs.size := by rcases (by simpa using hb : b = e ∨ b = it) with rfl | rfl <;> assumption
      rw [upd_ne (Nat.ne_of_lt hb')]
      exact (hf b hb).1
  done := by
    intro X hP hw hK hc i pins s σ H E I hf ⟨⟨old, he⟩, hit, hne, hai, hea⟩ hg
    subst hP hw hK
    obtain ⟨xs, hq, hx⟩ := hg
    obtain ⟨its, rv, p, hz, _⟩ := hq.is I
    obtain ⟨f0, f1, f2, f3, f4, f5⟩ := hf it (by simp)
    have hl := rv.length
    have en : i = its.toArray.size := by
      rw [List.size_toArray, ← hl]
      exact hx.symm
    refine wpAny_pyNext_enum_endD (drawsK k (A := X.A.in1) (I.ok.hd hc) it a hai its.toArray) he ⟨by rw [← en]; exact hit, p⟩ fun h' eb => ⟨rfl, I.turned (t' := s.toks) (fun b o hb q => eb b o hb q) f0 f1 f3 f4 f5⟩
  self := fun A i s Q E st h => let ⟨⟨_, he⟩, _⟩ := st; wpAny_pyIter_enum he h
def iEnU (K : PySem.W.Frag) (ta : TA) : TI := fun σ H R => ta σ H fun vs H1 => ∃ k a xs, vs = [.ref a] ∧ SqK k K H1 a xs ∧ R (IteU K k a) H1
theorem pi_enU {X : Cx} {e : Expr} {ta : TA} {p pos tpos : Pos} {elts : List Expr} {kk : Nat} (hg : Gl X "enumerate") (hm : X.mg "enumerate" = none) (ha : PA X [e] ta) (hs : starEach [e] X.env = [(false, eval e X.env)] := by rfl) : PI X (.Tuple elts kk tpos) (.Call (.Name "enumerate" p) [e] [] pos) (iEnU X.K ta) := ⟨fun pins s σ H R I h => by
  refine Call_ (ld_blt I hg hm boot_enumerate (PyProof.Rows.callWith_type1 (thn (ha.run pos pins s σ H _ I h) fun us s1 ⟨vs, H1, I1, r1, k, a, xs, ex, hq, q⟩ => ?_) hs rfl))
  subst ex
  cases Vals.ref1 r1
  obtain ⟨its, rv, pt, hz, hla⟩ := hq.is I1
  have fin : ∀ h' : Heap, IsEnum h' (s1.heap.objs.size + 1) s1.heap.objs.size 0 .none → IsIt k h' s1.heap.objs.size a 0 → (∀ b o, s1.heap.get? b = some o → h'.get? b = some o) → PIE X pins σ (.Tuple elts kk tpos) R (.ref (s1.heap.objs.size + 1)) { s1 with heap := h' } := fun h' he hit hk => by
    have I2 : Inv X pins σ H1 { s1 with heap := h' } := I1.kept (t' := s1.toks) hk
    refine ⟨s1.heap.objs.size + 1, [s1.heap.objs.size + 1, s1.heap.objs.size], _, _, H1, rfl, I2, turn_enT k a (s1.heap.objs.size + 1) s1.heap.objs.size, ⟨⟨.none, he⟩, hit, Nat.succ_ne_self _, Nat.ne_of_lt hla, Nat.ne_of_gt (Nat.lt_succ_of_lt hla)⟩, fun b hb => ?_, q⟩
    have hle : s1.heap.objs.size ≤ b := by
      rcases (by simpa using hb : b = s1.heap.objs.size + 1 ∨ b = s1.heap.objs.size) with z | z
      · rw [z]; exact Nat.le_succ _
      · rw [z]; exact Nat.le_refl _
    exact I1.fpOk hle (I1.hok.fresh hle)
  cases k with
  | t => exact en_callT pt fun h' he hit hsz hk => wpAny_pyIter_enum he (fin h' he hit hk)
  | l => exact call_enumerate_list pt fun h' he hit hsz hk => wpAny_pyIter_enum he (fin h' he hit hk)⟩
end TL
/-! the tree layer, 19: enumerate -/
namespace TL
open PySem PySem.Spec PyProof.Rows L2
/-- (0, x), (1, y), .. -/
def enumD (xs : List D) : List D := (List.range xs.length).zipWith (fun (k : Nat) x => PyData.tuple [.int (k : Int), x]) xs
def pyEnum : List D → R (List D)
  | [.list xs] => .ok (enumD xs)
  | [.tuple xs] => .ok (enumD xs)
  | _ => .no
theorem enumD_len {xs : List D} : (enumD xs).length = xs.length := by
  unfold enumD
  rw [List.length_zipWith, List.length_range]
  exact Nat.min_self _
theorem enumD_get {xs : List D} {i : Nat} {d : D} (h : (enumD xs)[i]? = some d) : ∃ a, xs[i]? = some a ∧ d = .tuple [.int (i : Int), a] := by
  unfold enumD at h
  rw [List.getElem?_zipWith] at h
  cases e2 : xs[i]? with
  | none => rw [e2] at h; cases e1 : (List.range xs.length)[i]? <;> rw [e1] at h <;> cases h
  | some a =>
    have hi : i < xs.length := (List.getElem?_eq_some_iff.mp e2).1
    rw [e2, List.getElem?_range hi] at h
    cases h
    exact ⟨a, rfl, rfl⟩
theorem itOk_enU {K : PySem.W.Frag} {G : Hp} {k : Kd} {a : Addr} {vs : List V} {ds : List D} (h : ∀ H, Same G H → SqK k K H a vs) (r : RepAll K G vs ds) : ItOk K (IteU K k a) G (enumD ds) where
  go := fun i H hi s => by
    rw [enumD_len, ← r.length] at hi
    exact ⟨vs, vs[i], h H s, List.getElem?_eq_getElem hi⟩
  stop := fun H s => ⟨vs, h H s, by rw [enumD_len, r.length]⟩
  yld := fun i x G2 H H' d e s s2 y => by
    obtain ⟨T, x1, u, rfl, nT, tu, rfl, f1⟩ := y
    obtain ⟨da, e1, rfl⟩ := enumD_get e
    obtain ⟨v, ev, rv⟩ := r.get e1
    have := (f1 vs (h _ (s.trans s2))).symm.trans ev
    cases this
    exact yld_pair s2 nT tu (.int _) (rv.mono s)
section
variable {X : Cx} {E : XK} {ρ : En}
theorem xi_enum {a : Expr} {elts : List Expr} {kk : Nat} {tpos p pos : Pos} {mk : CP} (hm : X.mg "enumerate" = none) (ha : XAk X E ρ [a] mk) (hg : Gl X "enumerate" := by rfl) (hs : starEach [a] X.env = [(false, eval a X.env)] := by rfl) : XI X E ρ (.Tuple elts kk tpos) (.Call (.Name "enumerate" p) [a] [] pos) (mk (List D) pyEnum) := by
  obtain ⟨m, e, hl, h⟩ := ha
  rw [e]
  refine ⟨fun pins s σ H Rr I hq => ?_⟩
  obtain ⟨G, sa, ep, q⟩ := hq
  cases em : m with
  | no => rw [em] at q; exact q.elim
  | ex c => rw [em] at h q; exact (pi_enU hg hm h hs).run pins s σ H Rr I ⟨G, sa, ep, q⟩
  | ok ts =>
    have hl1 := hl ts em
    rw [em] at h q
    match ts, hl1, q with
    | [.list xs], _, q =>
      refine (pi_enU hg hm (pa_len h) hs).run pins s σ H Rr I ⟨G, sa, ep, fun vs G1 H1 fr ra lo => ?_⟩
      obtain ⟨v, rfl, r1⟩ := repAll1 ra
      cases r1 with
      | lst h1 a1 => exact ⟨.l, _, _, rfl, same_lst fr.gh h1, q _ G1 H1 fr (by rw [enumD_len, ← a1.length]; exact lo _ List.mem_cons_self _ _ rfl (.inl (same_lst fr.gh h1))) (itOk_enU (fun H s => same_lst s h1) a1)⟩
    | [.tuple xs], _, q =>
      refine (pi_enU hg hm (pa_len h) hs).run pins s σ H Rr I ⟨G, sa, ep, fun vs G1 H1 fr ra lo => ?_⟩
      obtain ⟨v, rfl, r1⟩ := repAll1 ra
      cases r1 with
      | tup h1 a1 => exact ⟨.t, _, _, rfl, same_seqT fr.gh h1, q _ G1 H1 fr (by rw [enumD_len, ← a1.length]; exact lo _ List.mem_cons_self _ _ rfl (.inr (same_seqT fr.gh h1))) (itOk_enU (fun H s => same_seqT s h1) a1)⟩
    | [.none], _, q | [.bool _], _, q | [.str _], _, q | [.int _], _, q | [.dict _], _, q => exact q.elim
end
end TL
/-! the tree layer, 20: a, b = e -/
namespace TL
open PySem PySem.Spec PyProof.Rows L2
section
variable {X : Cx} {E : XK} {io fr : Bool} {own : List Nat} {ρ : En} {A α : Type} {e tg : Expr} {pos : Pos}
theorem ss_asgG {sl : List Nat} {u : D → R α} {put : α → En → En} {m : R A} {val : A → D} {env : A → En} (he : VP X E own ρ e m val env) (hg : XG X tg sl u put) (hsl : ∀ i ∈ sl, i ∉ own := by decide) (hs : swapsWithSole [tg] e pos.line X.env = pure false := by rfl) (hw : swappedStores [tg] e X.env = pure none := by rfl)
    (h1 : (assignEach [tg] X.env).map (·.2) = [assign tg X.env] := by rfl) : SS X E io fr own ρ (.Assign [tg] e pos) (m.bind fun a => (nox (u (val a))).bind fun p => .ok (a, p)) (fun r => .nx (put r.2 (env r.1))) own :=
  ps_weak (ps_asg he hg hs hw h1) fun Dn σ H hq => by
    obtain ⟨G0, H0, A0, ad, G, er, f, q⟩ := hq
    refine ⟨ad, G, er, ?_⟩
    cases em : m with
    | no => rw [em] at q; exact q.elim
    | ex c => rw [em] at q; exact fun H' s => q H' fun b o e hne => s _ _ (f.h0 b o e hne)
    | ok a =>
      rw [em] at q
      intro v G' H' er' fr' r
      have f' := f.next er fr' er'
      have q1 : PostR X.K X.mg E io fr G0 H0 A0 own ((nox (u (val a))).bind fun p => .ok (a, p)) (fun r => .nx (put r.2 (env r.1))) Dn := q
      cases eu : u (val a) with
      | no => rw [eu] at q1; exact q1.elim
      | ex c => rw [eu] at q1; exact q1.elim
      | ok p =>
        rw [eu] at q1
        refine ⟨G', val a, p, er'.gh, r, eu, fun ps hp => ?_⟩
        refine q1 ad _ G' H' ?_ f'
        show Er X.K own (put p (env a)) ad _ G' H'
        rw [hp.eq]
        exact puts_er hp.rep (fun x hx => hsl _ (hp.sub x hx)) er'
end
section
variable {X : Cx} {E : XK} {ρ : En} {pos : Pos}
/-- {} -/
theorem ep_dict0 : XP X E ρ (.Dict [] [] pos) (.ok (.dict [])) := pe_weak pe_dnewK fun σ H Q ⟨G, s, ep, q⟩ p np => q _ _ _ (Fr.new s np) (.dK (.inl upd_same) rfl .nil)
theorem xf_dict0 : XF X E ρ (.Dict [] [] pos) (.ok (.dict [])) := pe_weak pe_dnewK fun σ H Q ⟨G, s, ep, q⟩ p np => q p G _ (Fr.newU s np) np ⟨s.free np, .inr (.inl ⟨[], [], rfl, upd_same, rfl, .nil⟩)⟩
end
end TL
/-! the tree layer: a tuple backwards -/
namespace TL
open PySem PySem.Spec PyProof.Rows L2 HT
theorem rev_pick (xs : Array Value) : ((List.range xs.size).filterMap fun (m : Nat) => xs[(((xs.size : Int) - 1) + (m : Int) * (-1)).toNat]?).toArray = xs.toList.reverse.toArray := by
  have e : (List.range xs.size).filterMap (fun (m : Nat) => xs[(((xs.size : Int) - 1) + (m : Int) * (-1)).toNat]?) = ((List.range xs.size).map fun k => xs.size - 1 - k).filterMap (xs[·]?) := by
    have e1 : ((List.range xs.size).map fun k => xs.size - 1 - k) = (List.range xs.size).map fun (m : Nat) => (((xs.size : Int) - 1) + (m : Int) * (-1)).toNat := List.map_congr_left fun m hm => by
      have := List.mem_range.mp hm
      omega
    rw [e1, List.filterMap_map]
    rfl
  rw [e, PySem.W.krv_range, List.filterMap_reverse, PySem.W.krv_all]
section
variable {prog : Program} {w : World} {A : Around} {E : Value → Shared → Prop} {s : Shared}
theorem rev_applied {sl : Addr} {vl vu vs : Value} {n : Nat} {Q : Int × Int × Nat → Shared → Prop} (hs : s.heap.IsSliceOf sl vl vu vs) (pl : IsPart vl none) (pu : IsPart vu none) (ps : IsPart vs (some (-1))) (h : Q ((n : Int) - 1, -1, n) s) : wpAny (model prog w) A (Builtin.Slice.sliceApplied (.ref sl) (pure (n : Int))) Q E s := by
  obtain ⟨os, hos, hcs, hds⟩ := id hs
  unfold Builtin.Slice.sliceApplied Builtin.Slice.sliceFields
  refine wpAny_bind (wpAny_bind (wpAny_field hos hds (x := vl) rfl (wpAny_bind (wpAny_field hos hds (x := vu) rfl (wpAny_bind (wpAny_field hos hds (x := vs) rfl (wpAny_pure ?_)))))))
  refine wpAny_bind (slicePart_ ps ?_)
  show wpAny _ _ (if ((-1 : Int) == 0) = true then _ else _) _ _ s
  rw [if_neg (by decide)]
  refine wpAny_bind (slicePart_ pl (wpAny_bind (slicePart_ pu (wpAny_bind (wpAny_pure ?_)))))
  have ea : Builtin.Slice.sliceAdjust none none (-1) (n : Int) = ((n : Int) - 1, -1) := rfl
  have ep : Builtin.Slice.slicePlaces ((n : Int) - 1) (-1) (-1) = n := by
    unfold Builtin.Slice.slicePlaces
    simp only [show ¬ ((-1 : Int) > 0) by decide, if_false, show (- -1 : Int) = 1 by decide, Int.ediv_one]
    split <;> omega
  show wpAny _ _ (match Builtin.Slice.sliceAdjust none none (-1) (n : Int) with | (lo, hi) => pure (lo, (-1 : Int), Builtin.Slice.slicePlaces lo hi (-1))) _ _ s
  rw [ea]
  show wpAny _ _ (pure ((n : Int) - 1, (-1 : Int), Builtin.Slice.slicePlaces ((n : Int) - 1) (-1) (-1))) _ _ s
  rw [ep]
  exact wpAny_pure h
theorem tup_rev {t sl : Addr} {items : Array Value} {vl vu vs : Value} {Q : Value → Shared → Prop} (ht : IsTup s.heap t items) (hs : s.heap.IsSliceOf sl vl vu vs) (pl : IsPart vl none) (pu : IsPart vu none) (ps : IsPart vs (some (-1))) (h : Q (.ref s.heap.objs.size) { s with heap := s.heap.push { cls := .type "tuple", data := .seq items.toList.reverse.toArray } }) (hsz : items.size ≤ sizeLine) :
    wpAny (model prog w) A (getItem (.ref t) (.ref sl)) Q E s := by
  have htake : sizeOk (.seq items.toList.reverse.toArray) := by
    show items.toList.reverse.toArray.size ≤ sizeLine
    rw [List.size_toArray, List.length_reverse, Array.length_toList]
    exact hsz
  obtain ⟨os, hos, hcs, hds⟩ := id hs
  have hTs : s.TypeIs (.ref sl) "slice" := ⟨os, hos, hcs⟩
  unfold getItem
  try with_reducible refine wpAny_holding ?_
  first | refine wpAny_bind (wpAny_pure ?_) | skip
  refine wpAny_bind (wpAny_sequenceKey ht.typeIs (by decide) (wpAny_bind (wpAny_callSpecial?_slot (name := Str.ofString "__getitem__") ht.typeIs PyProof.Rows.slot_tuple_getitem (wpAny_call_entry PyProof.Rows.slot_tuple_getitem ht.typeIs entry_tuple_getitem ?_ (args_tuple_getitem _ _)))))
  show wpAny _ _ (Builtin.Tuple.tupleItemsOf (.ref t) >>= _) _ _ s
  refine wpAny_bind (tupleItemsOf_ ht (wpAny_bind (wpAny_typeOf hTs ?_)))
  rw [if_pos (by decide)]
  refine wpAny_bind (rev_applied (n := items.size) hs pl pu ps ?_)
  show wpAny _ _ (if (((items.size : Int) - 1) == 0 && (-1 : Int) == 1 && items.size == items.size) = true then _ else _) _ _ s
  rw [if_neg (by simp), rev_pick]
  first
    | exact wpAny_bind (m := Builtin.Tuple.tupleExact _) (wpAny_newObj_type (wpAny_pure ⟨_, rfl, wpAny_pure h⟩) htake)
    | exact wpAny_bind (wpAny_bind (m := Builtin.Tuple.tupleExact _) (wpAny_newObj_type (wpAny_pure (wpAny_pure ⟨_, rfl, wpAny_pure h⟩)) htake))
    | exact wpAny_bind (m := Builtin.Tuple.tupleExact _) (wpAny_newObj_type (wpAny_bind (wpAny_pure (wpAny_pure ⟨_, rfl, wpAny_pure h⟩))) htake)
end
section
variable {X : Cx}
/-- t[::-1], t a tuple -/
def tRevT (K : PySem.W.Frag) (te : TE) : TE := fun σ H Q => te σ H fun x H1 => ∃ a xs, x = .ref a ∧ SqT K H1 a xs ∧ ∀ p u, H1 p = none → TL.TupH u xs.reverse → Q (.ref p) (upd H1 p u)
theorem pe_revT {e : Expr} {te : TE} {k : Nat} {p1 p2 p3 pos : Pos} (he : PE X e te) : PE X (.Subscript e (.Slice none none (some (.UnaryOp .USub (.Constant (.int 1) k p1) p2)) p3) pos) (tRevT X.K te) := ⟨fun pins s σ H Q I h => by
  refine Subscript_ (thn (he.run pins s σ H _ I h) fun v s1 ⟨x, H1, I1, r1, a, xs, ex, hx, q⟩ => ?_)
  subst ex
  cases r1
  have hst : PO X (some (.UnaryOp .USub (.Constant (.int 1) k p1) p2)) (tPart (tUn (rU fun i => .int (-i)) (tC (.int 1)))) := po_some (pe_un un_neg pe_int)
  refine wpAny_Slice (thn (po_none.run pins s1 σ H1 (fun o H2 => o = none ∧ H2 = H1) I1 ⟨rfl, rfl⟩) fun vl s2 ⟨l, H2, I2, pl, el, e2⟩ => ?_)
  subst el e2
  refine thn (po_none.run pins s2 σ H2 (fun o H3 => o = none ∧ H3 = H2) I2 ⟨rfl, rfl⟩) fun vu s3 ⟨u, H3, I3, pu, eu, e3⟩ => ?_
  subst eu e3
  refine thn (hst.run pins s3 σ H3 (fun o H4 => o = some (-1) ∧ H4 = H3) I3 ⟨1, rfl, -1, rfl, rfl, rfl⟩) fun vs s4 ⟨o, H4, I4, ps, eo, e4⟩ => ?_
  subst eo e4
  have I5 : Inv X pins σ H4 { s4 with heap := s4.heap.push { cls := .type "slice", data := .fields #[vl, vu, vs] } } := I4.kept (t' := s4.toks) fun b ob q => Heap.get?_push_of_some _ q
  obtain ⟨its, r, ht, hz⟩ := I5.tuple hx
  have hlen := r.length
  show wpAny (model X.prog X.w) X.A (subscriptTail e (.Slice none none (some (.UnaryOp .USub (.Constant (.int 1) k p1) p2)) p3) (.ref a) (.ref s4.heap.objs.size)) (EP X pins σ Q) X.xe { s4 with heap := s4.heap.push { cls := .type "slice", data := .fields #[vl, vu, vs] } }
  refine tail_any (ops := [.ref a, .ref s4.heap.objs.size]) ht.typeIs (PyProof.Rows.slot_tuple_getitem.lookup) ?_ (by with_unfolding_all rfl)
  refine tup_rev ht (Heap.IsSliceOf.new _ vl vu vs) pl pu ps ?_ (by rw [List.size_toArray]; omega)
  exact ⟨.ref _, _, I5.laid (t' := s4.toks) (o := .frz _ (.tup xs.reverse)) (fun b ob q => Heap.get?_push_of_some _ q) (Nat.le_refl _) (TL.okU (by rw [List.length_reverse]; exact hz) r.reverse (Heap.get?_push_size _ rfl) rfl rfl), rfl, q _ _ (I5.hok.fresh (Nat.le_refl _)) ⟨_, ⟨rfl, rfl⟩, rfl⟩⟩⟩
end
end TL
/-! the tree layer, 21: backwards -/
namespace TL
open PySem PySem.Spec PyProof.Rows L2
def pyRev : D → R D
  | .list xs => .ok (.list xs.reverse)
  | .tuple xs => .ok (.tuple xs.reverse)
  | _ => .no
theorem xp_rev {X : Cx} {E : XK} {ρ : En} {e : Expr} {m : R D} {k : Nat} {p1 p2 p3 pos : Pos} (he : XP X E ρ e m) : XP X E ρ (.Subscript e (.Slice none none (some (.UnaryOp .USub (.Constant (.int 1) k p1) p2)) p3) pos) (m.bind pyRev) := ⟨fun pins st σ H Q I hq => by
  obtain ⟨G, sa, ep, q⟩ := hq
  cases m with
  | no => exact q.elim
  | ex c => exact (pe_revL he).run pins st σ H Q I ⟨G, sa, ep, q⟩
  | ok t =>
    cases t with
    | list ts =>
      refine (pe_revL he).run pins st σ H Q I ⟨G, sa, ep, fun v G1 H1 fr r => ?_⟩
      cases r with
      | lst h a => exact ⟨_, _, rfl, same_lst fr.gh h, fun p np => q _ _ _ (fr.trans (Fr.new fr.gh np)) (rep_newL fr.gh np a.reverse)⟩
    | tuple ts =>
      refine (pe_revT he).run pins st σ H Q I ⟨G, sa, ep, fun v G1 H1 fr r => ?_⟩
      cases r with
      | tup h a => exact ⟨_, _, rfl, same_seqT fr.gh h, fun p u np tu => q _ _ _ (fr.trans (Fr.new fr.gh np)) (rep_newT fr.gh np tu a.reverse)⟩
    | none | bool _ | int _ | str _ | dict _ => exact q.elim⟩
end TL
/-! the tree layer, 22: further rules -/
namespace TL
open PySem PySem.Spec PyProof.Rows L2
section
variable {X : Cx} {E : XK} {own : List Nat} {ρ : En} {e : Expr}
/-- a new list as a value -/
theorem vp_of_vf {A : Type} {m : R A} {val : A → D} {env : A → En} (h : VF X E own ρ e m val env) : VP X E own ρ e m val env := pe_weak h fun σ H Q hq => by
  obtain ⟨ad, G, er, q⟩ := hq
  refine ⟨ad, G, er, ?_⟩
  cases m with
  | no => exact q
  | ex c => exact q
  | ok a =>
    intro p G' H' er' fr np o
    obtain ⟨G2, er2, fr2, r⟩ := er'.freezeO fr np (er.new_ne np) o
    exact q _ G2 H' er2 fr2 r
end
end TL
/-! the tree layer, 23: e.index(x), e.count(x) of a list or a tuple; l.extend(t) -/
namespace TL
open PySem PySem.Spec PyProof.Rows L2
section
variable {X : Cx}
/-- l.index(x), t.index(x): the first place of an equal one -/
def rIndexP (K : PySem.W.Frag) (mk : List PyData → PyData) : V → List V → Hp → VK → Prop := fun x xs H Q => ∃ (a : Addr) (y : V) (d : PyData) (ds : List PyData) (j : Nat) (z : PyData), x = V.ref a ∧ xs = [y] ∧ Dp K H (V.ref a) (mk ds) ∧ Dp K H y d ∧
  PyData.plainAll ds = true ∧ d.plain = true ∧ d.depth ≤ 60 ∧ ds[j]? = some z ∧ PyData.eqv z d = true ∧ (∀ (m : Nat) (z' : PyData), m < j → ds[m]? = some z' → PyData.eqv z' d = false) ∧ Q (.int (j : Nat)) H
theorem readsAll_get {h : Heap} : ∀ {vs : List Value} {ds : List PyData} {as : List Addr}, ReadsAll h vs ds as → vs.length = ds.length ∧ ∀ (j : Nat) (h1 : j < vs.length) (h2 : j < ds.length), ∃ cs, Reads h vs[j] ds[j] cs
  | [], [], _, .nil => ⟨rfl, fun j h1 => absurd h1 (Nat.not_lt_zero _)⟩
  | v :: vs, d :: ds, _, .cons r t => by
    obtain ⟨e, f⟩ := readsAll_get t
    refine ⟨congrArg (· + 1) e, fun j h1 h2 => ?_⟩
    cases j with
    | zero => exact ⟨_, r⟩
    | succ j => exact f j (Nat.lt_of_succ_lt_succ h1) (Nat.lt_of_succ_lt_succ h2)
/-- the items against a thing -/
theorem items_eq {A : Around} {s : Shared} {its : List Value} {ds : List PyData} {as bs : List Addr} {u : Value} {d : PyData} (h4 : ReadsAll s.heap its ds as) (r1 : Reads s.heap u d bs) (hp : PyData.plainAll ds = true) (hd : d.plain = true) (hu : A.units + 62 < cLine) (hd60 : d.depth ≤ 60) :
    its.length = ds.length ∧ ∀ (m : Nat) (hm : m < its.length) (hm2 : m < ds.length), SeqAt.readOf s.heap its[m] = ds[m] ∧ SeqAt.EqAt A.in1 s its[m] u (PyData.eqv ds[m] d) := by
  obtain ⟨e, f⟩ := readsAll_get h4
  have eqs := SeqAt.items_plain (A := A) (vs := its.toArray) (show ReadsAll s.heap its.toArray.toList ds as from h4) r1 hp hd (by omega)
  refine ⟨e, fun m hm hm2 => ?_⟩
  obtain ⟨cs, rd⟩ := f m hm hm2
  have pl : ds[m].plain = true := by
    have : ∀ (l : List PyData), PyData.plainAll l = true → ∀ x ∈ l, x.plain = true := by
      intro l
      induction l with
      | nil => intro _ x hx; cases hx
      | cons y ys ih =>
        intro h x hx
        rw [PyData.plainAll, Bool.and_eq_true] at h
        rcases List.mem_cons.mp hx with e | e
        · rw [e]; exact h.1
        · exact ih h.2 x e
    exact this ds hp _ (List.getElem_mem hm2)
  have e1 := SeqAt.readOf_plain pl rd
  refine ⟨e1, ?_⟩
  have := eqs its[m] (by simp)
  rw [e1] at this
  exact this
theorem mt_indexT (hu : X.A.units + 65 < cLine) : MtR X "tuple.index" (rIndexP X.K .tuple) := by
  intro pins s σ H x xs v us Q I rx rxs h
  obtain ⟨a, y, d, ds, j, z, rfl, rfl, hl, hy, sl, sd, d60, hz, hzj, hno, q⟩ := h
  cases rx
  cases rxs with
  | cons ry rt =>
    rename_i uy ut
    cases rt
    obtain ⟨bs, r1⟩ := Dp.reads I d y uy hy ry
    cases hl with
    | tup hs ha =>
      obtain ⟨its, rv, ⟨⟨cls, dd, data, sls⟩, ho, hc, n, hdt⟩, hlen⟩ := I.tuple hs
      simp only at hc hdt
      subst hc hdt
      obtain ⟨as, h4⟩ := Dp.readsAll I ds _ its ha rv
      obtain ⟨hn, eqs⟩ := items_eq (A := X.A) h4 r1 sl sd (by omega) d60
      obtain ⟨hjd, hze⟩ := List.getElem?_eq_some_iff.mp hz
      have hjl : j < its.length := by omega
      have hj : j < its.toArray.size := by simpa using hjl
      refine call_meets PySem.F.slot_tuple_index ⟨_, ho, rfl⟩ PySem.F.entry_tuple_index (PySem.F.args_tuple_index_2 _ _)
        (SeqAt.tuple_index2_found a its.toArray n dd sls uy (fun m => match ds[m]? with
          | some u => PyData.eqv u d
          | none => false) j hj (Nat.zero_le _) hj ?_ ?_) ⟨ho, fun m hm => ?_, ?_⟩
      · simp only [hz]
        exact hzj
      · intro m hm _ hmj
        have hml : m < its.length := by simpa using hm
        have hmd : m < ds.length := by omega
        simp only [List.getElem?_eq_getElem hmd]
        exact hno m _ hmj (List.getElem?_eq_getElem hmd)
      · have hml : m < its.length := by simpa using hm
        have hmd : m < ds.length := by omega
        have := (eqs m hml hmd).2
        simpa [List.getElem?_eq_getElem hmd] using this
      · exact ⟨.int (j : Nat), H, I.tok _, ⟨_, rfl⟩, q⟩
theorem mt_indexL (hu : X.A.units + 65 < cLine) : MtR X "list.index" (rIndexP X.K .list) := by
  intro pins s σ H x xs v us Q I rx rxs h
  obtain ⟨a, y, d, ds, j, z, rfl, rfl, hl, hy, sl, sd, d60, hz, hzj, hno, q⟩ := h
  cases rx
  cases rxs with
  | cons ry rt =>
    rename_i uy ut
    cases rt
    obtain ⟨bs, r1⟩ := Dp.reads I d y uy hy ry
    cases hl with
    | lst hs ha =>
      obtain ⟨its, rv, ⟨⟨cls, dd, data, sls⟩, n, ho, hc, hdn, hdt⟩, hlen⟩ := I.list hs
      simp only at hc hdt
      subst hc hdt
      obtain ⟨as, h4⟩ := Dp.readsAll I ds _ its ha rv
      obtain ⟨hn, eqs⟩ := items_eq (A := X.A) h4 r1 sl sd (by omega) d60
      obtain ⟨hjd, hze⟩ := List.getElem?_eq_some_iff.mp hz
      have hjl : j < its.length := by omega
      have hj : j < its.toArray.size := by simpa using hjl
      have hvl := rv.length
      have hsl := sizeLine_eq
      refine call_meets PySem.F.slot_list_index ⟨_, ho, rfl⟩ PySem.F.entry_list_index (PySem.F.args_list_index_2 _ _)
        (SeqAt.list_index2_found a its.toArray n dd sls uy (fun m => match ds[m]? with
          | some u => PyData.eqv u d
          | none => false) j hj (Nat.zero_le _) (by omega) ?_ ?_) ⟨ho, fun m hm => ?_, ?_⟩
      · simp only [hz]
        exact hzj
      · intro m hm _ hmj
        have hml : m < its.length := by simpa using hm
        have hmd : m < ds.length := by omega
        simp only [List.getElem?_eq_getElem hmd]
        exact hno m _ hmj (List.getElem?_eq_getElem hmd)
      · have hml : m < its.length := by simpa using hm
        have hmd : m < ds.length := by omega
        have := (eqs m hml hmd).2
        simpa [List.getElem?_eq_getElem hmd] using this
      · exact ⟨.int (j : Nat), H, I.tok _, ⟨_, rfl⟩, q⟩
/-- a receiver that is a list or a tuple -/
def tSeqM (K : PySem.W.Frag) (rl rt : V → List V → Hp → VK → Prop) (to : TE) (t : TA) : TE := fun σ H Q => to σ H fun x H1 => ∃ a, x = .ref a ∧
  (((∃ xs, SqL K H1 a xs) ∧ t σ H1 fun ys H2 => rl x ys H2 Q) ∨ ((∃ xs, SqU K H1 a xs) ∧ t σ H1 fun ys H2 => rt x ys H2 Q))
variable {o e : Expr} {es : List Expr} {to : TE} {t : TA} {name : Str} {apos cpos : Pos} {idl idt : String} {rl rt : V → List V → Hp → VK → Prop}
theorem pe_seqM (sl : Slot "list" name idl) (hl : typeOf (.builtin idl) = pure (.type "method_descriptor")) (ml : MtR X idl rl) (st : Slot "tuple" name idt) (ht : typeOf (.builtin idt) = pure (.type "method_descriptor")) (mt : MtR X idt rt) (ho : PE X o to) (ha : PA X (e :: es) t)
    (hbase : attributeBase o name X.env (eval o X.env) = eval o X.env := by rfl)
    (hfew : ((backTo cpos (starEach (e :: es) X.env)).all (fun x => !x.1) && (backToKw cpos (keywordEach [] X.env)).all (fun x => x.1.isSome)
      && decide ((e :: es).length + ([] : List Keyword).length + (if ([] : List Keyword).isEmpty then 0 else 1) < 30)) = true := by rfl)
    (hline : (apos.endLine == cpos.line) = true := by rfl) (hs : starEach (e :: es) X.env = (false, eval e X.env) :: starEach es X.env := by rfl) (hplain : (backTo cpos (starEach es X.env)).any (·.1) = false := by rfl) :
    PE X (.Call (.Attribute o name apos) (e :: es) [] cpos) (tSeqM X.K rl rt to t) := by
  refine ⟨fun pins s σ H Q I h => ?_⟩
  refine wpAny_Call_method_late hbase hfew hline rfl (thn (ho.run pins s σ H _ I h) fun v s1 ⟨x, H1, I1, r1, a, ex, q1⟩ => ?_)
  subst ex
  cases r1
  rcases q1 with ⟨⟨xs, hq⟩, q1⟩ | ⟨⟨xs, hq⟩, q1⟩
  · obtain ⟨its, _, pl, _⟩ := I1.list hq
    refine ⟨"list", idl, PySem.F.plainAttrs_list, sl, hl, pl.isList.typeIs, fun b eb => ?_, ?_⟩
    · cases eb
      obtain ⟨o, n, e, c, hd, _⟩ := pl
      exact ⟨o, e, hd⟩
    · have hA := ha.run cpos pins s1 σ H1 _ I1 q1
      rw [hs] at hA ⊢
      refine Calls.callWith_builtin (by show (false || (backTo cpos (starEach es X.env)).any (·.1)) = false; rw [hplain] <;> rfl) (Calls.evalArgs_plain ?_)
      exact thn hA fun us s2 ⟨vs, H2, I2, r2, q2⟩ => ml pins s2 σ H2 (.ref a) vs (.ref a) us Q I2 rfl r2 q2
  · obtain ⟨ob, its, n, e1, c1, d1, t1, _⟩ := SqU.obj I1 hq
    refine ⟨"tuple", idt, PySem.F.plainAttrs_tuple, st, ht, ⟨ob, e1, c1⟩, fun b eb => ?_, ?_⟩
    · cases eb
      exact ⟨ob, e1, t1.1⟩
    · have hA := ha.run cpos pins s1 σ H1 _ I1 q1
      rw [hs] at hA ⊢
      refine Calls.callWith_builtin (by show (false || (backTo cpos (starEach es X.env)).any (·.1)) = false; rw [hplain] <;> rfl) (Calls.evalArgs_plain ?_)
      exact thn hA fun us s2 ⟨vs, H2, I2, r2, q2⟩ => mt pins s2 σ H2 (.ref a) vs (.ref a) us Q I2 rfl r2 q2
end
/-- the first place of an equal one -/
def sqOk : D → R Unit
  | .list _ => .ok ()
  | .tuple _ => .ok ()
  | _ => .no
def placeOf (ds : List D) (d : D) : Option Nat := ds.findIdx? fun z => PyData.eqv z d
def pyIndex (x y : D) : R D := match x with
  | .list ds => if fit y = true ∧ fit (.list ds) = true then (match placeOf ds y with
    | some j => .ok (.int (j : Nat))
    | none => .no) else .no
  | .tuple ds => if fit y = true ∧ fit (.tuple ds) = true then (match placeOf ds y with
    | some j => .ok (.int (j : Nat))
    | none => .no) else .no
  | _ => .no
theorem placeOf_some {ds : List D} {d : D} {j : Nat} (h : placeOf ds d = some j) : ∃ z, ds[j]? = some z ∧ PyData.eqv z d = true ∧ ∀ (m : Nat) (z' : D), m < j → ds[m]? = some z' → PyData.eqv z' d = false := by
  obtain ⟨hj, h1, h2⟩ := List.findIdx?_eq_some_iff_getElem.mp h
  refine ⟨ds[j], List.getElem?_eq_getElem hj, h1, fun m z' hm hz => ?_⟩
  obtain ⟨hl, rfl⟩ := List.getElem?_eq_some_iff.mp hz
  simpa using h2 m hm
theorem plainAll_list {ds : List D} (h : fit (.list ds) = true) : PyData.plainAll ds = true := by
  have := fit_flat h
  rw [flat_plain] at this
  simpa [PyData.plain] using this
theorem plainAll_tuple {ds : List D} (h : fit (.tuple ds) = true) : PyData.plainAll ds = true := by
  have := fit_flat h
  rw [flat_plain] at this
  simpa [PyData.plain] using this
theorem plain_of {d : D} (h : fit d = true) : d.plain = true := by
  have := fit_flat h
  rwa [flat_plain] at this
theorem rdP_mono {K : PySem.W.Frag} {mg : Str → Option Value} {E : XK} {ρ : En} {m : R D} {σ : L2.St} {H : Hp} {Q Q' : VK} (h : rdP K mg E ρ m σ H Q) (f : ∀ v H, Q v H → Q' v H) : rdP K mg E ρ m σ H Q' := by
  obtain ⟨G, s, ep, q⟩ := h
  exact ⟨G, s, ep, q.mono f⟩
section
variable {X : Cx} {E : XK} {ρ : En} {o e : Expr} {m me : R D} {apos cpos : Pos}
theorem xp_index (hu : X.A.units + 66 < cLine) (ho : XP X E ρ o m) (ha : XP X E ρ e me)
    (hbase : attributeBase o "index" X.env (eval o X.env) = eval o X.env := by rfl)
    (hfew : ((backTo cpos (starEach [e] X.env)).all (fun x => !x.1) && (backToKw cpos (keywordEach [] X.env)).all (fun x => x.1.isSome)
      && decide ([e].length + ([] : List Keyword).length + (if ([] : List Keyword).isEmpty then 0 else 1) < 30)) = true := by rfl)
    (hline : (apos.endLine == cpos.line) = true := by rfl) (hs : starEach [e] X.env = (false, eval e X.env) :: starEach [] X.env := by rfl) (hplain : (backTo cpos (starEach [] X.env)).any (·.1) = false := by rfl) :
    XP X E ρ (.Call (.Attribute o "index" apos) [e] [] cpos) (m.bind fun x => (sqOk x).bind fun _ => me.bind fun y => pyIndex x y) :=
  pe_weak (pe_seqM PySem.F.slot_list_index PySem.F.type_list_index (mt_indexL (by omega)) PySem.F.slot_tuple_index PySem.F.type_tuple_index (mt_indexT (by omega)) ho (pa_cons ha pa_nil hs) hbase hfew hline hs hplain) fun σ H Q ⟨G, s, ep, q⟩ => by
    refine ⟨G, s, ep, (PostP.bind (Rp := Rep) q).mono fun x H1 ⟨G1, tx, fr, r, em, q1⟩ => ?_⟩
    have key : ∀ (ds : List D) (x : V), (tx = .list ds ∨ tx = .tuple ds) → PostP Rep X.K X.mg E G1 H1 (me.bind fun y => pyIndex tx y) Q → rdP X.K X.mg E ρ me σ H1 fun y H2 => ∃ G2 ty j z, Same G1 G2 ∧ Same G2 H2 ∧ Rep X.K G2 y ty ∧ fit ty = true ∧ fit tx = true ∧ ds[j]? = some z ∧ PyData.eqv z ty = true ∧ (∀ (m : Nat) (z' : D), m < j → ds[m]? = some z' → PyData.eqv z' ty = false) ∧ Q (.int (j : Nat)) H2 := fun ds x hx q1 => by
      refine ⟨G1, fr.gh, ep.mono fr.gg, (PostP.bind (Rp := Rep) q1).mono fun y H2 ⟨G2, ty, fr2, r2, em2, q2⟩ => ?_⟩
      have q3 : PostP Rep X.K X.mg E G2 H2 (if fit ty = true ∧ fit tx = true then (match placeOf ds ty with
        | some j => .ok (.int (j : Nat))
        | none => .no) else .no) Q := by
        rcases hx with rfl | rfl <;> exact q2
      by_cases hf : fit ty = true ∧ fit tx = true
      · rw [if_pos hf] at q3
        cases hp : placeOf ds ty with
        | none => rw [hp] at q3; exact q3.elim
        | some j =>
          rw [hp] at q3
          obtain ⟨z, h1, h2, h3⟩ := placeOf_some hp
          exact ⟨G2, ty, j, z, fr2.gg, fr2.gh, r2, hf.1, hf.2, h1, h2, h3, q3.now fr2.gh (.int _)⟩
      · rw [if_neg hf] at q3
        exact q3.elim
    cases r with
    | lst h a =>
      rename_i ad vs xs _
      have h0 := same_lst (K := X.K) fr.gh h
      have hr := Rep.lst h a
      refine ⟨_, rfl, .inl ⟨⟨_, h0⟩, ?_⟩⟩
      refine rdP_mono (key xs (.ref ad) (.inl rfl) q1) fun y H2 ⟨G2, ty, j, z, s1, s2, r2, f1, f2, h1, h2, h3, q3⟩ => ?_
      exact ⟨_, y, ty, _, j, z, rfl, rfl, (hr.mono (s1.trans s2)).dp (fit_flat f2), (r2.mono s2).dp (fit_flat f1), plainAll_list f2, plain_of f1, fit_depth f1, h1, h2, h3, q3⟩
    | tup h a =>
      rename_i ad vs xs _
      have h0 := h.same fr.gh
      have hr := Rep.tup h a
      refine ⟨_, rfl, .inr ⟨⟨_, h0⟩, ?_⟩⟩
      refine rdP_mono (key xs (.ref ad) (.inr rfl) q1) fun y H2 ⟨G2, ty, j, z, s1, s2, r2, f1, f2, h1, h2, h3, q3⟩ => ?_
      exact ⟨_, y, ty, _, j, z, rfl, rfl, (hr.mono (s1.trans s2)).dp (fit_flat f2), (r2.mono s2).dp (fit_flat f1), plainAll_tuple f2, plain_of f1, fit_depth f1, h1, h2, h3, q3⟩
    | _ => exact q1.elim
end
end TL
/-! the tree layer, 24: constants of the module, raise -/
namespace TL
open PySem PySem.Spec PyProof.Rows L2
section
variable {X : Cx} {E : XK} {io fr : Bool} {own own' : List Nat} {ρ : En} {A B : Type} {post : A → Fin} {pos : Pos}
/-- a whole number of the module -/
theorem ep_gint {x : Str} {i : Int} {t : Tok} (hm : X.mg x = some (.int i t)) (hg : Gl X x := by rfl) (hd : (x == ("__debug__" : Str)) = false := by decide) : XP X E ρ (.Name x pos) (.ok (.int i)) :=
  pe_weak (pe_glob (v := .int i) hg hm ⟨t, rfl⟩ hd) fun σ H Q ⟨G, s, h, q⟩ => q _ G H (Fr.refl s) (.int i)
/-- a text of the module -/
theorem ep_gstr {x : Str} {i : Str} {t : Tok} (hm : X.mg x = some (.str i t)) (hg : Gl X x := by rfl) (hd : (x == ("__debug__" : Str)) = false := by decide) : XP X E ρ (.Name x pos) (.ok (.str i)) :=
  pe_weak (pe_glob (v := .str i) hg hm ⟨t, rfl⟩ hd) fun σ H Q ⟨G, s, h, q⟩ => q _ G H (Fr.refl s) (.str i)
/-- an exception class of the module -/
structure ClsX (K : PySem.W.Frag) (mg : Str → Option Value) (c : Str) : Prop where
  ex : ∃ C, mg c = some (.ref C) ∧ PySem.W.excIn K C [.type "ValueError", .type "Exception", .type "BaseException", .type "object"] "ValueError.__new__" = true ∧ PySem.W.keepIn K (.ref C) = true ∧
    PySem.W.subIn K (.ref C) (.type "BaseException") = some true ∧ PySem.W.typeIn K (.ref C) = some (.type "type")
theorem clsX_mk {K : PySem.W.Frag} {mg : Str → Option Value} {c : Str} {C : Addr} (g : mg c = some (.ref C)) (q : PySem.W.excIn K C [.type "ValueError", .type "Exception", .type "BaseException", .type "object"] "ValueError.__new__" = true) (k : PySem.W.keepIn K (.ref C) = true)
    (b : PySem.W.subIn K (.ref C) (.type "BaseException") = some true) (t : PySem.W.typeIn K (.ref C) = some (.type "type")) : ClsX K mg c := ⟨C, g, q, k, b, t⟩
theorem bs_raise {x m : Str} {j : Nat} {p p2 p3 : Pos} {W : L2.WX} (C : ClsX X.K X.mg x) (hc : X.calm = true) (tk : L2.Takes X W) (hW : ∀ cls d σ H, E cls d H → W cls d σ H) (hg : Gl X x := by rfl) (hdb : (x == ("__debug__" : Str)) = false := by decide) :
    BS X E io fr own ρ [.Raise (some (.Call (.Name x p) [.Constant (.str m) j p2] [] p3)) none pos] (.ex x : R A) post own' := by
  obtain ⟨C, gC, q, kC, b, t⟩ := C
  refine pss_weak (pss_one (L2.ps_raise hc tk (L2.pmk_own PySem.F.excBase_ValueError q gC kC (L2.raises_own b t) hg hdb))) fun Dn σ H hq => ?_
  obtain ⟨G0, H0, A0, ad, G, er, f0, q⟩ := hq
  have q' : E (cls X.mg x) none H := q H fun b o e hne => f0.h0 b o e hne
  have e : cls X.mg x = .ref C := by
    unfold cls
    rw [gC]
    rfl
  rw [e] at q'
  exact hW _ _ _ _ q'
end
section
variable {P : Program} {w : World} {K : PySem.W.Frag} {mg : Str → Option Value} {base : Heap} {N : List Str} {x : Str} {sc : Scope} {f : Addr} {cdv : Value} {A : Around} {outer : List Env} {s : Shared} {H : Hp} {E : XK} {io fr : Bool} {own own' : List Nat} {ρ : En} {B : Type} {post : B → Fin} {pos : Pos}
theorem bs_raise_cx {x2 m : Str} {j : Nat} {p p2 p3 : Pos} (C : ClsX K mg x2) (hg : Gl (cxOf (L2.CX P w) P w K mg base N x sc f cdv A outer s H E) x2 := by rfl) (hdb : (x2 == ("__debug__" : Str)) = false := by decide) :
    BS (cxOf (L2.CX P w) P w K mg base N x sc f cdv A outer s H E) E io fr own ρ [.Raise (some (.Call (.Name x2 p) [.Constant (.str m) j p2] [] p3)) none pos] (.ex x2 : R B) post own' :=
  bs_raise (W := fun c d _ H => E c d H) C rfl (L2.takes_of rfl rfl rfl rfl) (fun _ _ _ _ h => h) hg hdb
end
/-- a def that may fall off its end -/
theorem cal_fnE {P : Program} {w : World} {K : PySem.W.Frag} {mg : Str → Option Value} {base : Heap} {k : Nat} {x : Str} {np : Nat} {st : Stmt} {f : Addr} {fd : FuncData} {N ps : List Str} {mf : List D → R D} (F : Fun K x x st f fd) (S : FnScope N ps (defScope st)) (hb : Binds K fd ps []) (hm : mg x = some (.ref f)) (hnp : np = ps.length)
    (hbody : ∀ (cdv : Value) (A : Around) (outer : List Env) (s : Shared) (H : Hp) (E : XK), Room k (A.deeper (envOfC x (defScope st) s.heap.objs.size f cdv)) → ∀ ts : List D, ts.length = np →
      ∃ (m : R (Oc Unit)) (emb : Unit → En), mf ts = thenO m (fun t _ => t) (fun _ => .ok .none) ∧ BS (cxOf (L2.CX P w) P w K mg base N x (defScope st) f cdv A outer s H E) E false false [] (startE N ts) (defBody st) m (postO emb) []) :
    CalOk P w K mg base (k + 1) x (spP K mg np false mf) := by
  refine ⟨f, fd, ps, F.okX S (fun vs H Q E h => h.1.trans hnp) fun cdv A outer s H vs Q E hr h => ?_, hm, F.kp, hb⟩
  obtain ⟨hl, G, ts, sa, ra, q⟩ := h
  obtain ⟨m, emb, e1, hB⟩ := hbody cdv A outer s H E hr ts (by rw [← ra.length]; exact hl)
  refine ⟨_, hB, G, H, 0, fun _ => 0, G, Er.start sa ra, ⟨Same.refl _, fun _ _ e _ => e, fun _ h _ => h, (fun _ h => nomatch h), (fun z => nomatch z)⟩, ?_⟩
  rw [e1] at q
  cases em : m with
  | no => rw [em] at q; exact q.elim
  | ex c => rw [em] at q; exact fun H' h => q H' fun b o e => h b o e fun z => nomatch z
  | ok o =>
    rw [em] at q
    cases o with
    | nx j => exact fun ad σ G' H' er r => q .non G' H' ⟨r.g0, er.gh, (fun b o e => r.h0 b o e (fun z => nomatch z)), r.nw⟩ .non
    | rt t b => exact fun v G' H' r => q v G' H' ⟨r.g0, r.gh, (fun b o e => r.h0 b o e (fun z => nomatch z)), r.nw⟩ r.an
    | bk j => exact q.elim
theorem nev_ex {J : Type} {post : J → Fin} {x : String} : Nev (R.ex x : R J) post := fun _ h => nomatch h
end TL
/-! the tree layer, 25: a, b = x, y -/
namespace TL
open PySem PySem.Spec PyProof.Rows L2
section
variable {X : Cx} {E : XK} {io fr : Bool} {own : List Nat} {ρ : En} {A : Type} {e : Expr} {pos : Pos}
theorem ps_asg2 {te : TE} {i j : Nat} {x y : Str} {px py pt : Pos} {kt : Nat} (he : PE X e te) (hc : X.calm = true) (hN : X.N.Nodup) (hi : X.N[i]? = some x) (hj : X.N[j]? = some y) (hij : i ≠ j)
    (hx : X.env.scope.names.lookup x = some .local) (hy : X.env.scope.names.lookup y = some .local)
    (hw : swappedStores [.Tuple [.Name x px, .Name y py] kt pt] e X.env = pure (some [x, y]))
    (hs : swapsWithSole [.Tuple [.Name x px, .Name y py] kt pt] e pos.line X.env = pure false) :
    PS X (.Assign [.Tuple [.Name x px, .Name y py] kt pt] e pos) (tAsg te (gTup X.K 2 fun vs σ H Q => ∃ v w, vs = [v, w] ∧ Q ((σ.set i (some v)).set j (some w)) H)) := by
  refine ⟨fun pins s σ H D I h => ?_⟩
  rw [exec_Assign_arm]
  refine wpAny_bind (wpAny_standAt ?_)
  rw [hs]
  refine wpAny_bind (wpAny_pure ?_)
  rw [if_neg (by decide)]
  refine wpAny_bind (thn (he.run pins s σ H _ I h) fun u s1 ⟨v, H1, I1, r1, q1⟩ => ?_)
  obtain ⟨a, xs, e1, hq, hl, v1, v2, e2, q1⟩ := q1
  subst e1
  subst e2
  cases r1
  obtain ⟨its, rv, ht, hz⟩ := I1.tuple hq
  obtain ⟨u1, u2, e3, rv1, rv2⟩ : ∃ u1 u2, its = [u1, u2] ∧ RelV v1 u1 ∧ RelV v2 u2 := by
    cases rv with
    | cons p q =>
      cases q with
      | cons p' q' =>
        cases q'
        exact ⟨_, _, rfl, p, p'⟩
  subst e3
  rw [hw]
  refine wpAny_bind (wpAny_pure ?_)
  show wpAny (model X.prog X.w) X.A (do rule "assign.swapped-stores"; let items ← unpackItems (.ref a) 2 none; assignInOrder [fun v => bindName X.env y v, fun v => bindName X.env x v] items.reverse; pure Flow.next) _ _ _
  refine wpAny_bind (wpAny_rule (wpAny_bind (unpackItems_tuple (items := #[u1, u2]) (I.ok.hd hc) ht fun h' hx' => ?_)))
  have I3 := I1.kept (h' := h') (t' := s1.toks) fun b o e => hx' b o (Nat.ne_of_lt (Heap.lt_size e)) e
  show wpAny _ _ (assignInOrder [fun v => bindName X.env y v, fun v => bindName X.env x v] [u2, u1] >>= fun _ => pure Flow.next) _ _ _
  refine wpAny_bind (assignInOrder_cons (wpAny_bindName (store_ok I3 hN hj (.inl hy) rv2 (fun s2 I4 => ?_) (.inr hy))))
  refine assignInOrder_cons (wpAny_bindName (store_ok I4 hN hi (.inl hx) rv1 (fun s3 I5 => assignInOrder_nil (wpAny_pure ?_)) (.inr hx)))
  rw [List.set_comm _ _ (Ne.symm hij)] at I5
  exact ⟨_, H1, I5, q1⟩
theorem ss_par {x y : Str} {px py pt : Pos} {kt : Nat} {m : R A} {val : A → D} {env : A → En} (i j : Nat) (he : VP X E own ρ e m val env) (hN : X.N.Nodup) (hc : X.calm = true := by rfl) (hi : X.N[i]? = some x := by rfl) (hj : X.N[j]? = some y := by rfl) (hij : i ≠ j := by decide)
    (hx : X.env.scope.names.lookup x = some .local := by rfl) (hy : X.env.scope.names.lookup y = some .local := by rfl) (hsl : ∀ k ∈ [i, j], k ∉ own := by decide)
    (hw : swappedStores [.Tuple [.Name x px, .Name y py] kt pt] e X.env = pure (some [x, y]) := by rfl)
    (hs : swapsWithSole [.Tuple [.Name x px, .Name y py] kt pt] e pos.line X.env = pure false := by rfl) :
    SS X E io fr own ρ (.Assign [.Tuple [.Name x px, .Name y py] kt pt] e pos) (m.bind fun a => (nox (unp2 (val a))).bind fun p => .ok (a, p)) (fun r => .nx (setN (setN (env r.1) i (some r.2.1)) j (some r.2.2))) own :=
  ps_weak (ps_asg2 he hc hN hi hj hij hx hy hw hs) fun Dn σ H hq => by
    obtain ⟨G0, H0, A0, ad, G, er, f, q⟩ := hq
    refine ⟨ad, G, er, ?_⟩
    cases em : m with
    | no => rw [em] at q; exact q.elim
    | ex c => rw [em] at q; exact fun H' s => q H' fun b o e hne => s _ _ (f.h0 b o e hne)
    | ok a =>
      rw [em] at q
      intro v G' H' er' fr' r
      have f' := f.next er fr' er'
      have q1 : PostR X.K X.mg E io fr G0 H0 A0 own ((nox (unp2 (val a))).bind fun p => .ok (a, p)) (fun r => .nx (setN (setN (env r.1) i (some r.2.1)) j (some r.2.2))) Dn := q
      cases eu : unp2 (val a) with
      | no => rw [eu] at q1; exact q1.elim
      | ex c => rw [eu] at q1; exact q1.elim
      | ok p =>
        rw [eu] at q1
        generalize val a = d at r eu
        match d, eu with
        | .tuple [t1, t2], eu =>
          cases eu
          cases r with
          | tup h ra =>
            obtain ⟨v1, v2, rfl, r1, r2⟩ := repAll2 ra
            refine ⟨_, _, rfl, same_seqT er'.gh h, rfl, v1, v2, rfl, ?_⟩
            refine q1 ad _ G' H' ?_ f'
            have := puts_er (ps := [(i, v1, t1), (j, v2, t2)]) (ρ := env a) (own := own) (by simpa using ⟨r1, r2⟩) (by simpa using hsl) er'
            exact this
        | .tuple [], eu | .tuple [_], eu | .tuple (_ :: _ :: _ :: _), eu => cases eu
        | .none, eu | .bool _, eu | .int _, eu | .str _, eu | .list _, eu | .dict _, eu => cases eu
end
section
variable {X : Cx}
/-- a, b = a list of two -/
def unp2l : D → R (D × D)
  | .list [a, b] => .ok (a, b)
  | _ => .no
theorem xg_pairL {x y : Str} {px py pos : Pos} {kk : Nat} (i j : Nat) (hN : X.N.Nodup) (hc : X.calm = true := by rfl) (hi : X.N[i]? = some x := by rfl) (hj : X.N[j]? = some y := by rfl) (hx : Loc X.env.scope x := by first | exact .inl rfl | exact .inr rfl) (hy : Loc X.env.scope y := by first | exact .inl rfl | exact .inr rfl)
    (hfx : X.fn x = true ∨ X.env.scope.names.lookup x = some .local := by first | exact .inl rfl | exact .inr rfl) (hfy : X.fn y = true ∨ X.env.scope.names.lookup y = some .local := by first | exact .inl rfl | exact .inr rfl) :
    XG X (.Tuple [.Name x px, .Name y py] kk pos) [i, j] unp2l (fun p ρ => setN (setN ρ i (some p.1)) j (some p.2)) :=
  pg_weak (pg_lst (n := 2) hc (pgs_cons (pg_name hN hi hx hfx) (pgs_cons (pg_name hN hj hy hfy) pgs_nil))) fun v σ H Q ⟨G, d, p, s, r, e, q⟩ => by
    match d, e with
    | .list [a, b], e =>
      cases e
      cases r with
      | lst h ra =>
        obtain ⟨v1, v2, rfl, r1, r2⟩ := repAll2 ra
        exact ⟨_, _, rfl, same_lst s h, rfl, v1, _, rfl, v2, [], rfl, rfl, q [(i, v1, a), (j, v2, b)] ⟨by simp, by simpa using ⟨r1, r2⟩, fun _ => rfl⟩⟩
    | .list [], e | .list [_], e | .list (_ :: _ :: _ :: _), e => cases e
    | .none, e | .bool _, e | .int _, e | .str _, e | .tuple _, e | .dict _, e => cases e
end
end TL
namespace JT
open PySem PySem.Spec PyProof.Rows L2 TL
def m_is_whole : List D → R D
  | [p0] => ((((R.ok p0).bind fun x1 => isD ["int"] x1).bind fun x5 => (tru x5).bind fun k6 => if k6 = true then (((R.ok p0).bind fun x2 => isD ["bool"] x2).bind fun x3 => (tru x3).bind fun k4 => R.ok (PyData.bool (!k4))) else R.ok x5).bind fun v7 => R.ok v7)
  | _ => R.no
def m_is_upto : List D → R D
  | [p0, p1] => ((((R.ok p0).bind fun x1 => m_is_whole [x1]).bind fun x8 => (tru x8).bind fun k9 => if k9 = true then ((R.ok (PyData.int 0)).bind fun x2 => (R.ok p0).bind fun x3 => (pyLe x2 x3).bind fun x4 => (asB x4).bind fun x5 => if x5 = true then (R.ok p1).bind fun x6 => pyLt x3 x6 else R.ok (PyData.bool false)) else R.ok x8).bind fun v10 => R.ok v10)
  | _ => R.no
def m_is_rising : List D → R D
  | [p0] => ((((((R.ok p0).bind fun x3 => (R.ok (none : Option Int)).bind fun x4 => (((R.ok (PyData.int 1)).bind fun x1 => pyNeg x1).bind fun x2 => partD x2).bind fun x5 => pySl x3 x4 x5).bind fun x6 => ((R.ok p0).bind fun x8 => ((R.ok (PyData.int 1)).bind fun x7 => partD x7).bind fun x9 => (R.ok (none : Option Int)).bind fun x10 => pySl x8 x9 x10).bind fun x11 => pyZip [x6, x11]).bind fun is15 => (mapR (fun d17 => (unp2 d17).bind fun a12 => ((R.ok a12.1).bind fun x13 => (R.ok a12.2).bind fun x14 => pyLt x13 x14)) is15).bind fun rs16 => R.ok (PyData.list rs16)).bind fun x18 => pyAll [x18]).bind fun v19 => R.ok v19)
  | _ => R.no
def m_is_head : List D → R D
  | [p0, p1] => ((((((R.ok p0).bind fun x1 => isD ["tuple"] x1).bind tru).bind fun k2 => R.ok (!k2)).bind fun k16 => if k16 = true then R.ok true else (((R.ok p0).bind fun x3 => (R.ok (PyData.tuple [])).bind fun x4 => (pyEq x3 x4).bind asB).bind fun k15 => if k15 = true then R.ok true else ((((((R.ok p0).bind fun x6 => items x6).bind fun is10 => (mapR (fun d12 => ((fun d => R.ok d) d12).bind fun a7 => ((R.ok a7).bind fun x8 => (R.ok p1).bind fun x9 => m_is_upto [x8, x9])) is10).bind fun rs11 => R.ok (PyData.list rs11)).bind fun x13 => pyAll [x13]).bind tru).bind fun k14 => R.ok (!k14)))).bind fun b17 => if b17 = true then ((R.ok (PyData.bool false)).bind fun v18 => R.ok v18) else (((R.ok p0).bind fun x19 => m_is_rising [x19]).bind fun v20 => R.ok v20))
  | _ => R.no
def m_is_layout : List D → R D
  | [p0] => ((((((R.ok p0).bind fun x1 => isD ["tuple"] x1).bind tru).bind fun k2 => R.ok (!k2)).bind fun k21 => if k21 = true then R.ok true else ((((R.ok p0).bind fun x3 => pyLen [x3]).bind fun x4 => (R.ok (PyData.int 2)).bind fun x5 => (pyNe x4 x5).bind asB).bind fun k20 => if k20 = true then R.ok true else ((((((R.ok p0).bind fun x7 => (R.ok (PyData.int 0)).bind fun x8 => pyIx x7 x8).bind fun x9 => ((R.ok (PyData.int 7)).bind fun x10 => (R.ok (PyData.int 1)).bind fun x11 => pyAdd x10 x11).bind fun x12 => m_is_upto [x9, x12]).bind tru).bind fun k13 => R.ok (!k13)).bind fun k19 => if k19 = true then R.ok true else (((R.ok p0).bind fun x14 => (R.ok (PyData.int 0)).bind fun x15 => pyIx x14 x15).bind fun x16 => (R.ok (PyData.int 0)).bind fun x17 => (pyEq x16 x17).bind asB)))).bind fun b22 => if b22 = true then ((R.ok (PyData.bool false)).bind fun v23 => R.ok v23) else (((((((R.ok p0).bind fun x24 => (R.ok (PyData.int 1)).bind fun x25 => pyIx x24 x25).bind fun x26 => isD ["tuple"] x26).bind tru).bind fun k27 => R.ok (!k27)).bind fun k38 => if k38 = true then R.ok true else (((R.ok (PyData.int 1)).bind fun x31 => (((R.ok p0).bind fun x28 => (R.ok (PyData.int 1)).bind fun x29 => pyIx x28 x29).bind fun x30 => pyLen [x30]).bind fun x32 => (pyLe x31 x32).bind fun x33 => (asB x33).bind fun x34 => if x34 = true then (R.ok (PyData.int 6)).bind fun x35 => (pyLe x32 x35).bind asB else R.ok false).bind fun k37 => R.ok (!k37))).bind fun b39 => if b39 = true then ((R.ok (PyData.bool false)).bind fun v40 => R.ok v40) else ((((((R.ok p0).bind fun x41 => (R.ok (PyData.int 1)).bind fun x42 => pyIx x41 x42).bind fun x43 => items x43).bind fun is49 => (mapR (fun d51 => ((fun d => R.ok d) d51).bind fun a44 => ((R.ok a44).bind fun x45 => ((R.ok p0).bind fun x46 => (R.ok (PyData.int 0)).bind fun x47 => pyIx x46 x47).bind fun x48 => m_is_head [x45, x48])) is49).bind fun rs50 => R.ok (PyData.list rs50)).bind fun x52 => pyAll [x52]).bind fun v53 => R.ok v53)))
  | _ => R.no
def m_look_at_head : List D → R D
  | [p0, p1] => (thenO (J := Unit) (((((R.ok p1).bind fun x8 => (((R.ok p0).bind fun x9 => (R.ok (PyData.int 1)).bind fun x10 => pyIx x9 x10).bind fun x11 => pyLen [x11]).bind fun x12 => m_is_upto [x8, x12]).bind tru).bind fun k13 => R.ok (!k13)).bind fun b14 => if b14 = true then (R.ex "NoHead") else (R.ok (Oc.nx ()))) (fun t _ => t) (fun _ => R.ok PyData.none))
  | _ => R.no
def m_look_at_column : List D → R D
  | [p0, p1] => (thenO (J := Unit) (((((R.ok p1).bind fun x7 => ((R.ok p0).bind fun x8 => (R.ok (PyData.int 0)).bind fun x9 => pyIx x8 x9).bind fun x10 => m_is_upto [x7, x10]).bind tru).bind fun k11 => R.ok (!k11)).bind fun b12 => if b12 = true then (R.ex "NoColumn") else (R.ok (Oc.nx ()))) (fun t _ => t) (fun _ => R.ok PyData.none))
  | _ => R.no
def m_having : List D → R D
  | [p0, p1] => (((((R.ok p0).bind fun x1 => pyEnum [x1]).bind fun is3 => (filR (fun d5 => (unp2 d5).bind fun a2 => ((R.ok p1).bind fun x6 => (R.ok a2.2).bind fun x7 => (pyIn x6 x7).bind asB)) (fun d5 => (unp2 d5).bind fun a2 => (R.ok a2.1)) is3).bind fun rs4 => R.ok (PyData.list rs4)).bind fun x9 => pyTuple [x9]).bind fun v10 => R.ok v10)
  | _ => R.no
def m_heads_of : List D → R D
  | [p0, p1] => (((R.ok p0).bind fun x1 => (R.ok p1).bind fun x2 => m_look_at_column [x1, x2]).bind fun v3 => ((((R.ok p0).bind fun x4 => (R.ok (PyData.int 1)).bind fun x5 => pyIx x4 x5).bind fun x6 => (R.ok p1).bind fun x7 => m_having [x6, x7]).bind fun v8 => R.ok v8))
  | _ => R.no
def m_both : List D → R D
  | [p0, p1] => (((((R.ok p0).bind fun x1 => items x1).bind fun is3 => (filR (fun d5 => ((fun d => R.ok d) d5).bind fun a2 => ((R.ok a2).bind fun x6 => (R.ok p1).bind fun x7 => (pyIn x6 x7).bind asB)) (fun d5 => ((fun d => R.ok d) d5).bind fun a2 => (R.ok a2)) is3).bind fun rs4 => R.ok (PyData.list rs4)).bind fun x9 => pyTuple [x9]).bind fun v10 => R.ok v10)
  | _ => R.no
def m_common : List D → R D
  | [p0, p1, p2] => (((R.ok p0).bind fun x1 => (R.ok p1).bind fun x2 => m_look_at_head [x1, x2]).bind fun v3 => (((R.ok p0).bind fun x4 => (R.ok p2).bind fun x5 => m_look_at_head [x4, x5]).bind fun v6 => (((((R.ok p0).bind fun x7 => (R.ok (PyData.int 1)).bind fun x8 => pyIx x7 x8).bind fun x9 => (R.ok p1).bind fun x10 => pyIx x9 x10).bind fun x11 => (((R.ok p0).bind fun x12 => (R.ok (PyData.int 1)).bind fun x13 => pyIx x12 x13).bind fun x14 => (R.ok p2).bind fun x15 => pyIx x14 x15).bind fun x16 => m_both [x11, x16]).bind fun v17 => R.ok v17)))
  | _ => R.no
def m_law_cell : List D → R D
  | [p0, p1] => (((R.ok p1).bind fun x2 => ((R.ok p0).bind fun x1 => pyLen [x1]).bind fun x3 => (pyLt x2 x3).bind asB).bind fun b5 => if b5 = true then (((R.ok p0).bind fun x6 => (R.ok p1).bind fun x7 => pyIx x6 x7).bind fun v8 => R.ok v8) else ((((R.ok (PyData.int 6151)).bind fun x9 => (R.ok p1).bind fun x10 => pyMul x9 x10).bind fun x11 => (R.ok (PyData.int 29)).bind fun x12 => pyAdd x11 x12).bind fun v13 => R.ok v13))
  | _ => R.no
def m_law_box : List D → R D
  | [p0, p1] => (((R.ok p0).bind fun x1 => (R.ok p1).bind fun x2 => m_law_cell [x1, x2]).bind fun v3 => ((((R.ok v3).bind fun x4 => (R.ok (PyData.int 2)).bind fun x5 => pyMod x4 x5).bind fun x6 => (R.ok (PyData.int 0)).bind fun x7 => (pyEq x6 x7).bind asB).bind fun b9 => if b9 = true then ((((R.ok v3).bind fun x10 => (R.ok (PyData.int 2)).bind fun x11 => pyDiv x10 x11).bind fun x12 => R.ok (PyData.list [x12])).bind fun v13 => R.ok v13) else ((R.ok (PyData.int 0)).bind fun v14 => (((R.ok v3).bind fun x15 => (R.ok (PyData.int 2147483647)).bind fun x16 => pyMod x15 x16).bind fun v17 => ((((R.ok (PyData.int 24)).bind fun x18 => pyRange [x18]).bind fun b19 => foldR (fun d => R.ok d) (fun (j20 : (D × D)) a21 => (((((((R.ok j20.2).bind fun x22 => (R.ok (PyData.int 48271)).bind fun x23 => pyMul x22 x23).bind fun x28 => (((R.ok (PyData.int 7)).bind fun x24 => (R.ok a21).bind fun x25 => pyMul x24 x25).bind fun x26 => (R.ok a21).bind fun x27 => pyMul x26 x27).bind fun x29 => pyAdd x28 x29).bind fun x32 => ((R.ok (PyData.int 11)).bind fun x30 => (R.ok p1).bind fun x31 => pyMul x30 x31).bind fun x33 => pyAdd x32 x33).bind fun x34 => (R.ok (PyData.int 1)).bind fun x35 => pyAdd x34 x35).bind fun x36 => (R.ok (PyData.int 2147483647)).bind fun x37 => pyMod x36 x37).bind fun v38 => ((((R.ok j20.1).bind fun x39 => (R.ok (PyData.int 2147483647)).bind fun x40 => pyMul x39 x40).bind fun x41 => (R.ok v38).bind fun x42 => pyAdd x41 x42).bind fun v43 => (R.ok (v43, v38))))) b19 (v14, v17)).bind fun j44 => (((R.ok j44.1).bind fun x45 => R.ok (PyData.list [x45])).bind fun v46 => R.ok v46))))))
  | _ => R.no
def m_law_take : D → List D → R (D × D)
  | p0, [p1] => ((nl (((R.ok p0).bind fun x1 => (R.ok (PyData.int 0)).bind fun x2 => pyIx x1 x2).bind fun x3 => (R.ok p1).bind fun x4 => pyMod x3 x4)).bind fun v5 => (((nl (((R.ok p0).bind fun x6 => (R.ok (PyData.int 0)).bind fun x7 => pyIx x6 x7).bind fun x8 => (R.ok p1).bind fun x9 => pyDiv x8 x9)).bind fun v10 => (R.ok (PyData.int 0)).bind fun k11 => (setD p0 k11 v10).bind fun r12 => R.ok r12).bind fun j13 => ((R.ok v5).bind fun v14 => R.ok (v14, j13))))
  | _, _ => R.no
def m_law_odd : D → List D → R (D × D)
  | p0, [] => (((R.ok PyData.none).bind fun x1 => (R.ok (PyData.bool true)).bind fun x2 => (R.ok (PyData.int 7)).bind fun x3 => (R.ok (PyData.str "")).bind fun x4 => (R.ok (PyData.str "0")).bind fun x5 => (R.ok (PyData.tuple [])).bind fun x6 => (R.ok (PyData.list [])).bind fun x7 => (R.ok (PyData.dict [])).bind fun x8 => ((R.ok (PyData.int 1)).bind fun x9 => (R.ok (PyData.int 2)).bind fun x10 => R.ok (PyData.tuple [x9, x10])).bind fun x11 => ((R.ok (PyData.int 0)).bind fun x12 => R.ok (PyData.tuple [x12])).bind fun x13 => ((R.ok (PyData.int 1)).bind fun x14 => (R.ok (PyData.int 0)).bind fun x15 => R.ok (PyData.tuple [x14, x15])).bind fun x16 => ((R.ok (PyData.int 1)).bind fun x17 => pyNeg x17).bind fun x18 => ((R.ok (PyData.int 0)).bind fun x19 => (R.ok (PyData.int 1)).bind fun x20 => R.ok (PyData.tuple [x19, x20])).bind fun x21 => (((R.ok (PyData.int 0)).bind fun x22 => (R.ok (PyData.int 1)).bind fun x23 => R.ok (PyData.tuple [x22, x23])).bind fun x24 => R.ok (PyData.list [x24])).bind fun x25 => (R.ok (PyData.bool false)).bind fun x26 => ((R.ok (PyData.int 2)).bind fun x27 => (((R.ok (PyData.int 0)).bind fun x28 => (R.ok (PyData.int 1)).bind fun x29 => R.ok (PyData.tuple [x28, x29])).bind fun x30 => R.ok (PyData.tuple [x30])).bind fun x31 => R.ok (PyData.tuple [x27, x31])).bind fun x32 => R.ok (PyData.list [x1, x2, x3, x4, x5, x6, x7, x8, x11, x13, x16, x18, x21, x25, x26, x32])).bind fun v33 => ((nox (((R.ok v33).bind fun t44 => R.ok (t44, p0)).bind fun pq41 => (((R.ok (PyData.int 16)).bind fun t46 => R.ok (t46, pq41.2)).bind fun pq45 => (m_law_take pq45.2 [pq45.1]).bind fun q47 => R.ok (q47.1, q47.2)).bind fun q42 => (pyIx pq41.1 q42.1).bind fun z43 => R.ok (z43, q42.2))).bind fun v48 => R.ok (v48.1, v48.2)))
  | _, _ => R.no
def m_law_same : Nat → List D → R D
  | 0, _ => R.no
  | n + 1, [p0, p1] => ((((R.ok p1).bind fun x1 => isD ["tuple", "list"] x1).bind tru).bind fun b2 => if b2 = true then (((((R.ok p0).bind fun x3 => isD ["tuple"] x3).bind fun x5 => ((R.ok p1).bind fun x4 => isD ["tuple"] x4).bind fun x6 => (pyNe x5 x6).bind asB).bind fun k13 => if k13 = true then R.ok true else (((R.ok p0).bind fun x8 => isD ["list"] x8).bind fun x10 => ((R.ok p1).bind fun x9 => isD ["list"] x9).bind fun x11 => (pyNe x10 x11).bind asB)).bind fun b14 => if b14 = true then ((R.ok (PyData.bool false)).bind fun v15 => R.ok v15) else (((((R.ok p0).bind fun x16 => pyLen [x16]).bind fun x18 => ((R.ok p1).bind fun x17 => pyLen [x17]).bind fun x19 => pyEq x18 x19).bind fun x29 => (tru x29).bind fun k30 => if k30 = true then ((((R.ok p0).bind fun x20 => (R.ok p1).bind fun x21 => pyZip [x20, x21]).bind fun is25 => (mapR (fun d27 => (unp2 d27).bind fun a22 => ((R.ok a22.1).bind fun x23 => (R.ok a22.2).bind fun x24 => m_law_same n [x23, x24])) is25).bind fun rs26 => R.ok (PyData.list rs26)).bind fun x28 => pyAll [x28]) else R.ok x29).bind fun v31 => R.ok v31)) else ((((R.ok p0).bind fun x32 => (R.ok p1).bind fun x33 => pyEq x32 x33).bind fun x38 => (tru x38).bind fun k39 => if k39 = true then (((R.ok p0).bind fun x34 => isD ["bool"] x34).bind fun x36 => ((R.ok p1).bind fun x35 => isD ["bool"] x35).bind fun x37 => pyEq x36 x37) else R.ok x38).bind fun v40 => R.ok v40))
  | _ + 1, _ => R.no
def m_law_layout : D → List D → R (D × D)
  | p0, [] => ((nox (((R.ok (PyData.int 1)).bind fun t11 => R.ok (t11, p0)).bind fun pq8 => (((R.ok (PyData.int 7)).bind fun t13 => R.ok (t13, pq8.2)).bind fun pq12 => (m_law_take pq12.2 [pq12.1]).bind fun q14 => R.ok (q14.1, q14.2)).bind fun q9 => (pyAdd pq8.1 q9.1).bind fun z10 => R.ok (z10, q9.2))).bind fun v15 => ((nox (((R.ok (PyData.int 6)).bind fun t20 => R.ok (t20, v15.2)).bind fun pq19 => (m_law_take pq19.2 [pq19.1]).bind fun q21 => R.ok (q21.1, q21.2))).bind fun v22 => ((nox (((R.ok (PyData.int 1)).bind fun t33 => R.ok (t33, v22.2)).bind fun pq30 => (((R.ok (PyData.int 6)).bind fun t35 => R.ok (t35, pq30.2)).bind fun pq34 => (m_law_take pq34.2 [pq34.1]).bind fun q36 => R.ok (q36.1, q36.2)).bind fun q31 => (pyAdd pq30.1 q31.1).bind fun z32 => R.ok (z32, q31.2))).bind fun v37 => ((((R.ok v22.1).bind fun x38 => (R.ok (PyData.int 4)).bind fun x39 => (pyEq x38 x39).bind asB).bind fun k44 => if k44 = true then ((R.ok v15.1).bind fun x41 => (R.ok (PyData.int 2)).bind fun x42 => (pyGt x41 x42).bind asB) else R.ok false).bind fun b45 => if b45 = true then (((R.ok v15.1).bind fun x46 => (R.ok (PyData.int 6)).bind fun x47 => pyMin [x46, x47]).bind fun v48 => (((R.ok v15.1).bind fun x49 => ((((R.ok v48).bind fun x50 => pyRange [x50]).bind fun is60 => (mapR (fun d62 => ((fun d => R.ok d) d62).bind fun a51 => ((((R.ok a51).bind fun x52 => (((R.ok a51).bind fun x53 => (R.ok (PyData.int 1)).bind fun x54 => pyAdd x53 x54).bind fun x55 => (R.ok v48).bind fun x56 => pyMod x55 x56).bind fun x57 => R.ok (PyData.list [x52, x57])).bind fun x58 => pySorted [x58]).bind fun x59 => pyTuple [x59])) is60).bind fun rs61 => R.ok (PyData.list rs61)).bind fun x63 => pyTuple [x63]).bind fun x64 => R.ok (PyData.tuple [x49, x64])).bind fun v65 => R.ok (v65, v37.2))) else ((((R.ok v22.1).bind fun x66 => (R.ok (PyData.int 5)).bind fun x67 => (pyEq x66 x67).bind asB).bind fun k72 => if k72 = true then ((R.ok v15.1).bind fun x69 => (R.ok (PyData.int 2)).bind fun x70 => (pyGt x69 x70).bind asB) else R.ok false).bind fun b73 => if b73 = true then ((nox (((R.ok (PyData.int 3)).bind fun t92 => R.ok (t92, v37.2)).bind fun pq89 => (((((R.ok v15.1).bind fun x95 => (R.ok (PyData.int 6)).bind fun x96 => pyMin [x95, x96]).bind fun x97 => (R.ok (PyData.int 2)).bind fun x98 => pySub x97 x98).bind fun t94 => R.ok (t94, pq89.2)).bind fun pq93 => (m_law_take pq93.2 [pq93.1]).bind fun q99 => R.ok (q99.1, q99.2)).bind fun q90 => (pyAdd pq89.1 q90.1).bind fun z91 => R.ok (z91, q90.2))).bind fun v100 => (((R.ok v15.1).bind fun x101 => ((((R.ok v100.1).bind fun x102 => pyRange [x102]).bind fun is113 => (mapR (fun d115 => ((fun d => R.ok d) d115).bind fun a103 => ((((R.ok v100.1).bind fun x104 => pyRange [x104]).bind fun is106 => (filR (fun d108 => ((fun d => R.ok d) d108).bind fun a105 => ((R.ok a105).bind fun x109 => (R.ok a103).bind fun x110 => (pyNe x109 x110).bind asB)) (fun d108 => ((fun d => R.ok d) d108).bind fun a105 => (R.ok a105)) is106).bind fun rs107 => R.ok (PyData.list rs107)).bind fun x112 => pyTuple [x112])) is113).bind fun rs114 => R.ok (PyData.list rs114)).bind fun x116 => pyTuple [x116]).bind fun x117 => R.ok (PyData.tuple [x101, x117])).bind fun v118 => R.ok (v118, v100.2))) else ((R.ok (PyData.list [])).bind fun v119 => ((((R.ok v37.1).bind fun x120 => pyRange [x120]).bind fun b121 => foldR (fun d => R.ok d) (fun (j122 : (D × D)) a123 => ((nox ((((R.ok v15.1).bind fun x168 => pyRange [x168]).bind fun i167 => R.ok (i167, j122.1)).bind fun pq161 => (filJ (fun d163 s164 => ((fun d => R.ok d) d163).bind fun a126 => ((((R.ok (PyData.int 3)).bind fun t178 => R.ok (t178, s164)).bind fun pq177 => (m_law_take pq177.2 [pq177.1]).bind fun q179 => R.ok (q179.1, q179.2)).bind fun pq173 => ((R.ok (PyData.int 0)).bind fun t180 => R.ok (t180, pq173.2)).bind fun q174 => ((pyEq pq173.1 q174.1).bind asB).bind fun z175 => R.ok (z175, q174.2))) (fun d165 s166 => ((fun d => R.ok d) d165).bind fun a126 => ((R.ok a126).bind fun t181 => R.ok (t181, s166))) pq161.1 pq161.2).bind fun r162 => R.ok (PyData.list r162.1, r162.2))).bind fun v182 => (((((R.ok v22.1).bind fun x183 => (R.ok (PyData.int 3)).bind fun x184 => (pyLt x183 x184).bind asB).bind fun k189 => if k189 = true then ((R.ok j122.2).bind fun x186 => (R.ok (PyData.list [])).bind fun x187 => (pyNe x186 x187).bind asB) else R.ok false).bind fun b190 => if b190 = true then ((nox ((((nl ((R.ok j122.2).bind fun x300 => pyLen [x300])).bind fun t299 => R.ok (t299, v182.2)).bind fun pq298 => (m_law_take pq298.2 [pq298.1]).bind fun q301 => R.ok (q301.1, q301.2)).bind fun q296 => (ixO j122.2 q296.1).bind fun z297 => R.ok (z297, q296.2))).bind fun v302 => ((nf (((R.ok v182.1).bind fun x303 => items x303).bind fun is305 => (filR (fun d307 => ((fun d => R.ok d) d307).bind fun a304 => ((((R.ok j122.2).bind fun x308 => items x308).bind fun is310 => (filR (fun d312 => ((fun d => R.ok d) d312).bind fun a309 => ((R.ok a304).bind fun x313 => (R.ok a309).bind fun x314 => (pyIn x313 x314).bind asB)) (fun d312 => ((fun d => R.ok d) d312).bind fun a309 => (R.ok a309)) is310).bind fun rs311 => R.ok (PyData.list rs311)).bind fun x316 => (R.ok (PyData.list [])).bind fun x317 => (pyEq x316 x317).bind asB)) (fun d307 => ((fun d => R.ok d) d307).bind fun a304 => (R.ok a304)) is305).bind fun rs306 => R.ok (PyData.list rs306))).bind fun v319 => ((nox (((R.ok v319).bind fun t364 => R.ok (t364, v302.2)).bind fun pq361 => ((((R.ok v302.1).bind fun x372 => items x372).bind fun i371 => R.ok (i371, pq361.2)).bind fun pq365 => (filJ (fun d367 s368 => ((fun d => R.ok d) d367).bind fun a322 => ((((R.ok (PyData.int 2)).bind fun t382 => R.ok (t382, s368)).bind fun pq381 => (m_law_take pq381.2 [pq381.1]).bind fun q383 => R.ok (q383.1, q383.2)).bind fun pq377 => ((R.ok (PyData.int 0)).bind fun t384 => R.ok (t384, pq377.2)).bind fun q378 => ((pyEq pq377.1 q378.1).bind asB).bind fun z379 => R.ok (z379, q378.2))) (fun d369 s370 => ((fun d => R.ok d) d369).bind fun a322 => ((R.ok a322).bind fun t385 => R.ok (t385, s370))) pq365.1 pq365.2).bind fun r366 => R.ok (PyData.list r366.1, r366.2)).bind fun q362 => (pyAdd pq361.1 q362.1).bind fun z363 => R.ok (z363, q362.2))).bind fun v386 => (R.ok (v386.2, v386.1))))) else (R.ok (v182.2, v182.1))).bind fun j387 => (((nox ((((R.ok v22.1).bind fun x418 => (R.ok (PyData.int 3)).bind fun x419 => (pyEq x418 x419).bind asB).bind fun t417 => R.ok (t417, j387.1)).bind fun pq416 => if pq416.1 = true then ((((R.ok j122.2).bind fun x423 => (R.ok (PyData.list [])).bind fun x424 => (pyNe x423 x424).bind asB).bind fun t422 => R.ok (t422, pq416.2)).bind fun pq421 => if pq421.1 = true then ((((R.ok (PyData.int 4)).bind fun t435 => R.ok (t435, pq421.2)).bind fun pq434 => (m_law_take pq434.2 [pq434.1]).bind fun q436 => R.ok (q436.1, q436.2)).bind fun pq430 => ((R.ok (PyData.int 0)).bind fun t437 => R.ok (t437, pq430.2)).bind fun q431 => ((pyEq pq430.1 q431.1).bind asB).bind fun z432 => R.ok (z432, q431.2)) else R.ok (false, pq421.2)) else R.ok (false, pq416.2))).bind fun b438 => if b438.1 = true then ((nox ((((nl ((R.ok j122.2).bind fun x464 => pyLen [x464])).bind fun t463 => R.ok (t463, b438.2)).bind fun pq462 => (m_law_take pq462.2 [pq462.1]).bind fun q465 => R.ok (q465.1, q465.2)).bind fun q460 => (ixO j122.2 q460.1).bind fun z461 => R.ok (z461, q460.2))).bind fun v466 => (R.ok (v466.2, v466.1))) else (R.ok (b438.2, j387.2))).bind fun j467 => (((lstD j122.2).bind fun u489 => (nox (((((R.ok j467.2).bind fun x482 => pySortedSet x482).bind fun x483 => pyTuple [x483]).bind fun t481 => R.ok (t481, j467.1)).bind fun pq479 => (tru pq479.1).bind fun k480 => if k480 = true then R.ok pq479 else ((((R.ok v15.1).bind fun t486 => R.ok (t486, pq479.2)).bind fun pq485 => (m_law_take pq485.2 [pq485.1]).bind fun q487 => R.ok (q487.1, q487.2)).bind fun pq484 => R.ok (PyData.tuple [pq484.1], pq484.2)))).bind fun v488 => (appD j122.2 v488.1).bind fun r490 => R.ok (v488.2, r490)).bind fun j491 => (R.ok (j491.1, j491.2))))))) b121 (v37.2, v119)).bind fun j492 => ((((R.ok v37.1).bind fun x493 => (asInt x493).bind fun n494 => R.ok ((0 : Int), n494)).bind fun q495 => (rgL q495).bind fun ts496 => R.ok (PyData.list ts496)).bind fun v497 => ((nox ((((R.ok v37.1).bind fun x527 => pyRange [x527]).bind fun i526 => R.ok (i526, (v497, j492.1))).bind fun pq522 => (mapJ (fun d524 s525 => ((fun d => R.ok d) d524).bind fun a500 => ((lstD s525.1).bind fun u530 => (((nl ((R.ok s525.1).bind fun x533 => pyLen [x533])).bind fun t532 => R.ok (t532, s525)).bind fun pq531 => (m_law_take pq531.2.2 [pq531.1]).bind fun q534 => R.ok (q534.1, (pq531.2.1, q534.2))).bind fun pq528 => (popAtD pq528.2.1 pq528.1).bind fun q529 => R.ok (q529.1, (q529.2, pq528.2.2)))) pq522.1 pq522.2).bind fun r523 => R.ok (PyData.list r523.1, r523.2))).bind fun v535 => (((R.ok v15.1).bind fun x536 => ((((R.ok v535.1).bind fun x537 => items x537).bind fun is541 => (mapR (fun d543 => ((fun d => R.ok d) d543).bind fun a538 => ((R.ok j492.2).bind fun x539 => (R.ok a538).bind fun x540 => pyIx x539 x540)) is541).bind fun rs542 => R.ok (PyData.list rs542)).bind fun x544 => pyTuple [x544]).bind fun x545 => R.ok (PyData.tuple [x536, x545])).bind fun v546 => R.ok (v546, v535.2.2)))))))))))
  | _, _ => R.no
noncomputable def m_come_to : List D → R D
  | [p0, p1] => (((R.ok p1).bind fun x1 => R.ok (PyData.list [x1])).bind fun v2 => (((R.ok p1).bind fun x3 => R.ok (PyData.list [x3])).bind fun v4 => (thenO (J := (D × D)) (whX (fun (j5 : (D × D)) => ((R.ok j5.2).bind fun x6 => (R.ok (PyData.list [])).bind fun x7 => (pyNe x6 x7).bind asB)) (fun b9 => b9) (fun (j5 : (D × D)) b9 => ((nox (((R.ok p0).bind fun t18 => R.ok (t18, j5.2)).bind fun pq15 => ((popD pq15.2).bind fun q19 => R.ok (q19.1, q19.2)).bind fun q16 => (pyIx pq15.1 q16.1).bind fun z17 => R.ok (z17, q16.2))).bind fun v20 => ((nf (((R.ok p0).bind fun x21 => pyEnum [x21]).bind fun is23 => (filR (fun d25 => (unp2 d25).bind fun a22 => ((((R.ok v20.1).bind fun x26 => (R.ok a22.2).bind fun x27 => m_both [x26, x27]).bind fun x28 => (R.ok (PyData.tuple [])).bind fun x29 => (pyNe x28 x29).bind asB).bind fun k34 => if k34 = true then ((R.ok a22.1).bind fun x31 => (R.ok j5.1).bind fun x32 => (pyNotIn x31 x32).bind asB) else R.ok false)) (fun d25 => (unp2 d25).bind fun a22 => (R.ok a22.1)) is23).bind fun rs24 => R.ok (PyData.list rs24))).bind fun v35 => (((lstD j5.1).bind fun u37 => (R.ok v35).bind fun v36 => (extD j5.1 v36).bind fun r38 => R.ok r38).bind fun j39 => (((lstD v20.2).bind fun u41 => (R.ok v35).bind fun v40 => (extD v20.2 v40).bind fun r42 => R.ok r42).bind fun j43 => (R.ok (Oc.nx (j39, j43)))))))) (fun (j5 : (D × D)) b9 => (j5.1, j5.2)) (v2, v4)) (fun t b => t) (fun j44 => ((((R.ok j44.1).bind fun x45 => pySorted [x45]).bind fun x46 => pyTuple [x46]).bind fun v47 => R.ok v47)))))
  | _ => R.no
noncomputable def m_pieces : List D → R D
  | [p0] => ((R.ok (PyData.list [])).bind fun v1 => ((((((R.ok p0).bind fun x2 => (R.ok (PyData.int 1)).bind fun x3 => pyIx x2 x3).bind fun x4 => pyLen [x4]).bind fun x5 => pyRange [x5]).bind fun b6 => foldR (fun d => R.ok d) (fun (j7 : (D)) a8 => ((((((((R.ok j7).bind fun x9 => items x9).bind fun is13 => (mapR (fun d15 => ((fun d => R.ok d) d15).bind fun a10 => ((R.ok a8).bind fun x11 => (R.ok a10).bind fun x12 => pyIn x11 x12)) is13).bind fun rs14 => R.ok (PyData.list rs14)).bind fun x16 => pyAny [x16]).bind tru).bind fun k17 => R.ok (!k17)).bind fun b18 => if b18 = true then (((lstD j7).bind fun u32 => (((R.ok p0).bind fun x27 => (R.ok (PyData.int 1)).bind fun x28 => pyIx x27 x28).bind fun x29 => (R.ok a8).bind fun x30 => m_come_to [x29, x30]).bind fun v31 => (appD j7 v31).bind fun r33 => R.ok r33).bind fun j34 => (R.ok j34)) else (R.ok j7)).bind fun j35 => (R.ok j35))) b6 v1).bind fun j36 => (R.ok j36)))
  | _ => R.no
def m_is_order_of : List D → R D
  | [p0, p1] => ((((((R.ok p0).bind fun x1 => isD ["tuple"] x1).bind tru).bind fun k2 => R.ok (!k2)).bind fun k12 => if k12 = true then R.ok true else ((((((R.ok p0).bind fun x3 => items x3).bind fun is7 => (mapR (fun d9 => ((fun d => R.ok d) d9).bind fun a4 => ((R.ok a4).bind fun x5 => (R.ok p1).bind fun x6 => m_is_upto [x5, x6])) is7).bind fun rs8 => R.ok (PyData.list rs8)).bind fun x10 => pyAll [x10]).bind tru).bind fun k11 => R.ok (!k11))).bind fun b13 => if b13 = true then ((R.ok (PyData.bool false)).bind fun v14 => R.ok v14) else ((((R.ok p0).bind fun x15 => pySorted [x15]).bind fun x20 => (((R.ok p1).bind fun x16 => (asInt x16).bind fun n17 => R.ok ((0 : Int), n17)).bind fun q18 => (rgL q18).bind fun ts19 => R.ok (PyData.list ts19)).bind fun x21 => pyEq x20 x21).bind fun v22 => R.ok v22))
  | _ => R.no
def m_named : List D → R D
  | [p0, p1] => (((((R.ok p1).bind fun x1 => ((R.ok p0).bind fun x2 => (R.ok (PyData.int 0)).bind fun x3 => pyIx x2 x3).bind fun x4 => m_is_order_of [x1, x4]).bind tru).bind fun k5 => R.ok (!k5)).bind fun b6 => if b6 = true then (R.ex "NoOrder") else (((((R.ok p0).bind fun x7 => (R.ok (PyData.int 1)).bind fun x8 => pyIx x7 x8).bind fun x9 => items x9).bind fun is20 => (mapR (fun d22 => ((fun d => R.ok d) d22).bind fun a10 => (((((R.ok a10).bind fun x11 => items x11).bind fun is15 => (mapR (fun d17 => ((fun d => R.ok d) d17).bind fun a12 => ((R.ok p1).bind fun x13 => (sqOk x13).bind fun _ => (R.ok a12).bind fun x14 => pyIndex x13 x14)) is15).bind fun rs16 => R.ok (PyData.list rs16)).bind fun x18 => pySorted [x18]).bind fun x19 => pyTuple [x19])) is20).bind fun rs21 => R.ok (PyData.list rs21)).bind fun v23 => ((((R.ok p0).bind fun x24 => (R.ok (PyData.int 0)).bind fun x25 => pyIx x24 x25).bind fun x26 => ((R.ok v23).bind fun x27 => pyTuple [x27]).bind fun x28 => R.ok (PyData.tuple [x26, x28])).bind fun v29 => R.ok v29)))
  | _ => R.no
def m_beside : List D → R D
  | [p0, p1] => ((((((R.ok p0).bind fun x1 => (R.ok (PyData.int 0)).bind fun x2 => pyIx x1 x2).bind fun x5 => ((R.ok p1).bind fun x3 => (R.ok (PyData.int 0)).bind fun x4 => pyIx x3 x4).bind fun x6 => pyAdd x5 x6).bind fun x7 => (R.ok (PyData.int 7)).bind fun x8 => (pyGt x7 x8).bind asB).bind fun k21 => if k21 = true then R.ok true else (((((R.ok p0).bind fun x10 => (R.ok (PyData.int 1)).bind fun x11 => pyIx x10 x11).bind fun x12 => pyLen [x12]).bind fun x16 => (((R.ok p1).bind fun x13 => (R.ok (PyData.int 1)).bind fun x14 => pyIx x13 x14).bind fun x15 => pyLen [x15]).bind fun x17 => pyAdd x16 x17).bind fun x18 => (R.ok (PyData.int 6)).bind fun x19 => (pyGt x18 x19).bind asB)).bind fun b22 => if b22 = true then (R.ex "TooMany") else (((((R.ok p1).bind fun x23 => (R.ok (PyData.int 1)).bind fun x24 => pyIx x23 x24).bind fun x25 => items x25).bind fun is37 => (mapR (fun d39 => ((fun d => R.ok d) d39).bind fun a26 => ((((R.ok a26).bind fun x27 => items x27).bind fun is33 => (mapR (fun d35 => ((fun d => R.ok d) d35).bind fun a28 => ((R.ok a28).bind fun x31 => ((R.ok p0).bind fun x29 => (R.ok (PyData.int 0)).bind fun x30 => pyIx x29 x30).bind fun x32 => pyAdd x31 x32)) is33).bind fun rs34 => R.ok (PyData.list rs34)).bind fun x36 => pyTuple [x36])) is37).bind fun rs38 => R.ok (PyData.list rs38)).bind fun v40 => (((((R.ok p0).bind fun x41 => (R.ok (PyData.int 0)).bind fun x42 => pyIx x41 x42).bind fun x45 => ((R.ok p1).bind fun x43 => (R.ok (PyData.int 0)).bind fun x44 => pyIx x43 x44).bind fun x46 => pyAdd x45 x46).bind fun x47 => (((R.ok p0).bind fun x48 => (R.ok (PyData.int 1)).bind fun x49 => pyIx x48 x49).bind fun x51 => ((R.ok v40).bind fun x50 => pyTuple [x50]).bind fun x52 => pyAdd x51 x52).bind fun x53 => R.ok (PyData.tuple [x47, x53])).bind fun v54 => R.ok v54)))
  | _ => R.no
def m_without : List D → R D
  | [p0, p1] => (((R.ok p0).bind fun x1 => (R.ok p1).bind fun x2 => m_look_at_head [x1, x2]).bind fun v3 => (((((R.ok p0).bind fun x4 => (R.ok (PyData.int 1)).bind fun x5 => pyIx x4 x5).bind fun x6 => pyLen [x6]).bind fun x7 => (R.ok (PyData.int 1)).bind fun x8 => (pyEq x7 x8).bind asB).bind fun b10 => if b10 = true then (R.ex "NoHead") else ((((R.ok p0).bind fun x11 => (R.ok (PyData.int 0)).bind fun x12 => pyIx x11 x12).bind fun x13 => ((((R.ok p0).bind fun x14 => (R.ok (PyData.int 1)).bind fun x15 => pyIx x14 x15).bind fun x17 => (R.ok (none : Option Int)).bind fun x18 => ((R.ok p1).bind fun x16 => partD x16).bind fun x19 => pySl x17 x18 x19).bind fun x28 => (((R.ok p0).bind fun x20 => (R.ok (PyData.int 1)).bind fun x21 => pyIx x20 x21).bind fun x25 => (((R.ok p1).bind fun x22 => (R.ok (PyData.int 1)).bind fun x23 => pyAdd x22 x23).bind fun x24 => partD x24).bind fun x26 => (R.ok (none : Option Int)).bind fun x27 => pySl x25 x26 x27).bind fun x29 => pyAdd x28 x29).bind fun x30 => R.ok (PyData.tuple [x13, x30])).bind fun v31 => R.ok v31)))
  | _ => R.no
def m_law_order : D → List D → R (D × D)
  | p0, [p1] => ((((R.ok p1).bind fun x1 => (asInt x1).bind fun n2 => R.ok ((0 : Int), n2)).bind fun q3 => (rgL q3).bind fun ts4 => R.ok (PyData.list ts4)).bind fun v5 => ((nox (((((R.ok p1).bind fun x38 => pyRange [x38]).bind fun i37 => R.ok (i37, (v5, p0))).bind fun pq33 => (mapJ (fun d35 s36 => ((fun d => R.ok d) d35).bind fun a8 => ((lstD s36.1).bind fun u41 => (((nl ((R.ok s36.1).bind fun x44 => pyLen [x44])).bind fun t43 => R.ok (t43, s36)).bind fun pq42 => (m_law_take pq42.2.2 [pq42.1]).bind fun q45 => R.ok (q45.1, (pq42.2.1, q45.2))).bind fun pq39 => (popAtD pq39.2.1 pq39.1).bind fun q40 => R.ok (q40.1, (q40.2, pq39.2.2)))) pq33.1 pq33.2).bind fun r34 => R.ok (PyData.list r34.1, r34.2)).bind fun pq32 => (pyTuple [pq32.1]).bind fun z46 => R.ok (z46, pq32.2))).bind fun v47 => R.ok (v47.1, v47.2.2)))
  | _, _ => R.no
noncomputable def m_law_right : List D → R D
  | [p0] => (thenO (J := Unit) ((((R.ok p0).bind fun x1 => (R.ok (PyData.int 0)).bind fun x2 => pyIx x1 x2).bind fun x3 => pyRange [x3]).bind fun b4 => foldO (fun d => R.ok d) (fun (j5 : Unit) a6 => (thenO (J := Unit) (((((R.ok p0).bind fun x7 => (R.ok (PyData.int 1)).bind fun x8 => pyIx x7 x8).bind fun x9 => pyLen [x9]).bind fun x10 => pyRange [x10]).bind fun b11 => foldO (fun d => R.ok d) (fun (j12 : Unit) a13 => ((((R.ok a13).bind fun x16 => ((R.ok p0).bind fun x14 => (R.ok a6).bind fun x15 => m_heads_of [x14, x15]).bind fun x17 => pyIn x16 x17).bind fun x24 => ((R.ok a6).bind fun x22 => (((R.ok p0).bind fun x18 => (R.ok (PyData.int 1)).bind fun x19 => pyIx x18 x19).bind fun x20 => (R.ok a13).bind fun x21 => pyIx x20 x21).bind fun x23 => pyIn x22 x23).bind fun x25 => (pyNe x24 x25).bind asB).bind fun b27 => if b27 = true then ((R.ok (PyData.bool false)).bind fun v28 => R.ok (Oc.rt v28 PyData.none)) else (R.ok (Oc.nx ())))) b11 ()) (fun t b => (Oc.rt t b)) (fun j29 => (R.ok (Oc.nx ()))))) b4 ()) (fun t b => t) (fun j30 => ((R.ok (PyData.list [])).bind fun v31 => (thenO (J := (D)) ((((R.ok p0).bind fun x32 => m_pieces [x32]).bind fun x33 => items x33).bind fun b34 => foldO (fun d => R.ok d) (fun (j35 : (D)) a36 => (((R.ok j35).bind fun x38 => ((R.ok a36).bind fun x37 => pyList [x37]).bind fun x39 => pyAdd x38 x39).bind fun v40 => ((((((R.ok p0).bind fun x41 => (R.ok (PyData.int 1)).bind fun x42 => pyIx x41 x42).bind fun x43 => pyLen [x43]).bind fun x44 => pyRange [x44]).bind fun is46 => (filR (fun d48 => ((fun d => R.ok d) d48).bind fun a45 => ((R.ok a45).bind fun x49 => (R.ok a36).bind fun x50 => (pyNotIn x49 x50).bind asB)) (fun d48 => ((fun d => R.ok d) d48).bind fun a45 => (R.ok a45)) is46).bind fun rs47 => R.ok (PyData.list rs47)).bind fun v52 => (thenO (J := Unit) (((R.ok a36).bind fun x53 => items x53).bind fun b54 => foldO (fun d => R.ok d) (fun (j55 : Unit) a56 => (((((R.ok v52).bind fun x57 => items x57).bind fun is59 => (filR (fun d61 => ((fun d => R.ok d) d61).bind fun a58 => (((R.ok p0).bind fun x62 => (R.ok a56).bind fun x63 => (R.ok a58).bind fun x64 => m_common [x62, x63, x64]).bind fun x65 => (R.ok (PyData.tuple [])).bind fun x66 => (pyNe x65 x66).bind asB)) (fun d61 => ((fun d => R.ok d) d61).bind fun a58 => (R.ok a58)) is59).bind fun rs60 => R.ok (PyData.list rs60)).bind fun x68 => (R.ok (PyData.list [])).bind fun x69 => (pyNe x68 x69).bind asB).bind fun b71 => if b71 = true then ((R.ok (PyData.bool false)).bind fun v72 => R.ok (Oc.rt v72 PyData.none)) else (R.ok (Oc.nx ())))) b54 ()) (fun t b => (Oc.rt t b)) (fun j73 => (R.ok (Oc.nx v40))))))) b34 v31) (fun t b => t) (fun j74 => ((((R.ok j74).bind fun x75 => pySorted [x75]).bind fun x83 => (((((R.ok p0).bind fun x76 => (R.ok (PyData.int 1)).bind fun x77 => pyIx x76 x77).bind fun x78 => pyLen [x78]).bind fun x79 => (asInt x79).bind fun n80 => R.ok ((0 : Int), n80)).bind fun q81 => (rgL q81).bind fun ts82 => R.ok (PyData.list ts82)).bind fun x84 => pyEq x83 x84).bind fun v85 => R.ok v85))))))
  | _ => R.no
noncomputable def m_law_named_right : D → List D → R (D × D)
  | p0, [p1] => ((nox ((((R.ok p1).bind fun x10 => (R.ok (PyData.int 0)).bind fun x11 => pyIx x10 x11).bind fun t9 => R.ok (t9, p0)).bind fun pq8 => (m_law_order pq8.2 [pq8.1]).bind fun q12 => R.ok (q12.1, q12.2))).bind fun v13 => (((R.ok p1).bind fun x14 => (R.ok v13.1).bind fun x15 => m_named [x14, x15]).bind fun v16 => ((((((R.ok p1).bind fun x17 => (R.ok (PyData.int 0)).bind fun x18 => pyIx x17 x18).bind fun x19 => pyRange [x19]).bind fun is23 => (mapR (fun d25 => ((fun d => R.ok d) d25).bind fun a20 => ((R.ok v13.1).bind fun x21 => (sqOk x21).bind fun _ => (R.ok a20).bind fun x22 => pyIndex x21 x22)) is23).bind fun rs24 => R.ok (PyData.list rs24)).bind fun x26 => pyTuple [x26]).bind fun v27 => (((((R.ok v16).bind fun x28 => (R.ok v27).bind fun x29 => m_named [x28, x29]).bind fun x30 => (R.ok p1).bind fun x31 => (pyNe x30 x31).bind asB).bind fun k41 => if k41 = true then R.ok true else ((((R.ok v16).bind fun x33 => m_pieces [x33]).bind fun x35 => ((R.ok p1).bind fun x34 => m_pieces [x34]).bind fun x36 => (pyNe x35 x36).bind asB).bind fun k40 => if k40 = true then R.ok true else ((((R.ok v16).bind fun x38 => m_is_layout [x38]).bind tru).bind fun k39 => R.ok (!k39)))).bind fun b42 => if b42 = true then ((R.ok (PyData.bool false)).bind fun v43 => R.ok (v43, v13.2)) else (((nox ((((((R.ok p1).bind fun x69 => (R.ok (PyData.int 1)).bind fun x70 => pyIx x69 x70).bind fun x71 => pyLen [x71]).bind fun t68 => R.ok (t68, v13.2)).bind fun pq67 => (m_law_take pq67.2 [pq67.1]).bind fun q72 => R.ok (q72.1, q72.2)).bind fun pq65 => (((((R.ok p1).bind fun x75 => (R.ok (PyData.int 1)).bind fun x76 => pyIx x75 x76).bind fun x77 => pyLen [x77]).bind fun t74 => R.ok (t74, pq65.2)).bind fun pq73 => (m_law_take pq73.2 [pq73.1]).bind fun q78 => R.ok (q78.1, q78.2)).bind fun pq66 => R.ok (PyData.tuple [pq65.1, pq66.1], pq66.2))).bind fun v79 => (nox (unp2 v79.1)).bind fun pq80 => R.ok (v79, pq80)).bind fun r44 => (((((((R.ok p1).bind fun x81 => (R.ok r44.2.1).bind fun x82 => (R.ok r44.2.2).bind fun x83 => m_common [x81, x82, x83]).bind fun x84 => items x84).bind fun is88 => (mapR (fun d90 => ((fun d => R.ok d) d90).bind fun a85 => ((R.ok v13.1).bind fun x86 => (sqOk x86).bind fun _ => (R.ok a85).bind fun x87 => pyIndex x86 x87)) is88).bind fun rs89 => R.ok (PyData.list rs89)).bind fun x91 => pySorted [x91]).bind fun x92 => pyTuple [x92]).bind fun v93 => (((((R.ok v16).bind fun x94 => (R.ok r44.2.1).bind fun x95 => (R.ok r44.2.2).bind fun x96 => m_common [x94, x95, x96]).bind fun x97 => (R.ok v93).bind fun x98 => pyEq x97 x98).bind fun x104 => (tru x104).bind fun k105 => if k105 = true then (((R.ok v16).bind fun x99 => (R.ok r44.2.2).bind fun x100 => (R.ok r44.2.1).bind fun x101 => m_common [x99, x100, x101]).bind fun x102 => (R.ok v93).bind fun x103 => pyEq x102 x103) else R.ok x104).bind fun v106 => R.ok (v106, r44.1.2))))))))
  | _, _ => R.no
noncomputable def m_law_beside_right : List D → R D
  | [p0] => (((R.ok (PyData.int 2)).bind fun x1 => (((R.ok (PyData.int 0)).bind fun x2 => (R.ok (PyData.int 1)).bind fun x3 => R.ok (PyData.tuple [x2, x3])).bind fun x4 => ((R.ok (PyData.int 1)).bind fun x5 => R.ok (PyData.tuple [x5])).bind fun x6 => R.ok (PyData.tuple [x4, x6])).bind fun x7 => R.ok (PyData.tuple [x1, x7])).bind fun v8 => (((((R.ok p0).bind fun x9 => (R.ok (PyData.int 0)).bind fun x10 => pyIx x9 x10).bind fun x11 => (R.ok (PyData.int 5)).bind fun x12 => (pyGt x11 x12).bind asB).bind fun k20 => if k20 = true then R.ok true else ((((R.ok p0).bind fun x14 => (R.ok (PyData.int 1)).bind fun x15 => pyIx x14 x15).bind fun x16 => pyLen [x16]).bind fun x17 => (R.ok (PyData.int 4)).bind fun x18 => (pyGt x17 x18).bind asB)).bind fun b21 => if b21 = true then ((R.ok (PyData.bool true)).bind fun v22 => R.ok v22) else (((R.ok v8).bind fun x23 => (R.ok p0).bind fun x24 => m_beside [x23, x24]).bind fun v25 => (((((R.ok p0).bind fun x26 => m_pieces [x26]).bind fun x27 => items x27).bind fun is37 => (mapR (fun d39 => ((fun d => R.ok d) d39).bind fun a28 => ((((R.ok a28).bind fun x29 => items x29).bind fun is33 => (mapR (fun d35 => ((fun d => R.ok d) d35).bind fun a30 => ((R.ok a30).bind fun x31 => (R.ok (PyData.int 2)).bind fun x32 => pyAdd x31 x32)) is33).bind fun rs34 => R.ok (PyData.list rs34)).bind fun x36 => pyTuple [x36])) is37).bind fun rs38 => R.ok (PyData.list rs38)).bind fun v40 => (((((R.ok v25).bind fun x41 => m_pieces [x41]).bind fun x47 => ((((R.ok (PyData.int 0)).bind fun x42 => (R.ok (PyData.int 1)).bind fun x43 => R.ok (PyData.tuple [x42, x43])).bind fun x44 => R.ok (PyData.list [x44])).bind fun x45 => (R.ok v40).bind fun x46 => pyAdd x45 x46).bind fun x48 => (pyNe x47 x48).bind asB).bind fun k57 => if k57 = true then R.ok true else (((R.ok v25).bind fun x50 => (R.ok (PyData.int 1)).bind fun x51 => m_heads_of [x50, x51]).bind fun x54 => ((R.ok (PyData.int 0)).bind fun x52 => (R.ok (PyData.int 1)).bind fun x53 => R.ok (PyData.tuple [x52, x53])).bind fun x55 => (pyNe x54 x55).bind asB)).bind fun b58 => if b58 = true then ((R.ok (PyData.bool false)).bind fun v59 => R.ok v59) else ((((R.ok v25).bind fun x60 => (R.ok (PyData.int 2)).bind fun x61 => m_heads_of [x60, x61]).bind fun x72 => (((((R.ok p0).bind fun x62 => (R.ok (PyData.int 0)).bind fun x63 => m_heads_of [x62, x63]).bind fun x64 => items x64).bind fun is68 => (mapR (fun d70 => ((fun d => R.ok d) d70).bind fun a65 => ((R.ok a65).bind fun x66 => (R.ok (PyData.int 2)).bind fun x67 => pyAdd x66 x67)) is68).bind fun rs69 => R.ok (PyData.list rs69)).bind fun x71 => pyTuple [x71]).bind fun x73 => pyEq x72 x73).bind fun v74 => R.ok v74))))))
  | _ => R.no
noncomputable def m_law_k04 : List D → R D
  | [p0] => (thenO (J := Unit) ((((R.ok (PyData.int 1)).bind fun x1 => (((R.ok p0).bind fun x2 => pyLen [x2]).bind fun x3 => (R.ok (PyData.int 4)).bind fun x4 => pyMin [x3, x4]).bind fun x5 => pyMax [x1, x5]).bind fun x6 => pyRange [x6]).bind fun b7 => foldO (fun d => R.ok d) (fun (j8 : Unit) a9 => (((R.ok p0).bind fun x10 => (R.ok a9).bind fun x11 => m_law_box [x10, x11]).bind fun v12 => ((nox ((m_law_layout v12 []).bind fun q14 => R.ok (q14.1, q14.2))).bind fun v15 => ((nox ((((((R.ok v15.1).bind fun x36 => m_law_right [x36]).bind tru).bind fun k37 => R.ok (!k37)).bind fun t35 => R.ok (t35, v15.2)).bind fun pq34 => if pq34.1 = true then R.ok (true, pq34.2) else ((((((R.ok v15.1).bind fun t43 => R.ok (t43, pq34.2)).bind fun pq42 => (m_law_named_right pq42.2 [pq42.1]).bind fun q44 => R.ok (q44.1, q44.2)).bind fun pq40 => (tru pq40.1).bind fun k41 => R.ok (k41, pq40.2)).bind fun pq39 => R.ok (!pq39.1, pq39.2)).bind fun pq38 => if pq38.1 = true then R.ok (true, pq38.2) else (((((R.ok v15.1).bind fun x46 => m_law_beside_right [x46]).bind tru).bind fun k47 => R.ok (!k47)).bind fun t45 => R.ok (t45, pq38.2))))).bind fun b48 => if b48.1 = true then ((R.ok (PyData.bool false)).bind fun v49 => R.ok (Oc.rt v49 PyData.none)) else ((((R.ok v15.1).bind fun x50 => (R.ok (PyData.int 1)).bind fun x51 => pyIx x50 x51).bind fun x52 => pyLen [x52]).bind fun v53 => (thenO (J := Unit) (((R.ok v53).bind fun x54 => (R.ok (PyData.int 2)).bind fun x55 => (pyGt x54 x55).bind asB).bind fun b57 => if b57 = true then ((nox (((R.ok v53).bind fun t116 => R.ok (t116, b48.2)).bind fun pq115 => (m_law_take pq115.2 [pq115.1]).bind fun q117 => R.ok (q117.1, q117.2))).bind fun v118 => (((R.ok v15.1).bind fun x119 => (R.ok v118.1).bind fun x120 => m_without [x119, x120]).bind fun v121 => ((((((R.ok (PyData.int 0)).bind fun x123 => ((R.ok v53).bind fun x124 => (R.ok (PyData.int 2)).bind fun x125 => pySub x124 x125).bind fun x126 => R.ok (PyData.list [x123, x126])).bind fun x127 => items x127).bind fun is139 => (mapR (fun d141 => ((fun d => R.ok d) d141).bind fun a128 => ((((R.ok v53).bind fun x129 => pyRange [x129]).bind fun is131 => (filR (fun d133 => ((fun d => R.ok d) d133).bind fun a130 => ((R.ok a130).bind fun x134 => (R.ok v118.1).bind fun x135 => (pyNe x134 x135).bind asB)) (fun d133 => ((fun d => R.ok d) d133).bind fun a130 => (R.ok a130)) is131).bind fun rs132 => R.ok (PyData.list rs132)).bind fun x137 => (R.ok a128).bind fun x138 => pyIx x137 x138)) is139).bind fun rs140 => R.ok (PyData.list rs140)).bind fun v142 => (nox (unp2l v142)).bind fun pq143 => R.ok (v142, pq143)).bind fun r122 => (((((R.ok v121).bind fun x144 => (R.ok (PyData.int 0)).bind fun x145 => ((R.ok v53).bind fun x146 => (R.ok (PyData.int 2)).bind fun x147 => pySub x146 x147).bind fun x148 => m_common [x144, x145, x148]).bind fun x152 => ((R.ok v15.1).bind fun x149 => (R.ok r122.2.1).bind fun x150 => (R.ok r122.2.2).bind fun x151 => m_common [x149, x150, x151]).bind fun x153 => (pyNe x152 x153).bind asB).bind fun k163 => if k163 = true then R.ok true else ((((R.ok v121).bind fun x155 => (R.ok (PyData.int 1)).bind fun x156 => pyIx x155 x156).bind fun x157 => pyLen [x157]).bind fun x160 => ((R.ok v53).bind fun x158 => (R.ok (PyData.int 1)).bind fun x159 => pySub x158 x159).bind fun x161 => (pyNe x160 x161).bind asB)).bind fun b164 => if b164 = true then ((R.ok (PyData.bool false)).bind fun v165 => R.ok (Oc.rt v165 PyData.none)) else (R.ok (Oc.nx ())))))) else (R.ok (Oc.nx ()))) (fun t b => (Oc.rt t b)) (fun j166 => (R.ok (Oc.nx ()))))))))) b7 ()) (fun t b => t) (fun j167 => ((R.ok (PyData.bool true)).bind fun v168 => R.ok v168)))
  | _ => R.no
end JT
namespace LK04
open PySem PySem.Spec PyProof.Rows L2 TL JT
def topS (i : Nat) : Stmt := PySem.Challenge.pw_jointrees_k04_whole_layouts_together.main.body.getD i (.Pass ⟨0, 0, 0, 0⟩)
abbrev s_is_whole : Stmt := topS 9
theorem sc_is_whole : FnScope ["thing"] ["thing"] (defScope s_is_whole) := ⟨rfl, rfl, rfl, by decide +kernel, rfl, by decide +kernel, by decide +kernel⟩
abbrev s_is_upto : Stmt := topS 10
theorem sc_is_upto : FnScope ["thing", "many"] ["thing", "many"] (defScope s_is_upto) := ⟨rfl, rfl, rfl, by decide +kernel, rfl, by decide +kernel, by decide +kernel⟩
abbrev s_is_rising : Stmt := topS 11
theorem sc_is_rising : FnScope ["things", "one", "other"] ["things"] (defScope s_is_rising) := ⟨rfl, rfl, rfl, by decide +kernel, rfl, by decide +kernel, by decide +kernel⟩
abbrev s_is_head : Stmt := topS 12
theorem sc_is_head : FnScope ["thing", "many", "one"] ["thing", "many"] (defScope s_is_head) := ⟨rfl, rfl, rfl, by decide +kernel, rfl, by decide +kernel, by decide +kernel⟩
abbrev s_is_layout : Stmt := topS 13
theorem sc_is_layout : FnScope ["thing", "head"] ["thing"] (defScope s_is_layout) := ⟨rfl, rfl, rfl, by decide +kernel, rfl, by decide +kernel, by decide +kernel⟩
abbrev s_look_at_head : Stmt := topS 14
theorem sc_look_at_head : FnScope ["layout", "thing"] ["layout", "thing"] (defScope s_look_at_head) := ⟨rfl, rfl, rfl, by decide +kernel, rfl, by decide +kernel, by decide +kernel⟩
abbrev s_look_at_column : Stmt := topS 15
theorem sc_look_at_column : FnScope ["layout", "thing"] ["layout", "thing"] (defScope s_look_at_column) := ⟨rfl, rfl, rfl, by decide +kernel, rfl, by decide +kernel, by decide +kernel⟩
abbrev s_having : Stmt := topS 16
theorem sc_having : FnScope ["heads", "column", "number", "head"] ["heads", "column"] (defScope s_having) := ⟨rfl, rfl, rfl, by decide +kernel, rfl, by decide +kernel, by decide +kernel⟩
abbrev s_heads_of : Stmt := topS 17
theorem sc_heads_of : FnScope ["layout", "column"] ["layout", "column"] (defScope s_heads_of) := ⟨rfl, rfl, rfl, by decide +kernel, rfl, by decide +kernel, by decide +kernel⟩
abbrev s_both : Stmt := topS 18
theorem sc_both : FnScope ["one", "other", "column"] ["one", "other"] (defScope s_both) := ⟨rfl, rfl, rfl, by decide +kernel, rfl, by decide +kernel, by decide +kernel⟩
abbrev s_common : Stmt := topS 19
theorem sc_common : FnScope ["layout", "one", "other"] ["layout", "one", "other"] (defScope s_common) := ⟨rfl, rfl, rfl, by decide +kernel, rfl, by decide +kernel, by decide +kernel⟩
abbrev s_come_to : Stmt := topS 20
theorem sc_come_to : FnScope ["heads", "first", "found", "waiting", "here", "more", "k", "head"] ["heads", "first"] (defScope s_come_to) := ⟨rfl, rfl, rfl, by decide +kernel, rfl, by decide +kernel, by decide +kernel⟩
abbrev s_pieces : Stmt := topS 21
theorem sc_pieces : FnScope ["layout", "found", "number", "piece"] ["layout"] (defScope s_pieces) := ⟨rfl, rfl, rfl, by decide +kernel, rfl, by decide +kernel, by decide +kernel⟩
abbrev s_is_order_of : Stmt := topS 22
theorem sc_is_order_of : FnScope ["thing", "many", "one"] ["thing", "many"] (defScope s_is_order_of) := ⟨rfl, rfl, rfl, by decide +kernel, rfl, by decide +kernel, by decide +kernel⟩
abbrev s_named : Stmt := topS 23
theorem sc_named : FnScope ["layout", "order", "heads", "head", "column"] ["layout", "order"] (defScope s_named) := ⟨rfl, rfl, rfl, by decide +kernel, rfl, by decide +kernel, by decide +kernel⟩
abbrev s_beside : Stmt := topS 24
theorem sc_beside : FnScope ["one", "other", "heads", "head", "column"] ["one", "other"] (defScope s_beside) := ⟨rfl, rfl, rfl, by decide +kernel, rfl, by decide +kernel, by decide +kernel⟩
abbrev s_without : Stmt := topS 25
theorem sc_without : FnScope ["layout", "head"] ["layout", "head"] (defScope s_without) := ⟨rfl, rfl, rfl, by decide +kernel, rfl, by decide +kernel, by decide +kernel⟩
abbrev s__law_cell : Stmt := topS 27
theorem sc__law_cell : FnScope ["_law_script", "_law_k"] ["_law_script", "_law_k"] (defScope s__law_cell) := ⟨rfl, rfl, rfl, by decide +kernel, rfl, by decide +kernel, by decide +kernel⟩
abbrev s__law_box : Stmt := topS 28
theorem sc__law_box : FnScope ["_law_script", "_law_k", "_law_cell_here", "_law_number", "_law_mixed", "_law_j"] ["_law_script", "_law_k"] (defScope s__law_box) := ⟨rfl, rfl, rfl, by decide +kernel, rfl, by decide +kernel, by decide +kernel⟩
abbrev s__law_take : Stmt := topS 29
theorem sc__law_take : FnScope ["_law_box_here", "_law_many", "_law_digit"] ["_law_box_here", "_law_many"] (defScope s__law_take) := ⟨rfl, rfl, rfl, by decide +kernel, rfl, by decide +kernel, by decide +kernel⟩
abbrev s__law_layout : Stmt := topS 30
theorem sc__law_layout : FnScope ["_law_box_here", "_law_many", "_law_way", "_law_size", "_law_k", "_law_out", "_law_heads", "_law_turn", "_law_some", "_law_column", "_law_ahead", "_law_fresh", "_law_head", "_law_left", "_law_order_here", "_law_number"] ["_law_box_here"] (defScope s__law_layout) := ⟨rfl, rfl, rfl, by decide +kernel, rfl, by decide +kernel, by decide +kernel⟩
abbrev s__law_order : Stmt := topS 31
theorem sc__law_order : FnScope ["_law_box_here", "_law_many", "_law_left", "_law_place"] ["_law_box_here", "_law_many"] (defScope s__law_order) := ⟨rfl, rfl, rfl, by decide +kernel, rfl, by decide +kernel, by decide +kernel⟩
abbrev s__law_right : Stmt := topS 32
theorem sc__law_right : FnScope ["_law_layout_here", "_law_column", "_law_number", "_law_met", "_law_piece", "_law_others", "_law_one", "_law_other"] ["_law_layout_here"] (defScope s__law_right) := ⟨rfl, rfl, rfl, by decide +kernel, rfl, by decide +kernel, by decide +kernel⟩
abbrev s__law_named_right : Stmt := topS 33
theorem sc__law_named_right : FnScope ["_law_box_here", "_law_layout_here", "_law_order_here", "_law_later", "_law_back", "_law_column", "_law_one", "_law_other", "_law_due"] ["_law_box_here", "_law_layout_here"] (defScope s__law_named_right) := ⟨rfl, rfl, rfl, by decide +kernel, rfl, by decide +kernel, by decide +kernel⟩
abbrev s__law_beside_right : Stmt := topS 34
theorem sc__law_beside_right : FnScope ["_law_layout_here", "_law_small", "_law_whole", "_law_behind", "_law_piece", "_law_number"] ["_law_layout_here"] (defScope s__law_beside_right) := ⟨rfl, rfl, rfl, by decide +kernel, rfl, by decide +kernel, by decide +kernel⟩
abbrev s_law : Stmt := topS 35
theorem sc_law : FnScope ["_law_script", "_law_k", "_law_box_here", "_law_layout_here", "_law_size", "_law_gone", "_law_less", "_law_one", "_law_other", "_law_number"] ["_law_script"] (defScope s_law) := ⟨rfl, rfl, rfl, by decide +kernel, rfl, by decide +kernel, by decide +kernel⟩
theorem k_is_whole {P : Program} {w : World} {K : PySem.W.Frag} {mg : Str → Option Value} {base : Heap} {fa : Addr} {fd : FuncData} (F : Fun K "is_whole" "is_whole" s_is_whole fa fd) (hb : Binds K fd ["thing"] []) (hm : mg "is_whole" = some (.ref fa)) (z_bool : mg "bool" = none) (z_int : mg "int" = none) (z_isinstance : mg "isinstance" = none) : CalOk P w K mg base 1 "is_whole" (spP K mg 1 false m_is_whole) :=
  cal_fn (N := ["thing"]) F sc_is_whole hb hm rfl fun cdv A outer s H E hr ts hl => match ts, hl with
    | [p0], _ => by
      have hu : (A.deeper (envOfC "is_whole" (defScope s_is_whole) s.heap.objs.size fa cdv)).units + 66 < cLine := by
        have := hr.un
        omega
      rw [m_is_whole]
      exact (show BS _ E false false [] [some p0] _ _ _ _ from (bs_ret (g := fun (v7 : D) => v7) (bx := fun (v7 : D) => PyData.none) (vp_p (ρe := [some p0]) (xq (ep_and (ep_isi (n := "int") z_isinstance z_int (ep_var 0)) (ep_one (ep_not (ep_isi (n := "bool") z_isinstance z_bool (ep_var 0))))))) (hb := (fun _ z => nomatch z))))
theorem k_is_upto {P : Program} {w : World} {K : PySem.W.Frag} {mg : Str → Option Value} {base : Heap} {fa : Addr} {fd : FuncData} (F : Fun K "is_upto" "is_upto" s_is_upto fa fd) (hb : Binds K fd ["thing", "many"] []) (hm : mg "is_upto" = some (.ref fa))  (c_is_whole : CalOk P w K mg base 1 "is_whole" (spP K mg 1 false m_is_whole)) : CalOk P w K mg base 2 "is_upto" (spP K mg 2 false m_is_upto) :=
  cal_fn (N := ["thing", "many"]) F sc_is_upto hb hm rfl fun cdv A outer s H E hr ts hl => match ts, hl with
    | [p0, p1], _ => by
      have hu : (A.deeper (envOfC "is_upto" (defScope s_is_upto) s.heap.objs.size fa cdv)).units + 66 < cLine := by
        have := hr.un
        omega
      rw [m_is_upto]
      exact (show BS _ E false false [] [some p0, some p1] _ _ _ _ from (bs_ret (g := fun (v10 : D) => v10) (bx := fun (v10 : D) => PyData.none) (vp_p (ρe := [some p0, some p1]) (xq (ep_and (xp_call c_is_whole hr (by omega) pass_cx (ea_cons (ep_var 0) ea_nil)) (ep_one (ep_chain od_le (od_lt hu) ep_int (ep_var 0) (ep_var 1)))))) (hb := (fun _ z => nomatch z))))
theorem k_is_rising {P : Program} {w : World} {K : PySem.W.Frag} {mg : Str → Option Value} {base : Heap} {fa : Addr} {fd : FuncData} (F : Fun K "is_rising" "is_rising" s_is_rising fa fd) (hb : Binds K fd ["things"] []) (hm : mg "is_rising" = some (.ref fa)) (z_all : mg "all" = none) (z_zip : mg "zip" = none) : CalOk P w K mg base 1 "is_rising" (spP K mg 1 false m_is_rising) :=
  cal_fn (N := ["things", "one", "other"]) F sc_is_rising hb hm rfl fun cdv A outer s H E hr ts hl => match ts, hl with
    | [p0], _ => by
      have hu : (A.deeper (envOfC "is_rising" (defScope s_is_rising) s.heap.objs.size fa cdv)).units + 66 < cLine := by
        have := hr.un
        omega
      rw [m_is_rising]
      exact (show BS _ E false false [] [some p0, none, none] _ _ _ _ from (bs_ret (g := fun (v19 : D) => v19) (bx := fun (v19 : D) => PyData.none) (vp_p (ρe := [some p0, none, none]) (xq (ep_callB (cd_all rfl) z_all (ea_cons (xp_of_xf (xf_lc (lcx_lc (own := [("one", 1), ("other", 2)]) (me := fun a12 => ((R.ok a12.1).bind fun x13 => (R.ok a12.2).bind fun x14 => pyLt x13 x14)) sc_is_rising.nd (xi_zip z_zip (ea_cons (xp_slice (ep_var 0) xo_none (xo_some (ep_un ud_neg ep_int))) (ea_cons (xp_slice (ep_var 0) (xo_some ep_int) xo_none) ea_nil))) (fun s H C cl fp => xg_pair 1 2 sc_is_rising.nd) (fun s H C cl fp a12 => xq (ep_cmp (od_lt hu) (ep_var 1) (ep_var 2))) (blkOk_by (N := ["things", "one", "other"]) (sc := defScope s_is_rising) (by decide +kernel))))) ea_nil)))) (hb := (fun _ z => nomatch z))))
theorem k_is_head {P : Program} {w : World} {K : PySem.W.Frag} {mg : Str → Option Value} {base : Heap} {fa : Addr} {fd : FuncData} (F : Fun K "is_head" "is_head" s_is_head fa fd) (hb : Binds K fd ["thing", "many"] []) (hm : mg "is_head" = some (.ref fa)) (z_all : mg "all" = none) (z_isinstance : mg "isinstance" = none) (z_tuple : mg "tuple" = none) (c_is_rising : CalOk P w K mg base 1 "is_rising" (spP K mg 1 false m_is_rising)) (c_is_upto : CalOk P w K mg base 2 "is_upto" (spP K mg 2 false m_is_upto)) : CalOk P w K mg base 3 "is_head" (spP K mg 2 false m_is_head) :=
  cal_fn (N := ["thing", "many", "one"]) F sc_is_head hb hm rfl fun cdv A outer s H E hr ts hl => match ts, hl with
    | [p0, p1], _ => by
      have hu : (A.deeper (envOfC "is_head" (defScope s_is_head) s.heap.objs.size fa cdv)).units + 66 < cLine := by
        have := hr.un
        omega
      rw [m_is_head]
      exact (show BS _ E false false [] [some p0, some p1, none] _ _ _ _ from (bs_if (vb_p (ρe := [some p0, some p1, none]) (xqB (eb_w (ew_or (eb_not (eb_val (ep_isi (n := "tuple") z_isinstance z_tuple (ep_var 0)))) (ew_or (eb_cmp (od_eq hu) (ep_var 0) (ep_tup ea_nil)) (ew_or1 (eb_not (eb_val (ep_callB (cd_all rfl) z_all (ea_cons (xp_of_xf (xf_lc (lcx_lc (own := [("one", 2)]) (me := fun a7 => ((R.ok a7).bind fun x8 => (R.ok p1).bind fun x9 => m_is_upto [x8, x9])) sc_is_head.nd (xi_val (ep_var 0)) (fun s H C cl fp => xg_name 2 sc_is_head.nd) (fun s H C cl fp a7 => xq (xp_call c_is_upto hr (by omega) passL (ea_cons (ep_var 2) (ea_cons (ep_var 1) ea_nil)))) (blkOk_by (N := ["thing", "many", "one"]) (sc := defScope s_is_head) (by decide +kernel))))) ea_nil))))))))) (.inr rfl)) (fun b17 => (show BS _ _ _ _ [] [some p0, some p1, none] _ _ _ _ from by exact (bs_ret (g := fun (v18 : D) => v18) (bx := fun (v18 : D) => PyData.none) (vp_p (ρe := [some p0, some p1, none]) (xq ep_bool)) (hb := (fun _ z => nomatch z))))) (fun b17 => (show BS _ _ _ _ [] [some p0, some p1, none] _ _ _ _ from by exact (bs_ret (g := fun (v20 : D) => v20) (bx := fun (v20 : D) => PyData.none) (vp_p (ρe := [some p0, some p1, none]) (xq (xp_call c_is_rising hr (by omega) pass_cx (ea_cons (ep_var 0) ea_nil)))) (hb := (fun _ z => nomatch z))))) (by intro _ _ _ _ h; exact nomatch h)))
theorem k_is_layout {P : Program} {w : World} {K : PySem.W.Frag} {mg : Str → Option Value} {base : Heap} {fa : Addr} {fd : FuncData} (F : Fun K "is_layout" "is_layout" s_is_layout fa fd) (hb : Binds K fd ["thing"] []) (hm : mg "is_layout" = some (.ref fa)) (z_all : mg "all" = none) (z_isinstance : mg "isinstance" = none) (z_len : mg "len" = none) (z_tuple : mg "tuple" = none) {tk_MOST_COLUMNS : Tok} (g_MOST_COLUMNS : mg "MOST_COLUMNS" = some (.int 7 tk_MOST_COLUMNS)) {tk_MOST_HEADS : Tok} (g_MOST_HEADS : mg "MOST_HEADS" = some (.int 6 tk_MOST_HEADS)) (c_is_upto : CalOk P w K mg base 2 "is_upto" (spP K mg 2 false m_is_upto)) (c_is_head : CalOk P w K mg base 3 "is_head" (spP K mg 2 false m_is_head)) : CalOk P w K mg base 4 "is_layout" (spP K mg 1 false m_is_layout) :=
  cal_fn (N := ["thing", "head"]) F sc_is_layout hb hm rfl fun cdv A outer s H E hr ts hl => match ts, hl with
    | [p0], _ => by
      have hu : (A.deeper (envOfC "is_layout" (defScope s_is_layout) s.heap.objs.size fa cdv)).units + 66 < cLine := by
        have := hr.un
        omega
      rw [m_is_layout]
      exact (show BS _ E false false [] [some p0, none] _ _ _ _ from (bs_if (vb_p (ρe := [some p0, none]) (xqB (eb_w (ew_or (eb_not (eb_val (ep_isi (n := "tuple") z_isinstance z_tuple (ep_var 0)))) (ew_or (eb_cmp (od_ne hu) (ep_callB cd_len z_len (ea_cons (ep_var 0) ea_nil)) ep_int) (ew_or (eb_not (eb_val (xp_call c_is_upto hr (by omega) pass_cx (ea_cons (ep_ix id_ix (ep_var 0) ep_int) (ea_cons (ep_bin od_add (ep_gint g_MOST_COLUMNS) ep_int) ea_nil))))) (ew_or1 (eb_cmp (od_eq hu) (ep_ix id_ix (ep_var 0) ep_int) ep_int))))))) (.inr rfl)) (fun b22 => (show BS _ _ _ _ [] [some p0, none] _ _ _ _ from by exact (bs_ret (g := fun (v23 : D) => v23) (bx := fun (v23 : D) => PyData.none) (vp_p (ρe := [some p0, none]) (xq ep_bool)) (hb := (fun _ z => nomatch z))))) (fun b22 => (show BS _ _ _ _ [] [some p0, none] _ _ _ _ from by exact (bs_if (vb_p (ρe := [some p0, none]) (xqB (eb_w (ew_or (eb_not (eb_val (ep_isi (n := "tuple") z_isinstance z_tuple (ep_ix id_ix (ep_var 0) ep_int)))) (ew_or1 (eb_not (eb_chain od_le od_le ep_int (ep_callB cd_len z_len (ea_cons (ep_ix id_ix (ep_var 0) ep_int) ea_nil)) (ep_gint g_MOST_HEADS))))))) (.inr rfl)) (fun b39 => (show BS _ _ _ _ [] [some p0, none] _ _ _ _ from by exact (bs_ret (g := fun (v40 : D) => v40) (bx := fun (v40 : D) => PyData.none) (vp_p (ρe := [some p0, none]) (xq ep_bool)) (hb := (fun _ z => nomatch z))))) (fun b39 => (show BS _ _ _ _ [] [some p0, none] _ _ _ _ from by exact (bs_ret (g := fun (v53 : D) => v53) (bx := fun (v53 : D) => PyData.none) (vp_p (ρe := [some p0, none]) (xq (ep_callB (cd_all rfl) z_all (ea_cons (xp_of_xf (xf_lc (lcx_lc (own := [("head", 1)]) (me := fun a44 => ((R.ok a44).bind fun x45 => ((R.ok p0).bind fun x46 => (R.ok (PyData.int 0)).bind fun x47 => pyIx x46 x47).bind fun x48 => m_is_head [x45, x48])) sc_is_layout.nd (xi_val (ep_ix id_ix (ep_var 0) ep_int)) (fun s H C cl fp => xg_name 1 sc_is_layout.nd) (fun s H C cl fp a44 => xq (xp_call c_is_head hr (by omega) passL (ea_cons (ep_var 1) (ea_cons (ep_ix id_ix (ep_var 0) ep_int) ea_nil)))) (blkOk_by (N := ["thing", "head"]) (sc := defScope s_is_layout) (by decide +kernel))))) ea_nil)))) (hb := (fun _ z => nomatch z))))) (by intro _ _ _ _ h; exact nomatch h)))) (by intro _ _ _ _ h; exact nomatch h)))
theorem k_look_at_head {P : Program} {w : World} {K : PySem.W.Frag} {mg : Str → Option Value} {base : Heap} {fa : Addr} {fd : FuncData} (F : Fun K "look_at_head" "look_at_head" s_look_at_head fa fd) (hb : Binds K fd ["layout", "thing"] []) (hm : mg "look_at_head" = some (.ref fa)) (z_len : mg "len" = none) (e_NoHead : ClsX K mg "NoHead") (c_is_upto : CalOk P w K mg base 2 "is_upto" (spP K mg 2 false m_is_upto)) : CalOk P w K mg base 3 "look_at_head" (spP K mg 2 false m_look_at_head) :=
  cal_fnE (N := ["layout", "thing"]) F sc_look_at_head hb hm rfl fun cdv A outer s H E hr ts hl => match ts, hl with
    | [p0, p1], _ => by
      have hu : (A.deeper (envOfC "look_at_head" (defScope s_look_at_head) s.heap.objs.size fa cdv)).units + 66 < cLine := by
        have := hr.un
        omega
      rw [m_look_at_head]
      exact ⟨_, fun _ => [some p0, some p1], rfl, (show BS _ E false false [] [some p0, some p1] _ _ _ _ from (bs_if (vb_p (ρe := [some p0, some p1]) (xqB (eb_not (eb_val (xp_call c_is_upto hr (by omega) pass_cx (ea_cons (ep_var 1) (ea_cons (ep_callB cd_len z_len (ea_cons (ep_ix id_ix (ep_var 0) ep_int) ea_nil)) ea_nil)))))) (.inr rfl)) (fun b14 => (show BS _ _ _ _ [] [some p0, some p1] _ _ _ _ from by exact (bs_raise_cx e_NoHead))) (fun b14 => (show BS _ _ _ _ [] [some p0, some p1] _ _ _ _ from by exact (bs_end [] (a := (Oc.nx ()))))) (fun _ => by repeat' (first | exact nev_rt | exact nev_bk | exact nev_ex | refine nev_then fun _ => ?_ | refine nev_bind fun _ => ?_ | refine nev_ite ?_ ?_))))⟩
theorem k_look_at_column {P : Program} {w : World} {K : PySem.W.Frag} {mg : Str → Option Value} {base : Heap} {fa : Addr} {fd : FuncData} (F : Fun K "look_at_column" "look_at_column" s_look_at_column fa fd) (hb : Binds K fd ["layout", "thing"] []) (hm : mg "look_at_column" = some (.ref fa)) (e_NoColumn : ClsX K mg "NoColumn") (c_is_upto : CalOk P w K mg base 2 "is_upto" (spP K mg 2 false m_is_upto)) : CalOk P w K mg base 3 "look_at_column" (spP K mg 2 false m_look_at_column) :=
  cal_fnE (N := ["layout", "thing"]) F sc_look_at_column hb hm rfl fun cdv A outer s H E hr ts hl => match ts, hl with
    | [p0, p1], _ => by
      have hu : (A.deeper (envOfC "look_at_column" (defScope s_look_at_column) s.heap.objs.size fa cdv)).units + 66 < cLine := by
        have := hr.un
        omega
      rw [m_look_at_column]
      exact ⟨_, fun _ => [some p0, some p1], rfl, (show BS _ E false false [] [some p0, some p1] _ _ _ _ from (bs_if (vb_p (ρe := [some p0, some p1]) (xqB (eb_not (eb_val (xp_call c_is_upto hr (by omega) pass_cx (ea_cons (ep_var 1) (ea_cons (ep_ix id_ix (ep_var 0) ep_int) ea_nil)))))) (.inr rfl)) (fun b12 => (show BS _ _ _ _ [] [some p0, some p1] _ _ _ _ from by exact (bs_raise_cx e_NoColumn))) (fun b12 => (show BS _ _ _ _ [] [some p0, some p1] _ _ _ _ from by exact (bs_end [] (a := (Oc.nx ()))))) (fun _ => by repeat' (first | exact nev_rt | exact nev_bk | exact nev_ex | refine nev_then fun _ => ?_ | refine nev_bind fun _ => ?_ | refine nev_ite ?_ ?_))))⟩
theorem k_having {P : Program} {w : World} {K : PySem.W.Frag} {mg : Str → Option Value} {base : Heap} {fa : Addr} {fd : FuncData} (F : Fun K "having" "having" s_having fa fd) (hb : Binds K fd ["heads", "column"] []) (hm : mg "having" = some (.ref fa)) (z_enumerate : mg "enumerate" = none) (z_tuple : mg "tuple" = none) : CalOk P w K mg base 1 "having" (spP K mg 2 false m_having) :=
  cal_fn (N := ["heads", "column", "number", "head"]) F sc_having hb hm rfl fun cdv A outer s H E hr ts hl => match ts, hl with
    | [p0, p1], _ => by
      have hu : (A.deeper (envOfC "having" (defScope s_having) s.heap.objs.size fa cdv)).units + 66 < cLine := by
        have := hr.un
        omega
      rw [m_having]
      exact (show BS _ E false false [] [some p0, some p1, none, none] _ _ _ _ from (bs_ret (g := fun (v10 : D) => v10) (bx := fun (v10 : D) => PyData.none) (vp_p (ρe := [some p0, some p1, none, none]) (xq (ep_callT cd_tuple z_tuple (ea_cons (xp_of_xf (xf_lc (lcx_lcf (own := [("number", 2), ("head", 3)]) (cond := fun a2 => ((R.ok p1).bind fun x6 => (R.ok a2.2).bind fun x7 => (pyIn x6 x7).bind asB)) (me := fun a2 => (R.ok a2.1)) sc_having.nd (xi_enum z_enumerate (ea_cons (ep_var 0) ea_nil)) (fun s H C cl fp => xg_pair 2 3 sc_having.nd) (fun s H C cl fp a2 => xqB (eb_cmp (od_in hu) (ep_var 1) (ep_var 3))) (fun s H C cl fp a2 => xq (ep_var 2)) (blkOk_by (N := ["heads", "column", "number", "head"]) (sc := defScope s_having) (by decide +kernel))))) ea_nil)))) (hb := (fun _ z => nomatch z))))
theorem k_heads_of {P : Program} {w : World} {K : PySem.W.Frag} {mg : Str → Option Value} {base : Heap} {fa : Addr} {fd : FuncData} (F : Fun K "heads_of" "heads_of" s_heads_of fa fd) (hb : Binds K fd ["layout", "column"] []) (hm : mg "heads_of" = some (.ref fa))  (c_look_at_column : CalOk P w K mg base 3 "look_at_column" (spP K mg 2 false m_look_at_column)) (c_having : CalOk P w K mg base 1 "having" (spP K mg 2 false m_having)) : CalOk P w K mg base 4 "heads_of" (spP K mg 2 false m_heads_of) :=
  cal_fn (N := ["layout", "column"]) F sc_heads_of hb hm rfl fun cdv A outer s H E hr ts hl => match ts, hl with
    | [p0, p1], _ => by
      have hu : (A.deeper (envOfC "heads_of" (defScope s_heads_of) s.heap.objs.size fa cdv)).units + 66 < cLine := by
        have := hr.un
        omega
      rw [m_heads_of]
      exact (show BS _ E false false [] [some p0, some p1] _ _ _ _ from (bs_seq (emb := fun v3 => [some p0, some p1]) (own1 := []) (ss_expr (vp_p (ρe := [some p0, some p1]) (xq (xp_call c_look_at_column hr (by omega) pass_cx (ea_cons (ep_var 0) (ea_cons (ep_var 1) ea_nil)))))) (fun v3 => by exact (bs_ret (g := fun (v8 : D) => v8) (bx := fun (v8 : D) => PyData.none) (vp_p (ρe := [some p0, some p1]) (xq (xp_call c_having hr (by omega) pass_cx (ea_cons (ep_ix id_ix (ep_var 0) ep_int) (ea_cons (ep_var 1) ea_nil))))) (hb := (fun _ z => nomatch z))))))
theorem k_both {P : Program} {w : World} {K : PySem.W.Frag} {mg : Str → Option Value} {base : Heap} {fa : Addr} {fd : FuncData} (F : Fun K "both" "both" s_both fa fd) (hb : Binds K fd ["one", "other"] []) (hm : mg "both" = some (.ref fa)) (z_tuple : mg "tuple" = none) : CalOk P w K mg base 1 "both" (spP K mg 2 false m_both) :=
  cal_fn (N := ["one", "other", "column"]) F sc_both hb hm rfl fun cdv A outer s H E hr ts hl => match ts, hl with
    | [p0, p1], _ => by
      have hu : (A.deeper (envOfC "both" (defScope s_both) s.heap.objs.size fa cdv)).units + 66 < cLine := by
        have := hr.un
        omega
      rw [m_both]
      exact (show BS _ E false false [] [some p0, some p1, none] _ _ _ _ from (bs_ret (g := fun (v10 : D) => v10) (bx := fun (v10 : D) => PyData.none) (vp_p (ρe := [some p0, some p1, none]) (xq (ep_callT cd_tuple z_tuple (ea_cons (xp_of_xf (xf_lc (lcx_lcf (own := [("column", 2)]) (cond := fun a2 => ((R.ok a2).bind fun x6 => (R.ok p1).bind fun x7 => (pyIn x6 x7).bind asB)) (me := fun a2 => (R.ok a2)) sc_both.nd (xi_val (ep_var 0)) (fun s H C cl fp => xg_name 2 sc_both.nd) (fun s H C cl fp a2 => xqB (eb_cmp (od_in hu) (ep_var 2) (ep_var 1))) (fun s H C cl fp a2 => xq (ep_var 2)) (blkOk_by (N := ["one", "other", "column"]) (sc := defScope s_both) (by decide +kernel))))) ea_nil)))) (hb := (fun _ z => nomatch z))))
theorem k_common {P : Program} {w : World} {K : PySem.W.Frag} {mg : Str → Option Value} {base : Heap} {fa : Addr} {fd : FuncData} (F : Fun K "common" "common" s_common fa fd) (hb : Binds K fd ["layout", "one", "other"] []) (hm : mg "common" = some (.ref fa))  (c_look_at_head : CalOk P w K mg base 3 "look_at_head" (spP K mg 2 false m_look_at_head)) (c_both : CalOk P w K mg base 1 "both" (spP K mg 2 false m_both)) : CalOk P w K mg base 4 "common" (spP K mg 3 false m_common) :=
  cal_fn (N := ["layout", "one", "other"]) F sc_common hb hm rfl fun cdv A outer s H E hr ts hl => match ts, hl with
    | [p0, p1, p2], _ => by
      have hu : (A.deeper (envOfC "common" (defScope s_common) s.heap.objs.size fa cdv)).units + 66 < cLine := by
        have := hr.un
        omega
      rw [m_common]
      exact (show BS _ E false false [] [some p0, some p1, some p2] _ _ _ _ from (bs_seq (emb := fun v3 => [some p0, some p1, some p2]) (own1 := []) (ss_expr (vp_p (ρe := [some p0, some p1, some p2]) (xq (xp_call c_look_at_head hr (by omega) pass_cx (ea_cons (ep_var 0) (ea_cons (ep_var 1) ea_nil)))))) (fun v3 => by exact (bs_seq (emb := fun v6 => [some p0, some p1, some p2]) (own1 := []) (ss_expr (vp_p (ρe := [some p0, some p1, some p2]) (xq (xp_call c_look_at_head hr (by omega) pass_cx (ea_cons (ep_var 0) (ea_cons (ep_var 2) ea_nil)))))) (fun v6 => by exact (bs_ret (g := fun (v17 : D) => v17) (bx := fun (v17 : D) => PyData.none) (vp_p (ρe := [some p0, some p1, some p2]) (xq (xp_call c_both hr (by omega) pass_cx (ea_cons (ep_ix id_ix (ep_ix id_ix (ep_var 0) ep_int) (ep_var 1)) (ea_cons (ep_ix id_ix (ep_ix id_ix (ep_var 0) ep_int) (ep_var 2)) ea_nil))))) (hb := (fun _ z => nomatch z))))))))
theorem k_come_to {P : Program} {w : World} {K : PySem.W.Frag} {mg : Str → Option Value} {base : Heap} {fa : Addr} {fd : FuncData} (F : Fun K "come_to" "come_to" s_come_to fa fd) (hb : Binds K fd ["heads", "first"] []) (hm : mg "come_to" = some (.ref fa)) (z_enumerate : mg "enumerate" = none) (z_sorted : mg "sorted" = none) (z_tuple : mg "tuple" = none) (c_both : CalOk P w K mg base 1 "both" (spP K mg 2 false m_both)) : CalOk P w K mg base 2 "come_to" (spP K mg 2 false m_come_to) :=
  cal_fn (N := ["heads", "first", "found", "waiting", "here", "more", "k", "head"]) F sc_come_to hb hm rfl fun cdv A outer s H E hr ts hl => match ts, hl with
    | [p0, p1], _ => by
      have hu : (A.deeper (envOfC "come_to" (defScope s_come_to) s.heap.objs.size fa cdv)).units + 66 < cLine := by
        have := hr.un
        omega
      rw [m_come_to]
      exact (show BS _ E false false [] [some p0, some p1, none, none, none, none, none, none] _ _ _ _ from (bs_seq (emb := fun v2 => [some p0, some p1, some v2, none, none, none, none, none]) (own1 := [2]) (ss_setF 2 sc_come_to.nd (vf_p (ρe := [some p0, some p1, none, none, none, none, none, none]) (xqF (xf_lst (ea_cons (ep_var 1) ea_nil))))) (fun v2 => by exact (bs_seq (emb := fun v4 => [some p0, some p1, some v2, some v4, none, none, none, none]) (own1 := [3, 2]) (ss_setF 3 sc_come_to.nd (vf_p (ρe := hideE [2] [some p0, some p1, some v2, none, none, none, none, none]) (xqF (xf_lst (ea_cons (ep_var 1) ea_nil))) borF_hide)) (fun v4 => by exact (bs_seqN (emb := fun (j44 : (D × D)) => [some p0, some p1, some j44.1, some j44.2, none, none, none, none]) (own1 := [3, 2]) (fun t b => t) (ss_whileO (emb := fun (j5 : (D × D)) => [some p0, some p1, some j5.1, some j5.2, none, none, none, none]) (v2, v4) (fun (j5 : (D × D)) b9 => (j5.1, j5.2)) own_cx (fun j5 => (vb_p (ρe := [some p0, some p1, some j5.1, some j5.2, none, none, none, none]) (xqB (eb_cmp (od_ne hu) (ep_var 3) (ep_lst ea_nil))) (.inr rfl))) (fun j5 b9 => (show BS _ _ _ _ [3, 2] [some p0, some p1, some j5.1, some j5.2, none, none, none, none] _ _ _ _ from by exact (bs_seq (emb := fun v20 => [some p0, some p1, some j5.1, some v20.2, some v20.1, none, none, none]) (own1 := [3, 2]) (ss_set 4 sc_come_to.nd (vp_j (emb := (fun (s : D) => [some p0, some p1, some j5.1, some s, none, none, none, none])) (m := fun s => (((R.ok p0).bind fun t13 => R.ok (t13, s)).bind fun pq10 => ((popD pq10.2).bind fun q14 => R.ok (q14.1, q14.2)).bind fun q11 => (pyIx pq10.1 q11.1).bind fun z12 => R.ok (z12, q11.2))) j5.2 (jq (jp_ix id_ix (jp_of (ρe := fun (s : D) => hideE [3, 2] [some p0, some p1, some j5.1, some s, none, none, none, none]) (m := fun s => (R.ok p0)) (fun s => xq (ep_var 0)) (fun s => bor_hide)) (jp_pop0 (get := fun s => s) (put := fun s d => d) 3 ⟨fun _ => rfl, fun _ _ => rfl⟩))))) (fun v20 => by exact (bs_seq (emb := fun v35 => [some p0, some p1, some j5.1, some v20.2, some v20.1, some v35, none, none]) (own1 := [5, 3, 2]) (ss_setLcF 5 (lv_fp (ρe := [some p0, some p1, some j5.1, some v20.2, some v20.1, none, none, none]) (lx_nf (lq (lcx_lcf (own := [("k", 6), ("head", 7)]) (cond := fun a22 => ((((R.ok v20.1).bind fun x26 => (R.ok a22.2).bind fun x27 => m_both [x26, x27]).bind fun x28 => (R.ok (PyData.tuple [])).bind fun x29 => (pyNe x28 x29).bind asB).bind fun k34 => if k34 = true then ((R.ok a22.1).bind fun x31 => (R.ok j5.1).bind fun x32 => (pyNotIn x31 x32).bind asB) else R.ok false)) (me := fun a22 => (R.ok a22.1)) sc_come_to.nd (xi_enum z_enumerate (ea_cons (ep_var 0) ea_nil)) (fun s H C cl fp => xg_pair 6 7 sc_come_to.nd) (fun s H C cl fp a22 => xqB (eb_w (ew_and (eb_cmp (od_ne hu) (xp_call c_both hr (by omega) passL (ea_cons (ep_var 4) (ea_cons (ep_var 7) ea_nil))) (ep_tup ea_nil)) (ew_and1 (eb_cmp (od_notin hu) (ep_var 6) (ep_var 2)))))) (fun s H C cl fp a22 => xq (ep_var 6)) (blkOk_by (N := ["heads", "first", "found", "waiting", "here", "more", "k", "head"]) (sc := defScope s_come_to) (by decide +kernel))))) (.inr ⟨rfl, nf_nf⟩))) (fun v35 => by exact (bs_freeze 5 (show BS _ _ _ _ [3, 2] [some p0, some p1, some j5.1, some v20.2, some v20.1, some v35, none, none] _ _ _ _ from by exact (bs_seq (emb := fun j39 => [some p0, some p1, some j39, some v20.2, some v20.1, some v35, none, none]) (own1 := [3, 2]) (ss_meth 2 (ts := fun v36 => j5.1) (fun v36 r38 => r38) PySem.F.slot_list_extend PySem.F.type_list_extend mt_extendU meth_extend ext_l ext_r ext_ex (vp_p (ρe := hideE [3, 2] [some p0, some p1, some j5.1, some v20.2, some v20.1, some v35, none, none]) (xq (ep_var 5)) bor_hide)) (fun j39 => by exact (bs_seq (emb := fun j43 => [some p0, some p1, some j39, some j43, some v20.1, some v35, none, none]) (own1 := [3, 2]) (ss_meth 3 (ts := fun v40 => v20.2) (fun v40 r42 => r42) PySem.F.slot_list_extend PySem.F.type_list_extend mt_extendU meth_extend ext_l ext_r ext_ex (vp_p (ρe := hideE [3, 2] [some p0, some p1, some j39, some v20.2, some v20.1, some v35, none, none]) (xq (ep_var 5)) bor_hide)) (fun j43 => by exact (bs_end [4, 5] (a := (Oc.nx (j39, j43))))))))))))))))) (fun j44 => by exact (bs_freeze 3 (show BS _ _ _ _ [2] [some p0, some p1, some j44.1, some j44.2, none, none, none, none] _ _ _ _ from by exact (bs_freeze 2 (show BS _ _ _ _ [] [some p0, some p1, some j44.1, some j44.2, none, none, none, none] _ _ _ _ from by exact (bs_ret (g := fun (v47 : D) => v47) (bx := fun (v47 : D) => PyData.none) (vp_p (ρe := [some p0, some p1, some j44.1, some j44.2, none, none, none, none]) (xq (ep_callT cd_tuple z_tuple (ea_cons (xp_of_xf (xf_callB (cf_sorted hu) z_sorted (ea_cons (ep_var 2) ea_nil))) ea_nil)))) (hb := (fun _ z => nomatch z))))))))))))))
theorem k_pieces {P : Program} {w : World} {K : PySem.W.Frag} {mg : Str → Option Value} {base : Heap} {fa : Addr} {fd : FuncData} (F : Fun K "pieces" "pieces" s_pieces fa fd) (hb : Binds K fd ["layout"] []) (hm : mg "pieces" = some (.ref fa)) (z_any : mg "any" = none) (z_len : mg "len" = none) (z_range : mg "range" = none) (c_come_to : CalOk P w K mg base 2 "come_to" (spP K mg 2 false m_come_to)) : CalOk P w K mg base 3 "pieces" (spP K mg 1 true m_pieces) :=
  cal_fn (N := ["layout", "found", "number", "piece"]) F sc_pieces hb hm rfl fun cdv A outer s H E hr ts hl => match ts, hl with
    | [p0], _ => by
      have hu : (A.deeper (envOfC "pieces" (defScope s_pieces) s.heap.objs.size fa cdv)).units + 66 < cLine := by
        have := hr.un
        omega
      rw [m_pieces]
      exact (show BS _ E false true [] [some p0, none, none, none] _ _ _ _ from (bs_seq (emb := fun v1 => [some p0, some v1, none, none]) (own1 := [1]) (ss_setF 1 sc_pieces.nd (vf_p (ρe := [some p0, none, none, none]) (xqF (xf_lst ea_nil)))) (fun v1 => by exact (bs_seq (emb := fun (j36 : (D)) => [some p0, some j36, none, none]) (own1 := [1]) (ss_for (emb := fun (j7 : (D)) => [some p0, some j7, none, none]) (fun b6 => v1) own_cx rfl (vi_p (xqI (xi_range1 z_range (ea_cons (ep_callB cd_len z_len (ea_cons (ep_ix id_ix (ep_var 0) ep_int) ea_nil)) ea_nil)))) (xg_name 2 sc_pieces.nd) (fun j7 a8 => (show BS _ _ _ _ [1] [some p0, some j7, some a8, none] _ _ _ _ from by exact (bs_seq (emb := fun (j35 : (D)) => [some p0, some j35, some a8, none]) (own1 := [1]) (ss_if (vb_p (ρe := [some p0, some j7, some a8, none]) (xqB (eb_not (eb_val (ep_callB (cd_any rfl) z_any (ea_cons (xp_of_xf (xf_lc (lcx_lc (own := [("piece", 3)]) (me := fun a10 => ((R.ok a8).bind fun x11 => (R.ok a10).bind fun x12 => pyIn x11 x12)) sc_pieces.nd (xi_val (ep_var 1)) (fun s H C cl fp => xg_name 3 sc_pieces.nd) (fun s H C cl fp a10 => xq (ep_cmp (od_in hu) (ep_var 2) (ep_var 3))) (blkOk_by (N := ["layout", "found", "number", "piece"]) (sc := defScope s_pieces) (by decide +kernel))))) ea_nil))))) (.inr rfl)) (fun b18 => (show BS _ _ _ _ [1] [some p0, some j7, some a8, none] _ _ _ _ from by exact (bs_seq (emb := fun j34 => [some p0, some j34, some a8, none]) (own1 := [1]) (ss_meth 1 (ts := fun v31 => j7) (fun v31 r33 => r33) PySem.F.slot_list_append PySem.F.type_list_append mt_append meth_append app_l app_r app_ex (vp_p (ρe := hideE [1] [some p0, some j7, some a8, none]) (xq (xp_call c_come_to hr (by omega) pass_cx (ea_cons (ep_ix id_ix (ep_var 0) ep_int) (ea_cons (ep_var 2) ea_nil)))) bor_hide)) (fun j34 => by exact (bs_end [] (a := j34)))))) (fun b18 => (show BS _ _ _ _ [1] [some p0, some j7, some a8, none] _ _ _ _ from by exact (bs_end [] (a := j7))))) (fun j35 => by exact (bs_end [2] (a := j35))))))) (fun j36 => by exact (bs_retO 1 (t := j36) (b := PyData.none) (a := j36) (hb := (fun z => nomatch z))))))))
theorem k_is_order_of {P : Program} {w : World} {K : PySem.W.Frag} {mg : Str → Option Value} {base : Heap} {fa : Addr} {fd : FuncData} (F : Fun K "is_order_of" "is_order_of" s_is_order_of fa fd) (hb : Binds K fd ["thing", "many"] []) (hm : mg "is_order_of" = some (.ref fa)) (z_all : mg "all" = none) (z_isinstance : mg "isinstance" = none) (z_list : mg "list" = none) (z_range : mg "range" = none) (z_sorted : mg "sorted" = none) (z_tuple : mg "tuple" = none) (c_is_upto : CalOk P w K mg base 2 "is_upto" (spP K mg 2 false m_is_upto)) : CalOk P w K mg base 3 "is_order_of" (spP K mg 2 false m_is_order_of) :=
  cal_fn (N := ["thing", "many", "one"]) F sc_is_order_of hb hm rfl fun cdv A outer s H E hr ts hl => match ts, hl with
    | [p0, p1], _ => by
      have hu : (A.deeper (envOfC "is_order_of" (defScope s_is_order_of) s.heap.objs.size fa cdv)).units + 66 < cLine := by
        have := hr.un
        omega
      rw [m_is_order_of]
      exact (show BS _ E false false [] [some p0, some p1, none] _ _ _ _ from (bs_if (vb_p (ρe := [some p0, some p1, none]) (xqB (eb_w (ew_or (eb_not (eb_val (ep_isi (n := "tuple") z_isinstance z_tuple (ep_var 0)))) (ew_or1 (eb_not (eb_val (ep_callB (cd_all rfl) z_all (ea_cons (xp_of_xf (xf_lc (lcx_lc (own := [("one", 2)]) (me := fun a4 => ((R.ok a4).bind fun x5 => (R.ok p1).bind fun x6 => m_is_upto [x5, x6])) sc_is_order_of.nd (xi_val (ep_var 0)) (fun s H C cl fp => xg_name 2 sc_is_order_of.nd) (fun s H C cl fp a4 => xq (xp_call c_is_upto hr (by omega) passL (ea_cons (ep_var 2) (ea_cons (ep_var 1) ea_nil)))) (blkOk_by (N := ["thing", "many", "one"]) (sc := defScope s_is_order_of) (by decide +kernel))))) ea_nil)))))))) (.inr rfl)) (fun b13 => (show BS _ _ _ _ [] [some p0, some p1, none] _ _ _ _ from by exact (bs_ret (g := fun (v14 : D) => v14) (bx := fun (v14 : D) => PyData.none) (vp_p (ρe := [some p0, some p1, none]) (xq ep_bool)) (hb := (fun _ z => nomatch z))))) (fun b13 => (show BS _ _ _ _ [] [some p0, some p1, none] _ _ _ _ from by exact (bs_ret (g := fun (v22 : D) => v22) (bx := fun (v22 : D) => PyData.none) (vp_p (ρe := [some p0, some p1, none]) (xq (ep_cmp (od_eq hu) (xp_of_xf (xf_callB (cf_sorted hu) z_sorted (ea_cons (ep_var 0) ea_nil))) (xp_of_xf (xf_listRg z_list (xrg_1 z_range (ep_var 1))))))) (hb := (fun _ z => nomatch z))))) (by intro _ _ _ _ h; exact nomatch h)))
theorem k_named {P : Program} {w : World} {K : PySem.W.Frag} {mg : Str → Option Value} {base : Heap} {fa : Addr} {fd : FuncData} (F : Fun K "named" "named" s_named fa fd) (hb : Binds K fd ["layout", "order"] []) (hm : mg "named" = some (.ref fa)) (z_sorted : mg "sorted" = none) (z_tuple : mg "tuple" = none) (e_NoOrder : ClsX K mg "NoOrder") (c_is_order_of : CalOk P w K mg base 3 "is_order_of" (spP K mg 2 false m_is_order_of)) : CalOk P w K mg base 4 "named" (spP K mg 2 false m_named) :=
  cal_fn (N := ["layout", "order", "heads", "head", "column"]) F sc_named hb hm rfl fun cdv A outer s H E hr ts hl => match ts, hl with
    | [p0, p1], _ => by
      have hu : (A.deeper (envOfC "named" (defScope s_named) s.heap.objs.size fa cdv)).units + 66 < cLine := by
        have := hr.un
        omega
      rw [m_named]
      exact (show BS _ E false false [] [some p0, some p1, none, none, none] _ _ _ _ from (bs_if (vb_p (ρe := [some p0, some p1, none, none, none]) (xqB (eb_not (eb_val (xp_call c_is_order_of hr (by omega) pass_cx (ea_cons (ep_var 1) (ea_cons (ep_ix id_ix (ep_var 0) ep_int) ea_nil)))))) (.inr rfl)) (fun b6 => (show BS _ _ _ _ [] [some p0, some p1, none, none, none] _ _ _ _ from by exact (bs_raise_cx e_NoOrder))) (fun b6 => (show BS _ _ _ _ [] [some p0, some p1, none, none, none] _ _ _ _ from by exact (bs_seq (emb := fun v23 => [some p0, some p1, some v23, none, none]) (own1 := []) (ss_setLc 2 (lv_p (ρe := [some p0, some p1, none, none, none]) (lq (lcx_lc (own := [("head", 3)]) (me := fun a10 => (((((R.ok a10).bind fun x11 => items x11).bind fun is15 => (mapR (fun d17 => ((fun d => R.ok d) d17).bind fun a12 => ((R.ok p1).bind fun x13 => (sqOk x13).bind fun _ => (R.ok a12).bind fun x14 => pyIndex x13 x14)) is15).bind fun rs16 => R.ok (PyData.list rs16)).bind fun x18 => pySorted [x18]).bind fun x19 => pyTuple [x19])) sc_named.nd (xi_val (ep_ix id_ix (ep_var 0) ep_int)) (fun s H C cl fp => xg_name 3 sc_named.nd) (fun s H C cl fp a10 => xq (ep_callT cd_tuple z_tuple (ea_cons (xp_of_xf (xf_callB (cf_sorted hu) z_sorted (ea_cons (xp_of_xf (xf_lc (lcx_lc (own := [("column", 4)]) (me := fun a12 => ((R.ok p1).bind fun x13 => (sqOk x13).bind fun _ => (R.ok a12).bind fun x14 => pyIndex x13 x14)) sc_named.nd (xi_val (ep_var 3)) (fun s H C cl fp => xg_name 4 sc_named.nd) (fun s H C cl fp a12 => xq (xp_index hu (ep_var 1) (ep_var 4))) (blkOk_by (by rfl))))) ea_nil))) ea_nil))) (blkOk_by (N := ["layout", "order", "heads", "head", "column"]) (sc := defScope s_named) (by decide +kernel)))))) (fun v23 => by exact (bs_ret (g := fun (v29 : D) => v29) (bx := fun (v29 : D) => PyData.none) (vp_p (ρe := [some p0, some p1, some v23, none, none]) (xq (ep_tup (ea_cons (ep_ix id_ix (ep_var 0) ep_int) (ea_cons (ep_callT cd_tuple z_tuple (ea_cons (ep_var 2) ea_nil)) ea_nil))))) (hb := (fun _ z => nomatch z))))))) (by intro _ _ _ _ h; exact nomatch h)))
theorem k_beside {P : Program} {w : World} {K : PySem.W.Frag} {mg : Str → Option Value} {base : Heap} {fa : Addr} {fd : FuncData} (F : Fun K "beside" "beside" s_beside fa fd) (hb : Binds K fd ["one", "other"] []) (hm : mg "beside" = some (.ref fa)) (z_len : mg "len" = none) (z_tuple : mg "tuple" = none) {tk_MOST_COLUMNS : Tok} (g_MOST_COLUMNS : mg "MOST_COLUMNS" = some (.int 7 tk_MOST_COLUMNS)) {tk_MOST_HEADS : Tok} (g_MOST_HEADS : mg "MOST_HEADS" = some (.int 6 tk_MOST_HEADS)) (e_TooMany : ClsX K mg "TooMany") : CalOk P w K mg base 1 "beside" (spP K mg 2 false m_beside) :=
  cal_fn (N := ["one", "other", "heads", "head", "column"]) F sc_beside hb hm rfl fun cdv A outer s H E hr ts hl => match ts, hl with
    | [p0, p1], _ => by
      have hu : (A.deeper (envOfC "beside" (defScope s_beside) s.heap.objs.size fa cdv)).units + 66 < cLine := by
        have := hr.un
        omega
      rw [m_beside]
      exact (show BS _ E false false [] [some p0, some p1, none, none, none] _ _ _ _ from (bs_if (vb_p (ρe := [some p0, some p1, none, none, none]) (xqB (eb_w (ew_or (eb_cmp od_gt (ep_bin od_add (ep_ix id_ix (ep_var 0) ep_int) (ep_ix id_ix (ep_var 1) ep_int)) (ep_gint g_MOST_COLUMNS)) (ew_or1 (eb_cmp od_gt (ep_bin od_add (ep_callB cd_len z_len (ea_cons (ep_ix id_ix (ep_var 0) ep_int) ea_nil)) (ep_callB cd_len z_len (ea_cons (ep_ix id_ix (ep_var 1) ep_int) ea_nil))) (ep_gint g_MOST_HEADS)))))) (.inr rfl)) (fun b22 => (show BS _ _ _ _ [] [some p0, some p1, none, none, none] _ _ _ _ from by exact (bs_raise_cx e_TooMany))) (fun b22 => (show BS _ _ _ _ [] [some p0, some p1, none, none, none] _ _ _ _ from by exact (bs_seq (emb := fun v40 => [some p0, some p1, some v40, none, none]) (own1 := []) (ss_setLc 2 (lv_p (ρe := [some p0, some p1, none, none, none]) (lq (lcx_lc (own := [("head", 3)]) (me := fun a26 => ((((R.ok a26).bind fun x27 => items x27).bind fun is33 => (mapR (fun d35 => ((fun d => R.ok d) d35).bind fun a28 => ((R.ok a28).bind fun x31 => ((R.ok p0).bind fun x29 => (R.ok (PyData.int 0)).bind fun x30 => pyIx x29 x30).bind fun x32 => pyAdd x31 x32)) is33).bind fun rs34 => R.ok (PyData.list rs34)).bind fun x36 => pyTuple [x36])) sc_beside.nd (xi_val (ep_ix id_ix (ep_var 1) ep_int)) (fun s H C cl fp => xg_name 3 sc_beside.nd) (fun s H C cl fp a26 => xq (ep_callT cd_tuple z_tuple (ea_cons (xp_of_xf (xf_lc (lcx_lc (own := [("column", 4)]) (me := fun a28 => ((R.ok a28).bind fun x31 => ((R.ok p0).bind fun x29 => (R.ok (PyData.int 0)).bind fun x30 => pyIx x29 x30).bind fun x32 => pyAdd x31 x32)) sc_beside.nd (xi_val (ep_var 3)) (fun s H C cl fp => xg_name 4 sc_beside.nd) (fun s H C cl fp a28 => xq (ep_bin od_add (ep_var 4) (ep_ix id_ix (ep_var 0) ep_int))) (blkOk_by (by rfl))))) ea_nil))) (blkOk_by (N := ["one", "other", "heads", "head", "column"]) (sc := defScope s_beside) (by decide +kernel)))))) (fun v40 => by exact (bs_ret (g := fun (v54 : D) => v54) (bx := fun (v54 : D) => PyData.none) (vp_p (ρe := [some p0, some p1, some v40, none, none]) (xq (ep_tup (ea_cons (ep_bin od_add (ep_ix id_ix (ep_var 0) ep_int) (ep_ix id_ix (ep_var 1) ep_int)) (ea_cons (ep_bin od_add (ep_ix id_ix (ep_var 0) ep_int) (ep_callT cd_tuple z_tuple (ea_cons (ep_var 2) ea_nil))) ea_nil))))) (hb := (fun _ z => nomatch z))))))) (by intro _ _ _ _ h; exact nomatch h)))
theorem k_without {P : Program} {w : World} {K : PySem.W.Frag} {mg : Str → Option Value} {base : Heap} {fa : Addr} {fd : FuncData} (F : Fun K "without" "without" s_without fa fd) (hb : Binds K fd ["layout", "head"] []) (hm : mg "without" = some (.ref fa)) (z_len : mg "len" = none) (e_NoHead : ClsX K mg "NoHead") (c_look_at_head : CalOk P w K mg base 3 "look_at_head" (spP K mg 2 false m_look_at_head)) : CalOk P w K mg base 4 "without" (spP K mg 2 false m_without) :=
  cal_fn (N := ["layout", "head"]) F sc_without hb hm rfl fun cdv A outer s H E hr ts hl => match ts, hl with
    | [p0, p1], _ => by
      have hu : (A.deeper (envOfC "without" (defScope s_without) s.heap.objs.size fa cdv)).units + 66 < cLine := by
        have := hr.un
        omega
      rw [m_without]
      exact (show BS _ E false false [] [some p0, some p1] _ _ _ _ from (bs_seq (emb := fun v3 => [some p0, some p1]) (own1 := []) (ss_expr (vp_p (ρe := [some p0, some p1]) (xq (xp_call c_look_at_head hr (by omega) pass_cx (ea_cons (ep_var 0) (ea_cons (ep_var 1) ea_nil)))))) (fun v3 => by exact (bs_if (vb_p (ρe := [some p0, some p1]) (xqB (eb_cmp (od_eq hu) (ep_callB cd_len z_len (ea_cons (ep_ix id_ix (ep_var 0) ep_int) ea_nil)) ep_int)) (.inr rfl)) (fun b10 => (show BS _ _ _ _ [] [some p0, some p1] _ _ _ _ from by exact (bs_raise_cx e_NoHead))) (fun b10 => (show BS _ _ _ _ [] [some p0, some p1] _ _ _ _ from by exact (bs_ret (g := fun (v31 : D) => v31) (bx := fun (v31 : D) => PyData.none) (vp_p (ρe := [some p0, some p1]) (xq (ep_tup (ea_cons (ep_ix id_ix (ep_var 0) ep_int) (ea_cons (ep_bin od_add (xp_slice (ep_ix id_ix (ep_var 0) ep_int) xo_none (xo_some (ep_var 1))) (xp_slice (ep_ix id_ix (ep_var 0) ep_int) (xo_some (ep_bin od_add (ep_var 1) ep_int)) xo_none)) ea_nil))))) (hb := (fun _ z => nomatch z))))) (by intro _ _ _ _ h; exact nomatch h)))))
theorem k__law_cell {P : Program} {w : World} {K : PySem.W.Frag} {mg : Str → Option Value} {base : Heap} {fa : Addr} {fd : FuncData} (F : Fun K "_law_cell" "_law_cell" s__law_cell fa fd) (hb : Binds K fd ["_law_script", "_law_k"] []) (hm : mg "_law_cell" = some (.ref fa)) (z_len : mg "len" = none) : CalOk P w K mg base 1 "_law_cell" (spP K mg 2 false m_law_cell) :=
  cal_fn (N := ["_law_script", "_law_k"]) F sc__law_cell hb hm rfl fun cdv A outer s H E hr ts hl => match ts, hl with
    | [p0, p1], _ => by
      have hu : (A.deeper (envOfC "_law_cell" (defScope s__law_cell) s.heap.objs.size fa cdv)).units + 66 < cLine := by
        have := hr.un
        omega
      rw [m_law_cell]
      exact (show BS _ E false false [] [some p0, some p1] _ _ _ _ from (bs_if (vb_p (ρe := [some p0, some p1]) (xqB (eb_cmp (od_lt hu) (ep_var 1) (ep_callB cd_len z_len (ea_cons (ep_var 0) ea_nil)))) (.inr rfl)) (fun b5 => (show BS _ _ _ _ [] [some p0, some p1] _ _ _ _ from by exact (bs_ret (g := fun (v8 : D) => v8) (bx := fun (v8 : D) => PyData.none) (vp_p (ρe := [some p0, some p1]) (xq (ep_ix id_ix (ep_var 0) (ep_var 1)))) (hb := (fun _ z => nomatch z))))) (fun b5 => (show BS _ _ _ _ [] [some p0, some p1] _ _ _ _ from by exact (bs_ret (g := fun (v13 : D) => v13) (bx := fun (v13 : D) => PyData.none) (vp_p (ρe := [some p0, some p1]) (xq (ep_bin od_add (ep_bin od_mul ep_int (ep_var 1)) ep_int))) (hb := (fun _ z => nomatch z))))) (by intro _ _ _ _ h; exact nomatch h)))
theorem k__law_box {P : Program} {w : World} {K : PySem.W.Frag} {mg : Str → Option Value} {base : Heap} {fa : Addr} {fd : FuncData} (F : Fun K "_law_box" "_law_box" s__law_box fa fd) (hb : Binds K fd ["_law_script", "_law_k"] []) (hm : mg "_law_box" = some (.ref fa)) (z_range : mg "range" = none) (c__law_cell : CalOk P w K mg base 1 "_law_cell" (spP K mg 2 false m_law_cell)) : CalOk P w K mg base 2 "_law_box" (spP K mg 2 true m_law_box) :=
  cal_fn (N := ["_law_script", "_law_k", "_law_cell_here", "_law_number", "_law_mixed", "_law_j"]) F sc__law_box hb hm rfl fun cdv A outer s H E hr ts hl => match ts, hl with
    | [p0, p1], _ => by
      have hu : (A.deeper (envOfC "_law_box" (defScope s__law_box) s.heap.objs.size fa cdv)).units + 66 < cLine := by
        have := hr.un
        omega
      rw [m_law_box]
      exact (show BS _ E false true [] [some p0, some p1, none, none, none, none] _ _ _ _ from (bs_seq (emb := fun v3 => [some p0, some p1, some v3, none, none, none]) (own1 := []) (ss_set 2 sc__law_box.nd (vp_p (ρe := [some p0, some p1, none, none, none, none]) (xq (xp_call c__law_cell hr (by omega) pass_cx (ea_cons (ep_var 0) (ea_cons (ep_var 1) ea_nil)))))) (fun v3 => by exact (bs_if (vb_p (ρe := [some p0, some p1, some v3, none, none, none]) (xqB (eb_cmp (od_eq hu) (ep_bin od_mod (ep_var 2) ep_int) ep_int)) (.inr rfl)) (fun b9 => (show BS _ _ _ _ [] [some p0, some p1, some v3, none, none, none] _ _ _ _ from by exact (bs_retF (g := fun (v13 : D) => v13) (bx := fun (v13 : D) => PyData.none) (vf_p (ρe := [some p0, some p1, some v3, none, none, none]) (xqF (xf_lst (ea_cons (ep_bin od_div (ep_var 2) ep_int) ea_nil)))) (hb := (fun _ z => nomatch z))))) (fun b9 => (show BS _ _ _ _ [] [some p0, some p1, some v3, none, none, none] _ _ _ _ from by exact (bs_seq (emb := fun v14 => [some p0, some p1, some v3, some v14, none, none]) (own1 := []) (ss_set 3 sc__law_box.nd (vp_p (ρe := [some p0, some p1, some v3, none, none, none]) (xq ep_int))) (fun v14 => by exact (bs_seq (emb := fun v17 => [some p0, some p1, some v3, some v14, some v17, none]) (own1 := []) (ss_set 4 sc__law_box.nd (vp_p (ρe := [some p0, some p1, some v3, some v14, none, none]) (xq (ep_bin od_mod (ep_var 2) ep_int)))) (fun v17 => by exact (bs_seq (emb := fun (j44 : (D × D)) => [some p0, some p1, some v3, some j44.1, some j44.2, none]) (own1 := []) (ss_for (emb := fun (j20 : (D × D)) => [some p0, some p1, some v3, some j20.1, some j20.2, none]) (fun b19 => (v14, v17)) own_cx rfl (vi_p (xqI (xi_range1 z_range (ea_cons ep_int ea_nil)))) (xg_name 5 sc__law_box.nd) (fun j20 a21 => (show BS _ _ _ _ [] [some p0, some p1, some v3, some j20.1, some j20.2, some a21] _ _ _ _ from by exact (bs_seq (emb := fun v38 => [some p0, some p1, some v3, some j20.1, some v38, some a21]) (own1 := []) (ss_set 4 sc__law_box.nd (vp_p (ρe := [some p0, some p1, some v3, some j20.1, some j20.2, some a21]) (xq (ep_bin od_mod (ep_bin od_add (ep_bin od_add (ep_bin od_add (ep_bin od_mul (ep_var 4) ep_int) (ep_bin od_mul (ep_bin od_mul ep_int (ep_var 5)) (ep_var 5))) (ep_bin od_mul ep_int (ep_var 1))) ep_int) ep_int)))) (fun v38 => by exact (bs_seq (emb := fun v43 => [some p0, some p1, some v3, some v43, some v38, some a21]) (own1 := []) (ss_set 3 sc__law_box.nd (vp_p (ρe := [some p0, some p1, some v3, some j20.1, some v38, some a21]) (xq (ep_bin od_add (ep_bin od_mul (ep_var 3) ep_int) (ep_var 4))))) (fun v43 => by exact (bs_end [5] (a := (v43, v38)))))))))) (fun j44 => by exact (bs_retF (g := fun (v46 : D) => v46) (bx := fun (v46 : D) => PyData.none) (vf_p (ρe := [some p0, some p1, some v3, some j44.1, some j44.2, none]) (xqF (xf_lst (ea_cons (ep_var 3) ea_nil)))) (hb := (fun _ z => nomatch z))))))))))) (by intro _ _ _ _ h; exact nomatch h)))))
theorem k__law_take {P : Program} {w : World} {K : PySem.W.Frag} {mg : Str → Option Value} {base : Heap} {fa : Addr} {fd : FuncData} (F : Fun K "_law_take" "_law_take" s__law_take fa fd) (hb : Binds K fd ["_law_box_here", "_law_many"] []) (hm : mg "_law_take" = some (.ref fa))  : CalOk P w K mg base 1 "_law_take" (spB K 2 false m_law_take) :=
  cal_box (N := ["_law_box_here", "_law_many", "_law_digit"]) F sc__law_take hb hm rfl fun cdv A outer s H E hr b ts hl => match b, ts, hl with
    | p0, [p1], _ => by
      have hu : (A.deeper (envOfC "_law_take" (defScope s__law_take) s.heap.objs.size fa cdv)).units + 66 < cLine := by
        have := hr.un
        omega
      rw [m_law_take]
      exact (show BS _ E true false [0] [some p0, some p1, none] _ _ _ _ from (bs_seq (emb := fun v5 => [some p0, some p1, some v5]) (own1 := [0]) (ss_set 2 sc__law_take.nd (vp_p (ρe := [some p0, some p1, none]) (xp_nl (xq (ep_bin od_mod (ep_ix id_ix (ep_var 0) ep_int) (ep_var 1)))) (bor_flat nl_nl))) (fun v5 => by exact (bs_seq (emb := fun j13 => [some j13, some p1, some v5]) (own1 := [0]) (ss_store 0 (ts := fun v10 => p0) (mi := fun v10 => (R.ok (PyData.int 0))) (fun v10 r12 => r12) (vp_p (ρe := [some p0, some p1, some v5]) (xp_nl (xq (ep_bin od_div (ep_ix id_ix (ep_var 0) ep_int) (ep_var 1)))) (bor_flat nl_nl)) (fun v10 => xq ep_int)) (fun j13 => by exact (bs_ret (g := fun (v14 : D) => (v14, j13)) (bx := fun (v14 : D) => j13) (vp_p (ρe := hideE [0] [some j13, some p1, some v5]) (xq (ep_var 2)) bor_hide) (hb := (fun _ _ => rfl))))))))
theorem k__law_layout {P : Program} {w : World} {K : PySem.W.Frag} {mg : Str → Option Value} {base : Heap} {fa : Addr} {fd : FuncData} (F : Fun K "_law_layout" "_law_layout" s__law_layout fa fd) (hb : Binds K fd ["_law_box_here"] []) (hm : mg "_law_layout" = some (.ref fa)) (z_len : mg "len" = none) (z_list : mg "list" = none) (z_min : mg "min" = none) (z_range : mg "range" = none) (z_set : mg "set" = none) (z_sorted : mg "sorted" = none) (z_tuple : mg "tuple" = none) (c__law_take : CalOk P w K mg base 1 "_law_take" (spB K 2 false m_law_take)) : CalOk P w K mg base 2 "_law_layout" (spB K 1 false m_law_layout) :=
  cal_box (N := ["_law_box_here", "_law_many", "_law_way", "_law_size", "_law_k", "_law_out", "_law_heads", "_law_turn", "_law_some", "_law_column", "_law_ahead", "_law_fresh", "_law_head", "_law_left", "_law_order_here", "_law_number"]) F sc__law_layout hb hm rfl fun cdv A outer s H E hr b ts hl => match b, ts, hl with
    | p0, [], _ => by
      have hu : (A.deeper (envOfC "_law_layout" (defScope s__law_layout) s.heap.objs.size fa cdv)).units + 66 < cLine := by
        have := hr.un
        omega
      rw [m_law_layout]
      exact (show BS _ E true false [0] [some p0, none, none, none, none, none, none, none, none, none, none, none, none, none, none, none] _ _ _ _ from (bs_seq (emb := fun v15 => [some v15.2, some v15.1, none, none, none, none, none, none, none, none, none, none, none, none, none, none]) (own1 := [0]) (ss_set 1 sc__law_layout.nd (vp_j (emb := (fun (s : D) => [some s, none, none, none, none, none, none, none, none, none, none, none, none, none, none, none])) (m := fun s => (((R.ok (PyData.int 1)).bind fun t4 => R.ok (t4, s)).bind fun pq1 => (((R.ok (PyData.int 7)).bind fun t6 => R.ok (t6, pq1.2)).bind fun pq5 => (m_law_take pq5.2 [pq5.1]).bind fun q7 => R.ok (q7.1, q7.2)).bind fun q2 => (pyAdd pq1.1 q2.1).bind fun z3 => R.ok (z3, q2.2))) p0 (jq (jp_bin od_add (jp_of (ρe := fun (s : D) => hideE [0] [some s, none, none, none, none, none, none, none, none, none, none, none, none, none, none, none]) (m := fun s => (R.ok (PyData.int 1))) (fun s => xq ep_int) (fun s => bor_hide)) (jp_box (get := fun s => s) (put := fun s d => d) 0 ⟨fun _ => rfl, fun _ _ => rfl⟩ c__law_take hr (by omega) passL (ja_cons (jp_of (ρe := fun (s : D) => hideE [0] [some s, none, none, none, none, none, none, none, none, none, none, none, none, none, none, none]) (m := fun s => (R.ok (PyData.int 7))) (fun s => xq ep_int) (fun s => bor_hide)) ja_nil)))))) (fun v15 => by exact (bs_seq (emb := fun v22 => [some v22.2, some v15.1, some v22.1, none, none, none, none, none, none, none, none, none, none, none, none, none]) (own1 := [0]) (ss_set 2 sc__law_layout.nd (vp_j (emb := (fun (s : D) => [some s, some v15.1, none, none, none, none, none, none, none, none, none, none, none, none, none, none])) (m := fun s => (((R.ok (PyData.int 6)).bind fun t17 => R.ok (t17, s)).bind fun pq16 => (m_law_take pq16.2 [pq16.1]).bind fun q18 => R.ok (q18.1, q18.2))) v15.2 (jq (jp_box (get := fun s => s) (put := fun s d => d) 0 ⟨fun _ => rfl, fun _ _ => rfl⟩ c__law_take hr (by omega) passL (ja_cons (jp_of (ρe := fun (s : D) => hideE [0] [some s, some v15.1, none, none, none, none, none, none, none, none, none, none, none, none, none, none]) (m := fun s => (R.ok (PyData.int 6))) (fun s => xq ep_int) (fun s => bor_hide)) ja_nil))))) (fun v22 => by exact (bs_seq (emb := fun v37 => [some v37.2, some v15.1, some v22.1, some v37.1, none, none, none, none, none, none, none, none, none, none, none, none]) (own1 := [0]) (ss_set 3 sc__law_layout.nd (vp_j (emb := (fun (s : D) => [some s, some v15.1, some v22.1, none, none, none, none, none, none, none, none, none, none, none, none, none])) (m := fun s => (((R.ok (PyData.int 1)).bind fun t26 => R.ok (t26, s)).bind fun pq23 => (((R.ok (PyData.int 6)).bind fun t28 => R.ok (t28, pq23.2)).bind fun pq27 => (m_law_take pq27.2 [pq27.1]).bind fun q29 => R.ok (q29.1, q29.2)).bind fun q24 => (pyAdd pq23.1 q24.1).bind fun z25 => R.ok (z25, q24.2))) v22.2 (jq (jp_bin od_add (jp_of (ρe := fun (s : D) => hideE [0] [some s, some v15.1, some v22.1, none, none, none, none, none, none, none, none, none, none, none, none, none]) (m := fun s => (R.ok (PyData.int 1))) (fun s => xq ep_int) (fun s => bor_hide)) (jp_box (get := fun s => s) (put := fun s d => d) 0 ⟨fun _ => rfl, fun _ _ => rfl⟩ c__law_take hr (by omega) passL (ja_cons (jp_of (ρe := fun (s : D) => hideE [0] [some s, some v15.1, some v22.1, none, none, none, none, none, none, none, none, none, none, none, none, none]) (m := fun s => (R.ok (PyData.int 6))) (fun s => xq ep_int) (fun s => bor_hide)) ja_nil)))))) (fun v37 => by exact (bs_if (vb_p (ρe := hideE [0] [some v37.2, some v15.1, some v22.1, some v37.1, none, none, none, none, none, none, none, none, none, none, none, none]) (xqB (eb_w (ew_and (eb_cmp (od_eq hu) (ep_var 2) ep_int) (ew_and1 (eb_cmp od_gt (ep_var 1) ep_int))))) (.inl rfl)) (fun b45 => (show BS _ _ _ _ [0] [some v37.2, some v15.1, some v22.1, some v37.1, none, none, none, none, none, none, none, none, none, none, none, none] _ _ _ _ from by exact (bs_seq (emb := fun v48 => [some v37.2, some v15.1, some v22.1, some v48, none, none, none, none, none, none, none, none, none, none, none, none]) (own1 := [0]) (ss_set 3 sc__law_layout.nd (vp_p (ρe := hideE [0] [some v37.2, some v15.1, some v22.1, some v37.1, none, none, none, none, none, none, none, none, none, none, none, none]) (xq (ep_callB (cd_min rfl) z_min (ea_cons (ep_var 1) (ea_cons ep_int ea_nil)))) bor_hide)) (fun v48 => by exact (bs_ret (g := fun (v65 : D) => (v65, v37.2)) (bx := fun (v65 : D) => v37.2) (vp_p (ρe := hideE [0] [some v37.2, some v15.1, some v22.1, some v48, none, none, none, none, none, none, none, none, none, none, none, none]) (xq (ep_tup (ea_cons (ep_var 1) (ea_cons (ep_callT cd_tuple z_tuple (ea_cons (xp_of_xf (xf_lc (lcx_lc (own := [("_law_k", 4)]) (me := fun a51 => ((((R.ok a51).bind fun x52 => (((R.ok a51).bind fun x53 => (R.ok (PyData.int 1)).bind fun x54 => pyAdd x53 x54).bind fun x55 => (R.ok v48).bind fun x56 => pyMod x55 x56).bind fun x57 => R.ok (PyData.list [x52, x57])).bind fun x58 => pySorted [x58]).bind fun x59 => pyTuple [x59])) sc__law_layout.nd (xi_range1 z_range (ea_cons (ep_var 3) ea_nil)) (fun s H C cl fp => xg_name 4 sc__law_layout.nd) (fun s H C cl fp a51 => xq (ep_callT cd_tuple z_tuple (ea_cons (xp_of_xf (xf_callB (cf_sorted hu) z_sorted (ea_cons (ep_lst (ea_cons (ep_var 4) (ea_cons (ep_bin od_mod (ep_bin od_add (ep_var 4) ep_int) (ep_var 3)) ea_nil))) ea_nil))) ea_nil))) (blkOk_by (N := ["_law_box_here", "_law_many", "_law_way", "_law_size", "_law_k", "_law_out", "_law_heads", "_law_turn", "_law_some", "_law_column", "_law_ahead", "_law_fresh", "_law_head", "_law_left", "_law_order_here", "_law_number"]) (sc := defScope s__law_layout) (by decide +kernel))))) ea_nil)) ea_nil)))) bor_hide) (hb := (fun _ _ => rfl))))))) (fun b45 => (show BS _ _ _ _ [0] [some v37.2, some v15.1, some v22.1, some v37.1, none, none, none, none, none, none, none, none, none, none, none, none] _ _ _ _ from by exact (bs_if (vb_p (ρe := hideE [0] [some v37.2, some v15.1, some v22.1, some v37.1, none, none, none, none, none, none, none, none, none, none, none, none]) (xqB (eb_w (ew_and (eb_cmp (od_eq hu) (ep_var 2) ep_int) (ew_and1 (eb_cmp od_gt (ep_var 1) ep_int))))) (.inl rfl)) (fun b73 => (show BS _ _ _ _ [0] [some v37.2, some v15.1, some v22.1, some v37.1, none, none, none, none, none, none, none, none, none, none, none, none] _ _ _ _ from by exact (bs_seq (emb := fun v100 => [some v100.2, some v15.1, some v22.1, some v100.1, none, none, none, none, none, none, none, none, none, none, none, none]) (own1 := [0]) (ss_set 3 sc__law_layout.nd (vp_j (emb := (fun (s : D) => [some s, some v15.1, some v22.1, some v37.1, none, none, none, none, none, none, none, none, none, none, none, none])) (m := fun s => (((R.ok (PyData.int 3)).bind fun t81 => R.ok (t81, s)).bind fun pq78 => (((((R.ok v15.1).bind fun x84 => (R.ok (PyData.int 6)).bind fun x85 => pyMin [x84, x85]).bind fun x86 => (R.ok (PyData.int 2)).bind fun x87 => pySub x86 x87).bind fun t83 => R.ok (t83, pq78.2)).bind fun pq82 => (m_law_take pq82.2 [pq82.1]).bind fun q88 => R.ok (q88.1, q88.2)).bind fun q79 => (pyAdd pq78.1 q79.1).bind fun z80 => R.ok (z80, q79.2))) v37.2 (jq (jp_bin od_add (jp_of (ρe := fun (s : D) => hideE [0] [some s, some v15.1, some v22.1, some v37.1, none, none, none, none, none, none, none, none, none, none, none, none]) (m := fun s => (R.ok (PyData.int 3))) (fun s => xq ep_int) (fun s => bor_hide)) (jp_box (get := fun s => s) (put := fun s d => d) 0 ⟨fun _ => rfl, fun _ _ => rfl⟩ c__law_take hr (by omega) passL (ja_cons (jp_of (ρe := fun (s : D) => hideE [0] [some s, some v15.1, some v22.1, some v37.1, none, none, none, none, none, none, none, none, none, none, none, none]) (m := fun s => (((R.ok v15.1).bind fun x74 => (R.ok (PyData.int 6)).bind fun x75 => pyMin [x74, x75]).bind fun x76 => (R.ok (PyData.int 2)).bind fun x77 => pySub x76 x77)) (fun s => xq (ep_bin od_sub (ep_callB (cd_min rfl) z_min (ea_cons (ep_var 1) (ea_cons ep_int ea_nil))) ep_int)) (fun s => bor_hide)) ja_nil)))))) (fun v100 => by exact (bs_ret (g := fun (v118 : D) => (v118, v100.2)) (bx := fun (v118 : D) => v100.2) (vp_p (ρe := hideE [0] [some v100.2, some v15.1, some v22.1, some v100.1, none, none, none, none, none, none, none, none, none, none, none, none]) (xq (ep_tup (ea_cons (ep_var 1) (ea_cons (ep_callT cd_tuple z_tuple (ea_cons (xp_of_xf (xf_lc (lcx_lc (own := [("_law_out", 5)]) (me := fun a103 => ((((R.ok v100.1).bind fun x104 => pyRange [x104]).bind fun is106 => (filR (fun d108 => ((fun d => R.ok d) d108).bind fun a105 => ((R.ok a105).bind fun x109 => (R.ok a103).bind fun x110 => (pyNe x109 x110).bind asB)) (fun d108 => ((fun d => R.ok d) d108).bind fun a105 => (R.ok a105)) is106).bind fun rs107 => R.ok (PyData.list rs107)).bind fun x112 => pyTuple [x112])) sc__law_layout.nd (xi_range1 z_range (ea_cons (ep_var 3) ea_nil)) (fun s H C cl fp => xg_name 5 sc__law_layout.nd) (fun s H C cl fp a103 => xq (ep_callT cd_tuple z_tuple (ea_cons (xp_of_xf (xf_lc (lcx_lcf (own := [("_law_k", 4)]) (cond := fun a105 => ((R.ok a105).bind fun x109 => (R.ok a103).bind fun x110 => (pyNe x109 x110).bind asB)) (me := fun a105 => (R.ok a105)) sc__law_layout.nd (xi_range1 z_range (ea_cons (ep_var 3) ea_nil)) (fun s H C cl fp => xg_name 4 sc__law_layout.nd) (fun s H C cl fp a105 => xqB (eb_cmp (od_ne hu) (ep_var 4) (ep_var 5))) (fun s H C cl fp a105 => xq (ep_var 4)) (blkOk_by (by rfl))))) ea_nil))) (blkOk_by (N := ["_law_box_here", "_law_many", "_law_way", "_law_size", "_law_k", "_law_out", "_law_heads", "_law_turn", "_law_some", "_law_column", "_law_ahead", "_law_fresh", "_law_head", "_law_left", "_law_order_here", "_law_number"]) (sc := defScope s__law_layout) (by decide +kernel))))) ea_nil)) ea_nil)))) bor_hide) (hb := (fun _ _ => rfl))))))) (fun b73 => (show BS _ _ _ _ [0] [some v37.2, some v15.1, some v22.1, some v37.1, none, none, none, none, none, none, none, none, none, none, none, none] _ _ _ _ from by exact (bs_seq (emb := fun v119 => [some v37.2, some v15.1, some v22.1, some v37.1, none, none, some v119, none, none, none, none, none, none, none, none, none]) (own1 := [6, 0]) (ss_setF 6 sc__law_layout.nd (vf_p (ρe := hideE [0] [some v37.2, some v15.1, some v22.1, some v37.1, none, none, none, none, none, none, none, none, none, none, none, none]) (xqF (xf_lst ea_nil)) borF_hide)) (fun v119 => by exact (bs_seq (emb := fun (j492 : (D × D)) => [some j492.1, some v15.1, some v22.1, some v37.1, none, none, some j492.2, none, none, none, none, none, none, none, none, none]) (own1 := [6, 0]) (ss_for (emb := fun (j122 : (D × D)) => [some j122.1, some v15.1, some v22.1, some v37.1, none, none, some j122.2, none, none, none, none, none, none, none, none, none]) (fun b121 => (v37.2, v119)) own_cx rfl (vi_p (xqI (xi_range1 z_range (ea_cons (ep_var 3) ea_nil)))) (xg_name 7 sc__law_layout.nd) (fun j122 a123 => (show BS _ _ _ _ [6, 0] [some j122.1, some v15.1, some v22.1, some v37.1, none, none, some j122.2, some a123, none, none, none, none, none, none, none, none] _ _ _ _ from by exact (bs_seq (emb := fun v182 => [some v182.2, some v15.1, some v22.1, some v37.1, none, none, some j122.2, some a123, some v182.1, none, none, none, none, none, none, none]) (own1 := [6, 0]) (ss_setLc 8 (lv_j (emb := (fun (s : D) => [some s, some v15.1, some v22.1, some v37.1, none, none, some j122.2, some a123, none, none, none, none, none, none, none, none])) (m := fun s => ((((R.ok v15.1).bind fun x147 => pyRange [x147]).bind fun i146 => R.ok (i146, s)).bind fun pq140 => (filJ (fun d142 s143 => ((fun d => R.ok d) d142).bind fun a126 => ((((R.ok (PyData.int 3)).bind fun t157 => R.ok (t157, s143)).bind fun pq156 => (m_law_take pq156.2 [pq156.1]).bind fun q158 => R.ok (q158.1, q158.2)).bind fun pq152 => ((R.ok (PyData.int 0)).bind fun t159 => R.ok (t159, pq152.2)).bind fun q153 => ((pyEq pq152.1 q153.1).bind asB).bind fun z154 => R.ok (z154, q153.2))) (fun d144 s145 => ((fun d => R.ok d) d144).bind fun a126 => ((R.ok a126).bind fun t160 => R.ok (t160, s145))) pq140.1 pq140.2).bind fun r141 => R.ok (PyData.list r141.1, r141.2))) j122.1 (ljq (jlcx_lcf (ow := [("_law_column", 9)]) (cond := fun a126 s => ((((R.ok (PyData.int 3)).bind fun t136 => R.ok (t136, s)).bind fun pq135 => (m_law_take pq135.2 [pq135.1]).bind fun q137 => R.ok (q137.1, q137.2)).bind fun pq131 => ((R.ok (PyData.int 0)).bind fun t138 => R.ok (t138, pq131.2)).bind fun q132 => ((pyEq pq131.1 q132.1).bind asB).bind fun z133 => R.ok (z133, q132.2))) (me := fun a126 s => ((R.ok a126).bind fun t139 => R.ok (t139, s))) sc__law_layout.nd ⟨fun _ _ j hj => (match j, hj with | 0, hj => absurd (by decide) hj | 1, _ => rfl | 2, _ => rfl | 3, _ => rfl | 4, _ => rfl | 5, _ => rfl | 6, hj => absurd (by decide) hj | 7, _ => rfl | 8, _ => rfl | 9, _ => rfl | 10, _ => rfl | 11, _ => rfl | 12, _ => rfl | 13, _ => rfl | 14, _ => rfl | 15, _ => rfl | _ + 16, _ => rfl), fun _ _ => rfl⟩ (ji_of (m := fun s => ((R.ok v15.1).bind fun x125 => pyRange [x125])) (fun s => xqI (xi_range1 z_range (ea_cons (ep_var 1) ea_nil)))) (fun s H C cl fp => xg_name 9 sc__law_layout.nd) (fun s H C cl fp a126 => jqB (show JB _ _ (fun (s : D) => [some s, some v15.1, some v22.1, some v37.1, none, none, some j122.2, some a123, none, some a126, none, none, none, none, none, none]) _ _ from (jb_cmp (od_eq hu) (jp_box (get := fun s => s) (put := fun s d => d) 0 ⟨fun _ => rfl, fun _ _ => rfl⟩ c__law_take hr (by omega) passL (ja_cons (jp_of (ρe := fun (s : D) => hideE [6, 0] [some s, some v15.1, some v22.1, some v37.1, none, none, some j122.2, some a123, none, some a126, none, none, none, none, none, none]) (m := fun s => (R.ok (PyData.int 3))) (fun s => xq ep_int) (fun s => bor_hide)) ja_nil)) (jp_of (ρe := fun (s : D) => hideE [6, 0] [some s, some v15.1, some v22.1, some v37.1, none, none, some j122.2, some a123, none, some a126, none, none, none, none, none, none]) (m := fun s => (R.ok (PyData.int 0))) (fun s => xq ep_int) (fun s => bor_hide))))) (fun s H C cl fp a126 => jq (show JP _ _ (fun (s : D) => [some s, some v15.1, some v22.1, some v37.1, none, none, some j122.2, some a123, none, some a126, none, none, none, none, none, none]) _ _ from (jp_of (ρe := fun (s : D) => hideE [6, 0] [some s, some v15.1, some v22.1, some v37.1, none, none, some j122.2, some a123, none, some a126, none, none, none, none, none, none]) (m := fun s => (R.ok a126)) (fun s => xq (ep_var 9)) (fun s => bor_hide)))) (blkOk_by (N := ["_law_box_here", "_law_many", "_law_way", "_law_size", "_law_k", "_law_out", "_law_heads", "_law_turn", "_law_some", "_law_column", "_law_ahead", "_law_fresh", "_law_head", "_law_left", "_law_order_here", "_law_number"]) (sc := defScope s__law_layout) (by decide +kernel)))))) (fun v182 => by exact (bs_seq (emb := fun (j387 : (D × D)) => [some j387.1, some v15.1, some v22.1, some v37.1, none, none, some j122.2, some a123, some j387.2, none, none, none, none, none, none, none]) (own1 := [6, 0]) (ss_if (vb_p (ρe := [some v182.2, some v15.1, some v22.1, some v37.1, none, none, some j122.2, some a123, some v182.1, none, none, none, none, none, none, none]) (xqB (eb_w (ew_and (eb_cmp (od_lt hu) (ep_var 2) ep_int) (ew_and1 (eb_cmp (od_ne hu) (ep_var 6) (ep_lst ea_nil)))))) (.inr rfl)) (fun b190 => (show BS _ _ _ _ [6, 0] [some v182.2, some v15.1, some v22.1, some v37.1, none, none, some j122.2, some a123, some v182.1, none, none, none, none, none, none, none] _ _ _ _ from by exact (bs_seq (emb := fun v302 => [some v302.2, some v15.1, some v22.1, some v37.1, none, none, some j122.2, some a123, some v182.1, none, some v302.1, none, none, none, none, none]) (own1 := [6, 0]) (ss_set 10 sc__law_layout.nd (vp_j (emb := (fun (s : D) => [some s, some v15.1, some v22.1, some v37.1, none, none, some j122.2, some a123, some v182.1, none, none, none, none, none, none, none])) (m := fun s => ((((nl ((R.ok j122.2).bind fun x294 => pyLen [x294])).bind fun t293 => R.ok (t293, s)).bind fun pq292 => (m_law_take pq292.2 [pq292.1]).bind fun q295 => R.ok (q295.1, q295.2)).bind fun q290 => (ixO j122.2 q290.1).bind fun z291 => R.ok (z291, q290.2))) v182.2 (jq (jp_ixO (get := fun (s : D) => j122.2) 6 (jp_box (get := fun s => s) (put := fun s d => d) 0 ⟨fun _ => rfl, fun _ _ => rfl⟩ c__law_take hr (by omega) passL (ja_cons (jp_of (ρe := fun (s : D) => [some s, some v15.1, some v22.1, some v37.1, none, none, some j122.2, some a123, some v182.1, none, none, none, none, none, none, none]) (m := fun s => nl ((R.ok j122.2).bind fun x289 => pyLen [x289])) (fun s => xp_nl (xq (ep_callB cd_len z_len (ea_cons (ep_var 6) ea_nil)))) (fun s => bor_flat nl_nl)) ja_nil)))))) (fun v302 => by exact (bs_seq (emb := fun v319 => [some v302.2, some v15.1, some v22.1, some v37.1, none, none, some j122.2, some a123, some v182.1, none, some v302.1, some v319, none, none, none, none]) (own1 := [11, 6, 0]) (ss_setLcF 11 (lv_fp (ρe := [some v302.2, some v15.1, some v22.1, some v37.1, none, none, some j122.2, some a123, some v182.1, none, some v302.1, none, none, none, none, none]) (lx_nf (lq (lcx_lcf (own := [("_law_column", 9)]) (cond := fun a304 => ((((R.ok j122.2).bind fun x308 => items x308).bind fun is310 => (filR (fun d312 => ((fun d => R.ok d) d312).bind fun a309 => ((R.ok a304).bind fun x313 => (R.ok a309).bind fun x314 => (pyIn x313 x314).bind asB)) (fun d312 => ((fun d => R.ok d) d312).bind fun a309 => (R.ok a309)) is310).bind fun rs311 => R.ok (PyData.list rs311)).bind fun x316 => (R.ok (PyData.list [])).bind fun x317 => (pyEq x316 x317).bind asB)) (me := fun a304 => (R.ok a304)) sc__law_layout.nd (xi_val (ep_var 8)) (fun s H C cl fp => xg_name 9 sc__law_layout.nd) (fun s H C cl fp a304 => xqB (eb_cmp (od_eq hu) (xp_of_xf (xf_lc (lcx_lcf (own := [("_law_head", 12)]) (cond := fun a309 => ((R.ok a304).bind fun x313 => (R.ok a309).bind fun x314 => (pyIn x313 x314).bind asB)) (me := fun a309 => (R.ok a309)) sc__law_layout.nd (xi_val (ep_var 6)) (fun s H C cl fp => xg_name 12 sc__law_layout.nd) (fun s H C cl fp a309 => xqB (eb_cmp (od_in hu) (ep_var 9) (ep_var 12))) (fun s H C cl fp a309 => xq (ep_var 12)) (blkOk_by (by rfl))))) (ep_lst ea_nil))) (fun s H C cl fp a304 => xq (ep_var 9)) (blkOk_by (N := ["_law_box_here", "_law_many", "_law_way", "_law_size", "_law_k", "_law_out", "_law_heads", "_law_turn", "_law_some", "_law_column", "_law_ahead", "_law_fresh", "_law_head", "_law_left", "_law_order_here", "_law_number"]) (sc := defScope s__law_layout) (by decide +kernel))))) (.inr ⟨rfl, nf_nf⟩))) (fun v319 => by exact (bs_freeze 11 (show BS _ _ _ _ [6, 0] [some v302.2, some v15.1, some v22.1, some v37.1, none, none, some j122.2, some a123, some v182.1, none, some v302.1, some v319, none, none, none, none] _ _ _ _ from by exact (bs_seq (emb := fun v386 => [some v386.2, some v15.1, some v22.1, some v37.1, none, none, some j122.2, some a123, some v386.1, none, some v302.1, some v319, none, none, none, none]) (own1 := [6, 0]) (ss_set 8 sc__law_layout.nd (vp_j (emb := (fun (s : D) => [some s, some v15.1, some v22.1, some v37.1, none, none, some j122.2, some a123, some v182.1, none, some v302.1, some v319, none, none, none, none])) (m := fun s => (((R.ok v319).bind fun t339 => R.ok (t339, s)).bind fun pq336 => ((((R.ok v302.1).bind fun x347 => items x347).bind fun i346 => R.ok (i346, pq336.2)).bind fun pq340 => (filJ (fun d342 s343 => ((fun d => R.ok d) d342).bind fun a322 => ((((R.ok (PyData.int 2)).bind fun t357 => R.ok (t357, s343)).bind fun pq356 => (m_law_take pq356.2 [pq356.1]).bind fun q358 => R.ok (q358.1, q358.2)).bind fun pq352 => ((R.ok (PyData.int 0)).bind fun t359 => R.ok (t359, pq352.2)).bind fun q353 => ((pyEq pq352.1 q353.1).bind asB).bind fun z354 => R.ok (z354, q353.2))) (fun d344 s345 => ((fun d => R.ok d) d344).bind fun a322 => ((R.ok a322).bind fun t360 => R.ok (t360, s345))) pq340.1 pq340.2).bind fun r341 => R.ok (PyData.list r341.1, r341.2)).bind fun q337 => (pyAdd pq336.1 q337.1).bind fun z338 => R.ok (z338, q337.2))) v302.2 (jq (jp_bin od_add (jp_of (ρe := fun (s : D) => hideE [6, 0] [some s, some v15.1, some v22.1, some v37.1, none, none, some j122.2, some a123, some v182.1, none, some v302.1, some v319, none, none, none, none]) (m := fun s => (R.ok v319)) (fun s => xq (ep_var 11)) (fun s => bor_hide)) (jp_of_jf (jf_lc (jlcx_lcf (ow := [("_law_column", 9)]) (cond := fun a322 s => ((((R.ok (PyData.int 2)).bind fun t332 => R.ok (t332, s)).bind fun pq331 => (m_law_take pq331.2 [pq331.1]).bind fun q333 => R.ok (q333.1, q333.2)).bind fun pq327 => ((R.ok (PyData.int 0)).bind fun t334 => R.ok (t334, pq327.2)).bind fun q328 => ((pyEq pq327.1 q328.1).bind asB).bind fun z329 => R.ok (z329, q328.2))) (me := fun a322 s => ((R.ok a322).bind fun t335 => R.ok (t335, s))) sc__law_layout.nd ⟨fun _ _ j hj => (match j, hj with | 0, hj => absurd (by decide) hj | 1, _ => rfl | 2, _ => rfl | 3, _ => rfl | 4, _ => rfl | 5, _ => rfl | 6, hj => absurd (by decide) hj | 7, _ => rfl | 8, _ => rfl | 9, _ => rfl | 10, _ => rfl | 11, _ => rfl | 12, _ => rfl | 13, _ => rfl | 14, _ => rfl | 15, _ => rfl | _ + 16, _ => rfl), fun _ _ => rfl⟩ (ji_of (m := fun s => ((R.ok v302.1).bind fun x321 => items x321)) (fun s => xqI (xi_val (ep_var 10)))) (fun s H C cl fp => xg_name 9 sc__law_layout.nd) (fun s H C cl fp a322 => jqB (show JB _ _ (fun (s : D) => [some s, some v15.1, some v22.1, some v37.1, none, none, some j122.2, some a123, some v182.1, some a322, some v302.1, some v319, none, none, none, none]) _ _ from (jb_cmp (od_eq hu) (jp_box (get := fun s => s) (put := fun s d => d) 0 ⟨fun _ => rfl, fun _ _ => rfl⟩ c__law_take hr (by omega) passL (ja_cons (jp_of (ρe := fun (s : D) => hideE [6, 0] [some s, some v15.1, some v22.1, some v37.1, none, none, some j122.2, some a123, some v182.1, some a322, some v302.1, some v319, none, none, none, none]) (m := fun s => (R.ok (PyData.int 2))) (fun s => xq ep_int) (fun s => bor_hide)) ja_nil)) (jp_of (ρe := fun (s : D) => hideE [6, 0] [some s, some v15.1, some v22.1, some v37.1, none, none, some j122.2, some a123, some v182.1, some a322, some v302.1, some v319, none, none, none, none]) (m := fun s => (R.ok (PyData.int 0))) (fun s => xq ep_int) (fun s => bor_hide))))) (fun s H C cl fp a322 => jq (show JP _ _ (fun (s : D) => [some s, some v15.1, some v22.1, some v37.1, none, none, some j122.2, some a123, some v182.1, some a322, some v302.1, some v319, none, none, none, none]) _ _ from (jp_of (ρe := fun (s : D) => hideE [6, 0] [some s, some v15.1, some v22.1, some v37.1, none, none, some j122.2, some a123, some v182.1, some a322, some v302.1, some v319, none, none, none, none]) (m := fun s => (R.ok a322)) (fun s => xq (ep_var 9)) (fun s => bor_hide)))) (blkOk_by (N := ["_law_box_here", "_law_many", "_law_way", "_law_size", "_law_k", "_law_out", "_law_heads", "_law_turn", "_law_some", "_law_column", "_law_ahead", "_law_fresh", "_law_head", "_law_left", "_law_order_here", "_law_number"]) (sc := defScope s__law_layout) (by decide +kernel))))))))) (fun v386 => by exact (bs_end [10, 11] (a := (v386.2, v386.1))))))))))))) (fun b190 => (show BS _ _ _ _ [6, 0] [some v182.2, some v15.1, some v22.1, some v37.1, none, none, some j122.2, some a123, some v182.1, none, none, none, none, none, none, none] _ _ _ _ from by exact (bs_end [] (a := (v182.2, v182.1)))))) (fun j387 => by exact (bs_seq (emb := fun (j467 : (D × D)) => [some j467.1, some v15.1, some v22.1, some v37.1, none, none, some j122.2, some a123, some j467.2, none, none, none, none, none, none, none]) (own1 := [6, 0]) (ss_if (vb_j (emb := (fun (s : D) => [some s, some v15.1, some v22.1, some v37.1, none, none, some j122.2, some a123, some j387.2, none, none, none, none, none, none, none])) (m := fun s => ((((R.ok v22.1).bind fun x396 => (R.ok (PyData.int 3)).bind fun x397 => (pyEq x396 x397).bind asB).bind fun t395 => R.ok (t395, s)).bind fun pq394 => if pq394.1 = true then ((((R.ok j122.2).bind fun x401 => (R.ok (PyData.list [])).bind fun x402 => (pyNe x401 x402).bind asB).bind fun t400 => R.ok (t400, pq394.2)).bind fun pq399 => if pq399.1 = true then ((((R.ok (PyData.int 4)).bind fun t413 => R.ok (t413, pq399.2)).bind fun pq412 => (m_law_take pq412.2 [pq412.1]).bind fun q414 => R.ok (q414.1, q414.2)).bind fun pq408 => ((R.ok (PyData.int 0)).bind fun t415 => R.ok (t415, pq408.2)).bind fun q409 => ((pyEq pq408.1 q409.1).bind asB).bind fun z410 => R.ok (z410, q409.2)) else R.ok (false, pq399.2)) else R.ok (false, pq394.2))) j387.1 (jqB (jb_w (jw_and (jb_of (ρe := fun (s : D) => hideE [6, 0] [some s, some v15.1, some v22.1, some v37.1, none, none, some j122.2, some a123, some j387.2, none, none, none, none, none, none, none]) (m := fun s => ((R.ok v22.1).bind fun x388 => (R.ok (PyData.int 3)).bind fun x389 => (pyEq x388 x389).bind asB)) (fun s => xqB (eb_cmp (od_eq hu) (ep_var 2) ep_int)) (fun s => .inl rfl)) (jw_and (jb_of (ρe := fun (s : D) => [some s, some v15.1, some v22.1, some v37.1, none, none, some j122.2, some a123, some j387.2, none, none, none, none, none, none, none]) (m := fun s => ((R.ok j122.2).bind fun x391 => (R.ok (PyData.list [])).bind fun x392 => (pyNe x391 x392).bind asB)) (fun s => xqB (eb_cmp (od_ne hu) (ep_var 6) (ep_lst ea_nil))) (fun s => .inr rfl)) (jw_and1 (jb_cmp (od_eq hu) (jp_box (get := fun s => s) (put := fun s d => d) 0 ⟨fun _ => rfl, fun _ _ => rfl⟩ c__law_take hr (by omega) passL (ja_cons (jp_of (ρe := fun (s : D) => hideE [6, 0] [some s, some v15.1, some v22.1, some v37.1, none, none, some j122.2, some a123, some j387.2, none, none, none, none, none, none, none]) (m := fun s => (R.ok (PyData.int 4))) (fun s => xq ep_int) (fun s => bor_hide)) ja_nil)) (jp_of (ρe := fun (s : D) => hideE [6, 0] [some s, some v15.1, some v22.1, some v37.1, none, none, some j122.2, some a123, some j387.2, none, none, none, none, none, none, none]) (m := fun s => (R.ok (PyData.int 0))) (fun s => xq ep_int) (fun s => bor_hide))))))))) (fun b438 => (show BS _ _ _ _ [6, 0] [some b438.2, some v15.1, some v22.1, some v37.1, none, none, some j122.2, some a123, some j387.2, none, none, none, none, none, none, none] _ _ _ _ from by exact (bs_seq (emb := fun v466 => [some v466.2, some v15.1, some v22.1, some v37.1, none, none, some j122.2, some a123, some v466.1, none, none, none, none, none, none, none]) (own1 := [6, 0]) (ss_set 8 sc__law_layout.nd (vp_j (emb := (fun (s : D) => [some s, some v15.1, some v22.1, some v37.1, none, none, some j122.2, some a123, some j387.2, none, none, none, none, none, none, none])) (m := fun s => ((((nl ((R.ok j122.2).bind fun x458 => pyLen [x458])).bind fun t457 => R.ok (t457, s)).bind fun pq456 => (m_law_take pq456.2 [pq456.1]).bind fun q459 => R.ok (q459.1, q459.2)).bind fun q454 => (ixO j122.2 q454.1).bind fun z455 => R.ok (z455, q454.2))) b438.2 (jq (jp_ixO (get := fun (s : D) => j122.2) 6 (jp_box (get := fun s => s) (put := fun s d => d) 0 ⟨fun _ => rfl, fun _ _ => rfl⟩ c__law_take hr (by omega) passL (ja_cons (jp_of (ρe := fun (s : D) => [some s, some v15.1, some v22.1, some v37.1, none, none, some j122.2, some a123, some j387.2, none, none, none, none, none, none, none]) (m := fun s => nl ((R.ok j122.2).bind fun x453 => pyLen [x453])) (fun s => xp_nl (xq (ep_callB cd_len z_len (ea_cons (ep_var 6) ea_nil)))) (fun s => bor_flat nl_nl)) ja_nil)))))) (fun v466 => by exact (bs_end [] (a := (v466.2, v466.1))))))) (fun b438 => (show BS _ _ _ _ [6, 0] [some b438.2, some v15.1, some v22.1, some v37.1, none, none, some j122.2, some a123, some j387.2, none, none, none, none, none, none, none] _ _ _ _ from by exact (bs_end [] (a := (b438.2, j387.2)))))) (fun j467 => by exact (bs_seq (emb := fun j491 => [some j491.1, some v15.1, some v22.1, some v37.1, none, none, some j491.2, some a123, some j467.2, none, none, none, none, none, none, none]) (own1 := [6, 0]) (ss_meth 6 (ts := fun v488 => j122.2) (fun v488 r490 => (v488.2, r490)) PySem.F.slot_list_append PySem.F.type_list_append mt_append meth_append app_l app_r app_ex (vp_j (emb := (fun (s : D) => [some s, some v15.1, some v22.1, some v37.1, none, none, some j122.2, some a123, some j467.2, none, none, none, none, none, none, none])) (m := fun s => (((((R.ok j467.2).bind fun x473 => pySortedSet x473).bind fun x474 => pyTuple [x474]).bind fun t472 => R.ok (t472, s)).bind fun pq470 => (tru pq470.1).bind fun k471 => if k471 = true then R.ok pq470 else ((((R.ok v15.1).bind fun t477 => R.ok (t477, pq470.2)).bind fun pq476 => (m_law_take pq476.2 [pq476.1]).bind fun q478 => R.ok (q478.1, q478.2)).bind fun pq475 => R.ok (PyData.tuple [pq475.1], pq475.2)))) j467.1 (jq (jp_or (jp_of (ρe := fun (s : D) => hideE [6, 0] [some s, some v15.1, some v22.1, some v37.1, none, none, some j122.2, some a123, some j467.2, none, none, none, none, none, none, none]) (m := fun s => (((R.ok j467.2).bind fun x468 => pySortedSet x468).bind fun x469 => pyTuple [x469])) (fun s => xq (ep_callT cd_tuple z_tuple (ea_cons (xp_of_xf (xf_sortedSet z_sorted z_set (ep_var 8))) ea_nil))) (fun s => bor_hide)) (jp_one (jp_tup (ja_cons (jp_box (get := fun s => s) (put := fun s d => d) 0 ⟨fun _ => rfl, fun _ _ => rfl⟩ c__law_take hr (by omega) passL (ja_cons (jp_of (ρe := fun (s : D) => hideE [6, 0] [some s, some v15.1, some v22.1, some v37.1, none, none, some j122.2, some a123, some j467.2, none, none, none, none, none, none, none]) (m := fun s => (R.ok v15.1)) (fun s => xq (ep_var 1)) (fun s => bor_hide)) ja_nil)) ja_nil))))))) (fun j491 => by exact (bs_end [7, 8] (a := (j491.1, j491.2)))))))))))))) (fun j492 => by exact (bs_freeze 6 (show BS _ _ _ _ [0] [some j492.1, some v15.1, some v22.1, some v37.1, none, none, some j492.2, none, none, none, none, none, none, none, none, none] _ _ _ _ from by exact (bs_seq (emb := fun v497 => [some j492.1, some v15.1, some v22.1, some v37.1, none, none, some j492.2, none, none, none, none, none, none, some v497, none, none]) (own1 := [13, 0]) (ss_setF 13 sc__law_layout.nd (vf_p (ρe := hideE [0] [some j492.1, some v15.1, some v22.1, some v37.1, none, none, some j492.2, none, none, none, none, none, none, none, none, none]) (xqF (xf_listRg z_list (xrg_1 z_range (ep_var 3)))) borF_hide)) (fun v497 => by exact (bs_seq (emb := fun v535 => [some v535.2.2, some v15.1, some v22.1, some v37.1, none, none, some j492.2, none, none, none, none, none, none, some v535.2.1, some v535.1, none]) (own1 := [13, 0]) (ss_setLc 14 (lv_j (emb := (fun (s : (D × D)) => [some s.2, some v15.1, some v22.1, some v37.1, none, none, some j492.2, none, none, none, none, none, none, some s.1, none, none])) (m := fun s => ((((R.ok v37.1).bind fun x514 => pyRange [x514]).bind fun i513 => R.ok (i513, s)).bind fun pq509 => (mapJ (fun d511 s512 => ((fun d => R.ok d) d511).bind fun a500 => ((lstD s512.1).bind fun u517 => (((nl ((R.ok s512.1).bind fun x520 => pyLen [x520])).bind fun t519 => R.ok (t519, s512)).bind fun pq518 => (m_law_take pq518.2.2 [pq518.1]).bind fun q521 => R.ok (q521.1, (pq518.2.1, q521.2))).bind fun pq515 => (popAtD pq515.2.1 pq515.1).bind fun q516 => R.ok (q516.1, (q516.2, pq515.2.2)))) pq509.1 pq509.2).bind fun r510 => R.ok (PyData.list r510.1, r510.2))) (v497, j492.1) (ljq (jlcx_lc (ow := [("_law_turn", 7)]) (me := fun a500 s => ((lstD s.1).bind fun u504 => (((nl ((R.ok s.1).bind fun x507 => pyLen [x507])).bind fun t506 => R.ok (t506, s)).bind fun pq505 => (m_law_take pq505.2.2 [pq505.1]).bind fun q508 => R.ok (q508.1, (pq505.2.1, q508.2))).bind fun pq502 => (popAtD pq502.2.1 pq502.1).bind fun q503 => R.ok (q503.1, (q503.2, pq502.2.2)))) sc__law_layout.nd ⟨fun _ _ j hj => (match j, hj with | 0, hj => absurd (by decide) hj | 1, _ => rfl | 2, _ => rfl | 3, _ => rfl | 4, _ => rfl | 5, _ => rfl | 6, _ => rfl | 7, _ => rfl | 8, _ => rfl | 9, _ => rfl | 10, _ => rfl | 11, _ => rfl | 12, _ => rfl | 13, hj => absurd (by decide) hj | 14, _ => rfl | 15, _ => rfl | _ + 16, _ => rfl), fun _ _ => rfl⟩ (ji_of (m := fun s => ((R.ok v37.1).bind fun x499 => pyRange [x499])) (fun s => xqI (xi_range1 z_range (ea_cons (ep_var 3) ea_nil)))) (fun s H C cl fp => xg_name 7 sc__law_layout.nd) (fun s H C cl fp a500 => jq (show JP _ _ (fun (s : (D × D)) => [some s.2, some v15.1, some v22.1, some v37.1, none, none, some j492.2, some a500, none, none, none, none, none, some s.1, none, none]) _ _ from (jp_popAt (get := fun s => s.1) (put := fun s d => (d, s.2)) 13 ⟨fun _ => rfl, fun _ _ => rfl⟩ (jp_box (get := fun s => s.2) (put := fun s d => (s.1, d)) 0 ⟨fun _ => rfl, fun _ _ => rfl⟩ c__law_take hr (by omega) passL (ja_cons (jp_of (ρe := fun (s : (D × D)) => [some s.2, some v15.1, some v22.1, some v37.1, none, none, some j492.2, some a500, none, none, none, none, none, some s.1, none, none]) (m := fun s => nl ((R.ok s.1).bind fun x501 => pyLen [x501])) (fun s => xp_nl (xq (ep_callB cd_len z_len (ea_cons (ep_var 13) ea_nil)))) (fun s => bor_flat nl_nl)) ja_nil))))) (blkOk_by (N := ["_law_box_here", "_law_many", "_law_way", "_law_size", "_law_k", "_law_out", "_law_heads", "_law_turn", "_law_some", "_law_column", "_law_ahead", "_law_fresh", "_law_head", "_law_left", "_law_order_here", "_law_number"]) (sc := defScope s__law_layout) (by decide +kernel)))))) (fun v535 => by exact (bs_freeze 13 (show BS _ _ _ _ [0] [some v535.2.2, some v15.1, some v22.1, some v37.1, none, none, some j492.2, none, none, none, none, none, none, some v535.2.1, some v535.1, none] _ _ _ _ from by exact (bs_ret (g := fun (v546 : D) => (v546, v535.2.2)) (bx := fun (v546 : D) => v535.2.2) (vp_p (ρe := hideE [0] [some v535.2.2, some v15.1, some v22.1, some v37.1, none, none, some j492.2, none, none, none, none, none, none, some v535.2.1, some v535.1, none]) (xq (ep_tup (ea_cons (ep_var 1) (ea_cons (ep_callT cd_tuple z_tuple (ea_cons (xp_of_xf (xf_lc (lcx_lc (own := [("_law_number", 15)]) (me := fun a538 => ((R.ok j492.2).bind fun x539 => (R.ok a538).bind fun x540 => pyIx x539 x540)) sc__law_layout.nd (xi_val (ep_var 14)) (fun s H C cl fp => xg_name 15 sc__law_layout.nd) (fun s H C cl fp a538 => xq (ep_ix id_ix (ep_var 6) (ep_var 15))) (blkOk_by (N := ["_law_box_here", "_law_many", "_law_way", "_law_size", "_law_k", "_law_out", "_law_heads", "_law_turn", "_law_some", "_law_column", "_law_ahead", "_law_fresh", "_law_head", "_law_left", "_law_order_here", "_law_number"]) (sc := defScope s__law_layout) (by decide +kernel))))) ea_nil)) ea_nil)))) bor_hide) (hb := (fun _ _ => rfl))))))))))))))))) (by intro _ _ _ _ h; exact nomatch h)))) (by intro _ _ _ _ h; exact nomatch h)))))))))
theorem k__law_order {P : Program} {w : World} {K : PySem.W.Frag} {mg : Str → Option Value} {base : Heap} {fa : Addr} {fd : FuncData} (F : Fun K "_law_order" "_law_order" s__law_order fa fd) (hb : Binds K fd ["_law_box_here", "_law_many"] []) (hm : mg "_law_order" = some (.ref fa)) (z_len : mg "len" = none) (z_list : mg "list" = none) (z_range : mg "range" = none) (z_tuple : mg "tuple" = none) (c__law_take : CalOk P w K mg base 1 "_law_take" (spB K 2 false m_law_take)) : CalOk P w K mg base 2 "_law_order" (spB K 2 false m_law_order) :=
  cal_box (N := ["_law_box_here", "_law_many", "_law_left", "_law_place"]) F sc__law_order hb hm rfl fun cdv A outer s H E hr b ts hl => match b, ts, hl with
    | p0, [p1], _ => by
      have hu : (A.deeper (envOfC "_law_order" (defScope s__law_order) s.heap.objs.size fa cdv)).units + 66 < cLine := by
        have := hr.un
        omega
      rw [m_law_order]
      exact (show BS _ E true false [0] [some p0, some p1, none, none] _ _ _ _ from (bs_seq (emb := fun v5 => [some p0, some p1, some v5, none]) (own1 := [2, 0]) (ss_setF 2 sc__law_order.nd (vf_p (ρe := hideE [0] [some p0, some p1, none, none]) (xqF (xf_listRg z_list (xrg_1 z_range (ep_var 1)))) borF_hide)) (fun v5 => by exact (bs_ret (g := fun (v47 : (D × (D × D))) => (v47.1, v47.2.2)) (bx := fun (v47 : (D × (D × D))) => v47.2.2) (vp_j (emb := (fun (s : (D × D)) => [some s.2, some p1, some s.1, none])) (m := fun s => (((((R.ok p1).bind fun x23 => pyRange [x23]).bind fun i22 => R.ok (i22, s)).bind fun pq18 => (mapJ (fun d20 s21 => ((fun d => R.ok d) d20).bind fun a8 => ((lstD s21.1).bind fun u26 => (((nl ((R.ok s21.1).bind fun x29 => pyLen [x29])).bind fun t28 => R.ok (t28, s21)).bind fun pq27 => (m_law_take pq27.2.2 [pq27.1]).bind fun q30 => R.ok (q30.1, (pq27.2.1, q30.2))).bind fun pq24 => (popAtD pq24.2.1 pq24.1).bind fun q25 => R.ok (q25.1, (q25.2, pq24.2.2)))) pq18.1 pq18.2).bind fun r19 => R.ok (PyData.list r19.1, r19.2)).bind fun pq17 => (pyTuple [pq17.1]).bind fun z31 => R.ok (z31, pq17.2))) (v5, p0) (jq (jp_callT cd_tuple z_tuple (ja_cons (jp_of_jf (jf_lc (jlcx_lc (ow := [("_law_place", 3)]) (me := fun a8 s => ((lstD s.1).bind fun u12 => (((nl ((R.ok s.1).bind fun x15 => pyLen [x15])).bind fun t14 => R.ok (t14, s)).bind fun pq13 => (m_law_take pq13.2.2 [pq13.1]).bind fun q16 => R.ok (q16.1, (pq13.2.1, q16.2))).bind fun pq10 => (popAtD pq10.2.1 pq10.1).bind fun q11 => R.ok (q11.1, (q11.2, pq10.2.2)))) sc__law_order.nd ⟨fun _ _ j hj => (match j, hj with | 0, hj => absurd (by decide) hj | 1, _ => rfl | 2, hj => absurd (by decide) hj | 3, _ => rfl | _ + 4, _ => rfl), fun _ _ => rfl⟩ (ji_of (m := fun s => ((R.ok p1).bind fun x7 => pyRange [x7])) (fun s => xqI (xi_range1 z_range (ea_cons (ep_var 1) ea_nil)))) (fun s H C cl fp => xg_name 3 sc__law_order.nd) (fun s H C cl fp a8 => jq (show JP _ _ (fun (s : (D × D)) => [some s.2, some p1, some s.1, some a8]) _ _ from (jp_popAt (get := fun s => s.1) (put := fun s d => (d, s.2)) 2 ⟨fun _ => rfl, fun _ _ => rfl⟩ (jp_box (get := fun s => s.2) (put := fun s d => (s.1, d)) 0 ⟨fun _ => rfl, fun _ _ => rfl⟩ c__law_take hr (by omega) passL (ja_cons (jp_of (ρe := fun (s : (D × D)) => [some s.2, some p1, some s.1, some a8]) (m := fun s => nl ((R.ok s.1).bind fun x9 => pyLen [x9])) (fun s => xp_nl (xq (ep_callB cd_len z_len (ea_cons (ep_var 2) ea_nil)))) (fun s => bor_flat nl_nl)) ja_nil))))) (blkOk_by (N := ["_law_box_here", "_law_many", "_law_left", "_law_place"]) (sc := defScope s__law_order) (by decide +kernel))))) ja_nil)))) (hb := (fun _ _ => rfl))))))
theorem k__law_right {P : Program} {w : World} {K : PySem.W.Frag} {mg : Str → Option Value} {base : Heap} {fa : Addr} {fd : FuncData} (F : Fun K "_law_right" "_law_right" s__law_right fa fd) (hb : Binds K fd ["_law_layout_here"] []) (hm : mg "_law_right" = some (.ref fa)) (z_len : mg "len" = none) (z_list : mg "list" = none) (z_range : mg "range" = none) (z_sorted : mg "sorted" = none) (c_pieces : CalOk P w K mg base 3 "pieces" (spP K mg 1 true m_pieces)) (c_heads_of : CalOk P w K mg base 4 "heads_of" (spP K mg 2 false m_heads_of)) (c_common : CalOk P w K mg base 4 "common" (spP K mg 3 false m_common)) : CalOk P w K mg base 5 "_law_right" (spP K mg 1 false m_law_right) :=
  cal_fn (N := ["_law_layout_here", "_law_column", "_law_number", "_law_met", "_law_piece", "_law_others", "_law_one", "_law_other"]) F sc__law_right hb hm rfl fun cdv A outer s H E hr ts hl => match ts, hl with
    | [p0], _ => by
      have hu : (A.deeper (envOfC "_law_right" (defScope s__law_right) s.heap.objs.size fa cdv)).units + 66 < cLine := by
        have := hr.un
        omega
      rw [m_law_right]
      exact (show BS _ E false false [] [some p0, none, none, none, none, none, none, none] _ _ _ _ from (bs_seqN (emb := fun (j30 : Unit) => [some p0, none, none, none, none, none, none, none]) (own1 := []) (fun t b => t) (ss_forO (emb := fun (j5 : Unit) => [some p0, none, none, none, none, none, none, none]) (fun b4 => ()) own_cx rfl (vi_p (xqI (xi_range1 z_range (ea_cons (ep_ix id_ix (ep_var 0) ep_int) ea_nil)))) (xg_name 1 sc__law_right.nd) (fun j5 a6 => (show BS _ _ _ _ [] [some p0, some a6, none, none, none, none, none, none] _ _ _ _ from by exact (bs_seqP (emb := fun (j29 : Unit) => [some p0, some a6, none, none, none, none, none, none]) (own1 := []) (fun t b => (Oc.rt t b)) (ss_forO (emb := fun (j12 : Unit) => [some p0, some a6, none, none, none, none, none, none]) (fun b11 => ()) own_cx rfl (vi_p (xqI (xi_range1 z_range (ea_cons (ep_callB cd_len z_len (ea_cons (ep_ix id_ix (ep_var 0) ep_int) ea_nil)) ea_nil)))) (xg_name 2 sc__law_right.nd) (fun j12 a13 => (show BS _ _ _ _ [] [some p0, some a6, some a13, none, none, none, none, none] _ _ _ _ from by exact (bs_if (vb_p (ρe := [some p0, some a6, some a13, none, none, none, none, none]) (xqB (eb_cmp (od_ne hu) (ep_cmp (od_in hu) (ep_var 2) (xp_call c_heads_of hr (by omega) pass_cx (ea_cons (ep_var 0) (ea_cons (ep_var 1) ea_nil)))) (ep_cmp (od_in hu) (ep_var 1) (ep_ix id_ix (ep_ix id_ix (ep_var 0) ep_int) (ep_var 2))))) (.inr rfl)) (fun b27 => (show BS _ _ _ _ [] [some p0, some a6, some a13, none, none, none, none, none] _ _ _ _ from by exact (bs_ret (g := fun (v28 : D) => (Oc.rt v28 PyData.none)) (bx := fun (v28 : D) => PyData.none) (vp_p (ρe := [some p0, some a6, some a13, none, none, none, none, none]) (xq ep_bool)) (hb := (fun _ z => nomatch z))))) (fun b27 => (show BS _ _ _ _ [] [some p0, some a6, some a13, none, none, none, none, none] _ _ _ _ from by exact (bs_end [2] (a := (Oc.nx ()))))) (fun _ => by repeat' (first | exact nev_rt | exact nev_bk | exact nev_ex | refine nev_then fun _ => ?_ | refine nev_bind fun _ => ?_ | refine nev_ite ?_ ?_)))))) (fun j29 => by exact (bs_end [1] (a := (Oc.nx ())))))))) (fun j30 => by exact (bs_seq (emb := fun v31 => [some p0, none, none, some v31, none, none, none, none]) (own1 := []) (ss_set 3 sc__law_right.nd (vp_p (ρe := [some p0, none, none, none, none, none, none, none]) (xq (ep_lst ea_nil)))) (fun v31 => by exact (bs_seqN (emb := fun (j74 : (D)) => [some p0, none, none, some j74, none, none, none, none]) (own1 := []) (fun t b => t) (ss_forO (emb := fun (j35 : (D)) => [some p0, none, none, some j35, none, none, none, none]) (fun b34 => v31) own_cx rfl (vi_p (xqI (xi_val (xp_of_xf (xf_call c_pieces hr (by omega) pass_cx (ea_cons (ep_var 0) ea_nil)))))) (xg_name 4 sc__law_right.nd) (fun j35 a36 => (show BS _ _ _ _ [] [some p0, none, none, some j35, some a36, none, none, none] _ _ _ _ from by exact (bs_seq (emb := fun v40 => [some p0, none, none, some v40, some a36, none, none, none]) (own1 := []) (ss_set 3 sc__law_right.nd (vp_p (ρe := [some p0, none, none, some j35, some a36, none, none, none]) (xq (ep_bin od_add (ep_var 3) (xp_of_xf (xf_callT cf_list z_list (ea_cons (ep_var 4) ea_nil))))))) (fun v40 => by exact (bs_seq (emb := fun v52 => [some p0, none, none, some v40, some a36, some v52, none, none]) (own1 := []) (ss_setLc 5 (lv_p (ρe := [some p0, none, none, some v40, some a36, none, none, none]) (lq (lcx_lcf (own := [("_law_number", 2)]) (cond := fun a45 => ((R.ok a45).bind fun x49 => (R.ok a36).bind fun x50 => (pyNotIn x49 x50).bind asB)) (me := fun a45 => (R.ok a45)) sc__law_right.nd (xi_range1 z_range (ea_cons (ep_callB cd_len z_len (ea_cons (ep_ix id_ix (ep_var 0) ep_int) ea_nil)) ea_nil)) (fun s H C cl fp => xg_name 2 sc__law_right.nd) (fun s H C cl fp a45 => xqB (eb_cmp (od_notin hu) (ep_var 2) (ep_var 4))) (fun s H C cl fp a45 => xq (ep_var 2)) (blkOk_by (N := ["_law_layout_here", "_law_column", "_law_number", "_law_met", "_law_piece", "_law_others", "_law_one", "_law_other"]) (sc := defScope s__law_right) (by decide +kernel)))))) (fun v52 => by exact (bs_seqP (emb := fun (j73 : Unit) => [some p0, none, none, some v40, some a36, some v52, none, none]) (own1 := []) (fun t b => (Oc.rt t b)) (ss_forO (emb := fun (j55 : Unit) => [some p0, none, none, some v40, some a36, some v52, none, none]) (fun b54 => ()) own_cx rfl (vi_p (xqI (xi_val (ep_var 4)))) (xg_name 6 sc__law_right.nd) (fun j55 a56 => (show BS _ _ _ _ [] [some p0, none, none, some v40, some a36, some v52, some a56, none] _ _ _ _ from by exact (bs_if (vb_p (ρe := [some p0, none, none, some v40, some a36, some v52, some a56, none]) (xqB (eb_cmp (od_ne hu) (xp_of_xf (xf_lc (lcx_lcf (own := [("_law_other", 7)]) (cond := fun a58 => (((R.ok p0).bind fun x62 => (R.ok a56).bind fun x63 => (R.ok a58).bind fun x64 => m_common [x62, x63, x64]).bind fun x65 => (R.ok (PyData.tuple [])).bind fun x66 => (pyNe x65 x66).bind asB)) (me := fun a58 => (R.ok a58)) sc__law_right.nd (xi_val (ep_var 5)) (fun s H C cl fp => xg_name 7 sc__law_right.nd) (fun s H C cl fp a58 => xqB (eb_cmp (od_ne hu) (xp_call c_common hr (by omega) passL (ea_cons (ep_var 0) (ea_cons (ep_var 6) (ea_cons (ep_var 7) ea_nil)))) (ep_tup ea_nil))) (fun s H C cl fp a58 => xq (ep_var 7)) (blkOk_by (N := ["_law_layout_here", "_law_column", "_law_number", "_law_met", "_law_piece", "_law_others", "_law_one", "_law_other"]) (sc := defScope s__law_right) (by decide +kernel))))) (ep_lst ea_nil))) (.inr rfl)) (fun b71 => (show BS _ _ _ _ [] [some p0, none, none, some v40, some a36, some v52, some a56, none] _ _ _ _ from by exact (bs_ret (g := fun (v72 : D) => (Oc.rt v72 PyData.none)) (bx := fun (v72 : D) => PyData.none) (vp_p (ρe := [some p0, none, none, some v40, some a36, some v52, some a56, none]) (xq ep_bool)) (hb := (fun _ z => nomatch z))))) (fun b71 => (show BS _ _ _ _ [] [some p0, none, none, some v40, some a36, some v52, some a56, none] _ _ _ _ from by exact (bs_end [6] (a := (Oc.nx ()))))) (fun _ => by repeat' (first | exact nev_rt | exact nev_bk | exact nev_ex | refine nev_then fun _ => ?_ | refine nev_bind fun _ => ?_ | refine nev_ite ?_ ?_)))))) (fun j73 => by exact (bs_end [4, 5] (a := (Oc.nx v40)))))))))))) (fun j74 => by exact (bs_ret (g := fun (v85 : D) => v85) (bx := fun (v85 : D) => PyData.none) (vp_p (ρe := [some p0, none, none, some j74, none, none, none, none]) (xq (ep_cmp (od_eq hu) (xp_of_xf (xf_callB (cf_sorted hu) z_sorted (ea_cons (ep_var 3) ea_nil))) (xp_of_xf (xf_listRg z_list (xrg_1 z_range (ep_callB cd_len z_len (ea_cons (ep_ix id_ix (ep_var 0) ep_int) ea_nil)))))))) (hb := (fun _ z => nomatch z))))))))))
theorem k__law_named_right {P : Program} {w : World} {K : PySem.W.Frag} {mg : Str → Option Value} {base : Heap} {fa : Addr} {fd : FuncData} (F : Fun K "_law_named_right" "_law_named_right" s__law_named_right fa fd) (hb : Binds K fd ["_law_box_here", "_law_layout_here"] []) (hm : mg "_law_named_right" = some (.ref fa)) (z_len : mg "len" = none) (z_range : mg "range" = none) (z_sorted : mg "sorted" = none) (z_tuple : mg "tuple" = none) (c__law_order : CalOk P w K mg base 2 "_law_order" (spB K 2 false m_law_order)) (c_named : CalOk P w K mg base 4 "named" (spP K mg 2 false m_named)) (c__law_take : CalOk P w K mg base 1 "_law_take" (spB K 2 false m_law_take)) (c_pieces : CalOk P w K mg base 3 "pieces" (spP K mg 1 true m_pieces)) (c_is_layout : CalOk P w K mg base 4 "is_layout" (spP K mg 1 false m_is_layout)) (c_common : CalOk P w K mg base 4 "common" (spP K mg 3 false m_common)) : CalOk P w K mg base 5 "_law_named_right" (spB K 2 false m_law_named_right) :=
  cal_box (N := ["_law_box_here", "_law_layout_here", "_law_order_here", "_law_later", "_law_back", "_law_column", "_law_one", "_law_other", "_law_due"]) F sc__law_named_right hb hm rfl fun cdv A outer s H E hr b ts hl => match b, ts, hl with
    | p0, [p1], _ => by
      have hu : (A.deeper (envOfC "_law_named_right" (defScope s__law_named_right) s.heap.objs.size fa cdv)).units + 66 < cLine := by
        have := hr.un
        omega
      rw [m_law_named_right]
      exact (show BS _ E true false [0] [some p0, some p1, none, none, none, none, none, none, none] _ _ _ _ from (bs_seq (emb := fun v13 => [some v13.2, some p1, some v13.1, none, none, none, none, none, none]) (own1 := [0]) (ss_set 2 sc__law_named_right.nd (vp_j (emb := (fun (s : D) => [some s, some p1, none, none, none, none, none, none, none])) (m := fun s => ((((R.ok p1).bind fun x5 => (R.ok (PyData.int 0)).bind fun x6 => pyIx x5 x6).bind fun t4 => R.ok (t4, s)).bind fun pq3 => (m_law_order pq3.2 [pq3.1]).bind fun q7 => R.ok (q7.1, q7.2))) p0 (jq (jp_box (get := fun s => s) (put := fun s d => d) 0 ⟨fun _ => rfl, fun _ _ => rfl⟩ c__law_order hr (by omega) passL (ja_cons (jp_of (ρe := fun (s : D) => hideE [0] [some s, some p1, none, none, none, none, none, none, none]) (m := fun s => ((R.ok p1).bind fun x1 => (R.ok (PyData.int 0)).bind fun x2 => pyIx x1 x2)) (fun s => xq (ep_ix id_ix (ep_var 1) ep_int)) (fun s => bor_hide)) ja_nil))))) (fun v13 => by exact (bs_seq (emb := fun v16 => [some v13.2, some p1, some v13.1, some v16, none, none, none, none, none]) (own1 := [0]) (ss_set 3 sc__law_named_right.nd (vp_p (ρe := hideE [0] [some v13.2, some p1, some v13.1, none, none, none, none, none, none]) (xq (xp_call c_named hr (by omega) pass_cx (ea_cons (ep_var 1) (ea_cons (ep_var 2) ea_nil)))) bor_hide)) (fun v16 => by exact (bs_seq (emb := fun v27 => [some v13.2, some p1, some v13.1, some v16, some v27, none, none, none, none]) (own1 := [0]) (ss_set 4 sc__law_named_right.nd (vp_p (ρe := hideE [0] [some v13.2, some p1, some v13.1, some v16, none, none, none, none, none]) (xq (ep_callT cd_tuple z_tuple (ea_cons (xp_of_xf (xf_lc (lcx_lc (own := [("_law_column", 5)]) (me := fun a20 => ((R.ok v13.1).bind fun x21 => (sqOk x21).bind fun _ => (R.ok a20).bind fun x22 => pyIndex x21 x22)) sc__law_named_right.nd (xi_range1 z_range (ea_cons (ep_ix id_ix (ep_var 1) ep_int) ea_nil)) (fun s H C cl fp => xg_name 5 sc__law_named_right.nd) (fun s H C cl fp a20 => xq (xp_index hu (ep_var 2) (ep_var 5))) (blkOk_by (N := ["_law_box_here", "_law_layout_here", "_law_order_here", "_law_later", "_law_back", "_law_column", "_law_one", "_law_other", "_law_due"]) (sc := defScope s__law_named_right) (by decide +kernel))))) ea_nil))) bor_hide)) (fun v27 => by exact (bs_if (vb_p (ρe := hideE [0] [some v13.2, some p1, some v13.1, some v16, some v27, none, none, none, none]) (xqB (eb_w (ew_or (eb_cmp (od_ne hu) (xp_call c_named hr (by omega) pass_cx (ea_cons (ep_var 3) (ea_cons (ep_var 4) ea_nil))) (ep_var 1)) (ew_or (eb_cmp (od_ne hu) (xp_of_xf (xf_call c_pieces hr (by omega) pass_cx (ea_cons (ep_var 3) ea_nil))) (xp_of_xf (xf_call c_pieces hr (by omega) pass_cx (ea_cons (ep_var 1) ea_nil)))) (ew_or1 (eb_not (eb_val (xp_call c_is_layout hr (by omega) pass_cx (ea_cons (ep_var 3) ea_nil))))))))) (.inl rfl)) (fun b42 => (show BS _ _ _ _ [0] [some v13.2, some p1, some v13.1, some v16, some v27, none, none, none, none] _ _ _ _ from by exact (bs_ret (g := fun (v43 : D) => (v43, v13.2)) (bx := fun (v43 : D) => v13.2) (vp_p (ρe := hideE [0] [some v13.2, some p1, some v13.1, some v16, some v27, none, none, none, none]) (xq ep_bool) bor_hide) (hb := (fun _ _ => rfl))))) (fun b42 => (show BS _ _ _ _ [0] [some v13.2, some p1, some v13.1, some v16, some v27, none, none, none, none] _ _ _ _ from by exact (bs_seq (emb := fun r44 => [some r44.1.2, some p1, some v13.1, some v16, some v27, none, some r44.2.1, some r44.2.2, none]) (own1 := [0]) (ss_par 6 7 (vp_j (emb := (fun (s : D) => [some s, some p1, some v13.1, some v16, some v27, none, none, none, none])) (m := fun s => ((((((R.ok p1).bind fun x55 => (R.ok (PyData.int 1)).bind fun x56 => pyIx x55 x56).bind fun x57 => pyLen [x57]).bind fun t54 => R.ok (t54, s)).bind fun pq53 => (m_law_take pq53.2 [pq53.1]).bind fun q58 => R.ok (q58.1, q58.2)).bind fun pq51 => (((((R.ok p1).bind fun x61 => (R.ok (PyData.int 1)).bind fun x62 => pyIx x61 x62).bind fun x63 => pyLen [x63]).bind fun t60 => R.ok (t60, pq51.2)).bind fun pq59 => (m_law_take pq59.2 [pq59.1]).bind fun q64 => R.ok (q64.1, q64.2)).bind fun pq52 => R.ok (PyData.tuple [pq51.1, pq52.1], pq52.2))) v13.2 (jq (jp_tup (ja_cons (jp_box (get := fun s => s) (put := fun s d => d) 0 ⟨fun _ => rfl, fun _ _ => rfl⟩ c__law_take hr (by omega) passL (ja_cons (jp_of (ρe := fun (s : D) => hideE [0] [some s, some p1, some v13.1, some v16, some v27, none, none, none, none]) (m := fun s => (((R.ok p1).bind fun x45 => (R.ok (PyData.int 1)).bind fun x46 => pyIx x45 x46).bind fun x47 => pyLen [x47])) (fun s => xq (ep_callB cd_len z_len (ea_cons (ep_ix id_ix (ep_var 1) ep_int) ea_nil))) (fun s => bor_hide)) ja_nil)) (ja_cons (jp_box (get := fun s => s) (put := fun s d => d) 0 ⟨fun _ => rfl, fun _ _ => rfl⟩ c__law_take hr (by omega) passL (ja_cons (jp_of (ρe := fun (s : D) => hideE [0] [some s, some p1, some v13.1, some v16, some v27, none, none, none, none]) (m := fun s => (((R.ok p1).bind fun x48 => (R.ok (PyData.int 1)).bind fun x49 => pyIx x48 x49).bind fun x50 => pyLen [x50])) (fun s => xq (ep_callB cd_len z_len (ea_cons (ep_ix id_ix (ep_var 1) ep_int) ea_nil))) (fun s => bor_hide)) ja_nil)) ja_nil))))) sc__law_named_right.nd) (fun r44 => by exact (bs_seq (emb := fun v93 => [some r44.1.2, some p1, some v13.1, some v16, some v27, none, some r44.2.1, some r44.2.2, some v93]) (own1 := [0]) (ss_set 8 sc__law_named_right.nd (vp_p (ρe := hideE [0] [some r44.1.2, some p1, some v13.1, some v16, some v27, none, some r44.2.1, some r44.2.2, none]) (xq (ep_callT cd_tuple z_tuple (ea_cons (xp_of_xf (xf_callB (cf_sorted hu) z_sorted (ea_cons (xp_of_xf (xf_lc (lcx_lc (own := [("_law_column", 5)]) (me := fun a85 => ((R.ok v13.1).bind fun x86 => (sqOk x86).bind fun _ => (R.ok a85).bind fun x87 => pyIndex x86 x87)) sc__law_named_right.nd (xi_val (xp_call c_common hr (by omega) pass_cx (ea_cons (ep_var 1) (ea_cons (ep_var 6) (ea_cons (ep_var 7) ea_nil))))) (fun s H C cl fp => xg_name 5 sc__law_named_right.nd) (fun s H C cl fp a85 => xq (xp_index hu (ep_var 2) (ep_var 5))) (blkOk_by (N := ["_law_box_here", "_law_layout_here", "_law_order_here", "_law_later", "_law_back", "_law_column", "_law_one", "_law_other", "_law_due"]) (sc := defScope s__law_named_right) (by decide +kernel))))) ea_nil))) ea_nil))) bor_hide)) (fun v93 => by exact (bs_ret (g := fun (v106 : D) => (v106, r44.1.2)) (bx := fun (v106 : D) => r44.1.2) (vp_p (ρe := hideE [0] [some r44.1.2, some p1, some v13.1, some v16, some v27, none, some r44.2.1, some r44.2.2, some v93]) (xq (ep_and (ep_cmp (od_eq hu) (xp_call c_common hr (by omega) pass_cx (ea_cons (ep_var 3) (ea_cons (ep_var 6) (ea_cons (ep_var 7) ea_nil)))) (ep_var 8)) (ep_one (ep_cmp (od_eq hu) (xp_call c_common hr (by omega) pass_cx (ea_cons (ep_var 3) (ea_cons (ep_var 7) (ea_cons (ep_var 6) ea_nil)))) (ep_var 8))))) bor_hide) (hb := (fun _ _ => rfl))))))))) (by intro _ _ _ _ h; exact nomatch h)))))))))
theorem k__law_beside_right {P : Program} {w : World} {K : PySem.W.Frag} {mg : Str → Option Value} {base : Heap} {fa : Addr} {fd : FuncData} (F : Fun K "_law_beside_right" "_law_beside_right" s__law_beside_right fa fd) (hb : Binds K fd ["_law_layout_here"] []) (hm : mg "_law_beside_right" = some (.ref fa)) (z_len : mg "len" = none) (z_tuple : mg "tuple" = none) (c_beside : CalOk P w K mg base 1 "beside" (spP K mg 2 false m_beside)) (c_heads_of : CalOk P w K mg base 4 "heads_of" (spP K mg 2 false m_heads_of)) (c_pieces : CalOk P w K mg base 3 "pieces" (spP K mg 1 true m_pieces)) : CalOk P w K mg base 5 "_law_beside_right" (spP K mg 1 false m_law_beside_right) :=
  cal_fn (N := ["_law_layout_here", "_law_small", "_law_whole", "_law_behind", "_law_piece", "_law_number"]) F sc__law_beside_right hb hm rfl fun cdv A outer s H E hr ts hl => match ts, hl with
    | [p0], _ => by
      have hu : (A.deeper (envOfC "_law_beside_right" (defScope s__law_beside_right) s.heap.objs.size fa cdv)).units + 66 < cLine := by
        have := hr.un
        omega
      rw [m_law_beside_right]
      exact (show BS _ E false false [] [some p0, none, none, none, none, none] _ _ _ _ from (bs_seq (emb := fun v8 => [some p0, some v8, none, none, none, none]) (own1 := []) (ss_set 1 sc__law_beside_right.nd (vp_p (ρe := [some p0, none, none, none, none, none]) (xq (ep_tup (ea_cons ep_int (ea_cons (ep_tup (ea_cons (ep_tup (ea_cons ep_int (ea_cons ep_int ea_nil))) (ea_cons (ep_tup (ea_cons ep_int ea_nil)) ea_nil))) ea_nil)))))) (fun v8 => by exact (bs_if (vb_p (ρe := [some p0, some v8, none, none, none, none]) (xqB (eb_w (ew_or (eb_cmp od_gt (ep_ix id_ix (ep_var 0) ep_int) ep_int) (ew_or1 (eb_cmp od_gt (ep_callB cd_len z_len (ea_cons (ep_ix id_ix (ep_var 0) ep_int) ea_nil)) ep_int))))) (.inr rfl)) (fun b21 => (show BS _ _ _ _ [] [some p0, some v8, none, none, none, none] _ _ _ _ from by exact (bs_ret (g := fun (v22 : D) => v22) (bx := fun (v22 : D) => PyData.none) (vp_p (ρe := [some p0, some v8, none, none, none, none]) (xq ep_bool)) (hb := (fun _ z => nomatch z))))) (fun b21 => (show BS _ _ _ _ [] [some p0, some v8, none, none, none, none] _ _ _ _ from by exact (bs_seq (emb := fun v25 => [some p0, some v8, some v25, none, none, none]) (own1 := []) (ss_set 2 sc__law_beside_right.nd (vp_p (ρe := [some p0, some v8, none, none, none, none]) (xq (xp_call c_beside hr (by omega) pass_cx (ea_cons (ep_var 1) (ea_cons (ep_var 0) ea_nil)))))) (fun v25 => by exact (bs_seq (emb := fun v40 => [some p0, some v8, some v25, some v40, none, none]) (own1 := []) (ss_setLc 3 (lv_p (ρe := [some p0, some v8, some v25, none, none, none]) (lq (lcx_lc (own := [("_law_piece", 4)]) (me := fun a28 => ((((R.ok a28).bind fun x29 => items x29).bind fun is33 => (mapR (fun d35 => ((fun d => R.ok d) d35).bind fun a30 => ((R.ok a30).bind fun x31 => (R.ok (PyData.int 2)).bind fun x32 => pyAdd x31 x32)) is33).bind fun rs34 => R.ok (PyData.list rs34)).bind fun x36 => pyTuple [x36])) sc__law_beside_right.nd (xi_val (xp_of_xf (xf_call c_pieces hr (by omega) pass_cx (ea_cons (ep_var 0) ea_nil)))) (fun s H C cl fp => xg_name 4 sc__law_beside_right.nd) (fun s H C cl fp a28 => xq (ep_callT cd_tuple z_tuple (ea_cons (xp_of_xf (xf_lc (lcx_lc (own := [("_law_number", 5)]) (me := fun a30 => ((R.ok a30).bind fun x31 => (R.ok (PyData.int 2)).bind fun x32 => pyAdd x31 x32)) sc__law_beside_right.nd (xi_val (ep_var 4)) (fun s H C cl fp => xg_name 5 sc__law_beside_right.nd) (fun s H C cl fp a30 => xq (ep_bin od_add (ep_var 5) ep_int)) (blkOk_by (by rfl))))) ea_nil))) (blkOk_by (N := ["_law_layout_here", "_law_small", "_law_whole", "_law_behind", "_law_piece", "_law_number"]) (sc := defScope s__law_beside_right) (by decide +kernel)))))) (fun v40 => by exact (bs_if (vb_p (ρe := [some p0, some v8, some v25, some v40, none, none]) (xqB (eb_w (ew_or (eb_cmp (od_ne hu) (xp_of_xf (xf_call c_pieces hr (by omega) pass_cx (ea_cons (ep_var 2) ea_nil))) (ep_bin od_add (ep_lst (ea_cons (ep_tup (ea_cons ep_int (ea_cons ep_int ea_nil))) ea_nil)) (ep_var 3))) (ew_or1 (eb_cmp (od_ne hu) (xp_call c_heads_of hr (by omega) pass_cx (ea_cons (ep_var 2) (ea_cons ep_int ea_nil))) (ep_tup (ea_cons ep_int (ea_cons ep_int ea_nil)))))))) (.inr rfl)) (fun b58 => (show BS _ _ _ _ [] [some p0, some v8, some v25, some v40, none, none] _ _ _ _ from by exact (bs_ret (g := fun (v59 : D) => v59) (bx := fun (v59 : D) => PyData.none) (vp_p (ρe := [some p0, some v8, some v25, some v40, none, none]) (xq ep_bool)) (hb := (fun _ z => nomatch z))))) (fun b58 => (show BS _ _ _ _ [] [some p0, some v8, some v25, some v40, none, none] _ _ _ _ from by exact (bs_ret (g := fun (v74 : D) => v74) (bx := fun (v74 : D) => PyData.none) (vp_p (ρe := [some p0, some v8, some v25, some v40, none, none]) (xq (ep_cmp (od_eq hu) (xp_call c_heads_of hr (by omega) pass_cx (ea_cons (ep_var 2) (ea_cons ep_int ea_nil))) (ep_callT cd_tuple z_tuple (ea_cons (xp_of_xf (xf_lc (lcx_lc (own := [("_law_number", 5)]) (me := fun a65 => ((R.ok a65).bind fun x66 => (R.ok (PyData.int 2)).bind fun x67 => pyAdd x66 x67)) sc__law_beside_right.nd (xi_val (xp_call c_heads_of hr (by omega) pass_cx (ea_cons (ep_var 0) (ea_cons ep_int ea_nil)))) (fun s H C cl fp => xg_name 5 sc__law_beside_right.nd) (fun s H C cl fp a65 => xq (ep_bin od_add (ep_var 5) ep_int)) (blkOk_by (N := ["_law_layout_here", "_law_small", "_law_whole", "_law_behind", "_law_piece", "_law_number"]) (sc := defScope s__law_beside_right) (by decide +kernel))))) ea_nil))))) (hb := (fun _ z => nomatch z))))) (by intro _ _ _ _ h; exact nomatch h)))))))) (by intro _ _ _ _ h; exact nomatch h)))))
theorem k_law {P : Program} {w : World} {K : PySem.W.Frag} {mg : Str → Option Value} {base : Heap} {fa : Addr} {fd : FuncData} (F : Fun K "law" "law" s_law fa fd) (hb : Binds K fd ["_law_script"] []) (hm : mg "law" = some (.ref fa)) (z_len : mg "len" = none) (z_max : mg "max" = none) (z_min : mg "min" = none) (z_range : mg "range" = none) (c__law_box : CalOk P w K mg base 2 "_law_box" (spP K mg 2 true m_law_box)) (c__law_layout : CalOk P w K mg base 2 "_law_layout" (spB K 1 false m_law_layout)) (c__law_take : CalOk P w K mg base 1 "_law_take" (spB K 2 false m_law_take)) (c_without : CalOk P w K mg base 4 "without" (spP K mg 2 false m_without)) (c__law_right : CalOk P w K mg base 5 "_law_right" (spP K mg 1 false m_law_right)) (c__law_named_right : CalOk P w K mg base 5 "_law_named_right" (spB K 2 false m_law_named_right)) (c__law_beside_right : CalOk P w K mg base 5 "_law_beside_right" (spP K mg 1 false m_law_beside_right)) (c_common : CalOk P w K mg base 4 "common" (spP K mg 3 false m_common)) : FnOk P w K mg base (L2.CX P w) 6 fa fd ["_law_script"] (spP K mg 1 false m_law_k04) :=
  fn_fn (N := ["_law_script", "_law_k", "_law_box_here", "_law_layout_here", "_law_size", "_law_gone", "_law_less", "_law_one", "_law_other", "_law_number"]) F sc_law rfl fun cdv A outer s H E hr ts hl => match ts, hl with
    | [p0], _ => by
      have hu : (A.deeper (envOfC "law" (defScope s_law) s.heap.objs.size fa cdv)).units + 66 < cLine := by
        have := hr.un
        omega
      rw [m_law_k04]
      exact (show BS _ E false false [] [some p0, none, none, none, none, none, none, none, none, none] _ _ _ _ from (bs_seqN (emb := fun (j167 : Unit) => [some p0, none, none, none, none, none, none, none, none, none]) (own1 := []) (fun t b => t) (ss_forO (emb := fun (j8 : Unit) => [some p0, none, none, none, none, none, none, none, none, none]) (fun b7 => ()) own_cx rfl (vi_p (xqI (xi_range1 z_range (ea_cons (ep_callB (cd_max rfl) z_max (ea_cons ep_int (ea_cons (ep_callB (cd_min rfl) z_min (ea_cons (ep_callB cd_len z_len (ea_cons (ep_var 0) ea_nil)) (ea_cons ep_int ea_nil))) ea_nil))) ea_nil)))) (xg_name 1 sc_law.nd) (fun j8 a9 => (show BS _ _ _ _ [] [some p0, some a9, none, none, none, none, none, none, none, none] _ _ _ _ from by exact (bs_seq (emb := fun v12 => [some p0, some a9, some v12, none, none, none, none, none, none, none]) (own1 := [2]) (ss_setF 2 sc_law.nd (vf_p (ρe := [some p0, some a9, none, none, none, none, none, none, none, none]) (xqF (xf_call c__law_box hr (by omega) pass_cx (ea_cons (ep_var 0) (ea_cons (ep_var 1) ea_nil)))))) (fun v12 => by exact (bs_seq (emb := fun v15 => [some p0, some a9, some v15.2, some v15.1, none, none, none, none, none, none]) (own1 := [2]) (ss_set 3 sc_law.nd (vp_j (emb := (fun (s : D) => [some p0, some a9, some s, none, none, none, none, none, none, none])) (m := fun s => ((m_law_layout s []).bind fun q13 => R.ok (q13.1, q13.2))) v12 (jq (jp_box (get := fun s => s) (put := fun s d => d) 2 ⟨fun _ => rfl, fun _ _ => rfl⟩ c__law_layout hr (by omega) passL ja_nil)))) (fun v15 => by exact (bs_if (vb_j (emb := (fun (s : D) => [some p0, some a9, some s, some v15.1, none, none, none, none, none, none])) (m := fun s => ((((((R.ok v15.1).bind fun x22 => m_law_right [x22]).bind tru).bind fun k23 => R.ok (!k23)).bind fun t21 => R.ok (t21, s)).bind fun pq20 => if pq20.1 = true then R.ok (true, pq20.2) else ((((((R.ok v15.1).bind fun t29 => R.ok (t29, pq20.2)).bind fun pq28 => (m_law_named_right pq28.2 [pq28.1]).bind fun q30 => R.ok (q30.1, q30.2)).bind fun pq26 => (tru pq26.1).bind fun k27 => R.ok (k27, pq26.2)).bind fun pq25 => R.ok (!pq25.1, pq25.2)).bind fun pq24 => if pq24.1 = true then R.ok (true, pq24.2) else (((((R.ok v15.1).bind fun x32 => m_law_beside_right [x32]).bind tru).bind fun k33 => R.ok (!k33)).bind fun t31 => R.ok (t31, pq24.2))))) v15.2 (jqB (jb_w (jw_or (jb_of (ρe := fun (s : D) => hideE [2] [some p0, some a9, some s, some v15.1, none, none, none, none, none, none]) (m := fun s => ((((R.ok v15.1).bind fun x16 => m_law_right [x16]).bind tru).bind fun k17 => R.ok (!k17))) (fun s => xqB (eb_not (eb_val (xp_call c__law_right hr (by omega) passL (ea_cons (ep_var 3) ea_nil))))) (fun s => .inl rfl)) (jw_or (jb_not (jb_val (jp_box (get := fun s => s) (put := fun s d => d) 2 ⟨fun _ => rfl, fun _ _ => rfl⟩ c__law_named_right hr (by omega) passL (ja_cons (jp_of (ρe := fun (s : D) => hideE [2] [some p0, some a9, some s, some v15.1, none, none, none, none, none, none]) (m := fun s => (R.ok v15.1)) (fun s => xq (ep_var 3)) (fun s => bor_hide)) ja_nil)))) (jw_or1 (jb_of (ρe := fun (s : D) => hideE [2] [some p0, some a9, some s, some v15.1, none, none, none, none, none, none]) (m := fun s => ((((R.ok v15.1).bind fun x18 => m_law_beside_right [x18]).bind tru).bind fun k19 => R.ok (!k19))) (fun s => xqB (eb_not (eb_val (xp_call c__law_beside_right hr (by omega) passL (ea_cons (ep_var 3) ea_nil))))) (fun s => .inl rfl)))))))) (fun b48 => (show BS _ _ _ _ [2] [some p0, some a9, some b48.2, some v15.1, none, none, none, none, none, none] _ _ _ _ from by exact (bs_freeze 2 (show BS _ _ _ _ [] [some p0, some a9, some b48.2, some v15.1, none, none, none, none, none, none] _ _ _ _ from by exact (bs_ret (g := fun (v49 : D) => (Oc.rt v49 PyData.none)) (bx := fun (v49 : D) => PyData.none) (vp_p (ρe := [some p0, some a9, some b48.2, some v15.1, none, none, none, none, none, none]) (xq ep_bool)) (hb := (fun _ z => nomatch z))))))) (fun b48 => (show BS _ _ _ _ [2] [some p0, some a9, some b48.2, some v15.1, none, none, none, none, none, none] _ _ _ _ from by exact (bs_seq (emb := fun v53 => [some p0, some a9, some b48.2, some v15.1, some v53, none, none, none, none, none]) (own1 := [2]) (ss_set 4 sc_law.nd (vp_p (ρe := hideE [2] [some p0, some a9, some b48.2, some v15.1, none, none, none, none, none, none]) (xq (ep_callB cd_len z_len (ea_cons (ep_ix id_ix (ep_var 3) ep_int) ea_nil))) bor_hide)) (fun v53 => by exact (bs_seqP (emb := fun (j166 : Unit) => [some p0, some a9, none, some v15.1, some v53, none, none, none, none, none]) (own1 := []) (fun t b => (Oc.rt t b)) (ss_if (vb_p (ρe := hideE [2] [some p0, some a9, some b48.2, some v15.1, some v53, none, none, none, none, none]) (xqB (eb_cmp od_gt (ep_var 4) ep_int)) (.inl rfl)) (fun b57 => (show BS _ _ _ _ [2] [some p0, some a9, some b48.2, some v15.1, some v53, none, none, none, none, none] _ _ _ _ from by exact (bs_seq (emb := fun v118 => [some p0, some a9, some v118.2, some v15.1, some v53, some v118.1, none, none, none, none]) (own1 := [2]) (ss_set 5 sc_law.nd (vp_j (emb := (fun (s : D) => [some p0, some a9, some s, some v15.1, some v53, none, none, none, none, none])) (m := fun s => (((R.ok v53).bind fun t113 => R.ok (t113, s)).bind fun pq112 => (m_law_take pq112.2 [pq112.1]).bind fun q114 => R.ok (q114.1, q114.2))) b48.2 (jq (jp_box (get := fun s => s) (put := fun s d => d) 2 ⟨fun _ => rfl, fun _ _ => rfl⟩ c__law_take hr (by omega) passL (ja_cons (jp_of (ρe := fun (s : D) => hideE [2] [some p0, some a9, some s, some v15.1, some v53, none, none, none, none, none]) (m := fun s => (R.ok v53)) (fun s => xq (ep_var 4)) (fun s => bor_hide)) ja_nil))))) (fun v118 => by exact (bs_freeze 2 (show BS _ _ _ _ [] [some p0, some a9, some v118.2, some v15.1, some v53, some v118.1, none, none, none, none] _ _ _ _ from by exact (bs_seq (emb := fun v121 => [some p0, some a9, some v118.2, some v15.1, some v53, some v118.1, some v121, none, none, none]) (own1 := []) (ss_set 6 sc_law.nd (vp_p (ρe := [some p0, some a9, some v118.2, some v15.1, some v53, some v118.1, none, none, none, none]) (xq (xp_call c_without hr (by omega) pass_cx (ea_cons (ep_var 3) (ea_cons (ep_var 5) ea_nil)))))) (fun v121 => by exact (bs_seq (emb := fun r122 => [some p0, some a9, some v118.2, some v15.1, some v53, some v118.1, some v121, some r122.2.1, some r122.2.2, none]) (own1 := []) (ss_asgG (vp_p (ρe := [some p0, some a9, some v118.2, some v15.1, some v53, some v118.1, some v121, none, none, none]) (xq (xp_of_xf (xf_lc (lcx_lc (own := [("_law_k", 1)]) (me := fun a128 => ((((R.ok v53).bind fun x129 => pyRange [x129]).bind fun is131 => (filR (fun d133 => ((fun d => R.ok d) d133).bind fun a130 => ((R.ok a130).bind fun x134 => (R.ok v118.1).bind fun x135 => (pyNe x134 x135).bind asB)) (fun d133 => ((fun d => R.ok d) d133).bind fun a130 => (R.ok a130)) is131).bind fun rs132 => R.ok (PyData.list rs132)).bind fun x137 => (R.ok a128).bind fun x138 => pyIx x137 x138)) sc_law.nd (xi_val (ep_lst (ea_cons ep_int (ea_cons (ep_bin od_sub (ep_var 4) ep_int) ea_nil)))) (fun s H C cl fp => xg_name 1 sc_law.nd) (fun s H C cl fp a128 => xq (ep_ix id_ix (xp_of_xf (xf_lc (lcx_lcf (own := [("_law_number", 9)]) (cond := fun a130 => ((R.ok a130).bind fun x134 => (R.ok v118.1).bind fun x135 => (pyNe x134 x135).bind asB)) (me := fun a130 => (R.ok a130)) sc_law.nd (xi_range1 z_range (ea_cons (ep_var 4) ea_nil)) (fun s H C cl fp => xg_name 9 sc_law.nd) (fun s H C cl fp a130 => xqB (eb_cmp (od_ne hu) (ep_var 9) (ep_var 5))) (fun s H C cl fp a130 => xq (ep_var 9)) (blkOk_by (by rfl))))) (ep_var 1))) (blkOk_by (N := ["_law_script", "_law_k", "_law_box_here", "_law_layout_here", "_law_size", "_law_gone", "_law_less", "_law_one", "_law_other", "_law_number"]) (sc := defScope s_law) (by decide +kernel))))))) (xg_pairL 7 8 sc_law.nd)) (fun r122 => by exact (bs_if (vb_p (ρe := [some p0, some a9, some v118.2, some v15.1, some v53, some v118.1, some v121, some r122.2.1, some r122.2.2, none]) (xqB (eb_w (ew_or (eb_cmp (od_ne hu) (xp_call c_common hr (by omega) pass_cx (ea_cons (ep_var 6) (ea_cons ep_int (ea_cons (ep_bin od_sub (ep_var 4) ep_int) ea_nil)))) (xp_call c_common hr (by omega) pass_cx (ea_cons (ep_var 3) (ea_cons (ep_var 7) (ea_cons (ep_var 8) ea_nil))))) (ew_or1 (eb_cmp (od_ne hu) (ep_callB cd_len z_len (ea_cons (ep_ix id_ix (ep_var 6) ep_int) ea_nil)) (ep_bin od_sub (ep_var 4) ep_int)))))) (.inr rfl)) (fun b164 => (show BS _ _ _ _ [] [some p0, some a9, some v118.2, some v15.1, some v53, some v118.1, some v121, some r122.2.1, some r122.2.2, none] _ _ _ _ from by exact (bs_ret (g := fun (v165 : D) => (Oc.rt v165 PyData.none)) (bx := fun (v165 : D) => PyData.none) (vp_p (ρe := [some p0, some a9, some v118.2, some v15.1, some v53, some v118.1, some v121, some r122.2.1, some r122.2.2, none]) (xq ep_bool)) (hb := (fun _ z => nomatch z))))) (fun b164 => (show BS _ _ _ _ [] [some p0, some a9, some v118.2, some v15.1, some v53, some v118.1, some v121, some r122.2.1, some r122.2.2, none] _ _ _ _ from by exact (bs_end [2, 5, 6, 7, 8] (a := (Oc.nx ()))))) (fun _ => by repeat' (first | exact nev_rt | exact nev_bk | exact nev_ex | refine nev_then fun _ => ?_ | refine nev_bind fun _ => ?_ | refine nev_ite ?_ ?_))))))))))))) (fun b57 => (show BS _ _ _ _ [2] [some p0, some a9, some b48.2, some v15.1, some v53, none, none, none, none, none] _ _ _ _ from by exact (bs_freeze 2 (show BS _ _ _ _ [] [some p0, some a9, some b48.2, some v15.1, some v53, none, none, none, none, none] _ _ _ _ from by exact (bs_end [2] (a := (Oc.nx ())))))))) (fun j166 => by exact (bs_end [1, 3, 4] (a := (Oc.nx ()))))))))) (fun _ => by repeat' (first | exact nev_rt | exact nev_bk | exact nev_ex | refine nev_then fun _ => ?_ | refine nev_bind fun _ => ?_ | refine nev_ite ?_ ?_)))))))))) (fun j167 => by exact (bs_ret (g := fun (v168 : D) => v168) (bx := fun (v168 : D) => PyData.none) (vp_p (ρe := [some p0, none, none, none, none, none, none, none, none, none]) (xq ep_bool)) (hb := (fun _ z => nomatch z))))))
end LK04
set_option maxRecDepth 512
/-! the plain layer, 1: what the mirrors answer -/
namespace TP
open PySem PySem.Spec PyProof.Rows L2 TL
/-- it answers, and so -/
def Sat {α : Type} (m : R α) (P : α → Prop) : Prop := ∃ a, m = .ok a ∧ P a
section
variable {α β : Type}
theorem Sat.ok {a : α} {P : α → Prop} (h : P a) : Sat (.ok a) P := ⟨a, rfl, h⟩
theorem Sat.bind {m : R α} {f : α → R β} {P : α → Prop} {Q : β → Prop} (h : Sat m P) (k : ∀ a, P a → Sat (f a) Q) : Sat (m.bind f) Q := by
  obtain ⟨a, e, p⟩ := h
  rw [e]
  exact k a p
theorem Sat.mono {m : R α} {P Q : α → Prop} (h : Sat m P) (k : ∀ a, P a → Q a) : Sat m Q := by
  obtain ⟨a, e, p⟩ := h
  exact ⟨a, e, k a p⟩
theorem Sat.nox {m : R α} {P : α → Prop} (h : Sat m P) : Sat (TL.nox m) P := by
  obtain ⟨a, e, p⟩ := h
  rw [e]
  exact ⟨a, rfl, p⟩
theorem Sat.eq {m : R α} {a : α} (h : Sat m fun x => x = a) : m = .ok a := by
  obtain ⟨_, e, rfl⟩ := h
  exact e
theorem Sat.of {m : R α} {a : α} {P : α → Prop} (e : m = .ok a) (h : P a) : Sat m P := ⟨a, e, h⟩
theorem Sat.ite {c : Prop} [Decidable c] {m n : R α} {P : α → Prop} (h1 : c → Sat m P) (h2 : ¬ c → Sat n P) : Sat (if c then m else n) P := by
  by_cases hc : c
  · rw [if_pos hc]; exact h1 hc
  · rw [if_neg hc]; exact h2 hc
end
/-- as R.ok_bind, by a proof of its own -/
theorem okb {α β : Type} (a : α) (f : α → R β) : R.bind (.ok a) f = f a := id (Eq.refl _)
/-! ### what may be held against one another -/
def fitk (k : Nat) (d : D) : Prop := flat d = true ∧ d.depth ≤ k
theorem fitk.fit {k : Nat} {d : D} (h : fitk k d) (hk : k ≤ 60) : TL.fit d = true := by
  unfold TL.fit
  rw [Bool.and_eq_true]
  exact ⟨h.1, decide_eq_true (Nat.le_trans h.2 hk)⟩
theorem fitk.mono {k l : Nat} {d : D} (h : fitk k d) (hk : k ≤ l) : fitk l d := ⟨h.1, Nat.le_trans h.2 hk⟩
theorem flatAll_of : ∀ {xs : List D}, (∀ x ∈ xs, flat x = true) → flatAll xs = true
  | [], _ => rfl
  | x :: xs, h => by
    rw [flatAll, h x List.mem_cons_self, flatAll_of fun y hy => h y (List.mem_cons_of_mem _ hy)]
    rfl
theorem depthAll_of {k : Nat} : ∀ {xs : List D}, (∀ x ∈ xs, x.depth ≤ k) → PyData.depthAll xs ≤ k
  | [], _ => Nat.zero_le _
  | x :: xs, h => by
    rw [PyData.depthAll]
    exact Nat.max_le.mpr ⟨h x List.mem_cons_self, depthAll_of fun y hy => h y (List.mem_cons_of_mem _ hy)⟩
theorem fitk_int (i : Int) : fitk 0 (.int i) := ⟨rfl, Nat.le_refl _⟩
theorem fitk_bool (i : Bool) : fitk 0 (.bool i) := ⟨rfl, Nat.le_refl _⟩
theorem fitk_none : fitk 0 .none := ⟨rfl, Nat.le_refl _⟩
theorem fitk_str (x : Str) : fitk 0 (.str x) := ⟨rfl, Nat.le_refl _⟩
theorem fitk_list {k : Nat} {xs : List D} (h : ∀ x ∈ xs, fitk k x) : fitk (k + 1) (.list xs) := ⟨flatAll_of fun x hx => (h x hx).1, by
  rw [PyData.depth]
  exact Nat.succ_le_succ (depthAll_of fun x hx => (h x hx).2)⟩
theorem fitk_tuple {k : Nat} {xs : List D} (h : ∀ x ∈ xs, fitk k x) : fitk (k + 1) (.tuple xs) := ⟨flatAll_of fun x hx => (h x hx).1, by
  rw [PyData.depth]
  exact Nat.succ_le_succ (depthAll_of fun x hx => (h x hx).2)⟩
theorem flatAll_mem : ∀ {xs : List D}, flatAll xs = true → ∀ x ∈ xs, flat x = true
  | [], _, _, h => nomatch h
  | y :: ys, h, x, hx => by
    rw [flatAll, Bool.and_eq_true] at h
    rcases List.mem_cons.mp hx with e | e
    · rw [e]; exact h.1
    · exact flatAll_mem h.2 x e
theorem depthAll_mem : ∀ {xs : List D} {k : Nat}, PyData.depthAll xs ≤ k → ∀ x ∈ xs, x.depth ≤ k
  | [], _, _, _, h => nomatch h
  | y :: ys, k, h, x, hx => by
    rw [PyData.depthAll] at h
    rcases List.mem_cons.mp hx with e | e
    · rw [e]; exact Nat.le_trans (Nat.le_max_left _ _) h
    · exact depthAll_mem (Nat.le_trans (Nat.le_max_right _ _) h) x e
theorem fitk_listI {k : Nat} {xs : List D} (h : fitk (k + 1) (.list xs)) : ∀ x ∈ xs, fitk k x := fun x hx => ⟨flatAll_mem h.1 x hx, depthAll_mem (by
  have := h.2
  rw [PyData.depth] at this
  exact Nat.le_of_succ_le_succ this) x hx⟩
theorem fitk_tupleI {k : Nat} {xs : List D} (h : fitk (k + 1) (.tuple xs)) : ∀ x ∈ xs, fitk k x := fun x hx => ⟨flatAll_mem h.1 x hx, depthAll_mem (by
  have := h.2
  rw [PyData.depth] at this
  exact Nat.le_of_succ_le_succ this) x hx⟩
mutual
theorem eqv_refl : ∀ {d : D}, flat d = true → PyData.eqv d d = true
  | .none, _ => rfl
  | .bool b, _ => by cases b <;> rfl
  | .int i, _ => by rw [PyData.eqv]; exact beq_self_eq_true i
  | .str x, _ => by rw [PyData.eqv]; exact beq_self_eq_true x
  | .list xs, h => by rw [PyData.eqv]; exact eqvAll_refl h
  | .tuple xs, h => by rw [PyData.eqv]; exact eqvAll_refl h
  | .dict _, h => nomatch h
theorem eqvAll_refl : ∀ {ds : List D}, flatAll ds = true → PyData.eqvAll ds ds = true
  | [], _ => rfl
  | d :: ds, h => by
    rw [flatAll, Bool.and_eq_true] at h
    rw [PyData.eqvAll, eqv_refl h.1, eqvAll_refl h.2]
    rfl
end
theorem eqv_int (i j : Int) : PyData.eqv (.int i) (.int j) = decide (i = j) := by
  rw [PyData.eqv]
  exact (Bool.beq_eq_decide_eq i j)
theorem pyEq_int (i j : Int) : pyEq (.int i) (.int j) = .ok (.bool (decide (i = j))) := by
  unfold pyEq
  rw [if_pos ⟨(fitk_int i).fit (by decide), (fitk_int j).fit (by decide)⟩, eqv_int]
theorem pyNe_int (i j : Int) : pyNe (.int i) (.int j) = .ok (.bool (!decide (i = j))) := by
  unfold pyNe
  rw [if_pos ⟨(fitk_int i).fit (by decide), (fitk_int j).fit (by decide)⟩, eqv_int]
theorem pyEq_of {x y : D} {k : Nat} (hx : fitk k x) (hy : fitk k y) (hk : k ≤ 60) : pyEq x y = .ok (.bool (PyData.eqv x y)) := by
  unfold pyEq
  rw [if_pos ⟨hx.fit hk, hy.fit hk⟩]
theorem pyNe_of {x y : D} {k : Nat} (hx : fitk k x) (hy : fitk k y) (hk : k ≤ 60) : pyNe x y = .ok (.bool (!PyData.eqv x y)) := by
  unfold pyNe
  rw [if_pos ⟨hx.fit hk, hy.fit hk⟩]
/-- against an empty list, an empty tuple -/
theorem eqv_nil (xs : List D) : PyData.eqv (.list xs) (.list []) = xs.isEmpty := by
  cases xs <;> rfl
theorem eqv_nilT (xs : List D) : PyData.eqv (.tuple xs) (.tuple []) = xs.isEmpty := by
  cases xs <;> rfl
theorem fitk_nil : fitk 1 (.list []) := fitk_list fun _ h => nomatch h
/-! ### whole numbers in a row -/
theorem ints_fit (ns : List Int) : ∀ x ∈ ns.map PyData.int, fitk 0 x := fun x hx => by
  obtain ⟨n, _, rfl⟩ := List.mem_map.mp hx
  exact fitk_int n
theorem isIn_ints (n : Int) : ∀ ns : List Int, isIn (.int n) (ns.map .int) = decide (n ∈ ns)
  | [] => by simp [isIn]
  | m :: ns => by
    have h := isIn_ints n ns
    unfold isIn at h ⊢
    rw [List.map_cons, List.any_cons, h, eqv_int]
    by_cases e : n = m
    · subst e; simp
    · have e2 : m ≠ n := fun z => e z.symm
      simp [e, e2]
theorem pyIn_tuple (n : Int) (ns : List Int) : pyIn (.int n) (.tuple (ns.map .int)) = .ok (.bool (decide (n ∈ ns))) := by
  simp only [pyIn, isIn_ints]
  rw [if_pos ⟨(fitk_int n).fit (by decide), (fitk_tuple (ints_fit ns)).fit (by decide)⟩]
theorem pyIn_list (n : Int) (ns : List Int) : pyIn (.int n) (.list (ns.map .int)) = .ok (.bool (decide (n ∈ ns))) := by
  simp only [pyIn, isIn_ints]
  rw [if_pos ⟨(fitk_int n).fit (by decide), (fitk_list (ints_fit ns)).fit (by decide)⟩]
theorem pyNotIn_tuple (n : Int) (ns : List Int) : pyNotIn (.int n) (.tuple (ns.map .int)) = .ok (.bool (!decide (n ∈ ns))) := by
  simp only [pyNotIn, isIn_ints]
  rw [if_pos ⟨(fitk_int n).fit (by decide), (fitk_tuple (ints_fit ns)).fit (by decide)⟩]
theorem pyNotIn_list (n : Int) (ns : List Int) : pyNotIn (.int n) (.list (ns.map .int)) = .ok (.bool (!decide (n ∈ ns))) := by
  simp only [pyNotIn, isIn_ints]
  rw [if_pos ⟨(fitk_int n).fit (by decide), (fitk_list (ints_fit ns)).fit (by decide)⟩]
/-! ### places -/
theorem pix_list {xs : List D} {n : Nat} {d : D} (h : xs[n]? = some d) : pyIx (.list xs) (.int n) = .ok d := by
  simp only [pyIx, atI_nat h]
theorem pix_tuple {xs : List D} {n : Nat} {d : D} (h : xs[n]? = some d) : pyIx (.tuple xs) (.int n) = .ok d := by
  simp only [pyIx, atI_nat h]
theorem ixO_list {xs : List D} {n : Nat} {d : D} (h : xs[n]? = some d) : ixO (.list xs) (.int n) = .ok d := by
  simp only [ixO, atI_nat h]
/-! ### rows of truths -/
theorem bools_map {α : Type} (p : α → Bool) : ∀ xs : List α, bools (xs.map fun x => PyData.bool (p x)) = some (xs.map p)
  | [] => rfl
  | x :: xs => by
    rw [List.map_cons, bools, bools_map p xs]
    rfl
theorem pyAny_map {α : Type} (p : α → Bool) (xs : List α) : pyAny [.list (xs.map fun x => PyData.bool (p x))] = .ok (.bool (xs.any p)) := by
  simp only [pyAny, bools_map]
  rw [List.any_map]
  rfl
theorem pyAll_map {α : Type} (p : α → Bool) (xs : List α) : pyAll [.list (xs.map fun x => PyData.bool (p x))] = .ok (.bool (xs.all p)) := by
  simp only [pyAll, bools_map]
  rw [List.all_map]
  rfl
/-! ### walks -/
section
variable {α β γ J : Type}
theorem mapR_map {f : D → R D} {g : α → D} {k : α → D} : ∀ {xs : List α}, (∀ x ∈ xs, f (g x) = .ok (k x)) → mapR f (xs.map g) = .ok (xs.map k)
  | [], _ => rfl
  | x :: xs, h => by
    rw [List.map_cons, mapR, h x List.mem_cons_self, nox_ok, R.ok_bind, mapR_map fun y hy => h y (List.mem_cons_of_mem _ hy)]
    rfl
theorem filR_map {p : D → R Bool} {f : D → R D} {g : α → D} {q : α → Bool} {k : α → D} : ∀ {xs : List α}, (∀ x ∈ xs, p (g x) = .ok (q x)) → (∀ x ∈ xs, q x = true → f (g x) = .ok (k x)) → filR p f (xs.map g) = .ok ((xs.filter q).map k)
  | [], _, _ => rfl
  | x :: xs, h1, h2 => by
    have ih := filR_map (fun y hy => h1 y (List.mem_cons_of_mem _ hy)) (fun y hy => h2 y (List.mem_cons_of_mem x hy))
    rw [List.map_cons, filR, h1 x List.mem_cons_self, nox_ok, R.ok_bind]
    cases hq : q x with
    | false =>
      rw [if_neg Bool.false_ne_true, ih, List.filter_cons_of_neg (by rw [hq]; exact Bool.false_ne_true)]
    | true =>
      rw [if_pos rfl, h2 x List.mem_cons_self hq, nox_ok, R.ok_bind, ih, List.filter_cons_of_pos hq]
      rfl
theorem foldR_eq {u : D → R β} {mb : J → β → R J} {g : α → D} {h : α → β} {e : γ → J} {f : γ → α → γ} : ∀ {xs : List α} {s : γ}, (∀ x ∈ xs, u (g x) = .ok (h x)) → (∀ s, ∀ x ∈ xs, mb (e s) (h x) = .ok (e (f s x))) → foldR u mb (xs.map g) (e s) = .ok (e (xs.foldl f s))
  | [], _, _, _ => rfl
  | x :: xs, s, hu, hm => by
    rw [List.map_cons, foldR, hu x List.mem_cons_self, nox_ok, R.ok_bind, hm s x List.mem_cons_self, R.ok_bind, foldR_eq (fun y hy => hu y (List.mem_cons_of_mem _ hy)) fun s y hy => hm s y (List.mem_cons_of_mem _ hy)]
    rfl
theorem foldR_inv {u : D → R β} {mb : J → β → R J} {g : α → D} {h : α → β} {P : Nat → J → Prop} : ∀ {xs : List α} {i : Nat} {j : J}, (∀ x ∈ xs, u (g x) = .ok (h x)) → (∀ k j x, xs[k]? = some x → P (i + k) j → Sat (mb j (h x)) (P (i + k + 1))) → P i j → Sat (foldR u mb (xs.map g) j) (P (i + xs.length))
  | [], i, j, _, _, p => ⟨j, rfl, p⟩
  | x :: xs, i, j, hu, hm, p => by
    rw [List.map_cons, foldR, hu x List.mem_cons_self, nox_ok, R.ok_bind]
    refine Sat.bind (hm 0 j x rfl p) fun j' p' => ?_
    have := foldR_inv (xs := xs) (i := i + 1) (j := j') (P := P) (fun y hy => hu y (List.mem_cons_of_mem _ hy)) (fun k j y hy pj => by
      have := hm (k + 1) j y (by simpa using hy) (by rw [show i + (k + 1) = i + 1 + k by omega]; exact pj)
      rw [show i + (k + 1) = i + 1 + k by omega] at this
      exact this) p'
    rw [List.length_cons, show i + (xs.length + 1) = i + 1 + xs.length by omega]
    exact this
/-- each turn answers, and so -/
theorem mapR_inv {f : D → R D} {g : α → D} {Q : D → Prop} : ∀ {xs : List α}, (∀ x ∈ xs, Sat (f (g x)) Q) → Sat (mapR f (xs.map g)) fun rs => rs.length = xs.length ∧ ∀ d ∈ rs, Q d
  | [], _ => ⟨[], rfl, rfl, fun _ h => nomatch h⟩
  | x :: xs, h => by
    rw [List.map_cons, mapR]
    refine Sat.bind (h x List.mem_cons_self).nox fun t ht => Sat.bind (mapR_inv fun y hy => h y (List.mem_cons_of_mem _ hy)) fun ts ⟨h1, h2⟩ => ⟨_, rfl, by simp [h1], fun d hd => ?_⟩
    rcases List.mem_cons.mp hd with e | e
    · rw [e]; exact ht
    · exact h2 d e
/-- a row of rows -/
theorem rows_of {Q : List Int → Prop} : ∀ {rs : List D}, (∀ d ∈ rs, ∃ h : List Int, d = .tuple (h.map .int) ∧ Q h) → ∃ hs : List (List Int), rs = hs.map (fun h => .tuple (h.map .int)) ∧ ∀ h ∈ hs, Q h
  | [], _ => ⟨[], rfl, fun _ h => nomatch h⟩
  | d :: ds, h => by
    obtain ⟨a, e, q⟩ := h d List.mem_cons_self
    obtain ⟨hs, e2, q2⟩ := rows_of fun y hy => h y (List.mem_cons_of_mem _ hy)
    refine ⟨a :: hs, by rw [e, e2]; rfl, fun y hy => ?_⟩
    rcases List.mem_cons.mp hy with z | z
    · rw [z]; exact q
    · exact q2 y z
/-- if q: found.append(k) -/
theorem foldR_app {u : D → R β} {mb : D → β → R D} {g : α → D} {h : α → β} {q : α → Bool} {k : α → D} {N : Nat} : ∀ {xs : List α} {acc : List D}, (∀ x ∈ xs, u (g x) = .ok (h x)) → (∀ acc : List D, ∀ x ∈ xs, acc.length < N → mb (.list acc) (h x) = .ok (.list (if q x = true then acc ++ [k x] else acc))) → acc.length + xs.length ≤ N → foldR u mb (xs.map g) (.list acc) = .ok (.list (acc ++ (xs.filter q).map k))
  | [], acc, _, _, _ => by simp [foldR]
  | x :: xs, acc, hu, hm, hN => by
    rw [List.length_cons] at hN
    rw [List.map_cons, foldR, hu x List.mem_cons_self, nox_ok, R.ok_bind, hm acc x List.mem_cons_self (by omega), R.ok_bind]
    cases hq : q x with
    | true =>
      rw [if_pos rfl, foldR_app (fun y hy => hu y (List.mem_cons_of_mem _ hy)) (fun a y hy => hm a y (List.mem_cons_of_mem _ hy)) (by rw [List.length_append, List.length_cons, List.length_nil]; omega), List.filter_cons_of_pos hq, List.map_cons, List.append_assoc]
      rfl
    | false =>
      rw [if_neg Bool.false_ne_true, foldR_app (fun y hy => hu y (List.mem_cons_of_mem _ hy)) (fun a y hy => hm a y (List.mem_cons_of_mem _ hy)) (by omega), List.filter_cons_of_neg (by rw [hq]; exact Bool.false_ne_true)]
theorem appD_of {xs : List D} {d : D} (h : xs.length < 16777216) : appD (.list xs) d = .ok (.list (xs ++ [d])) := by
  simp only [appD]
  rw [if_pos (by rw [sizeLine_eq]; exact h)]
/-- a walk that looks for the first that is bad -/
theorem foldO_find {u : D → R β} {mb : Unit → β → R (Oc Unit)} {g : α → D} {h : α → β} {bad : α → Bool} {t b : D} : ∀ {xs : List α}, (∀ x ∈ xs, u (g x) = .ok (h x)) → (∀ x ∈ xs, mb () (h x) = .ok (if bad x = true then Oc.rt t b else Oc.nx ())) → foldO u mb (xs.map g) () = .ok (if xs.any bad = true then Oc.rt t b else Oc.nx ())
  | [], _, _ => rfl
  | x :: xs, hu, hm => by
    rw [List.map_cons, foldO, hu x List.mem_cons_self, nox_ok, R.ok_bind, hm x List.mem_cons_self]
    cases hb : bad x with
    | true => simp [hb]
    | false =>
      rw [if_neg Bool.false_ne_true, R.ok_bind, List.any_cons, hb, Bool.false_or]
      exact foldO_find (fun y hy => hu y (List.mem_cons_of_mem _ hy)) fun y hy => hm y (List.mem_cons_of_mem _ hy)
theorem foldO_nx {u : D → R β} {mb : J → β → R (Oc J)} {g : α → D} {h : α → β} {P : J → Prop} : ∀ {xs : List α} {j : J}, (∀ x ∈ xs, u (g x) = .ok (h x)) → (∀ j, ∀ x ∈ xs, P j → Sat (mb j (h x)) fun o => ∃ j', o = Oc.nx j' ∧ P j') → P j → Sat (foldO u mb (xs.map g) j) fun o => ∃ j', o = Oc.nx j' ∧ P j'
  | [], j, _, _, p => ⟨_, rfl, j, rfl, p⟩
  | x :: xs, j, hu, hm, p => by
    rw [List.map_cons, foldO, hu x List.mem_cons_self, nox_ok, R.ok_bind]
    refine Sat.bind (hm j x List.mem_cons_self p) fun o ⟨j', e, p'⟩ => ?_
    subst e
    exact foldO_nx (fun y hy => hu y (List.mem_cons_of_mem _ hy)) (fun j y hy => hm j y (List.mem_cons_of_mem _ hy)) p'
variable {S : Type}
theorem mapJ_inv {f : D → S → R (D × S)} {g : α → D} {I : Nat → S → Prop} {Q : D → Prop} : ∀ {xs : List α} {i : Nat} {s : S}, (∀ k x s, xs[k]? = some x → I (i + k) s → Sat (f (g x) s) fun p => Q p.1 ∧ I (i + k + 1) p.2) → I i s → Sat (mapJ f (xs.map g) s) fun p => p.1.length = xs.length ∧ (∀ d ∈ p.1, Q d) ∧ I (i + xs.length) p.2
  | [], i, s, _, p => ⟨_, rfl, rfl, (fun _ h => nomatch h), p⟩
  | x :: xs, i, s, h, p => by
    rw [List.map_cons, mapJ]
    refine Sat.bind (h 0 x s rfl p) fun r ⟨hq, hi⟩ => ?_
    refine Sat.bind (mapJ_inv (Q := Q) (xs := xs) (i := i + 1) (fun k y s hy pj => ?_) hi) fun r2 ⟨h1, h2, h3⟩ => ?_
    · have := h (k + 1) y s (by simpa using hy) (by rw [show i + (k + 1) = i + 1 + k by omega]; exact pj)
      rw [show i + (k + 1) = i + 1 + k by omega] at this
      exact this
    · refine ⟨_, rfl, by simp [h1], fun d hd => ?_, by rw [List.length_cons, show i + (xs.length + 1) = i + 1 + xs.length by omega]; exact h3⟩
      rcases List.mem_cons.mp hd with e | e
      · rw [e]; exact hq
      · exact h2 d e
theorem filJ_inv {p : D → S → R (Bool × S)} {f : D → S → R (D × S)} {g k : α → D} {I : S → Prop} : ∀ {xs : List α} {s : S}, (∀ x ∈ xs, ∀ s, I s → Sat (p (g x) s) fun r => I r.2) → (∀ x ∈ xs, ∀ s, I s → Sat (f (g x) s) fun r => r.1 = k x ∧ I r.2) → I s → Sat (filJ p f (xs.map g) s) fun r => ∃ ys : List α, ys.Sublist xs ∧ r.1 = ys.map k ∧ I r.2
  | [], s, _, _, i => ⟨_, rfl, [], List.Sublist.refl _, rfl, i⟩
  | x :: xs, s, hp, hf, i => by
    rw [List.map_cons, filJ]
    refine Sat.bind (hp x List.mem_cons_self s i) fun r i1 => ?_
    have hp' := fun y (hy : y ∈ xs) => hp y (List.mem_cons_of_mem _ hy)
    have hf' := fun y (hy : y ∈ xs) => hf y (List.mem_cons_of_mem _ hy)
    refine Sat.ite (fun _ => ?_) fun _ => ?_
    · refine Sat.bind (hf x List.mem_cons_self r.2 i1) fun r2 ⟨e2, i2⟩ => ?_
      refine Sat.bind (filJ_inv hp' hf' i2) fun r3 ⟨ys, h1, h2, h3⟩ => ?_
      exact ⟨_, rfl, x :: ys, h1.cons₂ x, by rw [List.map_cons, ← e2, ← h2], h3⟩
    · exact (filJ_inv hp' hf' i1).mono fun r3 ⟨ys, h1, h2, h3⟩ => ⟨ys, h1.cons x, h2, h3⟩
end
theorem upto0 (n : Nat) : upto 0 n = (List.range n).map fun k : Nat => .int k := by
  unfold upto
  exact List.map_congr_left fun k _ => by rw [Int.zero_add]
theorem pyRange1 (j : Int) (h : 0 ≤ j) (h2 : j ≤ 16777216) : pyRange [.int j] = .ok ((List.range j.toNat).map fun k : Nat => .int k) := by
  simp only [pyRange, upto0]
  rw [if_pos ⟨by omega, h2⟩]
theorem rgL0 (j : Int) (h : 0 ≤ j) (h2 : j ≤ 16777216) : rgL (0, j) = .ok ((List.range j.toNat).map fun k : Nat => .int k) := by
  unfold rgL
  have : rgOk 0 j = true := decide_eq_true ⟨by omega, by omega, by omega, by omega, by omega⟩
  simp only [this, if_true, Int.sub_zero, upto0]
theorem pySet_ints (ns : List Int) (h : ns.length < 64) : pySortedSet (.list (ns.map .int)) = .ok (.list ((setN' ns).map .int)) := by
  simp only [pySortedSet, setLD, nums_map]
  rw [if_pos h]
theorem pySet_intsT (ns : List Int) (h : ns.length < 64) : pySortedSet (.tuple (ns.map .int)) = .ok (.list ((setN' ns).map .int)) := by
  simp only [pySortedSet, setLD, nums_map]
  rw [if_pos h]
theorem pyMul_of {i j : Int} {a b : Nat} (ha : i.natAbs < 2 ^ a) (hb : j.natAbs < 2 ^ b) (h : a + b ≤ 134217728) : pyMul (.int i) (.int j) = .ok (.int (i * j)) := by
  simp only [pyMul]
  rw [if_pos (mulx_ok ha hb h)]
theorem pyDiv_of {i j : Int} (h : 0 < j) (h2 : j < 1073741824) : pyDiv (.int i) (.int j) = .ok (.int (i / j)) := by
  simp only [pyDiv]
  rw [if_pos ⟨h, h2⟩]
theorem pyMod_of {i j : Int} (h : 0 < j) : pyMod (.int i) (.int j) = .ok (.int (i % j)) := by
  simp only [pyMod]
  rw [if_pos h]
/-! ### sorted, whole numbers -/
theorem alike_int (i j : Int) : PySem.W.alike (.int i) (.int j) = true := by first | rfl | simp [PySem.W.alike]
theorem sortable_ints (ns : List Int) : sortable (ns.map .int) = true := by
  unfold sortable
  simp only [Bool.and_eq_true, Bool.or_eq_true, List.all_eq_true]
  refine ⟨⟨fun d hd e he => ?_, fun d hd => (ints_fit ns d hd).fit (by decide)⟩, .inr fun d hd => ?_⟩
  · obtain ⟨i, _, rfl⟩ := List.mem_map.mp hd
    obtain ⟨j, _, rfl⟩ := List.mem_map.mp he
    exact alike_int i j
  · obtain ⟨i, _, rfl⟩ := List.mem_map.mp hd
    rfl
theorem ints_of {rs : List D} (h : ∀ d ∈ rs, ∃ i : Int, d = .int i) : ∃ ms : List Int, rs = ms.map .int := by
  induction rs with
  | nil => exact ⟨[], rfl⟩
  | cons d ds ih =>
    obtain ⟨i, rfl⟩ := h d List.mem_cons_self
    obtain ⟨ms, e⟩ := ih fun y hy => h y (List.mem_cons_of_mem _ hy)
    exact ⟨i :: ms, by rw [e]; rfl⟩
theorem pySorted_ints (ns : List Int) : ∃ ms : List Int, pySorted [.list (ns.map .int)] = .ok (.list (ms.map .int)) ∧ ms.length = ns.length := by
  obtain ⟨ms, e⟩ := ints_of (rs := sortD (ns.map .int)) fun d hd => by
    have := (List.mergeSort_perm (ns.map PyData.int) (PySem.W.dataLe false fun d => d)).mem_iff.mp hd
    obtain ⟨i, _, rfl⟩ := List.mem_map.mp this
    exact ⟨i, rfl⟩
  refine ⟨ms, ?_, ?_⟩
  · simp only [pySorted]
    rw [if_pos (sortable_ints ns), e]
  · have h1 := congrArg List.length e
    rw [List.length_map] at h1
    rw [← h1]
    unfold sortD
    rw [List.length_mergeSort, List.length_map]
theorem zip_ll (xs ys : List D) : pyZip [.list xs, .list ys] = .ok (pairs xs ys) := rfl
theorem zip_tt (xs ys : List D) : pyZip [.tuple xs, .tuple ys] = .ok (pairs xs ys) := rfl
theorem zip_lt (xs ys : List D) : pyZip [.list xs, .tuple ys] = .ok (pairs xs ys) := rfl
theorem zip_tl (xs ys : List D) : pyZip [.tuple xs, .list ys] = .ok (pairs xs ys) := rfl
end TP
/-! the plain layer, 2: natural numbers, rows of them; what the mirrors' words answer -/
namespace TP
open PySem PySem.Spec PyProof.Rows L2 TL
def nD (n : Nat) : D := .int (n : Int)
def tN (xs : List Nat) : D := .tuple (xs.map nD)
def lN (xs : List Nat) : D := .list (xs.map nD)
theorem nD_def (n : Nat) : PyData.int (n : Int) = nD n := rfl
theorem int_lit (n : Nat) : PyData.int (no_index (@OfNat.ofNat Int n _)) = nD (@OfNat.ofNat Nat n _) := id (Eq.refl _)
theorem int_ofNat (n : Nat) : PyData.int (Int.ofNat n) = nD n := rfl
theorem tN_def (xs : List Nat) : PyData.tuple (xs.map nD) = tN xs := id (Eq.refl _)
theorem nD_inj {a b : Nat} (h : nD a = nD b) : a = b := by
  unfold nD at h
  injection h with h
  omega
theorem map_nD (xs : List Nat) : xs.map nD = (xs.map fun n : Nat => (n : Int)).map PyData.int := by rw [List.map_map]; rfl
/-! ### fit, eqv -/
/-- a row of things that may be held against one another, alike just where they are one -/
structure EqD {α : Type} (k : Nat) (f : α → D) : Prop where
  fit : ∀ a, fitk k (f a)
  eqv : ∀ a b, PyData.eqv (f a) (f b) = true ↔ a = b
theorem EqD.mono {α : Type} {f : α → D} {k l : Nat} (h : EqD k f) (hk : k ≤ l) : EqD l f := ⟨fun a => (h.fit a).mono hk, h.eqv⟩
theorem eqd_nD : EqD 0 nD := ⟨fun a => fitk_int _, fun a b => by
  unfold nD
  rw [eqv_int, decide_eq_true_iff]
  omega⟩
theorem eqvAll_map {α : Type} {f : α → D} (h : ∀ a b, PyData.eqv (f a) (f b) = true ↔ a = b) : ∀ xs ys : List α, PyData.eqvAll (xs.map f) (ys.map f) = true ↔ xs = ys
  | [], [] => by simp [PyData.eqvAll]
  | [], y :: ys => by simp [PyData.eqvAll]
  | x :: xs, [] => by simp [PyData.eqvAll]
  | x :: xs, y :: ys => by
    rw [List.map_cons, List.map_cons, PyData.eqvAll, Bool.and_eq_true, h, eqvAll_map h xs ys, List.cons.injEq]
theorem EqD.tup {α : Type} {f : α → D} {k : Nat} (h : EqD k f) : EqD (k + 1) fun xs : List α => .tuple (xs.map f) := ⟨fun xs => fitk_tuple fun x hx => by
  obtain ⟨a, _, rfl⟩ := List.mem_map.mp hx
  exact h.fit a, fun xs ys => by rw [PyData.eqv]; exact eqvAll_map h.eqv xs ys⟩
theorem EqD.lst {α : Type} {f : α → D} {k : Nat} (h : EqD k f) : EqD (k + 1) fun xs : List α => .list (xs.map f) := ⟨fun xs => fitk_list fun x hx => by
  obtain ⟨a, _, rfl⟩ := List.mem_map.mp hx
  exact h.fit a, fun xs ys => by rw [PyData.eqv]; exact eqvAll_map h.eqv xs ys⟩
theorem eqd_tN : EqD 1 tN := eqd_nD.tup
theorem eqd_lN : EqD 1 lN := eqd_nD.lst
theorem fitk2 {k l : Nat} {x y : D} (h1 : fitk k x) (h2 : fitk l y) (hk : k ≤ 60) (hl : l ≤ 60) : TL.fit x = true ∧ TL.fit y = true := ⟨h1.fit hk, h2.fit hl⟩
section
variable {α : Type} {f : α → D} {k : Nat}
theorem EqD.eq (h : EqD k f) (hk : k ≤ 60) (a b : α) [Decidable (a = b)] : pyEq (f a) (f b) = .ok (.bool (decide (a = b))) := by
  unfold pyEq
  rw [if_pos (fitk2 (h.fit a) (h.fit b) hk hk)]
  congr 2
  rw [Bool.eq_iff_iff, decide_eq_true_iff]
  exact h.eqv a b
theorem EqD.ne (h : EqD k f) (hk : k ≤ 60) (a b : α) [Decidable (a = b)] : pyNe (f a) (f b) = .ok (.bool (decide (a ≠ b))) := by
  unfold pyNe
  rw [if_pos (fitk2 (h.fit a) (h.fit b) hk hk)]
  congr 2
  rw [Bool.eq_iff_iff, decide_eq_true_iff, Bool.not_eq_true', ← Bool.not_eq_true, h.eqv]
theorem EqD.isIn (h : EqD k f) (a : α) (xs : List α) [Decidable (a ∈ xs)] : isIn (f a) (xs.map f) = decide (a ∈ xs) := by
  rw [Bool.eq_iff_iff, decide_eq_true_iff]
  unfold TL.isIn
  rw [List.any_map, List.any_eq_true]
  constructor
  · rintro ⟨x, hx, e⟩
    rw [← (h.eqv x a).mp e]
    exact hx
  · exact fun hx => ⟨a, hx, (h.eqv a a).mpr rfl⟩
theorem EqD.inL (h : EqD k f) (hk : k + 1 ≤ 60) (a : α) (xs : List α) [Decidable (a ∈ xs)] : pyIn (f a) (.list (xs.map f)) = .ok (.bool (decide (a ∈ xs))) := by
  simp only [pyIn]
  rw [if_pos (fitk2 (h.fit a) (h.lst.fit xs) (by omega) hk), h.isIn]
theorem EqD.inT (h : EqD k f) (hk : k + 1 ≤ 60) (a : α) (xs : List α) [Decidable (a ∈ xs)] : pyIn (f a) (.tuple (xs.map f)) = .ok (.bool (decide (a ∈ xs))) := by
  simp only [pyIn]
  rw [if_pos (fitk2 (h.fit a) (h.tup.fit xs) (by omega) hk), h.isIn]
theorem EqD.ninL (h : EqD k f) (hk : k + 1 ≤ 60) (a : α) (xs : List α) [Decidable (a ∈ xs)] : pyNotIn (f a) (.list (xs.map f)) = .ok (.bool (decide (a ∉ xs))) := by
  simp only [pyNotIn]
  rw [if_pos (fitk2 (h.fit a) (h.lst.fit xs) (by omega) hk), h.isIn, decide_not]
theorem EqD.ninT (h : EqD k f) (hk : k + 1 ≤ 60) (a : α) (xs : List α) [Decidable (a ∈ xs)] : pyNotIn (f a) (.tuple (xs.map f)) = .ok (.bool (decide (a ∉ xs))) := by
  simp only [pyNotIn]
  rw [if_pos (fitk2 (h.fit a) (h.tup.fit xs) (by omega) hk), h.isIn, decide_not]
end
/-- held against an empty list, an empty tuple -/
theorem eq_nilL {k : Nat} {xs : List D} (h : ∀ x ∈ xs, fitk k x) (hk : k + 1 ≤ 60) : pyEq (.list xs) (.list []) = .ok (.bool (decide (xs = []))) := by
  rw [pyEq_of (fitk_list h) (fitk_nil.mono (by omega)) hk, eqv_nil]
  cases xs <;> rfl
theorem ne_nilL {k : Nat} {xs : List D} (h : ∀ x ∈ xs, fitk k x) (hk : k + 1 ≤ 60) : pyNe (.list xs) (.list []) = .ok (.bool (decide (xs ≠ []))) := by
  rw [pyNe_of (fitk_list h) (fitk_nil.mono (by omega)) hk, eqv_nil]
  cases xs <;> rfl
theorem fitk_nilT : fitk 1 (.tuple []) := fitk_tuple fun _ h => nomatch h
theorem eq_nilT {k : Nat} {xs : List D} (h : ∀ x ∈ xs, fitk k x) (hk : k + 1 ≤ 60) : pyEq (.tuple xs) (.tuple []) = .ok (.bool (decide (xs = []))) := by
  rw [pyEq_of (fitk_tuple h) (fitk_nilT.mono (by omega)) hk, eqv_nilT]
  cases xs <;> rfl
theorem ne_nilT {k : Nat} {xs : List D} (h : ∀ x ∈ xs, fitk k x) (hk : k + 1 ≤ 60) : pyNe (.tuple xs) (.tuple []) = .ok (.bool (decide (xs ≠ []))) := by
  rw [pyNe_of (fitk_tuple h) (fitk_nilT.mono (by omega)) hk, eqv_nilT]
  cases xs <;> rfl
theorem fit_map {α : Type} {f : α → D} {k : Nat} (h : EqD k f) (xs : List α) : ∀ x ∈ xs.map f, fitk k x := fun x hx => by
  obtain ⟨a, _, rfl⟩ := List.mem_map.mp hx
  exact h.fit a
/-! ### whole numbers -/
@[simp] theorem eqN (a b : Nat) : pyEq (nD a) (nD b) = .ok (.bool (decide (a = b))) := eqd_nD.eq (by decide) a b
@[simp] theorem neN (a b : Nat) : pyNe (nD a) (nD b) = .ok (.bool (decide (a ≠ b))) := eqd_nD.ne (by decide) a b
@[simp] theorem ltN (a b : Nat) : pyLt (nD a) (nD b) = .ok (.bool (decide (a < b))) := by simp [pyLt, nD]
@[simp] theorem leN (a b : Nat) : pyLe (nD a) (nD b) = .ok (.bool (decide (a ≤ b))) := by simp [pyLe, nD]
@[simp] theorem gtN (a b : Nat) : pyGt (nD a) (nD b) = .ok (.bool (decide (b < a))) := by simp [pyGt, nD]
@[simp] theorem geN (a b : Nat) : pyGe (nD a) (nD b) = .ok (.bool (decide (b ≤ a))) := by simp [pyGe, nD]
@[simp] theorem addN (a b : Nat) : pyAdd (nD a) (nD b) = .ok (nD (a + b)) := by simp [pyAdd, nD]
theorem subN {a b : Nat} (h : b ≤ a) : pySub (nD a) (nD b) = .ok (nD (a - b)) := by simp [pySub, nD]; omega
theorem modN {a b : Nat} (h : 0 < b) : pyMod (nD a) (nD b) = .ok (nD (a % b)) := by
  unfold nD
  rw [pyMod_of (by omega)]
  rfl
theorem divN {a b : Nat} (h : 0 < b) (h2 : b < 1073741824) : pyDiv (nD a) (nD b) = .ok (nD (a / b)) := by
  unfold nD
  rw [pyDiv_of (by omega) (by omega)]
  rfl
theorem mulN {a b : Nat} (ha : a < 2 ^ 64) (hb : b < 2 ^ 64) : pyMul (nD a) (nD b) = .ok (nD (a * b)) := by
  unfold nD
  rw [pyMul_of (a := 64) (b := 64) (by omega) (by omega) (by decide)]
  simp
@[simp] theorem minN (a b : Nat) : pyMin [nD a, nD b] = .ok (nD (min a b)) := by
  simp only [nD, pyMin]
  congr 2
  split <;> omega
@[simp] theorem maxN (a b : Nat) : pyMax [nD a, nD b] = .ok (nD (max a b)) := by
  simp only [nD, pyMax]
  congr 2
  split <;> omega
@[simp] theorem truN (a : Nat) : tru (nD a) = .ok (decide (a ≠ 0)) := by
  simp only [nD, tru]
  congr 1
  rw [Bool.eq_iff_iff]
  simp
@[simp] theorem truB (b : Bool) : tru (.bool b) = .ok b := rfl
@[simp] theorem asBB (b : Bool) : asB (.bool b) = .ok b := rfl
@[simp] theorem asIntN (n : Nat) : asInt (nD n) = .ok (n : Int) := rfl
@[simp] theorem partN (n : Nat) : partD (nD n) = .ok (some (n : Int)) := rfl
@[simp] theorem noxo {α : Type} (a : α) : nox (.ok a) = .ok a := id (Eq.refl _)
theorem nox_bind {α β : Type} (m : R α) (f : α → R β) : nox (m.bind f) = (nox m).bind fun a => nox (f a) := by cases m <;> rfl
theorem nox_nox {α : Type} (m : R α) : nox (nox m) = nox m := by cases m <;> rfl
theorem nox_ite {α : Type} (c : Prop) [Decidable c] (m n : R α) : nox (if c then m else n) = if c then nox m else nox n := by split <;> rfl
theorem nox_no' {α : Type} : nox (.no : R α) = .no := id (Eq.refl _)
theorem bind_as {α β γ : Type} (m : R α) (f : α → R β) (g : β → R γ) : (m.bind f).bind g = m.bind fun a => (f a).bind g := by cases m <;> rfl
theorem ite_bind {α β : Type} (c : Prop) [Decidable c] (m n : R α) (f : α → R β) : (if c then m else n).bind f = if c then m.bind f else n.bind f := by split <;> rfl
@[simp] theorem nlN (n : Nat) : noL (nD n) = true := id (Eq.refl _)
theorem nl_okN (n : Nat) : nl (.ok (nD n)) = .ok (nD n) := id (Eq.refl _)
theorem noLAll_map {α : Type} {f : α → D} (h : ∀ a, noL (f a) = true) : ∀ xs : List α, noLAll (xs.map f) = true
  | [] => rfl
  | x :: xs => by rw [List.map_cons, noLAll, h x, noLAll_map h xs]; rfl
@[simp] theorem nltN (xs : List Nat) : noL (tN xs) = true := by
  unfold tN
  rw [noL]
  exact noLAll_map nlN xs
theorem nl_ok {d : D} (h : noL d = true) : nl (.ok d) = .ok d := by
  unfold nl
  rw [okb, if_pos h]
theorem nl_bool (b : Bool) : nl (.ok (.bool b)) = .ok (.bool b) := id (Eq.refl _)
theorem nl_tN (xs : List Nat) : nl (.ok (tN xs)) = .ok (tN xs) := nl_ok (nltN xs)
theorem nf_ok (xs : List Nat) : nf (.ok (.list (xs.map nD))) = .ok (.list (xs.map nD)) := by
  unfold nf
  rw [okb, if_pos (by rw [itemsFlat]; exact noLAll_map nlN xs)]
@[simp] theorem lstD_ok (xs : List D) : lstD (.list xs) = .ok () := id (Eq.refl _)
/-! ### rows -/
@[simp] theorem items_l (xs : List D) : items (.list xs) = .ok xs := id (Eq.refl _)
@[simp] theorem items_t (xs : List D) : items (.tuple xs) = .ok xs := id (Eq.refl _)
@[simp] theorem items_tN (xs : List Nat) : items (tN xs) = .ok (xs.map nD) := id (Eq.refl _)
@[simp] theorem len_l (xs : List D) : TL.pyLen [.list xs] = .ok (nD xs.length) := id (Eq.refl _)
@[simp] theorem len_t (xs : List D) : TL.pyLen [.tuple xs] = .ok (nD xs.length) := id (Eq.refl _)
@[simp] theorem len_tN (xs : List Nat) : TL.pyLen [tN xs] = .ok (nD xs.length) := by
  unfold tN
  rw [len_t, List.length_map]
@[simp] theorem tuple_l (xs : List D) : pyTuple [.list xs] = .ok (.tuple xs) := id (Eq.refl _)
@[simp] theorem tuple_t (xs : List D) : pyTuple [.tuple xs] = .ok (.tuple xs) := id (Eq.refl _)
@[simp] theorem list_l (xs : List D) : pyList [.list xs] = .ok (.list xs) := id (Eq.refl _)
@[simp] theorem list_t (xs : List D) : pyList [.tuple xs] = .ok (.list xs) := id (Eq.refl _)
@[simp] theorem list_tN (xs : List Nat) : pyList [tN xs] = .ok (.list (xs.map nD)) := id (Eq.refl _)
@[simp] theorem ix0 (a : D) (xs : List D) : pyIx (.tuple (a :: xs)) (nD 0) = .ok a := pix_tuple (n := 0) rfl
@[simp] theorem ix1 (a b : D) (xs : List D) : pyIx (.tuple (a :: b :: xs)) (nD 1) = .ok b := pix_tuple (n := 1) rfl
@[simp] theorem ix2 (a b c : D) (xs : List D) : pyIx (.tuple (a :: b :: c :: xs)) (nD 2) = .ok c := pix_tuple (n := 2) rfl
@[simp] theorem ix0l (a : D) (xs : List D) : pyIx (.list (a :: xs)) (nD 0) = .ok a := pix_list (n := 0) rfl
@[simp] theorem ix1l (a b : D) (xs : List D) : pyIx (.list (a :: b :: xs)) (nD 1) = .ok b := pix_list (n := 1) rfl
theorem ixT {xs : List D} {n : Nat} (h : n < xs.length) : pyIx (.tuple xs) (nD n) = .ok xs[n] := pix_tuple (List.getElem?_eq_getElem h)
theorem ixL {xs : List D} {n : Nat} (h : n < xs.length) : pyIx (.list xs) (nD n) = .ok xs[n] := pix_list (List.getElem?_eq_getElem h)
theorem getD_map {α : Type} {f : α → D} {xs : List α} {n : Nat} (h : n < xs.length) (z : α) : (xs.map f)[n]? = some (f (xs.getD n z)) := by
  rw [List.getElem?_map, List.getElem?_eq_getElem h, List.getD_eq_getElem?_getD, List.getElem?_eq_getElem h]
  rfl
theorem ixTm {α : Type} {f : α → D} {xs : List α} {n : Nat} (z : α) (h : n < xs.length) : pyIx (.tuple (xs.map f)) (nD n) = .ok (f (xs.getD n z)) := pix_tuple (getD_map h z)
theorem ixLm {α : Type} {f : α → D} {xs : List α} {n : Nat} (z : α) (h : n < xs.length) : pyIx (.list (xs.map f)) (nD n) = .ok (f (xs.getD n z)) := pix_list (getD_map h z)
theorem ixtN {xs : List Nat} {n : Nat} (h : n < xs.length) : pyIx (tN xs) (nD n) = .ok (nD (xs.getD n 0)) := ixTm 0 h
theorem ixOm {α : Type} {f : α → D} {xs : List α} {n : Nat} (z : α) (h : n < xs.length) : ixO (.list (xs.map f)) (nD n) = .ok (f (xs.getD n z)) := ixO_list (getD_map h z)
@[simp] theorem inLN (a : Nat) (xs : List Nat) : pyIn (nD a) (.list (xs.map nD)) = .ok (.bool (decide (a ∈ xs))) := eqd_nD.inL (by decide) a xs
@[simp] theorem inTN (a : Nat) (xs : List Nat) : pyIn (nD a) (tN xs) = .ok (.bool (decide (a ∈ xs))) := eqd_nD.inT (by decide) a xs
@[simp] theorem ninLN (a : Nat) (xs : List Nat) : pyNotIn (nD a) (.list (xs.map nD)) = .ok (.bool (decide (a ∉ xs))) := eqd_nD.ninL (by decide) a xs
@[simp] theorem ninTN (a : Nat) (xs : List Nat) : pyNotIn (nD a) (tN xs) = .ok (.bool (decide (a ∉ xs))) := eqd_nD.ninT (by decide) a xs
@[simp] theorem inLT (a : List Nat) (xs : List (List Nat)) : pyIn (tN a) (.list (xs.map tN)) = .ok (.bool (decide (a ∈ xs))) := eqd_tN.inL (by decide) a xs
@[simp] theorem inTT (a : List Nat) (xs : List (List Nat)) : pyIn (tN a) (.tuple (xs.map tN)) = .ok (.bool (decide (a ∈ xs))) := eqd_tN.inT (by decide) a xs
@[simp] theorem ninLT (a : List Nat) (xs : List (List Nat)) : pyNotIn (tN a) (.list (xs.map tN)) = .ok (.bool (decide (a ∉ xs))) := eqd_tN.ninL (by decide) a xs
@[simp] theorem ninTT (a : List Nat) (xs : List (List Nat)) : pyNotIn (tN a) (.tuple (xs.map tN)) = .ok (.bool (decide (a ∉ xs))) := eqd_tN.ninT (by decide) a xs
@[simp] theorem eqT (a b : List Nat) : pyEq (tN a) (tN b) = .ok (.bool (decide (a = b))) := eqd_tN.eq (by decide) a b
@[simp] theorem neT (a b : List Nat) : pyNe (tN a) (tN b) = .ok (.bool (decide (a ≠ b))) := eqd_tN.ne (by decide) a b
@[simp] theorem eqT0 (a : List Nat) : pyEq (tN a) (.tuple []) = .ok (.bool (decide (a = []))) := eqT a []
@[simp] theorem neT0 (a : List Nat) : pyNe (tN a) (.tuple []) = .ok (.bool (decide (a ≠ []))) := neT a []
@[simp] theorem eqL0 (xs : List Nat) : pyEq (.list (xs.map nD)) (.list []) = .ok (.bool (decide (xs = []))) := by
  rw [eq_nilL (fit_map eqd_nD xs) (by decide)]
  simp
@[simp] theorem neL0 (xs : List Nat) : pyNe (.list (xs.map nD)) (.list []) = .ok (.bool (decide (xs ≠ []))) := by
  rw [ne_nilL (fit_map eqd_nD xs) (by decide)]
  simp
@[simp] theorem unp2_t (a b : D) : unp2 (.tuple [a, b]) = .ok (a, b) := id (Eq.refl _)
@[simp] theorem unp3_t (a b c : D) : unp3 (.tuple [a, b, c]) = .ok (a, b, c) := id (Eq.refl _)
theorem range1 {n : Nat} (h : n ≤ 16777216) : pyRange [nD n] = .ok ((List.range n).map nD) := by
  unfold nD
  rw [pyRange1 (n : Int) (by omega) (by omega)]
  rfl
theorem rgl1 {n : Nat} (h : n ≤ 16777216) : rgL (0, (n : Int)) = .ok ((List.range n).map nD) := by
  rw [rgL0 (n : Int) (by omega) (by omega)]
  rfl
theorem addT {xs ys : List D} (h : xs.length + ys.length ≤ 16777216) : pyAdd (.tuple xs) (.tuple ys) = .ok (.tuple (xs ++ ys)) := by
  simp only [pyAdd]
  rw [if_pos (by rw [sizeLine_eq]; exact h)]
theorem addL {xs ys : List D} (h : xs.length + ys.length ≤ 16777216) : pyAdd (.list xs) (.list ys) = .ok (.list (xs ++ ys)) := by
  simp only [pyAdd]
  rw [if_pos (by rw [sizeLine_eq]; exact h)]
theorem addtN {xs ys : List Nat} (h : xs.length + ys.length ≤ 16777216) : pyAdd (tN xs) (tN ys) = .ok (tN (xs ++ ys)) := by
  unfold tN
  rw [addT (by simpa using h), List.map_append]
theorem extD_of {xs ys : List D} (h : xs.length + ys.length ≤ 16777216) : extD (.list xs) (.list ys) = .ok (.list (xs ++ ys)) := by
  simp only [extD]
  rw [if_pos (by rw [sizeLine_eq]; exact h)]
/-! ### slices -/
theorem slTo {xs : List D} {n : Nat} : TL.cutD xs none (some (n : Int)) = xs.take n := by
  unfold TL.cutD
  rw [HT.sIx_none, HT.sIx_nat, List.drop_zero, Nat.sub_zero]
  rcases Nat.le_total n xs.length with h | h
  · rw [Nat.min_eq_left h]
  · rw [Nat.min_eq_right h, List.take_length, List.take_of_length_le h]
theorem slFrom {xs : List D} {n : Nat} : TL.cutD xs (some (n : Int)) none = xs.drop n := by
  unfold TL.cutD
  rw [HT.sIx_none, HT.sIx_nat]
  rcases Nat.le_total n xs.length with h | h
  · rw [Nat.min_eq_left h, ← List.length_drop, List.take_length]
  · rw [Nat.min_eq_right h, Nat.sub_self, List.take_zero, List.drop_of_length_le h]
@[simp] theorem sl_to (xs : List D) (n : Nat) : pySl (.tuple xs) none (some (n : Int)) = .ok (.tuple (xs.take n)) := by rw [pySl, slTo]
@[simp] theorem sl_from (xs : List D) (n : Nat) : pySl (.tuple xs) (some (n : Int)) none = .ok (.tuple (xs.drop n)) := by rw [pySl, slFrom]
@[simp] theorem sl_tol (xs : List D) (n : Nat) : pySl (.list xs) none (some (n : Int)) = .ok (.list (xs.take n)) := by rw [pySl, slTo]
@[simp] theorem sl_froml (xs : List D) (n : Nat) : pySl (.list xs) (some (n : Int)) none = .ok (.list (xs.drop n)) := by rw [pySl, slFrom]
@[simp] theorem sl_totN (xs : List Nat) (n : Nat) : pySl (tN xs) none (some (n : Int)) = .ok (tN (xs.take n)) := by
  unfold tN
  rw [sl_to, List.map_take]
@[simp] theorem sl_fromtN (xs : List Nat) (n : Nat) : pySl (tN xs) (some (n : Int)) none = .ok (tN (xs.drop n)) := by
  unfold tN
  rw [sl_from, List.map_drop]
/-! ### sorted -/
def sortN (xs : List Nat) : List Nat := xs.mergeSort fun a b => decide (a ≤ b)
theorem sortN_perm (xs : List Nat) : (sortN xs).Perm xs := List.mergeSort_perm _ _
theorem sortN_mem {n : Nat} {xs : List Nat} : n ∈ sortN xs ↔ n ∈ xs := (sortN_perm xs).mem_iff
theorem sortN_length (xs : List Nat) : (sortN xs).length = xs.length := (sortN_perm xs).length_eq
theorem sortN_le (xs : List Nat) : (sortN xs).Pairwise (· ≤ ·) := by
  have := List.pairwise_mergeSort (le := fun a b : Nat => decide (a ≤ b)) (fun a b c h1 h2 => by simp at *; omega) (fun a b => by simp; omega) xs
  exact this.imp fun h => by simpa using h
theorem sortN_of {xs : List Nat} (h : xs.Pairwise (· ≤ ·)) : sortN xs = xs := List.mergeSort_of_pairwise (h.imp fun h => by simpa using h)
theorem sortN_lt {xs : List Nat} (h : xs.Nodup) : (sortN xs).Pairwise (· < ·) := by
  have h1 := sortN_le xs
  have h2 : (sortN xs).Nodup := (sortN_perm xs).nodup_iff.mpr h
  exact (h1.and h2).imp fun h => by omega
@[simp] theorem sortedN (xs : List Nat) : pySorted [.list (xs.map nD)] = .ok (.list ((sortN xs).map nD)) := by
  simp only [pySorted]
  rw [if_pos (by rw [map_nD]; exact sortable_ints _)]
  congr 2
  unfold sortD sortN
  refine (List.map_mergeSort fun a _ b _ => ?_).symm
  have := congrFun (congrFun (PySem.W.dataLe_int fun n : Nat => (n : Int)) a) b
  have h2 : PySem.W.dataLe false (fun d => d) (nD a) (nD b) = PySem.W.dataLe false (fun b : Nat => PyData.int (b : Int)) a b := rfl
  rw [h2, this]
  rw [Bool.eq_iff_iff]
  simp
/-- sorted(set(..)) -/
def setS (xs : List Nat) : List Nat := (setN' (xs.map fun n : Nat => (n : Int))).map Int.toNat
theorem setS_mem {n : Nat} {xs : List Nat} : n ∈ setS xs ↔ n ∈ xs := by
  unfold setS
  rw [List.mem_map]
  constructor
  · rintro ⟨i, hi, rfl⟩
    obtain ⟨m, hm, rfl⟩ := List.mem_map.mp (setN'_mem.mp hi)
    simpa using hm
  · exact fun h => ⟨(n : Int), setN'_mem.mpr (List.mem_map.mpr ⟨n, h, rfl⟩), by simp⟩
theorem setS_up {xs : List Nat} : (setS xs).Pairwise (· < ·) := by
  unfold setS
  rw [List.pairwise_map]
  refine (List.Pairwise.and_mem.mp (setN'_up (ns := xs.map fun n : Nat => (n : Int)))).imp ?_
  rintro a b ⟨ha, hb, h⟩
  obtain ⟨m, _, rfl⟩ := List.mem_map.mp (setN'_mem.mp ha)
  obtain ⟨n, _, rfl⟩ := List.mem_map.mp (setN'_mem.mp hb)
  omega
theorem setS_is (xs : List Nat) (h : xs.length < 64) : pySortedSet (.list (xs.map nD)) = .ok (.list ((setS xs).map nD)) := by
  rw [map_nD, pySet_ints _ (by simpa using h)]
  congr 2
  unfold setS
  rw [List.map_map]
  refine (List.map_congr_left fun i hi => ?_)
  obtain ⟨m, _, rfl⟩ := List.mem_map.mp (setN'_mem.mp hi)
  rfl
/-- two rising rows of the same things -/
theorem rise_eq : ∀ {xs ys : List Nat}, xs.Pairwise (· < ·) → ys.Pairwise (· < ·) → (∀ k, k ∈ xs ↔ k ∈ ys) → xs = ys
  | [], [], _, _, _ => rfl
  | [], y :: ys, _, _, h => absurd ((h y).mpr List.mem_cons_self) (by simp)
  | x :: xs, [], _, _, h => absurd ((h x).mp List.mem_cons_self) (by simp)
  | x :: xs, y :: ys, h1, h2, h => by
    rw [List.pairwise_cons] at h1 h2
    have e : x = y := by
      have a := (h x).mp List.mem_cons_self
      have b := (h y).mpr List.mem_cons_self
      rcases List.mem_cons.mp a with e | a
      · exact e
      · rcases List.mem_cons.mp b with e | b
        · exact e.symm
        · have := h1.1 y b
          have := h2.1 x a
          omega
    subst e
    rw [rise_eq h1.2 h2.2 fun k => ⟨fun hk => ?_, fun hk => ?_⟩]
    · rcases List.mem_cons.mp ((h k).mp (List.mem_cons_of_mem _ hk)) with e | e
      · have := h1.1 k hk; omega
      · exact e
    · rcases List.mem_cons.mp ((h k).mpr (List.mem_cons_of_mem _ hk)) with e | e
      · have := h2.1 k hk; omega
      · exact e
/-! ### while -/
section
variable {B J : Type}
/-- a while: an invariant, a measure -/
theorem whX_sat {mc : J → R B} {vb : B → Bool} {mb : J → B → R (Oc J)} {out : J → B → J} {I : J → Prop} {μ : J → Nat} {P : Oc J → Prop}
    (hstep : ∀ j, I j → Sat (mc j) fun b => if vb b = true then Sat (mb j b) (fun o => match o with
      | .nx j' => I j' ∧ μ j' < μ j
      | .rt t b => P (.rt t b)
      | .bk j' => P (.nx j')) else P (.nx (out j b))) : ∀ {j : J}, I j → Sat (whX mc vb mb out j) P := by
  have key : ∀ n j, μ j < n → I j → Sat (whO mc vb mb out n j) P := by
    intro n
    induction n with
    | zero => intro j h; omega
    | succ n ih =>
      intro j hj hi
      obtain ⟨b, eb, hb⟩ := hstep j hi
      unfold whO
      rw [eb, okb]
      by_cases hv : vb b = true
      · rw [if_pos hv] at hb ⊢
        obtain ⟨o, eo, ho⟩ := hb
        rw [eo, okb]
        cases o with
        | nx j' => exact ih j' (by have := ho.2; omega) ho.1
        | rt t b => exact ⟨_, rfl, ho⟩
        | bk j' => exact ⟨_, rfl, ho⟩
      · rw [if_neg hv] at hb ⊢
        exact ⟨_, rfl, hb⟩
  intro j hi
  obtain ⟨o, eo, ho⟩ := key (μ j + 1) j (by omega) hi
  exact ⟨o, by rw [whX_eq (n := μ j + 1) (by rw [eo]; exact fun z => nomatch z), eo], ho⟩
end
end TP
namespace TP
open PySem PySem.Spec PyProof.Rows L2 TL
/-! ### pairs -/
def pN (p : Nat × Nat) : D := .tuple [nD p.1, nD p.2]
theorem pN_def (a b : Nat) : PyData.tuple [nD a, nD b] = pN (a, b) := id (Eq.refl _)
@[simp] theorem unp2_pN (p : Nat × Nat) : unp2 (pN p) = .ok (nD p.1, nD p.2) := id (Eq.refl _)
@[simp] theorem ix0p (p : Nat × Nat) : pyIx (pN p) (nD 0) = .ok (nD p.1) := ix0 _ _
@[simp] theorem ix1p (p : Nat × Nat) : pyIx (pN p) (nD 1) = .ok (nD p.2) := ix1 _ _ _
theorem eqd_pN : EqD 1 pN := ⟨fun p => fitk_tuple fun x hx => by
  rcases List.mem_cons.mp hx with e | e
  · rw [e]; exact fitk_int _
  · rw [List.mem_singleton.mp e]; exact fitk_int _, fun p q => by
  unfold pN
  simp only [PyData.eqv, PyData.eqvAll, Bool.and_eq_true, Bool.and_true]
  rw [eqd_nD.eqv, eqd_nD.eqv]
  constructor
  · rintro ⟨h1, h2⟩; exact Prod.ext h1 h2
  · rintro rfl; exact ⟨rfl, rfl⟩⟩
@[simp] theorem eqP (a b : Nat × Nat) : pyEq (pN a) (pN b) = .ok (.bool (decide (a = b))) := eqd_pN.eq (by decide) a b
@[simp] theorem nltP (p : Nat × Nat) : noL (pN p) = true := id (Eq.refl _)
theorem nf_okP (xs : List (Nat × Nat)) : nf (.ok (.list (xs.map pN))) = .ok (.list (xs.map pN)) := by
  unfold nf
  rw [okb, if_pos (by rw [itemsFlat]; exact noLAll_map nltP xs)]
theorem nf_okT (xs : List (List Nat)) : nf (.ok (.list (xs.map tN))) = .ok (.list (xs.map tN)) := by
  unfold nf
  rw [okb, if_pos (by rw [itemsFlat]; exact noLAll_map nltN xs)]
theorem nl_okP (p : Nat × Nat) : nl (.ok (pN p)) = .ok (pN p) := nl_ok (nltP p)
@[simp] theorem neL0P (xs : List (Nat × Nat)) : pyNe (.list (xs.map pN)) (.list []) = .ok (.bool (decide (xs ≠ []))) := by
  rw [ne_nilL (fit_map eqd_pN xs) (by decide)]
  simp
@[simp] theorem eqL0P (xs : List (Nat × Nat)) : pyEq (.list (xs.map pN)) (.list []) = .ok (.bool (decide (xs = []))) := by
  rw [eq_nilL (fit_map eqd_pN xs) (by decide)]
  simp
@[simp] theorem neL0T (xs : List (List Nat)) : pyNe (.list (xs.map tN)) (.list []) = .ok (.bool (decide (xs ≠ []))) := by
  rw [ne_nilL (fit_map eqd_tN xs) (by decide)]
  simp
@[simp] theorem eqL0T (xs : List (List Nat)) : pyEq (.list (xs.map tN)) (.list []) = .ok (.bool (decide (xs = []))) := by
  rw [eq_nilL (fit_map eqd_tN xs) (by decide)]
  simp
@[simp] theorem inLP (a : Nat × Nat) (xs : List (Nat × Nat)) : pyIn (pN a) (.list (xs.map pN)) = .ok (.bool (decide (a ∈ xs))) := eqd_pN.inL (by decide) a xs
@[simp] theorem inTP (a : Nat × Nat) (xs : List (Nat × Nat)) : pyIn (pN a) (.tuple (xs.map pN)) = .ok (.bool (decide (a ∈ xs))) := eqd_pN.inT (by decide) a xs
/-! ### truths, None -/
@[simp] theorem any_m {α : Type} (p : α → Bool) (xs : List α) : pyAny [.list (xs.map fun x => PyData.bool (p x))] = .ok (.bool (xs.any p)) := pyAny_map p xs
@[simp] theorem all_m {α : Type} (p : α → Bool) (xs : List α) : pyAll [.list (xs.map fun x => PyData.bool (p x))] = .ok (.bool (xs.all p)) := pyAll_map p xs
@[simp] theorem is_none (d : D) : pyIs d .none = .ok (.bool (isNone d)) := id (Eq.refl _)
@[simp] theorem isnot_none (d : D) : pyIsNot d .none = .ok (.bool (!isNone d)) := id (Eq.refl _)
@[simp] theorem isNone_n : isNone .none = true := id (Eq.refl _)
@[simp] theorem isNone_N (n : Nat) : isNone (nD n) = false := id (Eq.refl _)
@[simp] theorem isNone_T (n : List Nat) : isNone (tN n) = false := id (Eq.refl _)
@[simp] theorem isNone_t (n : List D) : isNone (.tuple n) = false := id (Eq.refl _)
@[simp] theorem isNone_l (n : List D) : isNone (.list n) = false := id (Eq.refl _)
theorem thenO_nx {A J : Type} (j : J) (r : D → D → A) (k : J → R A) : thenO (.ok (.nx j)) r k = k j := id (Eq.refl _)
theorem thenO_rt {A J : Type} (t b : D) (r : D → D → A) (k : J → R A) : thenO (J := J) (.ok (.rt t b)) r k = .ok (r t b) := id (Eq.refl _)
theorem thenO_ite {A J : Type} (c : Prop) [Decidable c] (x y : R (Oc J)) (r : D → D → A) (k : J → R A) : thenO (if c then x else y) r k = if c then thenO x r k else thenO y r k := by split <;> rfl
theorem Sat.thenO {A J : Type} {m : R (Oc J)} {r : D → D → A} {k : J → R A} {P : Oc J → Prop} {Q : A → Prop} (h : Sat m P) (h1 : ∀ j, P (.nx j) → Sat (k j) Q) (h2 : ∀ t b, P (.rt t b) → Q (r t b)) (h3 : ∀ j, ¬ P (.bk j)) : Sat (TL.thenO m r k) Q := by
  obtain ⟨o, e, p⟩ := h
  rw [e]
  cases o with
  | nx j => exact h1 j p
  | rt t b => exact ⟨_, rfl, h2 t b p⟩
  | bk j => exact absurd p (h3 j)
/-- a map over a row of encodings, its answers first -/
theorem mapR_m {α : Type} {f : D → R D} {g : α → D} (k : α → D) {xs : List α} (h : ∀ x ∈ xs, f (g x) = .ok (k x)) : mapR f (xs.map g) = .ok (xs.map k) := mapR_map h
theorem filR_m {α : Type} {p : D → R Bool} {f : D → R D} {g : α → D} (q : α → Bool) (k : α → D) {xs : List α} (h1 : ∀ x ∈ xs, p (g x) = .ok (q x)) (h2 : ∀ x ∈ xs, q x = true → f (g x) = .ok (k x)) : filR p f (xs.map g) = .ok ((xs.filter q).map k) := filR_map h1 h2
/-- if q: found.append(k) -/
theorem app_m {α β : Type} {u : D → R β} {mb : D → β → R D} {g : α → D} (h : α → β) (q : α → Bool) (k : α → D) {xs : List α} (N : Nat) (hu : ∀ x ∈ xs, u (g x) = .ok (h x)) (hm : ∀ acc : List D, ∀ x ∈ xs, acc.length < N → mb (.list acc) (h x) = .ok (.list (if q x = true then acc ++ [k x] else acc))) (hN : xs.length ≤ N) : foldR u mb (xs.map g) (.list []) = .ok (.list ((xs.filter q).map k)) := by
  have := foldR_app (acc := []) hu hm (by simpa using hN)
  simpa using this
theorem remD_is {xs : List Nat} {a : Nat} (h : a ∈ xs) : remD (.list (xs.map nD)) (nD a) = .ok (.list ((xs.erase a).map nD)) := by
  have key : ∀ xs : List Nat, a ∈ xs → ∃ j, (xs.map fun n : Nat => (n : Int)).findIdx? (fun n => n == (a : Int)) = some j ∧ ((xs.map fun n : Nat => (n : Int)).eraseIdx j).map PyData.int = (xs.erase a).map nD := by
    intro xs
    induction xs with
    | nil => intro h; cases h
    | cons x xs ih =>
      intro h
      rw [List.map_cons, List.findIdx?_cons]
      by_cases e : x = a
      · subst e
        refine ⟨0, by simp, ?_⟩
        rw [List.erase_cons_head]
        show (xs.map fun n : Nat => (n : Int)).map PyData.int = _
        rw [map_nD]
      · have e2 : ((x : Int) == (a : Int)) = false := by
          rw [beq_eq_false_iff_ne]; omega
        have h2 : a ∈ xs := by
          rcases List.mem_cons.mp h with z | z
          · exact absurd z.symm e
          · exact z
        obtain ⟨j, h3, h4⟩ := ih h2
        refine ⟨j + 1, by rw [e2, h3]; rfl, ?_⟩
        rw [List.eraseIdx_cons_succ, List.map_cons, h4, List.erase_cons_tail (by simpa using e), List.map_cons]
        rfl
  obtain ⟨j, h1, h2⟩ := key xs h
  simp only [remD, map_nD, nums_map, nD, h1]
  rw [← map_nD, h2]
end TP
namespace TP
open PySem PySem.Spec PyProof.Rows L2 TL JT
/-! ### isinstance -/
theorem isD_of {d : D} {n T : String} {b : Bool} (h : tyN d = some n) (k : kitB n T = some b) : isD [T] d = .ok (.bool b) := by
  have : isAny [T] d = some b := by
    unfold isAny isA1
    rw [h]
    show (kitB n T).bind _ = _
    rw [k]
    cases b <;> rfl
  unfold isD
  rw [this]
theorem isD_of2 {d : D} {n T U : String} {b c : Bool} (h : tyN d = some n) (k : kitB n T = some b) (l : kitB n U = some c) : isD [T, U] d = .ok (.bool (b || c)) := by
  have : isAny [T, U] d = some (b || c) := by
    unfold isAny isA1
    rw [h]
    show (kitB n T).bind _ = _
    rw [k]
    cases b with
    | true => rfl
    | false =>
      show isAny [U] d = _
      unfold isAny isA1
      rw [h]
      show (kitB n U).bind _ = _
      rw [l]
      cases c <;> rfl
  unfold isD
  rw [this]
@[simp] theorem is_tuple_none : isD ["tuple"] .none = .ok (.bool false) := isD_of (n := "NoneType") rfl (by decide +kernel)
@[simp] theorem is_tuple_bool (b : Bool) : isD ["tuple"] (.bool b) = .ok (.bool false) := isD_of (n := "bool") rfl (by decide +kernel)
@[simp] theorem is_tuple_int (i : Int) : isD ["tuple"] (.int i) = .ok (.bool false) := isD_of (n := "int") rfl (by decide +kernel)
@[simp] theorem is_tuple_str (s : Str) : isD ["tuple"] (.str s) = .ok (.bool false) := isD_of (n := "str") rfl (by decide +kernel)
@[simp] theorem is_tuple_list (xs : List D) : isD ["tuple"] (.list xs) = .ok (.bool false) := isD_of (n := "list") rfl (by decide +kernel)
@[simp] theorem is_tuple_tuple (xs : List D) : isD ["tuple"] (.tuple xs) = .ok (.bool true) := isD_of (n := "tuple") rfl (by decide +kernel)
@[simp] theorem is_tuple_dict : isD ["tuple"] (.dict []) = .ok (.bool false) := isD_of (n := "dict") rfl (by decide +kernel)
@[simp] theorem is_tuple_N (n : Nat) : isD ["tuple"] (nD n) = .ok (.bool false) := isD_of (n := "int") rfl (by decide +kernel)
@[simp] theorem is_tuple_T (n : List Nat) : isD ["tuple"] (tN n) = .ok (.bool true) := isD_of (n := "tuple") rfl (by decide +kernel)
@[simp] theorem is_tuple_P (n : Nat × Nat) : isD ["tuple"] (pN n) = .ok (.bool true) := isD_of (n := "tuple") rfl (by decide +kernel)
@[simp] theorem is_list_none : isD ["list"] .none = .ok (.bool false) := isD_of (n := "NoneType") rfl (by decide +kernel)
@[simp] theorem is_list_bool (b : Bool) : isD ["list"] (.bool b) = .ok (.bool false) := isD_of (n := "bool") rfl (by decide +kernel)
@[simp] theorem is_list_int (i : Int) : isD ["list"] (.int i) = .ok (.bool false) := isD_of (n := "int") rfl (by decide +kernel)
@[simp] theorem is_list_str (s : Str) : isD ["list"] (.str s) = .ok (.bool false) := isD_of (n := "str") rfl (by decide +kernel)
@[simp] theorem is_list_list (xs : List D) : isD ["list"] (.list xs) = .ok (.bool true) := isD_of (n := "list") rfl (by decide +kernel)
@[simp] theorem is_list_tuple (xs : List D) : isD ["list"] (.tuple xs) = .ok (.bool false) := isD_of (n := "tuple") rfl (by decide +kernel)
@[simp] theorem is_list_dict : isD ["list"] (.dict []) = .ok (.bool false) := isD_of (n := "dict") rfl (by decide +kernel)
@[simp] theorem is_list_N (n : Nat) : isD ["list"] (nD n) = .ok (.bool false) := isD_of (n := "int") rfl (by decide +kernel)
@[simp] theorem is_list_T (n : List Nat) : isD ["list"] (tN n) = .ok (.bool false) := isD_of (n := "tuple") rfl (by decide +kernel)
@[simp] theorem is_list_P (n : Nat × Nat) : isD ["list"] (pN n) = .ok (.bool false) := isD_of (n := "tuple") rfl (by decide +kernel)
@[simp] theorem is_int_none : isD ["int"] .none = .ok (.bool false) := isD_of (n := "NoneType") rfl (by decide +kernel)
@[simp] theorem is_int_bool (b : Bool) : isD ["int"] (.bool b) = .ok (.bool true) := isD_of (n := "bool") rfl (by decide +kernel)
@[simp] theorem is_int_int (i : Int) : isD ["int"] (.int i) = .ok (.bool true) := isD_of (n := "int") rfl (by decide +kernel)
@[simp] theorem is_int_str (s : Str) : isD ["int"] (.str s) = .ok (.bool false) := isD_of (n := "str") rfl (by decide +kernel)
@[simp] theorem is_int_list (xs : List D) : isD ["int"] (.list xs) = .ok (.bool false) := isD_of (n := "list") rfl (by decide +kernel)
@[simp] theorem is_int_tuple (xs : List D) : isD ["int"] (.tuple xs) = .ok (.bool false) := isD_of (n := "tuple") rfl (by decide +kernel)
@[simp] theorem is_int_dict : isD ["int"] (.dict []) = .ok (.bool false) := isD_of (n := "dict") rfl (by decide +kernel)
@[simp] theorem is_int_N (n : Nat) : isD ["int"] (nD n) = .ok (.bool true) := isD_of (n := "int") rfl (by decide +kernel)
@[simp] theorem is_int_T (n : List Nat) : isD ["int"] (tN n) = .ok (.bool false) := isD_of (n := "tuple") rfl (by decide +kernel)
@[simp] theorem is_int_P (n : Nat × Nat) : isD ["int"] (pN n) = .ok (.bool false) := isD_of (n := "tuple") rfl (by decide +kernel)
@[simp] theorem is_bool_none : isD ["bool"] .none = .ok (.bool false) := isD_of (n := "NoneType") rfl (by decide +kernel)
@[simp] theorem is_bool_bool (b : Bool) : isD ["bool"] (.bool b) = .ok (.bool true) := isD_of (n := "bool") rfl (by decide +kernel)
@[simp] theorem is_bool_int (i : Int) : isD ["bool"] (.int i) = .ok (.bool false) := isD_of (n := "int") rfl (by decide +kernel)
@[simp] theorem is_bool_str (s : Str) : isD ["bool"] (.str s) = .ok (.bool false) := isD_of (n := "str") rfl (by decide +kernel)
@[simp] theorem is_bool_list (xs : List D) : isD ["bool"] (.list xs) = .ok (.bool false) := isD_of (n := "list") rfl (by decide +kernel)
@[simp] theorem is_bool_tuple (xs : List D) : isD ["bool"] (.tuple xs) = .ok (.bool false) := isD_of (n := "tuple") rfl (by decide +kernel)
@[simp] theorem is_bool_dict : isD ["bool"] (.dict []) = .ok (.bool false) := isD_of (n := "dict") rfl (by decide +kernel)
@[simp] theorem is_bool_N (n : Nat) : isD ["bool"] (nD n) = .ok (.bool false) := isD_of (n := "int") rfl (by decide +kernel)
@[simp] theorem is_bool_T (n : List Nat) : isD ["bool"] (tN n) = .ok (.bool false) := isD_of (n := "tuple") rfl (by decide +kernel)
@[simp] theorem is_bool_P (n : Nat × Nat) : isD ["bool"] (pN n) = .ok (.bool false) := isD_of (n := "tuple") rfl (by decide +kernel)
@[simp] theorem is_str_none : isD ["str"] .none = .ok (.bool false) := isD_of (n := "NoneType") rfl (by decide +kernel)
@[simp] theorem is_str_bool (b : Bool) : isD ["str"] (.bool b) = .ok (.bool false) := isD_of (n := "bool") rfl (by decide +kernel)
@[simp] theorem is_str_int (i : Int) : isD ["str"] (.int i) = .ok (.bool false) := isD_of (n := "int") rfl (by decide +kernel)
@[simp] theorem is_str_str (s : Str) : isD ["str"] (.str s) = .ok (.bool true) := isD_of (n := "str") rfl (by decide +kernel)
@[simp] theorem is_str_list (xs : List D) : isD ["str"] (.list xs) = .ok (.bool false) := isD_of (n := "list") rfl (by decide +kernel)
@[simp] theorem is_str_tuple (xs : List D) : isD ["str"] (.tuple xs) = .ok (.bool false) := isD_of (n := "tuple") rfl (by decide +kernel)
@[simp] theorem is_str_dict : isD ["str"] (.dict []) = .ok (.bool false) := isD_of (n := "dict") rfl (by decide +kernel)
@[simp] theorem is_str_N (n : Nat) : isD ["str"] (nD n) = .ok (.bool false) := isD_of (n := "int") rfl (by decide +kernel)
@[simp] theorem is_str_T (n : List Nat) : isD ["str"] (tN n) = .ok (.bool false) := isD_of (n := "tuple") rfl (by decide +kernel)
@[simp] theorem is_str_P (n : Nat × Nat) : isD ["str"] (pN n) = .ok (.bool false) := isD_of (n := "tuple") rfl (by decide +kernel)
@[simp] theorem is_seq_none : isD ["tuple", "list"] .none = .ok (.bool false) := isD_of2 (n := "NoneType") (b := false) (c := false) rfl (by decide +kernel) (by decide +kernel)
@[simp] theorem is_seq_bool (b : Bool) : isD ["tuple", "list"] (.bool b) = .ok (.bool false) := isD_of2 (n := "bool") (b := false) (c := false) rfl (by decide +kernel) (by decide +kernel)
@[simp] theorem is_seq_int (i : Int) : isD ["tuple", "list"] (.int i) = .ok (.bool false) := isD_of2 (n := "int") (b := false) (c := false) rfl (by decide +kernel) (by decide +kernel)
@[simp] theorem is_seq_str (s : Str) : isD ["tuple", "list"] (.str s) = .ok (.bool false) := isD_of2 (n := "str") (b := false) (c := false) rfl (by decide +kernel) (by decide +kernel)
@[simp] theorem is_seq_list (xs : List D) : isD ["tuple", "list"] (.list xs) = .ok (.bool true) := isD_of2 (n := "list") (b := false) (c := true) rfl (by decide +kernel) (by decide +kernel)
@[simp] theorem is_seq_tuple (xs : List D) : isD ["tuple", "list"] (.tuple xs) = .ok (.bool true) := isD_of2 (n := "tuple") (b := true) (c := false) rfl (by decide +kernel) (by decide +kernel)
@[simp] theorem is_seq_dict : isD ["tuple", "list"] (.dict []) = .ok (.bool false) := isD_of2 (n := "dict") (b := false) (c := false) rfl (by decide +kernel) (by decide +kernel)
@[simp] theorem is_seq_N (n : Nat) : isD ["tuple", "list"] (nD n) = .ok (.bool false) := isD_of2 (n := "int") (b := false) (c := false) rfl (by decide +kernel) (by decide +kernel)
@[simp] theorem is_seq_T (n : List Nat) : isD ["tuple", "list"] (tN n) = .ok (.bool true) := isD_of2 (n := "tuple") (b := true) (c := false) rfl (by decide +kernel) (by decide +kernel)
@[simp] theorem is_seq_P (n : Nat × Nat) : isD ["tuple", "list"] (pN n) = .ok (.bool true) := isD_of2 (n := "tuple") (b := true) (c := false) rfl (by decide +kernel) (by decide +kernel)
/-- a whole number, if it is one -/
def wholeB : D → Bool
  | .int _ => true
  | _ => false
/-- no dict, or an empty one -/
def NoDict : D → Prop
  | .dict (_ :: _) => False
  | _ => True
theorem whole_is {d : D} (h : NoDict d) : m_is_whole [d] = .ok (.bool (wholeB d)) := by
  rw [m_is_whole]
  cases d with
  | dict es =>
    cases es with
    | nil => simp only [okb, int_lit, tN_def, nox_bind, bind_as, noxo, nox_nox, nox_no', R.bind_ok, eqN, neN, ltN, leN, gtN, geN, addN, minN, maxN, truN, truB, asBB, asIntN, partN, nl_okN, nl_bool, lstD_ok, items_l, items_t, items_tN, len_l, len_t, len_tN, tuple_l, tuple_t, list_l, list_t, list_tN, ix0, ix1, ix2, ix0l, ix1l, inLN, inTN, ninLN, ninTN, inLT, inTT, ninLT, ninTT, eqT, neT, eqT0, neT0, eqL0, neL0, unp2_t, unp3_t, sl_to, sl_from, sl_tol, sl_froml, sl_totN, sl_fromtN, sortedN, decide_eq_true_eq, Bool.false_eq_true, if_true, if_false, List.length_map, List.length_range, nl_tN, nf_ok, unp2_pN, ix0p, ix1p, eqP, nf_okP, nf_okT, nl_okP, neL0P, eqL0P, neL0T, eqL0T, inLP, inTP, any_m, all_m, is_none, isnot_none, isNone_n, isNone_N, isNone_T, isNone_t, isNone_l, thenO_nx, thenO_rt, Bool.not_true, Bool.not_false, is_tuple_none, is_tuple_bool, is_tuple_int, is_tuple_str, is_tuple_list, is_tuple_tuple, is_tuple_dict, is_tuple_N, is_tuple_T, is_tuple_P, is_list_none, is_list_bool, is_list_int, is_list_str, is_list_list, is_list_tuple, is_list_dict, is_list_N, is_list_T, is_list_P, is_int_none, is_int_bool, is_int_int, is_int_str, is_int_list, is_int_tuple, is_int_dict, is_int_N, is_int_T, is_int_P, is_bool_none, is_bool_bool, is_bool_int, is_bool_str, is_bool_list, is_bool_tuple, is_bool_dict, is_bool_N, is_bool_T, is_bool_P, is_str_none, is_str_bool, is_str_int, is_str_str, is_str_list, is_str_tuple, is_str_dict, is_str_N, is_str_T, is_str_P, is_seq_none, is_seq_bool, is_seq_int, is_seq_str, is_seq_list, is_seq_tuple, is_seq_dict, is_seq_N, is_seq_T, is_seq_P, zip_ll, zip_tt, zip_lt, zip_tl]; rfl
    | cons e es => exact h.elim
  | bool b => simp only [okb, int_lit, tN_def, nox_bind, bind_as, noxo, nox_nox, nox_no', R.bind_ok, eqN, neN, ltN, leN, gtN, geN, addN, minN, maxN, truN, truB, asBB, asIntN, partN, nl_okN, nl_bool, lstD_ok, items_l, items_t, items_tN, len_l, len_t, len_tN, tuple_l, tuple_t, list_l, list_t, list_tN, ix0, ix1, ix2, ix0l, ix1l, inLN, inTN, ninLN, ninTN, inLT, inTT, ninLT, ninTT, eqT, neT, eqT0, neT0, eqL0, neL0, unp2_t, unp3_t, sl_to, sl_from, sl_tol, sl_froml, sl_totN, sl_fromtN, sortedN, decide_eq_true_eq, Bool.false_eq_true, if_true, if_false, List.length_map, List.length_range, nl_tN, nf_ok, unp2_pN, ix0p, ix1p, eqP, nf_okP, nf_okT, nl_okP, neL0P, eqL0P, neL0T, eqL0T, inLP, inTP, any_m, all_m, is_none, isnot_none, isNone_n, isNone_N, isNone_T, isNone_t, isNone_l, thenO_nx, thenO_rt, Bool.not_true, Bool.not_false, is_tuple_none, is_tuple_bool, is_tuple_int, is_tuple_str, is_tuple_list, is_tuple_tuple, is_tuple_dict, is_tuple_N, is_tuple_T, is_tuple_P, is_list_none, is_list_bool, is_list_int, is_list_str, is_list_list, is_list_tuple, is_list_dict, is_list_N, is_list_T, is_list_P, is_int_none, is_int_bool, is_int_int, is_int_str, is_int_list, is_int_tuple, is_int_dict, is_int_N, is_int_T, is_int_P, is_bool_none, is_bool_bool, is_bool_int, is_bool_str, is_bool_list, is_bool_tuple, is_bool_dict, is_bool_N, is_bool_T, is_bool_P, is_str_none, is_str_bool, is_str_int, is_str_str, is_str_list, is_str_tuple, is_str_dict, is_str_N, is_str_T, is_str_P, is_seq_none, is_seq_bool, is_seq_int, is_seq_str, is_seq_list, is_seq_tuple, is_seq_dict, is_seq_N, is_seq_T, is_seq_P, zip_ll, zip_tt, zip_lt, zip_tl]; rfl
  | _ => simp only [okb, int_lit, tN_def, nox_bind, bind_as, noxo, nox_nox, nox_no', R.bind_ok, eqN, neN, ltN, leN, gtN, geN, addN, minN, maxN, truN, truB, asBB, asIntN, partN, nl_okN, nl_bool, lstD_ok, items_l, items_t, items_tN, len_l, len_t, len_tN, tuple_l, tuple_t, list_l, list_t, list_tN, ix0, ix1, ix2, ix0l, ix1l, inLN, inTN, ninLN, ninTN, inLT, inTT, ninLT, ninTT, eqT, neT, eqT0, neT0, eqL0, neL0, unp2_t, unp3_t, sl_to, sl_from, sl_tol, sl_froml, sl_totN, sl_fromtN, sortedN, decide_eq_true_eq, Bool.false_eq_true, if_true, if_false, List.length_map, List.length_range, nl_tN, nf_ok, unp2_pN, ix0p, ix1p, eqP, nf_okP, nf_okT, nl_okP, neL0P, eqL0P, neL0T, eqL0T, inLP, inTP, any_m, all_m, is_none, isnot_none, isNone_n, isNone_N, isNone_T, isNone_t, isNone_l, thenO_nx, thenO_rt, Bool.not_true, Bool.not_false, is_tuple_none, is_tuple_bool, is_tuple_int, is_tuple_str, is_tuple_list, is_tuple_tuple, is_tuple_dict, is_tuple_N, is_tuple_T, is_tuple_P, is_list_none, is_list_bool, is_list_int, is_list_str, is_list_list, is_list_tuple, is_list_dict, is_list_N, is_list_T, is_list_P, is_int_none, is_int_bool, is_int_int, is_int_str, is_int_list, is_int_tuple, is_int_dict, is_int_N, is_int_T, is_int_P, is_bool_none, is_bool_bool, is_bool_int, is_bool_str, is_bool_list, is_bool_tuple, is_bool_dict, is_bool_N, is_bool_T, is_bool_P, is_str_none, is_str_bool, is_str_int, is_str_str, is_str_list, is_str_tuple, is_str_dict, is_str_N, is_str_T, is_str_P, is_seq_none, is_seq_bool, is_seq_int, is_seq_str, is_seq_list, is_seq_tuple, is_seq_dict, is_seq_N, is_seq_T, is_seq_P, zip_ll, zip_tt, zip_lt, zip_tl]; rfl
/-- a number below many, if it is one -/
def uptoB (d : D) (n : Nat) : Bool := match d with
  | .int i => decide (0 ≤ i ∧ i < (n : Int))
  | _ => false
theorem upto_is {d : D} (h : NoDict d) (n : Nat) : m_is_upto [d, nD n] = .ok (.bool (uptoB d n)) := by
  rw [m_is_upto]
  simp only [okb, int_lit, tN_def, nox_bind, bind_as, noxo, nox_nox, nox_no', R.bind_ok, eqN, neN, ltN, leN, gtN, geN, addN, minN, maxN, truN, truB, asBB, asIntN, partN, nl_okN, nl_bool, lstD_ok, items_l, items_t, items_tN, len_l, len_t, len_tN, tuple_l, tuple_t, list_l, list_t, list_tN, ix0, ix1, ix2, ix0l, ix1l, inLN, inTN, ninLN, ninTN, inLT, inTT, ninLT, ninTT, eqT, neT, eqT0, neT0, eqL0, neL0, unp2_t, unp3_t, sl_to, sl_from, sl_tol, sl_froml, sl_totN, sl_fromtN, sortedN, decide_eq_true_eq, Bool.false_eq_true, if_true, if_false, List.length_map, List.length_range, nl_tN, nf_ok, unp2_pN, ix0p, ix1p, eqP, nf_okP, nf_okT, nl_okP, neL0P, eqL0P, neL0T, eqL0T, inLP, inTP, any_m, all_m, is_none, isnot_none, isNone_n, isNone_N, isNone_T, isNone_t, isNone_l, thenO_nx, thenO_rt, Bool.not_true, Bool.not_false, is_tuple_none, is_tuple_bool, is_tuple_int, is_tuple_str, is_tuple_list, is_tuple_tuple, is_tuple_dict, is_tuple_N, is_tuple_T, is_tuple_P, is_list_none, is_list_bool, is_list_int, is_list_str, is_list_list, is_list_tuple, is_list_dict, is_list_N, is_list_T, is_list_P, is_int_none, is_int_bool, is_int_int, is_int_str, is_int_list, is_int_tuple, is_int_dict, is_int_N, is_int_T, is_int_P, is_bool_none, is_bool_bool, is_bool_int, is_bool_str, is_bool_list, is_bool_tuple, is_bool_dict, is_bool_N, is_bool_T, is_bool_P, is_str_none, is_str_bool, is_str_int, is_str_str, is_str_list, is_str_tuple, is_str_dict, is_str_N, is_str_T, is_str_P, is_seq_none, is_seq_bool, is_seq_int, is_seq_str, is_seq_list, is_seq_tuple, is_seq_dict, is_seq_N, is_seq_T, is_seq_P, zip_ll, zip_tt, zip_lt, zip_tl, whole_is h]
  cases d with
  | int i =>
    simp only [wholeB, if_true, nD, pyLe, pyLt, okb, asBB, uptoB]
    by_cases h1 : (0 : Int) ≤ i
    · simp [h1]
    · simp [h1]
  | _ => rfl
@[simp] theorem upto_N (a n : Nat) : m_is_upto [nD a, nD n] = .ok (.bool (decide (a < n))) := by
  rw [upto_is (d := nD a) trivial]
  simp [uptoB, nD]
@[simp] theorem whole_N (a : Nat) : m_is_whole [nD a] = .ok (.bool true) := whole_is (d := nD a) trivial
end TP
/-! the plain layer, A: the box, draws, layouts (the first family) -/
namespace TP
open PySem PySem.Spec PyProof.Rows L2 TL JT
def IsBox (s : D) : Prop := ∃ b : Int, s = .list [.int b]
theorem take_is (b : Int) (n : Nat) (h : 0 < n) (h2 : n < 1073741824) : m_law_take (.list [.int b]) [nD n] = .ok (.int (b % n), .list [.int (b / n)]) := by
  have e : pyIx (.list [.int b]) (nD 0) = .ok (.int b) := ix0l _ _
  have e2 : pyMod (.int b) (nD n) = .ok (.int (b % n)) := pyMod_of (by omega)
  have e3 : pyDiv (.int b) (nD n) = .ok (.int (b / n)) := pyDiv_of (by omega) (by omega)
  rw [m_law_take]
  simp only [okb, int_lit, e, e2, e3, nl, noL, if_true]
  rfl
/-- a number drawn below n -/
def Drawn (n : Nat) (p : D × D) : Prop := (∃ k : Nat, k < n ∧ p.1 = nD k) ∧ IsBox p.2
theorem take_sat {s : D} {n : Nat} (hb : IsBox s) (h : 0 < n) (h2 : n < 1073741824) : Sat (m_law_take s [nD n]) (Drawn n) := by
  obtain ⟨b, rfl⟩ := hb
  have h3 := Int.emod_nonneg b (show (n : Int) ≠ 0 by omega)
  have h4 := Int.emod_lt_of_pos b (show (0 : Int) < n by omega)
  exact ⟨_, take_is b n h h2, ⟨(b % n).toNat, by omega, by simp only [nD]; rw [Int.toNat_of_nonneg h3]⟩, _, rfl⟩
theorem take_nox {s : D} {n : Nat} (hb : IsBox s) (h : 0 < n) (h2 : n < 1073741824) : Sat (nox (m_law_take s [nD n])) (Drawn n) := (take_sat hb h h2).nox
theorem cell_is (ns : List Int) (k : Nat) (hk : k ≤ 1000) : ∃ c : Int, m_law_cell [scrD ns, nD k] = .ok (.int c) := by
  rw [m_law_cell]
  have e : TL.pyLen [scrD ns] = .ok (nD ns.length) := by
    show R.ok (PyData.int ((ns.map PyData.int).length : Nat)) = _
    rw [List.length_map]
    rfl
  simp only [okb, int_lit, tN_def, nox_bind, bind_as, noxo, nox_nox, nox_no', R.bind_ok, eqN, neN, ltN, leN, gtN, geN, addN, minN, maxN, truN, truB, asBB, asIntN, partN, nl_okN, nl_bool, lstD_ok, items_l, items_t, items_tN, len_l, len_t, len_tN, tuple_l, tuple_t, list_l, list_t, list_tN, ix0, ix1, ix2, ix0l, ix1l, inLN, inTN, ninLN, ninTN, inLT, inTT, ninLT, ninTT, eqT, neT, eqT0, neT0, eqL0, neL0, unp2_t, unp3_t, sl_to, sl_from, sl_tol, sl_froml, sl_totN, sl_fromtN, sortedN, decide_eq_true_eq, Bool.false_eq_true, if_true, if_false, List.length_map, List.length_range, nl_tN, nf_ok, unp2_pN, ix0p, ix1p, eqP, nf_okP, nf_okT, nl_okP, neL0P, eqL0P, neL0T, eqL0T, inLP, inTP, any_m, all_m, is_none, isnot_none, isNone_n, isNone_N, isNone_T, isNone_t, isNone_l, thenO_nx, thenO_rt, Bool.not_true, Bool.not_false, is_tuple_none, is_tuple_bool, is_tuple_int, is_tuple_str, is_tuple_list, is_tuple_tuple, is_tuple_dict, is_tuple_N, is_tuple_T, is_tuple_P, is_list_none, is_list_bool, is_list_int, is_list_str, is_list_list, is_list_tuple, is_list_dict, is_list_N, is_list_T, is_list_P, is_int_none, is_int_bool, is_int_int, is_int_str, is_int_list, is_int_tuple, is_int_dict, is_int_N, is_int_T, is_int_P, is_bool_none, is_bool_bool, is_bool_int, is_bool_str, is_bool_list, is_bool_tuple, is_bool_dict, is_bool_N, is_bool_T, is_bool_P, is_str_none, is_str_bool, is_str_int, is_str_str, is_str_list, is_str_tuple, is_str_dict, is_str_N, is_str_T, is_str_P, is_seq_none, is_seq_bool, is_seq_int, is_seq_str, is_seq_list, is_seq_tuple, is_seq_dict, is_seq_N, is_seq_T, is_seq_P, zip_ll, zip_tt, zip_lt, zip_tl, upto_N, whole_N, e]
  by_cases hl : k < ns.length
  · rw [if_pos hl]
    have h2 : (ns.map PyData.int)[k]? = some (.int ns[k]) := by rw [List.getElem?_map, List.getElem?_eq_getElem hl]; rfl
    refine ⟨ns[k], ?_⟩
    show pyIx (.dict [(.none, .list (ns.map .int))]) (.int k) = _
    simp only [pyIx, atI_nat h2]
  · rw [if_neg hl]
    refine ⟨6151 * (k : Int) + 29, ?_⟩
    unfold nD
    rw [pyMul_of (a := 13) (b := 10) (by decide) (by rw [Int.natAbs_natCast]; omega) (by decide)]
    rfl
theorem mod_P (i : Int) : pyMod (.int i) (.int 2147483647) = .ok (.int (i % 2147483647)) := pyMod_of (by decide)
theorem mod_2 (i : Int) : pyMod (.int i) (.int 2) = .ok (.int (i % 2)) := pyMod_of (by decide)
theorem div_2 (i : Int) : pyDiv (.int i) (.int 2) = .ok (.int (i / 2)) := pyDiv_of (by decide) (by decide)
theorem box_is (ns : List Int) (k : Nat) (hk : k ≤ 1000) : Sat (m_law_box [scrD ns, nD k]) IsBox := by
  obtain ⟨c, ec⟩ := cell_is ns k hk
  rw [m_law_box]
  simp only [okb, ec, mod_2, mod_P, div_2, pyEq_int, asB]
  unfold nD
  refine Sat.ite (fun _ => ⟨_, rfl, _, rfl⟩) fun _ => ?_
  rw [pyRange1 24 (by decide) (by decide)]
  simp only [okb]
  refine Sat.bind (foldR_inv (i := 0) (h := fun j : Nat => PyData.int j) (P := fun i j => ∃ a m : Int, j = (.int a, .int m) ∧ 0 ≤ a ∧ a.natAbs < 2 ^ (31 * i) ∧ 0 ≤ m ∧ m < 2147483647) (fun _ _ => rfl) (fun i j x hx hp => ?_) ⟨0, _, rfl, by decide, by decide, Int.emod_nonneg _ (by decide), Int.emod_lt_of_pos _ (by decide)⟩) fun j ⟨a, m, e, _⟩ => ?_
  · obtain ⟨a, m, rfl, h1, h2, h3, h4⟩ := hp
    have hx24 : i < 24 ∧ x < 24 := by
      have hlt := (List.getElem?_eq_some_iff.mp hx)
      obtain ⟨q1, q2⟩ := hlt
      simp only [List.length_range] at q1
      rw [List.getElem_range] at q2
      exact ⟨by omega, by omega⟩
    rw [pyMul_of (i := m) (j := 48271) (a := 32) (b := 20) (by omega) (by decide) (by decide)]
    rw [pyMul_of (i := 7) (j := (x : Int)) (a := 4) (b := 5) (by decide) (by omega) (by decide)]
    simp only [okb]
    rw [pyMul_of (i := 7 * (x : Int)) (j := (x : Int)) (a := 10) (b := 5) (by omega) (by omega) (by decide)]
    rw [pyMul_of (i := 11) (j := (k : Int)) (a := 4) (b := 10) (by decide) (by omega) (by decide)]
    simp only [okb, pyAdd, mod_P]
    rw [pyMul_of (i := a) (j := 2147483647) (a := 31 * (0 + i)) (b := 32) h2 (by decide) (by omega)]
    simp only [okb, pyAdd]
    have r1 := Int.emod_nonneg (m * 48271 + 7 * (x : Int) * (x : Int) + 11 * (k : Int) + 1) (show (2147483647 : Int) ≠ 0 by decide)
    have r2 := Int.emod_lt_of_pos (m * 48271 + 7 * (x : Int) * (x : Int) + 11 * (k : Int) + 1) (show (0 : Int) < 2147483647 by decide)
    refine ⟨_, rfl, _, _, rfl, ?_, ?_, r1, r2⟩
    · omega
    · generalize (m * 48271 + 7 * (x : Int) * (x : Int) + 11 * (k : Int) + 1) % 2147483647 = r at r1 r2
      have e : 2 ^ (31 * (0 + i + 1)) = 2 ^ (31 * (0 + i)) * 2147483648 := by
        have h31 : (2 : Nat) ^ (31 * 1) = 2147483648 := by decide +kernel
        rw [show 31 * (0 + i + 1) = 31 * (0 + i) + 31 * 1 by omega, Nat.pow_add, h31]
      rw [e]
      generalize 2 ^ (31 * (0 + i)) = W at h2
      omega
  · rw [e]
    exact ⟨_, rfl, _, rfl⟩
/-! ### the same -/
theorem isD_some {Ts : List String} {d : D} {b : Bool} (h : isAny Ts d = some b) : isD Ts d = .ok (.bool b) := by
  unfold isD
  rw [h]
theorem pyNe_bool (a : Bool) : pyNe (.bool a) (.bool a) = .ok (.bool false) := by
  rw [pyNe_of (fitk_bool a) (fitk_bool a) (by decide)]
  cases a <;> rfl
theorem pyEq_bool (a : Bool) : pyEq (.bool a) (.bool a) = .ok (.bool true) := by
  rw [pyEq_of (fitk_bool a) (fitk_bool a) (by decide)]
  cases a <;> rfl
theorem same_is : ∀ (n k : Nat) (d : D), fitk k d → k < n → k ≤ 60 → m_law_same n [d, d] = .ok (.bool true) := by
  intro n
  induction n with
  | zero => intro k d _ h; exact absurd h (Nat.not_lt_zero _)
  | succ n ih =>
    intro k d hf hk h60
    have all : ∀ xs : List D, (∀ x ∈ xs, ∃ j, fitk j x ∧ j < n ∧ j ≤ 60) → mapR (fun d27 => (unp2 d27).bind fun a22 => m_law_same n [a22.1, a22.2]) (pairs xs xs) = .ok (xs.map fun _ => .bool true) := by
      intro xs hxs
      have e : pairs xs xs = xs.map fun x => PyData.tuple [x, x] := by
        unfold pairs
        induction xs with
        | nil => rfl
        | cons x xs ih2 => rw [List.zipWith_cons_cons, ih2 fun y hy => hxs y (List.mem_cons_of_mem _ hy)]; rfl
      rw [e]
      refine mapR_map fun x hx => ?_
      obtain ⟨j, h1, h2, h3⟩ := hxs x hx
      exact ih j x h1 h2 h3
    rw [m_law_same]
    simp only [okb]
    have leaf : (∀ xs, d ≠ .list xs) → (∀ xs, d ≠ .tuple xs) → isAny ["tuple", "list"] d = some false ∧ ∃ b, isAny ["bool"] d = some b := by
      intro h1 h2
      cases d with
      | none => exact ⟨by decide +kernel, false, by decide +kernel⟩
      | bool b => cases b <;> exact ⟨by decide +kernel, true, by decide +kernel⟩
      | int i => exact ⟨(by decide +kernel : ((kitB "int" "tuple").bind fun b => if b = true then some true else (kitB "int" "list").bind fun b => if b = true then some true else some false) = some false), false, (by decide +kernel : ((kitB "int" "bool").bind fun b => if b = true then some true else some false) = some false)⟩
      | str i => exact ⟨(by decide +kernel : ((kitB "str" "tuple").bind fun b => if b = true then some true else (kitB "str" "list").bind fun b => if b = true then some true else some false) = some false), false, (by decide +kernel : ((kitB "str" "bool").bind fun b => if b = true then some true else some false) = some false)⟩
      | list xs => exact absurd rfl (h1 xs)
      | tuple xs => exact absurd rfl (h2 xs)
      | dict es => exact nomatch hf.1
    have k1 : kitB "list" "tuple" = some false := by decide +kernel
    have k2 : kitB "list" "list" = some true := by decide +kernel
    have k3 : kitB "tuple" "tuple" = some true := by decide +kernel
    have k4 : kitB "tuple" "list" = some false := by decide +kernel
    cases d with
    | list xs =>
      have i1 : isAny ["tuple", "list"] (.list xs) = some true := by simp [isAny, isA1, tyN, k1, k2]
      have i2 : isAny ["tuple"] (.list xs) = some false := by simp [isAny, isA1, tyN, k1]
      have i3 : isAny ["list"] (.list xs) = some true := by simp [isAny, isA1, tyN, k2]
      cases k with
      | zero => exact absurd hf.2 (by rw [PyData.depth]; omega)
      | succ k =>
        have h1 := all xs fun x hx => ⟨k, fitk_listI hf x hx, by omega, by omega⟩
        simp only [isD_some i1, isD_some i2, isD_some i3, okb, tru, if_true, pyNe_bool, asB, TL.pyLen, pyEq_int, zip_ll, zip_tt, h1, decide_true, Bool.false_eq_true, if_false, pyAll_map]
        simp
    | tuple xs =>
      have i1 : isAny ["tuple", "list"] (.tuple xs) = some true := by simp [isAny, isA1, tyN, k3]
      have i2 : isAny ["tuple"] (.tuple xs) = some true := by simp [isAny, isA1, tyN, k3]
      have i3 : isAny ["list"] (.tuple xs) = some false := by simp [isAny, isA1, tyN, k4]
      cases k with
      | zero => exact absurd hf.2 (by rw [PyData.depth]; omega)
      | succ k =>
        have h1 := all xs fun x hx => ⟨k, fitk_tupleI hf x hx, by omega, by omega⟩
        simp only [isD_some i1, isD_some i2, isD_some i3, okb, tru, if_true, pyNe_bool, asB, TL.pyLen, pyEq_int, zip_ll, zip_tt, h1, decide_true, Bool.false_eq_true, if_false, pyAll_map]
        simp
    | dict es => exact nomatch hf.1
    | none | bool _ | int _ | str _ =>
      obtain ⟨j1, b, j2⟩ := leaf (fun _ h => nomatch h) (fun _ h => nomatch h)
      rw [isD_some j1, isD_some j2, pyEq_of hf hf h60, eqv_refl hf.1]
      simp only [okb, tru, Bool.false_eq_true, if_false, if_true, pyEq_bool]
/-! ### layouts -/
def layD (m : Nat) (hs : List (List Nat)) : D := .tuple [nD m, .tuple (hs.map tN)]
structure LayV (m : Nat) (hs : List (List Nat)) : Prop where
  m1 : 1 ≤ m
  m7 : m ≤ 7
  n1 : 1 ≤ hs.length
  n6 : hs.length ≤ 6
  ne : ∀ h ∈ hs, h ≠ []
  up : ∀ h ∈ hs, h.Pairwise (· < ·)
  lt : ∀ h ∈ hs, ∀ c ∈ h, c < m
def Lay (d : D) : Prop := ∃ m hs, d = layD m hs ∧ LayV m hs
theorem bools_m {α : Type} (p : α → Bool) (xs : List α) : bools (xs.map fun x => PyData.bool (p x)) = some (xs.map p) := TP.bools_map p xs
theorem rise_len {m : Nat} : ∀ {h : List Nat} {a : Nat}, h.Pairwise (· < ·) → (∀ c ∈ h, c < m) → (∀ c ∈ h, a ≤ c) → a ≤ m → h.length + a ≤ m
  | [], a, _, _, _, ha => by simpa using ha
  | c :: h, a, h1, h2, h3, ha => by
    rw [List.pairwise_cons] at h1
    have hc := h2 c List.mem_cons_self
    have h4 := h3 c List.mem_cons_self
    have := rise_len (a := c + 1) h1.2 (fun d hd => h2 d (List.mem_cons_of_mem _ hd)) (fun d hd => h1.1 d hd) hc
    rw [List.length_cons]
    omega
theorem LayV.len {m : Nat} {hs : List (List Nat)} (v : LayV m hs) {h : List Nat} (hh : h ∈ hs) : h.length ≤ m := by
  have := rise_len (a := 0) (v.up h hh) (v.lt h hh) (fun _ _ => Nat.zero_le _) (Nat.zero_le _)
  omega
theorem filJ_toss {s : D} {n : Nat} {xs : List Nat} (h : 0 < n) (h2 : n < 1073741824) (hb : IsBox s) :
    Sat (filJ (fun d s => (m_law_take s [nD n]).bind fun p => (pyEq p.1 (nD 0)).bind fun a => (asB a).bind fun z => R.ok (z, p.2)) (fun d s => R.ok (d, s)) (xs.map nD) s) fun r => (∃ ys : List Nat, ys.Sublist xs ∧ r.1 = ys.map nD) ∧ IsBox r.2 :=
  (filJ_inv (I := IsBox) (k := nD) (fun x _ s hs => Sat.bind (take_sat hs h h2) fun p ⟨⟨k, hk, e⟩, hb⟩ => by
    rw [e, eqN, okb, asBB, okb]
    exact ⟨_, rfl, hb⟩) (fun x _ s hs => ⟨_, rfl, rfl, hs⟩) hb).mono fun r ⟨ys, h1, h2, h3⟩ => ⟨⟨ys, h1, h2⟩, h3⟩
theorem erase_map {α β : Type} (f : α → β) : ∀ (l : List α) (k : Nat), (l.map f).eraseIdx k = (l.eraseIdx k).map f
  | [], _ => rfl
  | _ :: _, 0 => rfl
  | x :: l, k + 1 => congrArg (f x :: ·) (erase_map f l k)
theorem perm_erase {α : Type} : ∀ {l : List α} {k : Nat} (h : k < l.length), (l[k] :: l.eraseIdx k).Perm l
  | x :: l, 0, _ => List.Perm.refl _
  | x :: l, k + 1, h => by
    have h' : k < l.length := Nat.lt_of_succ_lt_succ h
    exact (List.Perm.swap x l[k] _).trans ((perm_erase h').cons x)
theorem popAt_is {α : Type} {f : α → D} {l : List α} {k : Nat} (z : α) (h : k < l.length) (h2 : l.length ≤ 16777216) : popAtD (.list (l.map f)) (nD k) = .ok (f (l.getD k z), .list ((l.eraseIdx k).map f)) := by
  have g := getD_map (f := f) h z
  simp only [popAtD, nD, List.length_map]
  rw [if_pos ⟨by omega, by omega⟩, seqIndex_of (by omega) (by omega)]
  simp only [Int.toNat_natCast, g, erase_map]
/-- an order drawn: each number once -/
theorem order_drawn {s : D} {n : Nat} (hn : n ≤ 1000) (hb : IsBox s) :
    Sat (mapJ (fun d s => (lstD s.1).bind fun u => (nl (TL.pyLen [s.1])).bind fun a => (m_law_take s.2 [a]).bind fun a => (popAtD s.1 a.1).bind fun q => R.ok (q.1, q.2, a.2)) ((List.range n).map nD) (PyData.list ((List.range n).map nD), s)) fun r => (∃ o : List Nat, o.Perm (List.range n) ∧ r.1 = o.map nD) ∧ IsBox r.2.2 := by
  have key : ∀ (k : Nat) (l : List Nat) (s : D) (xs : List D), xs.length = k → l.length = k → k ≤ 1000 → IsBox s → Sat (mapJ (fun (d : D) (s : D × D) => (lstD s.1).bind fun u => (nl (TL.pyLen [s.1])).bind fun a => (m_law_take s.2 [a]).bind fun a => (popAtD s.1 a.1).bind fun q => R.ok (q.1, q.2, a.2)) xs (PyData.list (l.map nD), s)) fun r => (∃ o : List Nat, o.Perm l ∧ r.1 = o.map nD) ∧ IsBox r.2.2 := by
    intro k
    induction k with
    | zero =>
      intro l s xs hx hl _ hb
      rw [List.length_eq_zero_iff.mp hx, List.length_eq_zero_iff.mp hl]
      exact ⟨_, rfl, ⟨[], List.Perm.refl _, rfl⟩, hb⟩
    | succ k ih =>
      intro l s xs hx hl hk hb
      cases xs with
      | nil => cases hx
      | cons x xs =>
        rw [mapJ]
        simp only [okb, int_lit, tN_def, nox_bind, bind_as, noxo, nox_nox, nox_no', R.bind_ok, eqN, neN, ltN, leN, gtN, geN, addN, minN, maxN, truN, truB, asBB, asIntN, partN, nl_okN, nl_bool, lstD_ok, items_l, items_t, items_tN, len_l, len_t, len_tN, tuple_l, tuple_t, list_l, list_t, list_tN, ix0, ix1, ix2, ix0l, ix1l, inLN, inTN, ninLN, ninTN, inLT, inTT, ninLT, ninTT, eqT, neT, eqT0, neT0, eqL0, neL0, unp2_t, unp3_t, sl_to, sl_from, sl_tol, sl_froml, sl_totN, sl_fromtN, sortedN, decide_eq_true_eq, Bool.false_eq_true, if_true, if_false, List.length_map, List.length_range, nl_tN, nf_ok, unp2_pN, ix0p, ix1p, eqP, nf_okP, nf_okT, nl_okP, neL0P, eqL0P, neL0T, eqL0T, inLP, inTP, any_m, all_m, is_none, isnot_none, isNone_n, isNone_N, isNone_T, isNone_t, isNone_l, thenO_nx, thenO_rt, Bool.not_true, Bool.not_false, is_tuple_none, is_tuple_bool, is_tuple_int, is_tuple_str, is_tuple_list, is_tuple_tuple, is_tuple_dict, is_tuple_N, is_tuple_T, is_tuple_P, is_list_none, is_list_bool, is_list_int, is_list_str, is_list_list, is_list_tuple, is_list_dict, is_list_N, is_list_T, is_list_P, is_int_none, is_int_bool, is_int_int, is_int_str, is_int_list, is_int_tuple, is_int_dict, is_int_N, is_int_T, is_int_P, is_bool_none, is_bool_bool, is_bool_int, is_bool_str, is_bool_list, is_bool_tuple, is_bool_dict, is_bool_N, is_bool_T, is_bool_P, is_str_none, is_str_bool, is_str_int, is_str_str, is_str_list, is_str_tuple, is_str_dict, is_str_N, is_str_T, is_str_P, is_seq_none, is_seq_bool, is_seq_int, is_seq_str, is_seq_list, is_seq_tuple, is_seq_dict, is_seq_N, is_seq_T, is_seq_P, zip_ll, zip_tt, zip_lt, zip_tl, upto_N, whole_N]
        refine Sat.bind (take_sat hb (by omega) (by omega)) fun p ⟨⟨j, hj, e⟩, hb2⟩ => ?_
        rw [e, popAt_is 0 hj (by omega)]
        simp only [okb]
        refine Sat.bind (ih (l.eraseIdx j) p.2 xs (by simpa using hx) (by rw [List.length_eraseIdx, if_pos hj]; omega) (by omega) hb2) fun r ⟨⟨o, ho, e2⟩, hb3⟩ => ?_
        refine ⟨_, rfl, ⟨l.getD j 0 :: o, ?_, by rw [e2]; rfl⟩, hb3⟩
        have e3 : l.getD j 0 = l[j] := by rw [List.getD_eq_getElem?_getD, List.getElem?_eq_getElem hj]; rfl
        rw [e3]
        exact (ho.cons _).trans (perm_erase hj)
  exact key n (List.range n) s _ (by simp) (by simp) hn hb
/-- the heads so far -/
def Heads (m n : Nat) (d : D) : Prop := ∃ hs : List (List Nat), d = .list (hs.map tN) ∧ hs.length = n ∧ ∀ h ∈ hs, h ≠ [] ∧ h.Pairwise (· < ·) ∧ ∀ c ∈ h, c < m
theorem head_len {m : Nat} {h : List Nat} (h1 : h.Pairwise (· < ·)) (h2 : ∀ c ∈ h, c < m) : h.length ≤ m := by
  have := rise_len (a := 0) h1 h2 (fun _ _ => Nat.zero_le _) (Nat.zero_le _)
  omega
/-- heads laid in an order -/
theorem fin_lay {m n : Nat} {hs : List (List Nat)} {o : List Nat} (hm : 1 ≤ m ∧ m ≤ 7) (hn : 1 ≤ n ∧ n ≤ 6) (hl : hs.length = n) (hh : ∀ h ∈ hs, h ≠ [] ∧ h.Pairwise (· < ·) ∧ ∀ c ∈ h, c < m) (ho : o.Perm (List.range n)) : LayV m (o.map fun k => hs.getD k []) := by
  have key : ∀ h ∈ o.map fun k => hs.getD k [], h ∈ hs := fun h hm => by
    obtain ⟨k, hk, rfl⟩ := List.mem_map.mp hm
    have : k < hs.length := by rw [hl]; exact List.mem_range.mp (ho.mem_iff.mp hk)
    show hs.getD k [] ∈ hs
    rw [List.getD_eq_getElem?_getD, List.getElem?_eq_getElem this]
    exact List.getElem_mem _
  have l : (o.map fun k => hs.getD k []).length = n := by rw [List.length_map, ho.length_eq, List.length_range]
  exact ⟨hm.1, hm.2, by omega, by omega, fun h hm => (hh h (key h hm)).1, fun h hm => (hh h (key h hm)).2.1, fun h hm => (hh h (key h hm)).2.2⟩
theorem layout_is {s : D} (hb : IsBox s) : Sat (m_law_layout s []) fun p => Lay p.1 ∧ IsBox p.2 := by
  rw [m_law_layout]
  simp only [okb, int_lit, tN_def, nox_bind, bind_as, noxo, nox_nox, nox_no', R.bind_ok, eqN, neN, ltN, leN, gtN, geN, addN, minN, maxN, truN, truB, asBB, asIntN, partN, nl_okN, nl_bool, lstD_ok, items_l, items_t, items_tN, len_l, len_t, len_tN, tuple_l, tuple_t, list_l, list_t, list_tN, ix0, ix1, ix2, ix0l, ix1l, inLN, inTN, ninLN, ninTN, inLT, inTT, ninLT, ninTT, eqT, neT, eqT0, neT0, eqL0, neL0, unp2_t, unp3_t, sl_to, sl_from, sl_tol, sl_froml, sl_totN, sl_fromtN, sortedN, decide_eq_true_eq, Bool.false_eq_true, if_true, if_false, List.length_map, List.length_range, nl_tN, nf_ok, unp2_pN, ix0p, ix1p, eqP, nf_okP, nf_okT, nl_okP, neL0P, eqL0P, neL0T, eqL0T, inLP, inTP, any_m, all_m, is_none, isnot_none, isNone_n, isNone_N, isNone_T, isNone_t, isNone_l, thenO_nx, thenO_rt, Bool.not_true, Bool.not_false, is_tuple_none, is_tuple_bool, is_tuple_int, is_tuple_str, is_tuple_list, is_tuple_tuple, is_tuple_dict, is_tuple_N, is_tuple_T, is_tuple_P, is_list_none, is_list_bool, is_list_int, is_list_str, is_list_list, is_list_tuple, is_list_dict, is_list_N, is_list_T, is_list_P, is_int_none, is_int_bool, is_int_int, is_int_str, is_int_list, is_int_tuple, is_int_dict, is_int_N, is_int_T, is_int_P, is_bool_none, is_bool_bool, is_bool_int, is_bool_str, is_bool_list, is_bool_tuple, is_bool_dict, is_bool_N, is_bool_T, is_bool_P, is_str_none, is_str_bool, is_str_int, is_str_str, is_str_list, is_str_tuple, is_str_dict, is_str_N, is_str_T, is_str_P, is_seq_none, is_seq_bool, is_seq_int, is_seq_str, is_seq_list, is_seq_tuple, is_seq_dict, is_seq_N, is_seq_T, is_seq_P, zip_ll, zip_tt, zip_lt, zip_tl, upto_N, whole_N]
  refine Sat.bind (take_nox hb (by omega) (by omega)) ?_
  rintro ⟨_, s1⟩ ⟨⟨k1, hk1, rfl⟩, b1⟩
  simp only [okb, int_lit, tN_def, nox_bind, bind_as, noxo, nox_nox, nox_no', R.bind_ok, eqN, neN, ltN, leN, gtN, geN, addN, minN, maxN, truN, truB, asBB, asIntN, partN, nl_okN, nl_bool, lstD_ok, items_l, items_t, items_tN, len_l, len_t, len_tN, tuple_l, tuple_t, list_l, list_t, list_tN, ix0, ix1, ix2, ix0l, ix1l, inLN, inTN, ninLN, ninTN, inLT, inTT, ninLT, ninTT, eqT, neT, eqT0, neT0, eqL0, neL0, unp2_t, unp3_t, sl_to, sl_from, sl_tol, sl_froml, sl_totN, sl_fromtN, sortedN, decide_eq_true_eq, Bool.false_eq_true, if_true, if_false, List.length_map, List.length_range, nl_tN, nf_ok, unp2_pN, ix0p, ix1p, eqP, nf_okP, nf_okT, nl_okP, neL0P, eqL0P, neL0T, eqL0T, inLP, inTP, any_m, all_m, is_none, isnot_none, isNone_n, isNone_N, isNone_T, isNone_t, isNone_l, thenO_nx, thenO_rt, Bool.not_true, Bool.not_false, is_tuple_none, is_tuple_bool, is_tuple_int, is_tuple_str, is_tuple_list, is_tuple_tuple, is_tuple_dict, is_tuple_N, is_tuple_T, is_tuple_P, is_list_none, is_list_bool, is_list_int, is_list_str, is_list_list, is_list_tuple, is_list_dict, is_list_N, is_list_T, is_list_P, is_int_none, is_int_bool, is_int_int, is_int_str, is_int_list, is_int_tuple, is_int_dict, is_int_N, is_int_T, is_int_P, is_bool_none, is_bool_bool, is_bool_int, is_bool_str, is_bool_list, is_bool_tuple, is_bool_dict, is_bool_N, is_bool_T, is_bool_P, is_str_none, is_str_bool, is_str_int, is_str_str, is_str_list, is_str_tuple, is_str_dict, is_str_N, is_str_T, is_str_P, is_seq_none, is_seq_bool, is_seq_int, is_seq_str, is_seq_list, is_seq_tuple, is_seq_dict, is_seq_N, is_seq_T, is_seq_P, zip_ll, zip_tt, zip_lt, zip_tl, upto_N, whole_N]
  refine Sat.bind (take_nox b1 (by omega) (by omega)) ?_
  rintro ⟨_, s2⟩ ⟨⟨way, hk2, rfl⟩, b2⟩
  simp only [okb, int_lit, tN_def, nox_bind, bind_as, noxo, nox_nox, nox_no', R.bind_ok, eqN, neN, ltN, leN, gtN, geN, addN, minN, maxN, truN, truB, asBB, asIntN, partN, nl_okN, nl_bool, lstD_ok, items_l, items_t, items_tN, len_l, len_t, len_tN, tuple_l, tuple_t, list_l, list_t, list_tN, ix0, ix1, ix2, ix0l, ix1l, inLN, inTN, ninLN, ninTN, inLT, inTT, ninLT, ninTT, eqT, neT, eqT0, neT0, eqL0, neL0, unp2_t, unp3_t, sl_to, sl_from, sl_tol, sl_froml, sl_totN, sl_fromtN, sortedN, decide_eq_true_eq, Bool.false_eq_true, if_true, if_false, List.length_map, List.length_range, nl_tN, nf_ok, unp2_pN, ix0p, ix1p, eqP, nf_okP, nf_okT, nl_okP, neL0P, eqL0P, neL0T, eqL0T, inLP, inTP, any_m, all_m, is_none, isnot_none, isNone_n, isNone_N, isNone_T, isNone_t, isNone_l, thenO_nx, thenO_rt, Bool.not_true, Bool.not_false, is_tuple_none, is_tuple_bool, is_tuple_int, is_tuple_str, is_tuple_list, is_tuple_tuple, is_tuple_dict, is_tuple_N, is_tuple_T, is_tuple_P, is_list_none, is_list_bool, is_list_int, is_list_str, is_list_list, is_list_tuple, is_list_dict, is_list_N, is_list_T, is_list_P, is_int_none, is_int_bool, is_int_int, is_int_str, is_int_list, is_int_tuple, is_int_dict, is_int_N, is_int_T, is_int_P, is_bool_none, is_bool_bool, is_bool_int, is_bool_str, is_bool_list, is_bool_tuple, is_bool_dict, is_bool_N, is_bool_T, is_bool_P, is_str_none, is_str_bool, is_str_int, is_str_str, is_str_list, is_str_tuple, is_str_dict, is_str_N, is_str_T, is_str_P, is_seq_none, is_seq_bool, is_seq_int, is_seq_str, is_seq_list, is_seq_tuple, is_seq_dict, is_seq_N, is_seq_T, is_seq_P, zip_ll, zip_tt, zip_lt, zip_tl, upto_N, whole_N]
  refine Sat.bind (take_nox b2 (by omega) (by omega)) ?_
  rintro ⟨_, s3⟩ ⟨⟨k3, hk3, rfl⟩, b3⟩
  simp only [okb, int_lit, tN_def, nox_bind, bind_as, noxo, nox_nox, nox_no', R.bind_ok, eqN, neN, ltN, leN, gtN, geN, addN, minN, maxN, truN, truB, asBB, asIntN, partN, nl_okN, nl_bool, lstD_ok, items_l, items_t, items_tN, len_l, len_t, len_tN, tuple_l, tuple_t, list_l, list_t, list_tN, ix0, ix1, ix2, ix0l, ix1l, inLN, inTN, ninLN, ninTN, inLT, inTT, ninLT, ninTT, eqT, neT, eqT0, neT0, eqL0, neL0, unp2_t, unp3_t, sl_to, sl_from, sl_tol, sl_froml, sl_totN, sl_fromtN, sortedN, decide_eq_true_eq, Bool.false_eq_true, if_true, if_false, List.length_map, List.length_range, nl_tN, nf_ok, unp2_pN, ix0p, ix1p, eqP, nf_okP, nf_okT, nl_okP, neL0P, eqL0P, neL0T, eqL0T, inLP, inTP, any_m, all_m, is_none, isnot_none, isNone_n, isNone_N, isNone_T, isNone_t, isNone_l, thenO_nx, thenO_rt, Bool.not_true, Bool.not_false, is_tuple_none, is_tuple_bool, is_tuple_int, is_tuple_str, is_tuple_list, is_tuple_tuple, is_tuple_dict, is_tuple_N, is_tuple_T, is_tuple_P, is_list_none, is_list_bool, is_list_int, is_list_str, is_list_list, is_list_tuple, is_list_dict, is_list_N, is_list_T, is_list_P, is_int_none, is_int_bool, is_int_int, is_int_str, is_int_list, is_int_tuple, is_int_dict, is_int_N, is_int_T, is_int_P, is_bool_none, is_bool_bool, is_bool_int, is_bool_str, is_bool_list, is_bool_tuple, is_bool_dict, is_bool_N, is_bool_T, is_bool_P, is_str_none, is_str_bool, is_str_int, is_str_str, is_str_list, is_str_tuple, is_str_dict, is_str_N, is_str_T, is_str_P, is_seq_none, is_seq_bool, is_seq_int, is_seq_str, is_seq_list, is_seq_tuple, is_seq_dict, is_seq_N, is_seq_T, is_seq_P, zip_ll, zip_tt, zip_lt, zip_tl, upto_N, whole_N]
  have hm1 : 1 ≤ 1 + k1 ∧ 1 + k1 ≤ 7 := by omega
  generalize 1 + k1 = m at hm1 ⊢
  have hn1 : 1 ≤ 1 + k3 ∧ 1 + k3 ≤ 6 := by omega
  generalize 1 + k3 = n at hn1 ⊢
  refine Sat.bind (P := fun b => b = true → 2 < m) (Sat.ite (fun _ => ⟨_, rfl, fun h => of_decide_eq_true h⟩) fun _ => ⟨_, rfl, fun h => nomatch h⟩) fun b45 h45 => Sat.ite (fun hb45 => ?_) fun _ => ?_
  · have hm2 := h45 hb45
    have hv : 3 ≤ min m 6 ∧ min m 6 ≤ 6 ∧ min m 6 ≤ m := by omega
    generalize min m 6 = v at hv ⊢
    rw [range1 (by omega), okb, mapR_map (k := fun k : Nat => tN (sortN [k, (k + 1) % v])) (fun k _ => by
      have e := sortedN [k, (k + 1) % v]
      simp only [List.map_cons, List.map_nil] at e
      simp only [okb, int_lit, tN_def, nox_bind, bind_as, noxo, nox_nox, nox_no', R.bind_ok, eqN, neN, ltN, leN, gtN, geN, addN, minN, maxN, truN, truB, asBB, asIntN, partN, nl_okN, nl_bool, lstD_ok, items_l, items_t, items_tN, len_l, len_t, len_tN, tuple_l, tuple_t, list_l, list_t, list_tN, ix0, ix1, ix2, ix0l, ix1l, inLN, inTN, ninLN, ninTN, inLT, inTT, ninLT, ninTT, eqT, neT, eqT0, neT0, eqL0, neL0, unp2_t, unp3_t, sl_to, sl_from, sl_tol, sl_froml, sl_totN, sl_fromtN, sortedN, decide_eq_true_eq, Bool.false_eq_true, if_true, if_false, List.length_map, List.length_range, nl_tN, nf_ok, unp2_pN, ix0p, ix1p, eqP, nf_okP, nf_okT, nl_okP, neL0P, eqL0P, neL0T, eqL0T, inLP, inTP, any_m, all_m, is_none, isnot_none, isNone_n, isNone_N, isNone_T, isNone_t, isNone_l, thenO_nx, thenO_rt, Bool.not_true, Bool.not_false, is_tuple_none, is_tuple_bool, is_tuple_int, is_tuple_str, is_tuple_list, is_tuple_tuple, is_tuple_dict, is_tuple_N, is_tuple_T, is_tuple_P, is_list_none, is_list_bool, is_list_int, is_list_str, is_list_list, is_list_tuple, is_list_dict, is_list_N, is_list_T, is_list_P, is_int_none, is_int_bool, is_int_int, is_int_str, is_int_list, is_int_tuple, is_int_dict, is_int_N, is_int_T, is_int_P, is_bool_none, is_bool_bool, is_bool_int, is_bool_str, is_bool_list, is_bool_tuple, is_bool_dict, is_bool_N, is_bool_T, is_bool_P, is_str_none, is_str_bool, is_str_int, is_str_str, is_str_list, is_str_tuple, is_str_dict, is_str_N, is_str_T, is_str_P, is_seq_none, is_seq_bool, is_seq_int, is_seq_str, is_seq_list, is_seq_tuple, is_seq_dict, is_seq_N, is_seq_T, is_seq_P, zip_ll, zip_tt, zip_lt, zip_tl, upto_N, whole_N, modN (show 0 < v by omega), e])]
    refine ⟨_, rfl, ⟨m, (List.range v).map fun k => sortN [k, (k + 1) % v], by rw [layD, List.map_map]; rfl, ?_⟩, b3⟩
    have hnd : ∀ k, k < v → [k, (k + 1) % v].Nodup := fun k hk => by
      have : (k + 1) % v ≠ k := by
        rcases Nat.lt_or_ge (k + 1) v with h | h
        · rw [Nat.mod_eq_of_lt h]; omega
        · rw [show k + 1 = v by omega, Nat.mod_self]; omega
      simp only [List.nodup_cons, List.mem_singleton, List.not_mem_nil, not_false_eq_true, List.nodup_nil, and_true]
      exact fun e => this e.symm
    have hmem : ∀ h ∈ (List.range v).map fun k => sortN [k, (k + 1) % v], ∃ k, k < v ∧ h = sortN [k, (k + 1) % v] := fun h hh => by
      obtain ⟨k, hk, e⟩ := List.mem_map.mp hh
      exact ⟨k, List.mem_range.mp hk, e.symm⟩
    refine ⟨hm1.1, hm1.2, by simp; omega, by simp; omega, fun h hh => ?_, fun h hh => ?_, fun h hh c hc => ?_⟩
    · obtain ⟨k, hk, rfl⟩ := hmem h hh
      intro z
      have := sortN_length [k, (k + 1) % v]
      rw [z] at this
      cases this
    · obtain ⟨k, hk, rfl⟩ := hmem h hh
      exact sortN_lt (hnd k hk)
    · obtain ⟨k, hk, rfl⟩ := hmem h hh
      have := Nat.mod_lt (k + 1) (show 0 < v by omega)
      rcases List.mem_cons.mp (sortN_mem.mp hc) with e | e
      · omega
      · rw [List.mem_singleton.mp e]; omega
  refine Sat.bind (P := fun b => b = true → 2 < m) (Sat.ite (fun _ => ⟨_, rfl, fun h => of_decide_eq_true h⟩) fun _ => ⟨_, rfl, fun h => nomatch h⟩) fun b73 h73 => Sat.ite (fun hb73 => ?_) fun _ => ?_
  · have hm2 := h73 hb73
    have hv : 3 ≤ min m 6 ∧ min m 6 ≤ 6 ∧ min m 6 ≤ m := by omega
    generalize min m 6 = v at hv ⊢
    simp only [okb, int_lit, tN_def, nox_bind, bind_as, noxo, nox_nox, nox_no', R.bind_ok, eqN, neN, ltN, leN, gtN, geN, addN, minN, maxN, truN, truB, asBB, asIntN, partN, nl_okN, nl_bool, lstD_ok, items_l, items_t, items_tN, len_l, len_t, len_tN, tuple_l, tuple_t, list_l, list_t, list_tN, ix0, ix1, ix2, ix0l, ix1l, inLN, inTN, ninLN, ninTN, inLT, inTT, ninLT, ninTT, eqT, neT, eqT0, neT0, eqL0, neL0, unp2_t, unp3_t, sl_to, sl_from, sl_tol, sl_froml, sl_totN, sl_fromtN, sortedN, decide_eq_true_eq, Bool.false_eq_true, if_true, if_false, List.length_map, List.length_range, nl_tN, nf_ok, unp2_pN, ix0p, ix1p, eqP, nf_okP, nf_okT, nl_okP, neL0P, eqL0P, neL0T, eqL0T, inLP, inTP, any_m, all_m, is_none, isnot_none, isNone_n, isNone_N, isNone_T, isNone_t, isNone_l, thenO_nx, thenO_rt, Bool.not_true, Bool.not_false, is_tuple_none, is_tuple_bool, is_tuple_int, is_tuple_str, is_tuple_list, is_tuple_tuple, is_tuple_dict, is_tuple_N, is_tuple_T, is_tuple_P, is_list_none, is_list_bool, is_list_int, is_list_str, is_list_list, is_list_tuple, is_list_dict, is_list_N, is_list_T, is_list_P, is_int_none, is_int_bool, is_int_int, is_int_str, is_int_list, is_int_tuple, is_int_dict, is_int_N, is_int_T, is_int_P, is_bool_none, is_bool_bool, is_bool_int, is_bool_str, is_bool_list, is_bool_tuple, is_bool_dict, is_bool_N, is_bool_T, is_bool_P, is_str_none, is_str_bool, is_str_int, is_str_str, is_str_list, is_str_tuple, is_str_dict, is_str_N, is_str_T, is_str_P, is_seq_none, is_seq_bool, is_seq_int, is_seq_str, is_seq_list, is_seq_tuple, is_seq_dict, is_seq_N, is_seq_T, is_seq_P, zip_ll, zip_tt, zip_lt, zip_tl, upto_N, whole_N, subN (show 2 ≤ v by omega)]
    refine Sat.bind (take_nox b3 (by omega) (by omega)) ?_
    rintro ⟨_, s4⟩ ⟨⟨k4, hk4, rfl⟩, b4⟩
    simp only [okb, int_lit, tN_def, nox_bind, bind_as, noxo, nox_nox, nox_no', R.bind_ok, eqN, neN, ltN, leN, gtN, geN, addN, minN, maxN, truN, truB, asBB, asIntN, partN, nl_okN, nl_bool, lstD_ok, items_l, items_t, items_tN, len_l, len_t, len_tN, tuple_l, tuple_t, list_l, list_t, list_tN, ix0, ix1, ix2, ix0l, ix1l, inLN, inTN, ninLN, ninTN, inLT, inTT, ninLT, ninTT, eqT, neT, eqT0, neT0, eqL0, neL0, unp2_t, unp3_t, sl_to, sl_from, sl_tol, sl_froml, sl_totN, sl_fromtN, sortedN, decide_eq_true_eq, Bool.false_eq_true, if_true, if_false, List.length_map, List.length_range, nl_tN, nf_ok, unp2_pN, ix0p, ix1p, eqP, nf_okP, nf_okT, nl_okP, neL0P, eqL0P, neL0T, eqL0T, inLP, inTP, any_m, all_m, is_none, isnot_none, isNone_n, isNone_N, isNone_T, isNone_t, isNone_l, thenO_nx, thenO_rt, Bool.not_true, Bool.not_false, is_tuple_none, is_tuple_bool, is_tuple_int, is_tuple_str, is_tuple_list, is_tuple_tuple, is_tuple_dict, is_tuple_N, is_tuple_T, is_tuple_P, is_list_none, is_list_bool, is_list_int, is_list_str, is_list_list, is_list_tuple, is_list_dict, is_list_N, is_list_T, is_list_P, is_int_none, is_int_bool, is_int_int, is_int_str, is_int_list, is_int_tuple, is_int_dict, is_int_N, is_int_T, is_int_P, is_bool_none, is_bool_bool, is_bool_int, is_bool_str, is_bool_list, is_bool_tuple, is_bool_dict, is_bool_N, is_bool_T, is_bool_P, is_str_none, is_str_bool, is_str_int, is_str_str, is_str_list, is_str_tuple, is_str_dict, is_str_N, is_str_T, is_str_P, is_seq_none, is_seq_bool, is_seq_int, is_seq_str, is_seq_list, is_seq_tuple, is_seq_dict, is_seq_N, is_seq_T, is_seq_P, zip_ll, zip_tt, zip_lt, zip_tl, upto_N, whole_N]
    have hz : 3 ≤ 3 + k4 ∧ 3 + k4 ≤ 6 ∧ 3 + k4 ≤ m := by omega
    generalize 3 + k4 = z at hz ⊢
    simp only [okb, int_lit, tN_def, nox_bind, bind_as, noxo, nox_nox, nox_no', R.bind_ok, eqN, neN, ltN, leN, gtN, geN, addN, minN, maxN, truN, truB, asBB, asIntN, partN, nl_okN, nl_bool, lstD_ok, items_l, items_t, items_tN, len_l, len_t, len_tN, tuple_l, tuple_t, list_l, list_t, list_tN, ix0, ix1, ix2, ix0l, ix1l, inLN, inTN, ninLN, ninTN, inLT, inTT, ninLT, ninTT, eqT, neT, eqT0, neT0, eqL0, neL0, unp2_t, unp3_t, sl_to, sl_from, sl_tol, sl_froml, sl_totN, sl_fromtN, sortedN, decide_eq_true_eq, Bool.false_eq_true, if_true, if_false, List.length_map, List.length_range, nl_tN, nf_ok, unp2_pN, ix0p, ix1p, eqP, nf_okP, nf_okT, nl_okP, neL0P, eqL0P, neL0T, eqL0T, inLP, inTP, any_m, all_m, is_none, isnot_none, isNone_n, isNone_N, isNone_T, isNone_t, isNone_l, thenO_nx, thenO_rt, Bool.not_true, Bool.not_false, is_tuple_none, is_tuple_bool, is_tuple_int, is_tuple_str, is_tuple_list, is_tuple_tuple, is_tuple_dict, is_tuple_N, is_tuple_T, is_tuple_P, is_list_none, is_list_bool, is_list_int, is_list_str, is_list_list, is_list_tuple, is_list_dict, is_list_N, is_list_T, is_list_P, is_int_none, is_int_bool, is_int_int, is_int_str, is_int_list, is_int_tuple, is_int_dict, is_int_N, is_int_T, is_int_P, is_bool_none, is_bool_bool, is_bool_int, is_bool_str, is_bool_list, is_bool_tuple, is_bool_dict, is_bool_N, is_bool_T, is_bool_P, is_str_none, is_str_bool, is_str_int, is_str_str, is_str_list, is_str_tuple, is_str_dict, is_str_N, is_str_T, is_str_P, is_seq_none, is_seq_bool, is_seq_int, is_seq_str, is_seq_list, is_seq_tuple, is_seq_dict, is_seq_N, is_seq_T, is_seq_P, zip_ll, zip_tt, zip_lt, zip_tl, upto_N, whole_N, range1 (show z ≤ 16777216 by omega)]
    rw [mapR_map (k := fun o : Nat => tN ((List.range z).filter fun k => decide (k ≠ o))) (fun o _ => by
      rw [filR_map (q := fun k : Nat => decide (k ≠ o)) (k := nD) (fun k _ => by simp only [okb, int_lit, tN_def, nox_bind, bind_as, noxo, nox_nox, nox_no', R.bind_ok, eqN, neN, ltN, leN, gtN, geN, addN, minN, maxN, truN, truB, asBB, asIntN, partN, nl_okN, nl_bool, lstD_ok, items_l, items_t, items_tN, len_l, len_t, len_tN, tuple_l, tuple_t, list_l, list_t, list_tN, ix0, ix1, ix2, ix0l, ix1l, inLN, inTN, ninLN, ninTN, inLT, inTT, ninLT, ninTT, eqT, neT, eqT0, neT0, eqL0, neL0, unp2_t, unp3_t, sl_to, sl_from, sl_tol, sl_froml, sl_totN, sl_fromtN, sortedN, decide_eq_true_eq, Bool.false_eq_true, if_true, if_false, List.length_map, List.length_range, nl_tN, nf_ok, unp2_pN, ix0p, ix1p, eqP, nf_okP, nf_okT, nl_okP, neL0P, eqL0P, neL0T, eqL0T, inLP, inTP, any_m, all_m, is_none, isnot_none, isNone_n, isNone_N, isNone_T, isNone_t, isNone_l, thenO_nx, thenO_rt, Bool.not_true, Bool.not_false, is_tuple_none, is_tuple_bool, is_tuple_int, is_tuple_str, is_tuple_list, is_tuple_tuple, is_tuple_dict, is_tuple_N, is_tuple_T, is_tuple_P, is_list_none, is_list_bool, is_list_int, is_list_str, is_list_list, is_list_tuple, is_list_dict, is_list_N, is_list_T, is_list_P, is_int_none, is_int_bool, is_int_int, is_int_str, is_int_list, is_int_tuple, is_int_dict, is_int_N, is_int_T, is_int_P, is_bool_none, is_bool_bool, is_bool_int, is_bool_str, is_bool_list, is_bool_tuple, is_bool_dict, is_bool_N, is_bool_T, is_bool_P, is_str_none, is_str_bool, is_str_int, is_str_str, is_str_list, is_str_tuple, is_str_dict, is_str_N, is_str_T, is_str_P, is_seq_none, is_seq_bool, is_seq_int, is_seq_str, is_seq_list, is_seq_tuple, is_seq_dict, is_seq_N, is_seq_T, is_seq_P, zip_ll, zip_tt, zip_lt, zip_tl, upto_N, whole_N]) (fun k _ _ => rfl)]
      simp only [okb, int_lit, tN_def, nox_bind, bind_as, noxo, nox_nox, nox_no', R.bind_ok, eqN, neN, ltN, leN, gtN, geN, addN, minN, maxN, truN, truB, asBB, asIntN, partN, nl_okN, nl_bool, lstD_ok, items_l, items_t, items_tN, len_l, len_t, len_tN, tuple_l, tuple_t, list_l, list_t, list_tN, ix0, ix1, ix2, ix0l, ix1l, inLN, inTN, ninLN, ninTN, inLT, inTT, ninLT, ninTT, eqT, neT, eqT0, neT0, eqL0, neL0, unp2_t, unp3_t, sl_to, sl_from, sl_tol, sl_froml, sl_totN, sl_fromtN, sortedN, decide_eq_true_eq, Bool.false_eq_true, if_true, if_false, List.length_map, List.length_range, nl_tN, nf_ok, unp2_pN, ix0p, ix1p, eqP, nf_okP, nf_okT, nl_okP, neL0P, eqL0P, neL0T, eqL0T, inLP, inTP, any_m, all_m, is_none, isnot_none, isNone_n, isNone_N, isNone_T, isNone_t, isNone_l, thenO_nx, thenO_rt, Bool.not_true, Bool.not_false, is_tuple_none, is_tuple_bool, is_tuple_int, is_tuple_str, is_tuple_list, is_tuple_tuple, is_tuple_dict, is_tuple_N, is_tuple_T, is_tuple_P, is_list_none, is_list_bool, is_list_int, is_list_str, is_list_list, is_list_tuple, is_list_dict, is_list_N, is_list_T, is_list_P, is_int_none, is_int_bool, is_int_int, is_int_str, is_int_list, is_int_tuple, is_int_dict, is_int_N, is_int_T, is_int_P, is_bool_none, is_bool_bool, is_bool_int, is_bool_str, is_bool_list, is_bool_tuple, is_bool_dict, is_bool_N, is_bool_T, is_bool_P, is_str_none, is_str_bool, is_str_int, is_str_str, is_str_list, is_str_tuple, is_str_dict, is_str_N, is_str_T, is_str_P, is_seq_none, is_seq_bool, is_seq_int, is_seq_str, is_seq_list, is_seq_tuple, is_seq_dict, is_seq_N, is_seq_T, is_seq_P, zip_ll, zip_tt, zip_lt, zip_tl, upto_N, whole_N])]
    refine ⟨_, rfl, ⟨m, (List.range z).map fun o => (List.range z).filter fun k => decide (k ≠ o), by rw [layD, List.map_map]; rfl, ?_⟩, b4⟩
    have hmem : ∀ h ∈ (List.range z).map fun o => (List.range z).filter fun k => decide (k ≠ o), ∃ o, o < z ∧ h = (List.range z).filter fun k => decide (k ≠ o) := fun h hh => by
      obtain ⟨k, hk, e⟩ := List.mem_map.mp hh
      exact ⟨k, List.mem_range.mp hk, e.symm⟩
    refine ⟨hm1.1, hm1.2, by simp; omega, by simp; omega, fun h hh => ?_, fun h hh => ?_, fun h hh c hc => ?_⟩
    · obtain ⟨o, ho, rfl⟩ := hmem h hh
      intro e
      have h1 : (if o = 0 then 1 else 0) ∈ (List.range z).filter fun k => decide (k ≠ o) := by
        rw [List.mem_filter, List.mem_range]
        split
        · exact ⟨by omega, decide_eq_true (by omega)⟩
        · exact ⟨by omega, decide_eq_true (by omega)⟩
      rw [e] at h1
      cases h1
    · obtain ⟨o, ho, rfl⟩ := hmem h hh
      exact List.Pairwise.filter _ List.pairwise_lt_range
    · obtain ⟨o, ho, rfl⟩ := hmem h hh
      have := List.mem_range.mp (List.mem_filter.mp hc).1
      omega
  rw [range1 (show n ≤ 16777216 by omega), range1 (show m ≤ 16777216 by omega), rgl1 (show n ≤ 16777216 by omega)]
  simp only [okb, int_lit, tN_def, nox_bind, bind_as, noxo, nox_nox, nox_no', R.bind_ok, eqN, neN, ltN, leN, gtN, geN, addN, minN, maxN, truN, truB, asBB, asIntN, partN, nl_okN, nl_bool, lstD_ok, items_l, items_t, items_tN, len_l, len_t, len_tN, tuple_l, tuple_t, list_l, list_t, list_tN, ix0, ix1, ix2, ix0l, ix1l, inLN, inTN, ninLN, ninTN, inLT, inTT, ninLT, ninTT, eqT, neT, eqT0, neT0, eqL0, neL0, unp2_t, unp3_t, sl_to, sl_from, sl_tol, sl_froml, sl_totN, sl_fromtN, sortedN, decide_eq_true_eq, Bool.false_eq_true, if_true, if_false, List.length_map, List.length_range, nl_tN, nf_ok, unp2_pN, ix0p, ix1p, eqP, nf_okP, nf_okT, nl_okP, neL0P, eqL0P, neL0T, eqL0T, inLP, inTP, any_m, all_m, is_none, isnot_none, isNone_n, isNone_N, isNone_T, isNone_t, isNone_l, thenO_nx, thenO_rt, Bool.not_true, Bool.not_false, is_tuple_none, is_tuple_bool, is_tuple_int, is_tuple_str, is_tuple_list, is_tuple_tuple, is_tuple_dict, is_tuple_N, is_tuple_T, is_tuple_P, is_list_none, is_list_bool, is_list_int, is_list_str, is_list_list, is_list_tuple, is_list_dict, is_list_N, is_list_T, is_list_P, is_int_none, is_int_bool, is_int_int, is_int_str, is_int_list, is_int_tuple, is_int_dict, is_int_N, is_int_T, is_int_P, is_bool_none, is_bool_bool, is_bool_int, is_bool_str, is_bool_list, is_bool_tuple, is_bool_dict, is_bool_N, is_bool_T, is_bool_P, is_str_none, is_str_bool, is_str_int, is_str_str, is_str_list, is_str_tuple, is_str_dict, is_str_N, is_str_T, is_str_P, is_seq_none, is_seq_bool, is_seq_int, is_seq_str, is_seq_list, is_seq_tuple, is_seq_dict, is_seq_N, is_seq_T, is_seq_P, zip_ll, zip_tt, zip_lt, zip_tl, upto_N, whole_N]
  refine Sat.bind (P := fun j => IsBox j.1 ∧ Heads m n j.2) ?_ ?_
  · refine (foldR_inv (i := 0) (h := nD) (P := fun i j => IsBox j.1 ∧ Heads m i j.2) (fun _ _ => rfl) (fun i j x hx hp => ?_) ⟨b3, [], rfl, rfl, fun _ h => nomatch h⟩).mono fun j hj => by
      rw [Nat.zero_add, List.length_range] at hj
      exact hj
    have hi : i < n := by
      have := (List.getElem?_eq_some_iff.mp hx).1
      rwa [List.length_range] at this
    rw [Nat.zero_add] at hp ⊢
    obtain ⟨jb, jd⟩ := j
    obtain ⟨bj, hs, rfl, lj, qj⟩ := hp
    have ene : pyNe (.list (hs.map tN)) (.list []) = .ok (.bool (decide (hs ≠ []))) := by
      rw [ne_nilL (fit_map eqd_tN hs) (by decide)]
      simp
    have hnlen : nl (.ok (nD hs.length)) = .ok (nD hs.length) := nl_okN _
    refine Sat.bind (filJ_toss (by omega) (by omega) bj).nox ?_
    rintro ⟨_, s4⟩ ⟨⟨ys, sy, rfl⟩, b4⟩
    have ys7 : ys.length ≤ m := by
      have := sy.length_le
      rwa [List.length_range] at this
    have ysm : ∀ c ∈ ys, c < m := fun c hc => List.mem_range.mp (sy.subset hc)
    simp only [okb, int_lit, tN_def, nox_bind, bind_as, noxo, nox_nox, nox_no', R.bind_ok, eqN, neN, ltN, leN, gtN, geN, addN, minN, maxN, truN, truB, asBB, asIntN, partN, nl_okN, nl_bool, lstD_ok, items_l, items_t, items_tN, len_l, len_t, len_tN, tuple_l, tuple_t, list_l, list_t, list_tN, ix0, ix1, ix2, ix0l, ix1l, inLN, inTN, ninLN, ninTN, inLT, inTT, ninLT, ninTT, eqT, neT, eqT0, neT0, eqL0, neL0, unp2_t, unp3_t, sl_to, sl_from, sl_tol, sl_froml, sl_totN, sl_fromtN, sortedN, decide_eq_true_eq, Bool.false_eq_true, if_true, if_false, List.length_map, List.length_range, nl_tN, nf_ok, unp2_pN, ix0p, ix1p, eqP, nf_okP, nf_okT, nl_okP, neL0P, eqL0P, neL0T, eqL0T, inLP, inTP, any_m, all_m, is_none, isnot_none, isNone_n, isNone_N, isNone_T, isNone_t, isNone_l, thenO_nx, thenO_rt, Bool.not_true, Bool.not_false, is_tuple_none, is_tuple_bool, is_tuple_int, is_tuple_str, is_tuple_list, is_tuple_tuple, is_tuple_dict, is_tuple_N, is_tuple_T, is_tuple_P, is_list_none, is_list_bool, is_list_int, is_list_str, is_list_list, is_list_tuple, is_list_dict, is_list_N, is_list_T, is_list_P, is_int_none, is_int_bool, is_int_int, is_int_str, is_int_list, is_int_tuple, is_int_dict, is_int_N, is_int_T, is_int_P, is_bool_none, is_bool_bool, is_bool_int, is_bool_str, is_bool_list, is_bool_tuple, is_bool_dict, is_bool_N, is_bool_T, is_bool_P, is_str_none, is_str_bool, is_str_int, is_str_str, is_str_list, is_str_tuple, is_str_dict, is_str_N, is_str_T, is_str_P, is_seq_none, is_seq_bool, is_seq_int, is_seq_str, is_seq_list, is_seq_tuple, is_seq_dict, is_seq_N, is_seq_T, is_seq_P, zip_ll, zip_tt, zip_lt, zip_tl, upto_N, whole_N, ene, appD_of (show (hs.map tN).length < 16777216 by simp; omega)]
    refine Sat.bind (P := fun b => b = true → hs ≠ []) (Sat.ite (fun _ => ⟨_, rfl, fun h => of_decide_eq_true h⟩) fun _ => ⟨_, rfl, fun h => nomatch h⟩) fun b190 h190 => ?_
    refine Sat.bind (P := fun v => IsBox v.1 ∧ ∃ ks : List Nat, v.2 = .list (ks.map nD) ∧ (∀ c ∈ ks, c < m) ∧ ks.length ≤ 14) (Sat.ite (fun hb190 => ?_) fun _ => ⟨_, rfl, b4, ys, rfl, ysm, by omega⟩) ?_
    · have hpos : 0 < hs.length := List.length_pos_iff.mpr (h190 hb190)
      refine Sat.bind (take_nox b4 hpos (by omega)) ?_
      rintro ⟨_, s5⟩ ⟨⟨k5, hk5, rfl⟩, b5⟩
      simp only [okb, int_lit, tN_def, nox_bind, bind_as, noxo, nox_nox, nox_no', R.bind_ok, eqN, neN, ltN, leN, gtN, geN, addN, minN, maxN, truN, truB, asBB, asIntN, partN, nl_okN, nl_bool, lstD_ok, items_l, items_t, items_tN, len_l, len_t, len_tN, tuple_l, tuple_t, list_l, list_t, list_tN, ix0, ix1, ix2, ix0l, ix1l, inLN, inTN, ninLN, ninTN, inLT, inTT, ninLT, ninTT, eqT, neT, eqT0, neT0, eqL0, neL0, unp2_t, unp3_t, sl_to, sl_from, sl_tol, sl_froml, sl_totN, sl_fromtN, sortedN, decide_eq_true_eq, Bool.false_eq_true, if_true, if_false, List.length_map, List.length_range, nl_tN, nf_ok, unp2_pN, ix0p, ix1p, eqP, nf_okP, nf_okT, nl_okP, neL0P, eqL0P, neL0T, eqL0T, inLP, inTP, any_m, all_m, is_none, isnot_none, isNone_n, isNone_N, isNone_T, isNone_t, isNone_l, thenO_nx, thenO_rt, Bool.not_true, Bool.not_false, is_tuple_none, is_tuple_bool, is_tuple_int, is_tuple_str, is_tuple_list, is_tuple_tuple, is_tuple_dict, is_tuple_N, is_tuple_T, is_tuple_P, is_list_none, is_list_bool, is_list_int, is_list_str, is_list_list, is_list_tuple, is_list_dict, is_list_N, is_list_T, is_list_P, is_int_none, is_int_bool, is_int_int, is_int_str, is_int_list, is_int_tuple, is_int_dict, is_int_N, is_int_T, is_int_P, is_bool_none, is_bool_bool, is_bool_int, is_bool_str, is_bool_list, is_bool_tuple, is_bool_dict, is_bool_N, is_bool_T, is_bool_P, is_str_none, is_str_bool, is_str_int, is_str_str, is_str_list, is_str_tuple, is_str_dict, is_str_N, is_str_T, is_str_P, is_seq_none, is_seq_bool, is_seq_int, is_seq_str, is_seq_list, is_seq_tuple, is_seq_dict, is_seq_N, is_seq_T, is_seq_P, zip_ll, zip_tt, zip_lt, zip_tl, upto_N, whole_N, ixOm [] hk5]
      rw [filR_map (q := fun c : Nat => decide ((hs.filter fun h => decide (c ∈ h)) = [])) (k := nD) (fun c _ => by
        rw [filR_map (q := fun h : List Nat => decide (c ∈ h)) (k := tN) (fun h _ => by simp only [okb, int_lit, tN_def, nox_bind, bind_as, noxo, nox_nox, nox_no', R.bind_ok, eqN, neN, ltN, leN, gtN, geN, addN, minN, maxN, truN, truB, asBB, asIntN, partN, nl_okN, nl_bool, lstD_ok, items_l, items_t, items_tN, len_l, len_t, len_tN, tuple_l, tuple_t, list_l, list_t, list_tN, ix0, ix1, ix2, ix0l, ix1l, inLN, inTN, ninLN, ninTN, inLT, inTT, ninLT, ninTT, eqT, neT, eqT0, neT0, eqL0, neL0, unp2_t, unp3_t, sl_to, sl_from, sl_tol, sl_froml, sl_totN, sl_fromtN, sortedN, decide_eq_true_eq, Bool.false_eq_true, if_true, if_false, List.length_map, List.length_range, nl_tN, nf_ok, unp2_pN, ix0p, ix1p, eqP, nf_okP, nf_okT, nl_okP, neL0P, eqL0P, neL0T, eqL0T, inLP, inTP, any_m, all_m, is_none, isnot_none, isNone_n, isNone_N, isNone_T, isNone_t, isNone_l, thenO_nx, thenO_rt, Bool.not_true, Bool.not_false, is_tuple_none, is_tuple_bool, is_tuple_int, is_tuple_str, is_tuple_list, is_tuple_tuple, is_tuple_dict, is_tuple_N, is_tuple_T, is_tuple_P, is_list_none, is_list_bool, is_list_int, is_list_str, is_list_list, is_list_tuple, is_list_dict, is_list_N, is_list_T, is_list_P, is_int_none, is_int_bool, is_int_int, is_int_str, is_int_list, is_int_tuple, is_int_dict, is_int_N, is_int_T, is_int_P, is_bool_none, is_bool_bool, is_bool_int, is_bool_str, is_bool_list, is_bool_tuple, is_bool_dict, is_bool_N, is_bool_T, is_bool_P, is_str_none, is_str_bool, is_str_int, is_str_str, is_str_list, is_str_tuple, is_str_dict, is_str_N, is_str_T, is_str_P, is_seq_none, is_seq_bool, is_seq_int, is_seq_str, is_seq_list, is_seq_tuple, is_seq_dict, is_seq_N, is_seq_T, is_seq_P, zip_ll, zip_tt, zip_lt, zip_tl, upto_N, whole_N]) (fun h _ _ => rfl)]
        simp only [okb]
        rw [eq_nilL (fit_map eqd_tN _) (by decide)]
        simp) (fun c _ _ => rfl)]
      simp only [okb, int_lit, tN_def, nox_bind, bind_as, noxo, nox_nox, nox_no', R.bind_ok, eqN, neN, ltN, leN, gtN, geN, addN, minN, maxN, truN, truB, asBB, asIntN, partN, nl_okN, nl_bool, lstD_ok, items_l, items_t, items_tN, len_l, len_t, len_tN, tuple_l, tuple_t, list_l, list_t, list_tN, ix0, ix1, ix2, ix0l, ix1l, inLN, inTN, ninLN, ninTN, inLT, inTT, ninLT, ninTT, eqT, neT, eqT0, neT0, eqL0, neL0, unp2_t, unp3_t, sl_to, sl_from, sl_tol, sl_froml, sl_totN, sl_fromtN, sortedN, decide_eq_true_eq, Bool.false_eq_true, if_true, if_false, List.length_map, List.length_range, nl_tN, nf_ok, unp2_pN, ix0p, ix1p, eqP, nf_okP, nf_okT, nl_okP, neL0P, eqL0P, neL0T, eqL0T, inLP, inTP, any_m, all_m, is_none, isnot_none, isNone_n, isNone_N, isNone_T, isNone_t, isNone_l, thenO_nx, thenO_rt, Bool.not_true, Bool.not_false, is_tuple_none, is_tuple_bool, is_tuple_int, is_tuple_str, is_tuple_list, is_tuple_tuple, is_tuple_dict, is_tuple_N, is_tuple_T, is_tuple_P, is_list_none, is_list_bool, is_list_int, is_list_str, is_list_list, is_list_tuple, is_list_dict, is_list_N, is_list_T, is_list_P, is_int_none, is_int_bool, is_int_int, is_int_str, is_int_list, is_int_tuple, is_int_dict, is_int_N, is_int_T, is_int_P, is_bool_none, is_bool_bool, is_bool_int, is_bool_str, is_bool_list, is_bool_tuple, is_bool_dict, is_bool_N, is_bool_T, is_bool_P, is_str_none, is_str_bool, is_str_int, is_str_str, is_str_list, is_str_tuple, is_str_dict, is_str_N, is_str_T, is_str_P, is_seq_none, is_seq_bool, is_seq_int, is_seq_str, is_seq_list, is_seq_tuple, is_seq_dict, is_seq_N, is_seq_T, is_seq_P, zip_ll, zip_tt, zip_lt, zip_tl, upto_N, whole_N]
      refine Sat.bind (filJ_toss (by omega) (by omega) b5).nox ?_
      rintro ⟨_, s6⟩ ⟨⟨zs, sz, rfl⟩, b6⟩
      have hin : hs.getD k5 [] ∈ hs := by
        rw [List.getD_eq_getElem?_getD, List.getElem?_eq_getElem hk5]
        exact List.getElem_mem _
      have hq := qj _ hin
      have zl := sz.length_le
      have zl2 := head_len hq.2.1 hq.2.2
      have fl : (ys.filter fun c : Nat => decide ((hs.filter fun h => decide (c ∈ h)) = [])).length ≤ ys.length := List.length_filter_le _ _
      simp only [okb, int_lit, tN_def, nox_bind, bind_as, noxo, nox_nox, nox_no', R.bind_ok, eqN, neN, ltN, leN, gtN, geN, addN, minN, maxN, truN, truB, asBB, asIntN, partN, nl_okN, nl_bool, lstD_ok, items_l, items_t, items_tN, len_l, len_t, len_tN, tuple_l, tuple_t, list_l, list_t, list_tN, ix0, ix1, ix2, ix0l, ix1l, inLN, inTN, ninLN, ninTN, inLT, inTT, ninLT, ninTT, eqT, neT, eqT0, neT0, eqL0, neL0, unp2_t, unp3_t, sl_to, sl_from, sl_tol, sl_froml, sl_totN, sl_fromtN, sortedN, decide_eq_true_eq, Bool.false_eq_true, if_true, if_false, List.length_map, List.length_range, nl_tN, nf_ok, unp2_pN, ix0p, ix1p, eqP, nf_okP, nf_okT, nl_okP, neL0P, eqL0P, neL0T, eqL0T, inLP, inTP, any_m, all_m, is_none, isnot_none, isNone_n, isNone_N, isNone_T, isNone_t, isNone_l, thenO_nx, thenO_rt, Bool.not_true, Bool.not_false, is_tuple_none, is_tuple_bool, is_tuple_int, is_tuple_str, is_tuple_list, is_tuple_tuple, is_tuple_dict, is_tuple_N, is_tuple_T, is_tuple_P, is_list_none, is_list_bool, is_list_int, is_list_str, is_list_list, is_list_tuple, is_list_dict, is_list_N, is_list_T, is_list_P, is_int_none, is_int_bool, is_int_int, is_int_str, is_int_list, is_int_tuple, is_int_dict, is_int_N, is_int_T, is_int_P, is_bool_none, is_bool_bool, is_bool_int, is_bool_str, is_bool_list, is_bool_tuple, is_bool_dict, is_bool_N, is_bool_T, is_bool_P, is_str_none, is_str_bool, is_str_int, is_str_str, is_str_list, is_str_tuple, is_str_dict, is_str_N, is_str_T, is_str_P, is_seq_none, is_seq_bool, is_seq_int, is_seq_str, is_seq_list, is_seq_tuple, is_seq_dict, is_seq_N, is_seq_T, is_seq_P, zip_ll, zip_tt, zip_lt, zip_tl, upto_N, whole_N]
      rw [addL (by rw [List.length_map, List.length_map]; omega)]
      refine ⟨_, rfl, b6, (ys.filter fun c : Nat => decide ((hs.filter fun h => decide (c ∈ h)) = [])) ++ zs, by rw [List.map_append], fun c hc => ?_, by rw [List.length_append]; omega⟩
      rcases List.mem_append.mp hc with h | h
      · exact ysm c (List.mem_filter.mp h).1
      · exact hq.2.2 c (sz.subset h)
    rintro ⟨s7, _⟩ ⟨b7, ks, rfl, km, kl⟩
    refine Sat.bind (P := fun b => (b.1 = true → hs ≠ []) ∧ IsBox b.2) (Sat.nox (Sat.ite (fun _ => Sat.ite (fun h => ?_) fun _ => ⟨_, rfl, (fun h => nomatch h), b7⟩) fun _ => ⟨_, rfl, (fun h => nomatch h), b7⟩)) ?_
    · refine Sat.bind (take_sat b7 (by omega) (by omega)) ?_
      rintro ⟨_, s8⟩ ⟨⟨k8, hk8, rfl⟩, b8⟩
      simp only [okb, int_lit, tN_def, nox_bind, bind_as, noxo, nox_nox, nox_no', R.bind_ok, eqN, neN, ltN, leN, gtN, geN, addN, minN, maxN, truN, truB, asBB, asIntN, partN, nl_okN, nl_bool, lstD_ok, items_l, items_t, items_tN, len_l, len_t, len_tN, tuple_l, tuple_t, list_l, list_t, list_tN, ix0, ix1, ix2, ix0l, ix1l, inLN, inTN, ninLN, ninTN, inLT, inTT, ninLT, ninTT, eqT, neT, eqT0, neT0, eqL0, neL0, unp2_t, unp3_t, sl_to, sl_from, sl_tol, sl_froml, sl_totN, sl_fromtN, sortedN, decide_eq_true_eq, Bool.false_eq_true, if_true, if_false, List.length_map, List.length_range, nl_tN, nf_ok, unp2_pN, ix0p, ix1p, eqP, nf_okP, nf_okT, nl_okP, neL0P, eqL0P, neL0T, eqL0T, inLP, inTP, any_m, all_m, is_none, isnot_none, isNone_n, isNone_N, isNone_T, isNone_t, isNone_l, thenO_nx, thenO_rt, Bool.not_true, Bool.not_false, is_tuple_none, is_tuple_bool, is_tuple_int, is_tuple_str, is_tuple_list, is_tuple_tuple, is_tuple_dict, is_tuple_N, is_tuple_T, is_tuple_P, is_list_none, is_list_bool, is_list_int, is_list_str, is_list_list, is_list_tuple, is_list_dict, is_list_N, is_list_T, is_list_P, is_int_none, is_int_bool, is_int_int, is_int_str, is_int_list, is_int_tuple, is_int_dict, is_int_N, is_int_T, is_int_P, is_bool_none, is_bool_bool, is_bool_int, is_bool_str, is_bool_list, is_bool_tuple, is_bool_dict, is_bool_N, is_bool_T, is_bool_P, is_str_none, is_str_bool, is_str_int, is_str_str, is_str_list, is_str_tuple, is_str_dict, is_str_N, is_str_T, is_str_P, is_seq_none, is_seq_bool, is_seq_int, is_seq_str, is_seq_list, is_seq_tuple, is_seq_dict, is_seq_N, is_seq_T, is_seq_P, zip_ll, zip_tt, zip_lt, zip_tl, upto_N, whole_N]
      exact ⟨_, rfl, fun _ => h, b8⟩
    rintro ⟨b438, s9⟩ ⟨h438, b9⟩
    refine Sat.bind (P := fun v => IsBox v.1 ∧ ∃ ks : List Nat, (v.2 = .list (ks.map nD) ∨ v.2 = tN ks) ∧ (∀ c ∈ ks, c < m) ∧ ks.length ≤ 14) (Sat.ite (fun hb => ?_) fun _ => ⟨_, rfl, b9, ks, .inl rfl, km, kl⟩) ?_
    · have hpos : 0 < hs.length := List.length_pos_iff.mpr (h438 hb)
      refine Sat.bind (take_nox b9 hpos (by omega)) ?_
      rintro ⟨_, s5⟩ ⟨⟨k5, hk5, rfl⟩, b5⟩
      simp only [okb, int_lit, tN_def, nox_bind, bind_as, noxo, nox_nox, nox_no', R.bind_ok, eqN, neN, ltN, leN, gtN, geN, addN, minN, maxN, truN, truB, asBB, asIntN, partN, nl_okN, nl_bool, lstD_ok, items_l, items_t, items_tN, len_l, len_t, len_tN, tuple_l, tuple_t, list_l, list_t, list_tN, ix0, ix1, ix2, ix0l, ix1l, inLN, inTN, ninLN, ninTN, inLT, inTT, ninLT, ninTT, eqT, neT, eqT0, neT0, eqL0, neL0, unp2_t, unp3_t, sl_to, sl_from, sl_tol, sl_froml, sl_totN, sl_fromtN, sortedN, decide_eq_true_eq, Bool.false_eq_true, if_true, if_false, List.length_map, List.length_range, nl_tN, nf_ok, unp2_pN, ix0p, ix1p, eqP, nf_okP, nf_okT, nl_okP, neL0P, eqL0P, neL0T, eqL0T, inLP, inTP, any_m, all_m, is_none, isnot_none, isNone_n, isNone_N, isNone_T, isNone_t, isNone_l, thenO_nx, thenO_rt, Bool.not_true, Bool.not_false, is_tuple_none, is_tuple_bool, is_tuple_int, is_tuple_str, is_tuple_list, is_tuple_tuple, is_tuple_dict, is_tuple_N, is_tuple_T, is_tuple_P, is_list_none, is_list_bool, is_list_int, is_list_str, is_list_list, is_list_tuple, is_list_dict, is_list_N, is_list_T, is_list_P, is_int_none, is_int_bool, is_int_int, is_int_str, is_int_list, is_int_tuple, is_int_dict, is_int_N, is_int_T, is_int_P, is_bool_none, is_bool_bool, is_bool_int, is_bool_str, is_bool_list, is_bool_tuple, is_bool_dict, is_bool_N, is_bool_T, is_bool_P, is_str_none, is_str_bool, is_str_int, is_str_str, is_str_list, is_str_tuple, is_str_dict, is_str_N, is_str_T, is_str_P, is_seq_none, is_seq_bool, is_seq_int, is_seq_str, is_seq_list, is_seq_tuple, is_seq_dict, is_seq_N, is_seq_T, is_seq_P, zip_ll, zip_tt, zip_lt, zip_tl, upto_N, whole_N, ixOm [] hk5]
      have hin : hs.getD k5 [] ∈ hs := by
        rw [List.getD_eq_getElem?_getD, List.getElem?_eq_getElem hk5]
        exact List.getElem_mem _
      have hq := qj _ hin
      have zl2 := head_len hq.2.1 hq.2.2
      exact ⟨_, rfl, b5, _, .inr rfl, hq.2.2, by omega⟩
    rintro ⟨s10, q⟩ ⟨b10, js, ej, jm, jl⟩
    have es : pySortedSet q = .ok (.list ((setS js).map nD)) := by
      rcases ej with rfl | rfl
      · exact setS_is js (by omega)
      · exact setS_is js (by omega)
    have eu : tru (tN (setS js)) = .ok (decide (setS js ≠ [])) := by
      show R.ok _ = _
      cases setS js <;> rfl
    simp only [okb, int_lit, tN_def, nox_bind, bind_as, noxo, nox_nox, nox_no', R.bind_ok, eqN, neN, ltN, leN, gtN, geN, addN, minN, maxN, truN, truB, asBB, asIntN, partN, nl_okN, nl_bool, lstD_ok, items_l, items_t, items_tN, len_l, len_t, len_tN, tuple_l, tuple_t, list_l, list_t, list_tN, ix0, ix1, ix2, ix0l, ix1l, inLN, inTN, ninLN, ninTN, inLT, inTT, ninLT, ninTT, eqT, neT, eqT0, neT0, eqL0, neL0, unp2_t, unp3_t, sl_to, sl_from, sl_tol, sl_froml, sl_totN, sl_fromtN, sortedN, decide_eq_true_eq, Bool.false_eq_true, if_true, if_false, List.length_map, List.length_range, nl_tN, nf_ok, unp2_pN, ix0p, ix1p, eqP, nf_okP, nf_okT, nl_okP, neL0P, eqL0P, neL0T, eqL0T, inLP, inTP, any_m, all_m, is_none, isnot_none, isNone_n, isNone_N, isNone_T, isNone_t, isNone_l, thenO_nx, thenO_rt, Bool.not_true, Bool.not_false, is_tuple_none, is_tuple_bool, is_tuple_int, is_tuple_str, is_tuple_list, is_tuple_tuple, is_tuple_dict, is_tuple_N, is_tuple_T, is_tuple_P, is_list_none, is_list_bool, is_list_int, is_list_str, is_list_list, is_list_tuple, is_list_dict, is_list_N, is_list_T, is_list_P, is_int_none, is_int_bool, is_int_int, is_int_str, is_int_list, is_int_tuple, is_int_dict, is_int_N, is_int_T, is_int_P, is_bool_none, is_bool_bool, is_bool_int, is_bool_str, is_bool_list, is_bool_tuple, is_bool_dict, is_bool_N, is_bool_T, is_bool_P, is_str_none, is_str_bool, is_str_int, is_str_str, is_str_list, is_str_tuple, is_str_dict, is_str_N, is_str_T, is_str_P, is_seq_none, is_seq_bool, is_seq_int, is_seq_str, is_seq_list, is_seq_tuple, is_seq_dict, is_seq_N, is_seq_T, is_seq_P, zip_ll, zip_tt, zip_lt, zip_tl, upto_N, whole_N, es, eu]
    refine Sat.bind (P := fun v => IsBox v.2 ∧ ∃ h : List Nat, v.1 = tN h ∧ h ≠ [] ∧ h.Pairwise (· < ·) ∧ ∀ c ∈ h, c < m) (Sat.nox (Sat.ite (fun hne => ⟨_, rfl, b10, _, rfl, hne, setS_up, fun c hc => jm c (setS_mem.mp hc)⟩) fun _ => ?_)) ?_
    · refine Sat.bind (take_sat b10 (by omega) (by omega)) ?_
      rintro ⟨_, s8⟩ ⟨⟨k8, hk8, rfl⟩, b8⟩
      exact ⟨_, rfl, b8, [k8], rfl, by simp, by simp, fun c hc => by rw [List.mem_singleton.mp hc]; exact hk8⟩
    rintro ⟨_, s11⟩ ⟨b11, h, rfl, h1, h2, h3⟩
    refine ⟨_, rfl, b11, hs ++ [h], by rw [List.map_append]; rfl, by rw [List.length_append, lj]; rfl, fun y hy => ?_⟩
    rcases List.mem_append.mp hy with z | z
    · exact qj y z
    · rw [List.mem_singleton.mp z]; exact ⟨h1, h2, h3⟩
  rintro ⟨s4, _⟩ ⟨b4, hs, rfl, hl, hq⟩
  refine Sat.bind (order_drawn (by omega) b4).nox ?_
  rintro ⟨_, _, s5⟩ ⟨⟨o, ho, rfl⟩, b5⟩
  simp only [okb, int_lit, tN_def, nox_bind, bind_as, noxo, nox_nox, nox_no', R.bind_ok, eqN, neN, ltN, leN, gtN, geN, addN, minN, maxN, truN, truB, asBB, asIntN, partN, nl_okN, nl_bool, lstD_ok, items_l, items_t, items_tN, len_l, len_t, len_tN, tuple_l, tuple_t, list_l, list_t, list_tN, ix0, ix1, ix2, ix0l, ix1l, inLN, inTN, ninLN, ninTN, inLT, inTT, ninLT, ninTT, eqT, neT, eqT0, neT0, eqL0, neL0, unp2_t, unp3_t, sl_to, sl_from, sl_tol, sl_froml, sl_totN, sl_fromtN, sortedN, decide_eq_true_eq, Bool.false_eq_true, if_true, if_false, List.length_map, List.length_range, nl_tN, nf_ok, unp2_pN, ix0p, ix1p, eqP, nf_okP, nf_okT, nl_okP, neL0P, eqL0P, neL0T, eqL0T, inLP, inTP, any_m, all_m, is_none, isnot_none, isNone_n, isNone_N, isNone_T, isNone_t, isNone_l, thenO_nx, thenO_rt, Bool.not_true, Bool.not_false, is_tuple_none, is_tuple_bool, is_tuple_int, is_tuple_str, is_tuple_list, is_tuple_tuple, is_tuple_dict, is_tuple_N, is_tuple_T, is_tuple_P, is_list_none, is_list_bool, is_list_int, is_list_str, is_list_list, is_list_tuple, is_list_dict, is_list_N, is_list_T, is_list_P, is_int_none, is_int_bool, is_int_int, is_int_str, is_int_list, is_int_tuple, is_int_dict, is_int_N, is_int_T, is_int_P, is_bool_none, is_bool_bool, is_bool_int, is_bool_str, is_bool_list, is_bool_tuple, is_bool_dict, is_bool_N, is_bool_T, is_bool_P, is_str_none, is_str_bool, is_str_int, is_str_str, is_str_list, is_str_tuple, is_str_dict, is_str_N, is_str_T, is_str_P, is_seq_none, is_seq_bool, is_seq_int, is_seq_str, is_seq_list, is_seq_tuple, is_seq_dict, is_seq_N, is_seq_T, is_seq_P, zip_ll, zip_tt, zip_lt, zip_tl, upto_N, whole_N]
  rw [mapR_map (k := fun k => tN (hs.getD k [])) (fun k hk => ixLm [] (by rw [hl]; exact List.mem_range.mp (ho.mem_iff.mp hk)))]
  exact ⟨_, rfl, ⟨m, o.map fun k => hs.getD k [], by rw [layD, List.map_map]; rfl, fin_lay hm1 hn1 hl hq ho⟩, b5⟩
end TP
/-! the plain layer, 3: order; loops of the laws -/
namespace TP
open PySem PySem.Spec PyProof.Rows L2 TL JT
/-- a row of things that may be compared, by their order -/
structure OrD {α : Type} [LT α] (k : Nat) (f : α → D) : Prop where
  eq : EqD k f
  al : ∀ a b, PySem.W.alike (f a) (f b) = true
  lt : ∀ a b, PySem.W.dataLt (f a) (f b) = true ↔ a < b
theorem ord_nD : OrD 0 nD := ⟨eqd_nD, fun a b => alike_int _ _, fun a b => by
  unfold nD
  rw [PySem.W.dataLt_int, decide_eq_true_iff]
  omega⟩
theorem alike_all {α : Type} {f : α → D} (h : ∀ a b, PySem.W.alike (f a) (f b) = true) : ∀ xs ys : List α, PySem.W.alikeAll (xs.map f) (ys.map f) = true
  | [], ys => by cases ys <;> simp [PySem.W.alikeAll]
  | x :: xs, [] => by simp [PySem.W.alikeAll]
  | x :: xs, y :: ys => by
    rw [List.map_cons, List.map_cons, PySem.W.alikeAll, h, alike_all h xs ys]
    rfl
theorem rowLt_map {α : Type} [LT α] {k : Nat} {f : α → D} (h : OrD k f) : ∀ xs ys : List α, PySem.W.rowLt (xs.map f) (ys.map f) = true ↔ xs < ys
  | [], [] => by
    have e : PySem.W.rowLt [] [] = false := lex_irrefl _
    simp [e]
  | [], y :: ys => by
    have e : PySem.W.rowLt [] (f y :: ys.map f) = true := by
      unfold PySem.W.rowLt
      rw [PySem.W.toks_all_cons]
      simp only [PySem.W.keyToksAll]
      rw [lex_diff (O := itemOrd) (by simp)]
      rfl
    simpa using e
  | x :: xs, [] => by
    have e : PySem.W.rowLt (f x :: xs.map f) [] = false := by
      unfold PySem.W.rowLt
      rw [PySem.W.toks_all_cons]
      simp only [PySem.W.keyToksAll]
      rw [lex_diff (O := itemOrd) (by simp)]
      rfl
    simpa using e
  | x :: xs, y :: ys => by
    have e : PySem.W.rowLt (f x :: xs.map f) (f y :: ys.map f) = if PyData.eqv (f x) (f y) = true then PySem.W.rowLt (xs.map f) (ys.map f) else PySem.W.dataLt (f x) (f y) := PySem.W.dataLt_cons (h.al x y) _ _
    rw [List.map_cons, List.map_cons, e, List.cons_lt_cons_iff]
    by_cases c : x = y
    · subst c
      rw [if_pos ((h.eq.eqv x x).mpr rfl), rowLt_map h xs ys]
      have irr : ¬ x < x := fun z => by
        have := (h.lt x x).mpr z
        unfold PySem.W.dataLt at this
        rw [lex_irrefl] at this
        cases this
      simp [irr]
    · rw [if_neg (fun z => c ((h.eq.eqv x y).mp z)), h.lt]
      simp [c]
theorem OrD.tup {α : Type} [LT α] {f : α → D} {k : Nat} (h : OrD k f) : OrD (k + 1) fun xs : List α => .tuple (xs.map f) :=
  ⟨h.eq.tup, fun xs ys => by simp only [PySem.W.alike]; exact alike_all h.al xs ys, fun xs ys => by
    rw [PySem.W.dataLt_tuple]
    exact rowLt_map h xs ys⟩
theorem ord_tN : OrD 1 tN := ord_nD.tup
section
variable {α : Type} [LT α] {f : α → D} {k : Nat}
/-- sorted, of tuples that are not empty -/
def srt (xs : List α) [DecidableRel (α := α) (· < ·)] : List α := xs.mergeSort fun a b => decide (¬ b < a)
theorem OrD.sorted [DecidableRel (α := α) (· < ·)] (h : OrD k f) (hk : k ≤ 60) {xs : List α} (hs : (∀ x ∈ xs, ∃ y ys, f x = .tuple (y :: ys)) ∨ ∀ x ∈ xs, f x ≠ .none ∧ ∀ ys, f x ≠ .tuple ys) : pySorted [.list (xs.map f)] = .ok (.list ((srt xs).map f)) := by
  simp only [pySorted]
  rw [if_pos ?_]
  · congr 2
    unfold sortD srt
    refine (List.map_mergeSort fun a _ b _ => ?_).symm
    show _ = (!PySem.W.dataLt (f b) (f a))
    rw [Bool.eq_iff_iff, decide_eq_true_iff, Bool.not_eq_true', ← Bool.not_eq_true, h.lt]
  · unfold sortable
    simp only [Bool.and_eq_true, Bool.or_eq_true, List.all_eq_true]
    refine ⟨⟨fun d hd e he => ?_, fun d hd => ?_⟩, hs.imp (fun g d hd => ?_) fun g d hd => ?_⟩
    · obtain ⟨a, _, rfl⟩ := List.mem_map.mp hd
      obtain ⟨b, _, rfl⟩ := List.mem_map.mp he
      exact h.al a b
    · obtain ⟨a, _, rfl⟩ := List.mem_map.mp hd
      exact (h.eq.fit a).fit hk
    · obtain ⟨a, ha, rfl⟩ := List.mem_map.mp hd
      obtain ⟨y, ys, e⟩ := g a ha
      rw [e]
    · obtain ⟨a, ha, rfl⟩ := List.mem_map.mp hd
      obtain ⟨g1, g2⟩ := g a ha
      cases e : f a with
      | none => exact absurd e g1
      | tuple ys => exact absurd e (g2 ys)
      | _ => rfl
end
theorem sortedT {xs : List (List Nat)} (h : ∀ x ∈ xs, x ≠ []) : pySorted [.list (xs.map tN)] = .ok (.list ((srt xs).map tN)) :=
  ord_tN.sorted (by decide) (.inl fun x hx => by
    cases x with
    | nil => exact absurd rfl (h _ hx)
    | cons y ys => exact ⟨nD y, ys.map nD, rfl⟩)
theorem pN_tN (p : Nat × Nat) : pN p = tN [p.1, p.2] := rfl
@[simp] theorem ltT (a b : List Nat) : pyLt (tN a) (tN b) = .ok (.bool (decide (a < b))) := by
  show pyLt (.tuple (a.map nD)) (.tuple (b.map nD)) = _
  simp only [pyLt]
  rw [if_pos ⟨ord_tN.al a b, (eqd_tN.fit a).fit (by decide), (eqd_tN.fit b).fit (by decide)⟩]
  congr 2
  rw [Bool.eq_iff_iff, decide_eq_true_iff]
  exact ord_tN.lt a b
/-! ### the laws' loops -/
/-- each turn is well -/
def Fine (o : Oc Unit) : Prop := o = .nx ()
theorem turns {α β : Type} {u : D → R β} {mb : Unit → β → R (Oc Unit)} {g : α → D} {h : α → β} {xs : List α} (hu : ∀ x ∈ xs, u (g x) = .ok (h x)) (hm : ∀ x ∈ xs, Sat (mb () (h x)) Fine) : Sat (foldO u mb (xs.map g) ()) Fine := by
  induction xs with
  | nil => exact ⟨_, rfl, rfl⟩
  | cons x xs ih =>
    rw [List.map_cons, foldO, hu x List.mem_cons_self, nox_ok, okb]
    obtain ⟨o, e, rfl⟩ := hm x List.mem_cons_self
    rw [e, okb]
    exact ih (fun y hy => hu y (List.mem_cons_of_mem _ hy)) fun y hy => hm y (List.mem_cons_of_mem _ hy)
theorem turnsN {mb : Unit → D → R (Oc Unit)} {n : Nat} (hm : ∀ k, k < n → Sat (mb () (nD k)) Fine) : Sat (foldO (fun d => R.ok d) mb ((List.range n).map nD) ()) Fine :=
  turns (h := nD) (fun _ _ => rfl) fun k hk => hm k (List.mem_range.mp hk)
theorem thenFine {A : Type} {m : R (Oc Unit)} {r : D → D → A} {k : Unit → R A} {Q : A → Prop} (h : Sat m Fine) (h1 : Sat (k ()) Q) : Sat (thenO m r k) Q := by
  obtain ⟨o, e, rfl⟩ := h
  rw [e]
  exact h1
theorem len_scr (ns : List Int) : TL.pyLen [scrD ns] = .ok (nD ns.length) := by
  show R.ok (PyData.int ((ns.map PyData.int).length : Nat)) = _
  rw [List.length_map]
  rfl
/-- the same, held against itself -/
theorem same_self {d : D} (k : Nat) (h : fitk k d) (hk : k < 12) : m_law_same 12 [d, d] = .ok (.bool true) := same_is 12 k d h hk (by omega)
theorem fitk_of {α : Type} {f : α → D} {k : Nat} (h : EqD k f) (a : α) : fitk k (f a) := h.fit a
/-- a walk that goes on or ends with an answer -/
theorem foldO_opt {α β γ J : Type} {u : D → R β} {mb : J → β → R (Oc J)} {g : α → D} {h : α → β} (e : γ → J) (f : γ → α → Option γ) (t b : D) (I : γ → Prop) : ∀ {xs : List α} {s : γ}, (∀ x ∈ xs, u (g x) = .ok (h x)) →
    (∀ s, ∀ x ∈ xs, I s → mb (e s) (h x) = .ok (match f s x with
      | some s' => .nx (e s')
      | none => .rt t b)) → (∀ s, ∀ x ∈ xs, I s → ∀ s', f s x = some s' → I s') → I s → foldO u mb (xs.map g) (e s) = .ok (match xs.foldlM f s with
      | some s' => .nx (e s')
      | none => .rt t b)
  | [], s, _, _, _, _ => rfl
  | x :: xs, s, hu, hm, hi, is => by
    rw [List.map_cons, foldO, hu x List.mem_cons_self, nox_ok, okb, hm s x List.mem_cons_self is, okb, List.foldlM_cons]
    cases hf : f s x with
    | none => rfl
    | some s' =>
      exact foldO_opt e f t b I (fun y hy => hu y (List.mem_cons_of_mem _ hy)) (fun s y hy => hm s y (List.mem_cons_of_mem _ hy)) (fun s y hy => hi s y (List.mem_cons_of_mem _ hy)) (hi s x List.mem_cons_self is s' hf)
/-- a walk that looks for the first that is bad -/
theorem foldO_bad {α β : Type} {u : D → R β} {mb : Unit → β → R (Oc Unit)} {g : α → D} (h : α → β) (bad : α → Bool) (t b : D) {xs : List α} (hu : ∀ x ∈ xs, u (g x) = .ok (h x)) (hm : ∀ x ∈ xs, mb () (h x) = .ok (if bad x = true then Oc.rt t b else Oc.nx ())) : foldO u mb (xs.map g) () = .ok (if xs.any bad = true then Oc.rt t b else Oc.nx ()) := foldO_find hu hm
@[simp] theorem enum_t (xs : List D) : pyEnum [.tuple xs] = .ok (enumD xs) := id (Eq.refl _)
@[simp] theorem enum_l (xs : List D) : pyEnum [.list xs] = .ok (enumD xs) := id (Eq.refl _)
theorem enumD_map {α : Type} (f : α → D) (z : α) (xs : List α) : enumD (xs.map f) = (List.range xs.length).map fun k => .tuple [nD k, f (xs.getD k z)] := by
  apply List.ext_getElem
  · simp [enumD_len]
  · intro i h1 h2
    have hi : i < xs.length := by simpa [enumD_len] using h1
    unfold enumD
    simp only [List.getElem_zipWith, List.getElem_range, List.getElem_map, List.length_map]
    rw [List.getD_eq_getElem?_getD, List.getElem?_eq_getElem hi]
    rfl
theorem thenO_okite {A J : Type} (c : Prop) [Decidable c] (x y : Oc J) (r : D → D → A) (k : J → R A) : thenO (.ok (if c then x else y)) r k = if c then thenO (.ok x) r k else thenO (.ok y) r k := by split <;> rfl
@[simp] theorem ix0Lm {α : Type} (f : α → D) (x : α) (xs : List α) : pyIx (.list ((x :: xs).map f)) (nD 0) = .ok (f x) := ix0l _ _
@[simp] theorem ix0Tm {α : Type} (f : α → D) (x : α) (xs : List α) : pyIx (.tuple ((x :: xs).map f)) (nD 0) = .ok (f x) := ix0 _ _
@[simp] theorem neg1 : pyNeg (nD 1) = .ok (.int (-1)) := id (Eq.refl _)
theorem atI_last {xs : List D} {d : D} : atI (xs ++ [d]) (-1) = some d := by
  unfold atI ixN
  have e : (-1 + ((xs.length : Int) + 1)).toNat = xs.length := by omega
  simp only [List.length_append, List.length_cons, List.length_nil]
  rw [if_neg (by decide), if_pos (by omega)]
  show (xs ++ [d])[((-1 : Int) + ((xs.length + (0 + 1) : Nat) : Int)).toNat]? = some d
  rw [show ((-1 : Int) + ((xs.length + (0 + 1) : Nat) : Int)).toNat = xs.length by omega]
  simp
@[simp] theorem ix_last (xs : List D) (d : D) : pyIx (.list (xs ++ [d])) (.int (-1)) = .ok d := by simp only [pyIx, atI_last]
@[simp] theorem ix_lastT (xs : List D) (d : D) : pyIx (.tuple (xs ++ [d])) (.int (-1)) = .ok d := by simp only [pyIx, atI_last]
end TP
namespace TP
open PySem PySem.Spec PyProof.Rows L2 TL JT
/-! ### things of whatever kind -/
theorem pick_sat {xs : List D} {k : Nat} {P : D → Prop} (h : ∀ x ∈ xs, P x) (hk : k < xs.length) : Sat (pyIx (.list xs) (nD k)) P := ⟨_, ixL hk, h _ (List.getElem_mem hk)⟩
theorem pick_nox {xs : List D} {k : Nat} {P : D → Prop} (h : ∀ x ∈ xs, P x) (hk : k < xs.length) : Sat (nox (pyIx (.list xs) (nD k))) P := (pick_sat h hk).nox
/-- no dict, nor within a tuple -/
def Thing (d : D) : Prop := NoDict d ∧ match d with
  | .tuple xs => ∀ x ∈ xs, NoDict x
  | _ => True
theorem thing_T (o : List Nat) : Thing (tN o) := ⟨trivial, fun x hx => by
  obtain ⟨n, _, rfl⟩ := List.mem_map.mp hx
  exact trivial⟩
def natOf : D → Option Nat
  | .int i => if 0 ≤ i then some i.toNat else none
  | _ => none
def natsOf : List D → Option (List Nat)
  | [] => some []
  | x :: xs => match natOf x, natsOf xs with
    | some n, some ns => some (n :: ns)
    | _, _ => none
theorem natOf_N (n : Nat) : natOf (nD n) = some n := by simp [natOf, nD]
theorem natOf_some {d : D} {n : Nat} (h : natOf d = some n) : d = nD n := by
  cases d with
  | int i =>
    simp only [natOf] at h
    by_cases hi : 0 ≤ i
    · rw [if_pos hi] at h
      injection h with h
      unfold nD
      congr 1
      omega
    · rw [if_neg hi] at h
      cases h
  | _ => simp [natOf] at h
theorem natsOf_map (ns : List Nat) : natsOf (ns.map nD) = some ns := by
  induction ns with
  | nil => rfl
  | cons n ns ih => rw [List.map_cons, natsOf, natOf_N, ih]
theorem natsOf_some : ∀ {xs : List D} {ns : List Nat}, natsOf xs = some ns → xs = ns.map nD
  | [], ns, h => by cases h; rfl
  | x :: xs, ns, h => by
    rw [natsOf] at h
    cases hx : natOf x with
    | none => rw [hx] at h; cases h
    | some n =>
      cases hs : natsOf xs with
      | none => rw [hx, hs] at h; cases h
      | some ms =>
        rw [hx, hs] at h
        cases h
        rw [natOf_some hx, natsOf_some hs]
        rfl
theorem upto_some {d : D} {n : Nat} (h : uptoB d n = true) : ∃ k, d = nD k ∧ k < n := by
  cases d with
  | int i =>
    have := of_decide_eq_true h
    exact ⟨i.toNat, by unfold nD; congr 1; omega, by omega⟩
  | _ => cases h
theorem upto_all : ∀ {xs : List D} {n : Nat}, xs.all (fun x => uptoB x n) = true → ∃ o : List Nat, xs = o.map nD ∧ ∀ c ∈ o, c < n
  | [], _, _ => ⟨[], rfl, fun _ h => nomatch h⟩
  | x :: xs, n, h => by
    rw [List.all_cons, Bool.and_eq_true] at h
    obtain ⟨k, rfl, hk⟩ := upto_some h.1
    obtain ⟨o, rfl, ho⟩ := upto_all h.2
    exact ⟨k :: o, rfl, fun c hc => (List.mem_cons.mp hc).elim (fun e => e ▸ hk) (ho c)⟩
theorem map_upto {xs : List D} (h : ∀ x ∈ xs, NoDict x) (n : Nat) : mapR (fun x => m_is_upto [x, nD n]) xs = .ok (xs.map fun x => PyData.bool (uptoB x n)) := by
  have := mapR_m (f := fun x => m_is_upto [x, nD n]) (g := fun x : D => x) (fun x => PyData.bool (uptoB x n)) (xs := xs) fun x hx => upto_is (h x hx) n
  rwa [List.map_id'] at this
theorem map_whole {xs : List D} (h : ∀ x ∈ xs, NoDict x) : mapR (fun x => m_is_whole [x]) xs = .ok (xs.map fun x => PyData.bool (wholeB x)) := by
  have := mapR_m (f := fun x => m_is_whole [x]) (g := fun x : D => x) (fun x => PyData.bool (wholeB x)) (xs := xs) fun x hx => whole_is (h x hx)
  rwa [List.map_id'] at this
theorem whole_all : ∀ {xs : List D}, xs.all wholeB = true → ∃ is : List Int, xs = is.map .int
  | [], _ => ⟨[], rfl⟩
  | x :: xs, h => by
    rw [List.all_cons, Bool.and_eq_true] at h
    obtain ⟨is, rfl⟩ := whole_all h.2
    cases x with
    | int i => exact ⟨i :: is, rfl⟩
    | _ => exact absurd h.1 (by simp [wholeB])
def orderB (d : D) (n : Nat) : Bool := match d with
  | .tuple xs => match natsOf xs with
    | some o => decide (sortN o = List.range n)
    | none => false
  | _ => false
theorem orderB_T (o : List Nat) (n : Nat) : orderB (tN o) n = decide (sortN o = List.range n) := by
  show (match natsOf (o.map nD) with
    | some o => decide (sortN o = List.range n)
    | none => false) = _
  rw [natsOf_map]
theorem orderB_some {d : D} {n : Nat} (h : orderB d n = true) : ∃ o, d = tN o ∧ sortN o = List.range n := by
  cases d with
  | tuple xs =>
    simp only [orderB] at h
    cases hs : natsOf xs with
    | none => rw [hs] at h; cases h
    | some o =>
      rw [hs] at h
      exact ⟨o, by rw [natsOf_some hs]; rfl, of_decide_eq_true h⟩
  | _ => cases h
theorem sort_perm {o : List Nat} {n : Nat} (h : sortN o = List.range n) : o.Perm (List.range n) := h ▸ (sortN_perm o).symm
@[simp] theorem sortedtN (xs : List Nat) : pySorted [tN xs] = .ok (.list ((sortN xs).map nD)) := sortedN xs
@[simp] theorem eqL (a b : List Nat) : pyEq (.list (a.map nD)) (.list (b.map nD)) = .ok (.bool (decide (a = b))) := eqd_lN.eq (by decide) a b
@[simp] theorem neL (a b : List Nat) : pyNe (.list (a.map nD)) (.list (b.map nD)) = .ok (.bool (decide (a ≠ b))) := eqd_lN.ne (by decide) a b
theorem order_of_is {d : D} (h : Thing d) {n : Nat} (hn : n ≤ 16777216) : m_is_order_of [d, nD n] = .ok (.bool (orderB d n)) := by
  rw [m_is_order_of]
  cases d with
  | tuple xs =>
    simp only [okb, int_lit, tN_def, nox_bind, bind_as, noxo, nox_nox, nox_no', R.bind_ok, eqN, neN, ltN, leN, gtN, geN, addN, minN, maxN, truN, truB, asBB, asIntN, partN, nl_okN, nl_bool, lstD_ok, items_l, items_t, items_tN, len_l, len_t, len_tN, tuple_l, tuple_t, list_l, list_t, list_tN, ix0, ix1, ix2, ix0l, ix1l, inLN, inTN, ninLN, ninTN, inLT, inTT, ninLT, ninTT, eqT, neT, eqT0, neT0, eqL0, neL0, unp2_t, unp3_t, sl_to, sl_from, sl_tol, sl_froml, sl_totN, sl_fromtN, sortedN, decide_eq_true_eq, Bool.false_eq_true, if_true, if_false, List.length_map, List.length_range, nl_tN, nf_ok, unp2_pN, ix0p, ix1p, eqP, nf_okP, nf_okT, nl_okP, neL0P, eqL0P, neL0T, eqL0T, inLP, inTP, any_m, all_m, is_none, isnot_none, isNone_n, isNone_N, isNone_T, isNone_t, isNone_l, thenO_nx, thenO_rt, Bool.not_true, Bool.not_false, is_tuple_none, is_tuple_bool, is_tuple_int, is_tuple_str, is_tuple_list, is_tuple_tuple, is_tuple_dict, is_tuple_N, is_tuple_T, is_tuple_P, is_list_none, is_list_bool, is_list_int, is_list_str, is_list_list, is_list_tuple, is_list_dict, is_list_N, is_list_T, is_list_P, is_int_none, is_int_bool, is_int_int, is_int_str, is_int_list, is_int_tuple, is_int_dict, is_int_N, is_int_T, is_int_P, is_bool_none, is_bool_bool, is_bool_int, is_bool_str, is_bool_list, is_bool_tuple, is_bool_dict, is_bool_N, is_bool_T, is_bool_P, is_str_none, is_str_bool, is_str_int, is_str_str, is_str_list, is_str_tuple, is_str_dict, is_str_N, is_str_T, is_str_P, is_seq_none, is_seq_bool, is_seq_int, is_seq_str, is_seq_list, is_seq_tuple, is_seq_dict, is_seq_N, is_seq_T, is_seq_P, zip_ll, zip_tt, zip_lt, zip_tl, upto_N, whole_N, enum_t, enum_l, ix0Lm, ix0Tm, neg1, ix_last, ix_lastT, sortedtN, eqL, neL, map_upto h.2, List.all_map, Function.comp_def, id, rgl1 hn]
    cases hu : xs.all fun x => uptoB x n with
    | false =>
      simp only [okb, int_lit, tN_def, nox_bind, bind_as, noxo, nox_nox, nox_no', R.bind_ok, eqN, neN, ltN, leN, gtN, geN, addN, minN, maxN, truN, truB, asBB, asIntN, partN, nl_okN, nl_bool, lstD_ok, items_l, items_t, items_tN, len_l, len_t, len_tN, tuple_l, tuple_t, list_l, list_t, list_tN, ix0, ix1, ix2, ix0l, ix1l, inLN, inTN, ninLN, ninTN, inLT, inTT, ninLT, ninTT, eqT, neT, eqT0, neT0, eqL0, neL0, unp2_t, unp3_t, sl_to, sl_from, sl_tol, sl_froml, sl_totN, sl_fromtN, sortedN, decide_eq_true_eq, Bool.false_eq_true, if_true, if_false, List.length_map, List.length_range, nl_tN, nf_ok, unp2_pN, ix0p, ix1p, eqP, nf_okP, nf_okT, nl_okP, neL0P, eqL0P, neL0T, eqL0T, inLP, inTP, any_m, all_m, is_none, isnot_none, isNone_n, isNone_N, isNone_T, isNone_t, isNone_l, thenO_nx, thenO_rt, Bool.not_true, Bool.not_false, is_tuple_none, is_tuple_bool, is_tuple_int, is_tuple_str, is_tuple_list, is_tuple_tuple, is_tuple_dict, is_tuple_N, is_tuple_T, is_tuple_P, is_list_none, is_list_bool, is_list_int, is_list_str, is_list_list, is_list_tuple, is_list_dict, is_list_N, is_list_T, is_list_P, is_int_none, is_int_bool, is_int_int, is_int_str, is_int_list, is_int_tuple, is_int_dict, is_int_N, is_int_T, is_int_P, is_bool_none, is_bool_bool, is_bool_int, is_bool_str, is_bool_list, is_bool_tuple, is_bool_dict, is_bool_N, is_bool_T, is_bool_P, is_str_none, is_str_bool, is_str_int, is_str_str, is_str_list, is_str_tuple, is_str_dict, is_str_N, is_str_T, is_str_P, is_seq_none, is_seq_bool, is_seq_int, is_seq_str, is_seq_list, is_seq_tuple, is_seq_dict, is_seq_N, is_seq_T, is_seq_P, zip_ll, zip_tt, zip_lt, zip_tl, upto_N, whole_N, enum_t, enum_l, ix0Lm, ix0Tm, neg1, ix_last, ix_lastT, sortedtN, eqL, neL]
      cases hb : orderB (.tuple xs) n with
      | false => rfl
      | true =>
        obtain ⟨o, e, hs⟩ := orderB_some hb
        have e2 : xs = o.map nD := by injection e
        rw [e2, List.all_map] at hu
        have : (o.all fun x => uptoB (nD x) n) = true := List.all_eq_true.mpr fun c hc => by
          have := List.mem_range.mp ((sort_perm hs).mem_iff.mp hc)
          simp [uptoB, nD, this]
        rw [show ((fun x => uptoB x n) ∘ nD) = fun x => uptoB (nD x) n from rfl, this] at hu
        cases hu
    | true =>
      obtain ⟨o, rfl, ho⟩ := upto_all hu
      simp only [okb, int_lit, tN_def, nox_bind, bind_as, noxo, nox_nox, nox_no', R.bind_ok, eqN, neN, ltN, leN, gtN, geN, addN, minN, maxN, truN, truB, asBB, asIntN, partN, nl_okN, nl_bool, lstD_ok, items_l, items_t, items_tN, len_l, len_t, len_tN, tuple_l, tuple_t, list_l, list_t, list_tN, ix0, ix1, ix2, ix0l, ix1l, inLN, inTN, ninLN, ninTN, inLT, inTT, ninLT, ninTT, eqT, neT, eqT0, neT0, eqL0, neL0, unp2_t, unp3_t, sl_to, sl_from, sl_tol, sl_froml, sl_totN, sl_fromtN, sortedN, decide_eq_true_eq, Bool.false_eq_true, if_true, if_false, List.length_map, List.length_range, nl_tN, nf_ok, unp2_pN, ix0p, ix1p, eqP, nf_okP, nf_okT, nl_okP, neL0P, eqL0P, neL0T, eqL0T, inLP, inTP, any_m, all_m, is_none, isnot_none, isNone_n, isNone_N, isNone_T, isNone_t, isNone_l, thenO_nx, thenO_rt, Bool.not_true, Bool.not_false, is_tuple_none, is_tuple_bool, is_tuple_int, is_tuple_str, is_tuple_list, is_tuple_tuple, is_tuple_dict, is_tuple_N, is_tuple_T, is_tuple_P, is_list_none, is_list_bool, is_list_int, is_list_str, is_list_list, is_list_tuple, is_list_dict, is_list_N, is_list_T, is_list_P, is_int_none, is_int_bool, is_int_int, is_int_str, is_int_list, is_int_tuple, is_int_dict, is_int_N, is_int_T, is_int_P, is_bool_none, is_bool_bool, is_bool_int, is_bool_str, is_bool_list, is_bool_tuple, is_bool_dict, is_bool_N, is_bool_T, is_bool_P, is_str_none, is_str_bool, is_str_int, is_str_str, is_str_list, is_str_tuple, is_str_dict, is_str_N, is_str_T, is_str_P, is_seq_none, is_seq_bool, is_seq_int, is_seq_str, is_seq_list, is_seq_tuple, is_seq_dict, is_seq_N, is_seq_T, is_seq_P, zip_ll, zip_tt, zip_lt, zip_tl, upto_N, whole_N, enum_t, enum_l, ix0Lm, ix0Tm, neg1, ix_last, ix_lastT, sortedtN, eqL, neL, sortedtN, eqL]
      exact congrArg (fun b => R.ok (PyData.bool b)) (orderB_T o n).symm
  | dict es =>
    cases es with
    | nil => simp only [okb, int_lit, tN_def, nox_bind, bind_as, noxo, nox_nox, nox_no', R.bind_ok, eqN, neN, ltN, leN, gtN, geN, addN, minN, maxN, truN, truB, asBB, asIntN, partN, nl_okN, nl_bool, lstD_ok, items_l, items_t, items_tN, len_l, len_t, len_tN, tuple_l, tuple_t, list_l, list_t, list_tN, ix0, ix1, ix2, ix0l, ix1l, inLN, inTN, ninLN, ninTN, inLT, inTT, ninLT, ninTT, eqT, neT, eqT0, neT0, eqL0, neL0, unp2_t, unp3_t, sl_to, sl_from, sl_tol, sl_froml, sl_totN, sl_fromtN, sortedN, decide_eq_true_eq, Bool.false_eq_true, if_true, if_false, List.length_map, List.length_range, nl_tN, nf_ok, unp2_pN, ix0p, ix1p, eqP, nf_okP, nf_okT, nl_okP, neL0P, eqL0P, neL0T, eqL0T, inLP, inTP, any_m, all_m, is_none, isnot_none, isNone_n, isNone_N, isNone_T, isNone_t, isNone_l, thenO_nx, thenO_rt, Bool.not_true, Bool.not_false, is_tuple_none, is_tuple_bool, is_tuple_int, is_tuple_str, is_tuple_list, is_tuple_tuple, is_tuple_dict, is_tuple_N, is_tuple_T, is_tuple_P, is_list_none, is_list_bool, is_list_int, is_list_str, is_list_list, is_list_tuple, is_list_dict, is_list_N, is_list_T, is_list_P, is_int_none, is_int_bool, is_int_int, is_int_str, is_int_list, is_int_tuple, is_int_dict, is_int_N, is_int_T, is_int_P, is_bool_none, is_bool_bool, is_bool_int, is_bool_str, is_bool_list, is_bool_tuple, is_bool_dict, is_bool_N, is_bool_T, is_bool_P, is_str_none, is_str_bool, is_str_int, is_str_str, is_str_list, is_str_tuple, is_str_dict, is_str_N, is_str_T, is_str_P, is_seq_none, is_seq_bool, is_seq_int, is_seq_str, is_seq_list, is_seq_tuple, is_seq_dict, is_seq_N, is_seq_T, is_seq_P, zip_ll, zip_tt, zip_lt, zip_tl, upto_N, whole_N, enum_t, enum_l, ix0Lm, ix0Tm, neg1, ix_last, ix_lastT, sortedtN, eqL, neL]; rfl
    | cons e es => exact h.1.elim
  | _ => simp only [okb, int_lit, tN_def, nox_bind, bind_as, noxo, nox_nox, nox_no', R.bind_ok, eqN, neN, ltN, leN, gtN, geN, addN, minN, maxN, truN, truB, asBB, asIntN, partN, nl_okN, nl_bool, lstD_ok, items_l, items_t, items_tN, len_l, len_t, len_tN, tuple_l, tuple_t, list_l, list_t, list_tN, ix0, ix1, ix2, ix0l, ix1l, inLN, inTN, ninLN, ninTN, inLT, inTT, ninLT, ninTT, eqT, neT, eqT0, neT0, eqL0, neL0, unp2_t, unp3_t, sl_to, sl_from, sl_tol, sl_froml, sl_totN, sl_fromtN, sortedN, decide_eq_true_eq, Bool.false_eq_true, if_true, if_false, List.length_map, List.length_range, nl_tN, nf_ok, unp2_pN, ix0p, ix1p, eqP, nf_okP, nf_okT, nl_okP, neL0P, eqL0P, neL0T, eqL0T, inLP, inTP, any_m, all_m, is_none, isnot_none, isNone_n, isNone_N, isNone_T, isNone_t, isNone_l, thenO_nx, thenO_rt, Bool.not_true, Bool.not_false, is_tuple_none, is_tuple_bool, is_tuple_int, is_tuple_str, is_tuple_list, is_tuple_tuple, is_tuple_dict, is_tuple_N, is_tuple_T, is_tuple_P, is_list_none, is_list_bool, is_list_int, is_list_str, is_list_list, is_list_tuple, is_list_dict, is_list_N, is_list_T, is_list_P, is_int_none, is_int_bool, is_int_int, is_int_str, is_int_list, is_int_tuple, is_int_dict, is_int_N, is_int_T, is_int_P, is_bool_none, is_bool_bool, is_bool_int, is_bool_str, is_bool_list, is_bool_tuple, is_bool_dict, is_bool_N, is_bool_T, is_bool_P, is_str_none, is_str_bool, is_str_int, is_str_str, is_str_list, is_str_tuple, is_str_dict, is_str_N, is_str_T, is_str_P, is_seq_none, is_seq_bool, is_seq_int, is_seq_str, is_seq_list, is_seq_tuple, is_seq_dict, is_seq_N, is_seq_T, is_seq_P, zip_ll, zip_tt, zip_lt, zip_tl, upto_N, whole_N, enum_t, enum_l, ix0Lm, ix0Tm, neg1, ix_last, ix_lastT, sortedtN, eqL, neL]; rfl
/-- the first that answers -/
theorem foldO_first {α β γ : Type} {u : D → R β} {mb : Unit → β → R (Oc Unit)} {g : α → D} (h : α → β) (f : α → Option γ) (e : γ → D) {xs : List α} (hu : ∀ x ∈ xs, u (g x) = .ok (h x))
    (hm : ∀ x ∈ xs, mb () (h x) = .ok (match f x with
      | some y => .rt (e y) .none
      | none => .nx ())) : foldO u mb (xs.map g) () = .ok (match xs.findSome? f with
      | some y => .rt (e y) .none
      | none => .nx ()) := by
  induction xs with
  | nil => rfl
  | cons x xs ih =>
    rw [List.map_cons, foldO, hu x List.mem_cons_self, nox_ok, okb, hm x List.mem_cons_self, okb, List.findSome?_cons]
    cases hf : f x with
    | some y => rfl
    | none => exact ih (fun y hy => hu y (List.mem_cons_of_mem _ hy)) fun y hy => hm y (List.mem_cons_of_mem _ hy)
theorem addtNT (xs : List Nat) {ys : List D} (h : xs.length + ys.length ≤ 16777216) : pyAdd (tN xs) (.tuple ys) = .ok (.tuple (xs.map nD ++ ys)) := addT (by simpa using h)
theorem addTtN {xs : List D} (ys : List Nat) (h : xs.length + ys.length ≤ 16777216) : pyAdd (.tuple xs) (tN ys) = .ok (.tuple (xs ++ ys.map nD)) := addT (by simpa using h)
@[simp] theorem rev_tN (xs : List Nat) : pyRev (tN xs) = .ok (tN xs.reverse) := by
  show R.ok (PyData.tuple (xs.map nD).reverse) = _
  rw [← List.map_reverse]
  rfl
def optT : Option (List Nat) → D
  | some l => tN l
  | none => .none
@[simp] theorem isNone_optT (o : Option (List Nat)) : isNone (optT o) = o.isNone := by cases o <;> rfl
/-- an odd thing is drawn -/
theorem odd_sat {s : D} (hb : IsBox s) : Sat (m_law_odd s []) fun p => Thing p.1 ∧ IsBox p.2 := by
  rw [m_law_odd]
  simp only [okb, int_lit, tN_def, nox_bind, bind_as, noxo, nox_nox, nox_no', R.bind_ok, eqN, neN, ltN, leN, gtN, geN, addN, minN, maxN, truN, truB, asBB, asIntN, partN, nl_okN, nl_bool, lstD_ok, items_l, items_t, items_tN, len_l, len_t, len_tN, tuple_l, tuple_t, list_l, list_t, list_tN, ix0, ix1, ix2, ix0l, ix1l, inLN, inTN, ninLN, ninTN, inLT, inTT, ninLT, ninTT, eqT, neT, eqT0, neT0, eqL0, neL0, unp2_t, unp3_t, sl_to, sl_from, sl_tol, sl_froml, sl_totN, sl_fromtN, sortedN, decide_eq_true_eq, Bool.false_eq_true, if_true, if_false, List.length_map, List.length_range, nl_tN, nf_ok, unp2_pN, ix0p, ix1p, eqP, nf_okP, nf_okT, nl_okP, neL0P, eqL0P, neL0T, eqL0T, inLP, inTP, any_m, all_m, is_none, isnot_none, isNone_n, isNone_N, isNone_T, isNone_t, isNone_l, thenO_nx, thenO_rt, Bool.not_true, Bool.not_false, is_tuple_none, is_tuple_bool, is_tuple_int, is_tuple_str, is_tuple_list, is_tuple_tuple, is_tuple_dict, is_tuple_N, is_tuple_T, is_tuple_P, is_list_none, is_list_bool, is_list_int, is_list_str, is_list_list, is_list_tuple, is_list_dict, is_list_N, is_list_T, is_list_P, is_int_none, is_int_bool, is_int_int, is_int_str, is_int_list, is_int_tuple, is_int_dict, is_int_N, is_int_T, is_int_P, is_bool_none, is_bool_bool, is_bool_int, is_bool_str, is_bool_list, is_bool_tuple, is_bool_dict, is_bool_N, is_bool_T, is_bool_P, is_str_none, is_str_bool, is_str_int, is_str_str, is_str_list, is_str_tuple, is_str_dict, is_str_N, is_str_T, is_str_P, is_seq_none, is_seq_bool, is_seq_int, is_seq_str, is_seq_list, is_seq_tuple, is_seq_dict, is_seq_N, is_seq_T, is_seq_P, zip_ll, zip_tt, zip_lt, zip_tl, upto_N, whole_N, enum_t, enum_l, ix0Lm, ix0Tm, neg1, ix_last, ix_lastT, sortedtN, eqL, neL, rev_tN, isNone_optT]
  refine Sat.bind (take_nox hb (by omega) (by omega)) ?_
  rintro ⟨_, s1⟩ ⟨⟨k, hk, rfl⟩, b1⟩
  refine Sat.bind (pick_nox (P := Thing) ?_ hk) fun d hd => ⟨_, rfl, hd, b1⟩
  simp only [List.forall_mem_cons, List.not_mem_nil, false_imp_iff, implies_true, and_true]
  simp [Thing, NoDict, nD, tN]
theorem odd_nox {s : D} (hb : IsBox s) : Sat (nox (m_law_odd s [])) fun p => Thing p.1 ∧ IsBox p.2 := (odd_sat hb).nox
end TP
/-! the plain layer: heads, loops, orders -/
namespace TP
open PySem PySem.Spec PyProof.Rows L2 TL JT
def hd (hs : List (List Nat)) (i : Nat) : List Nat := hs.getD i []
/-- heads of bounded size -/
structure Sm (hs : List (List Nat)) : Prop where
  n : hs.length ≤ 64
  h : ∀ h ∈ hs, h.length ≤ 64
theorem LayV.sm {m : Nat} {hs : List (List Nat)} (v : LayV m hs) : Sm hs := ⟨by have := v.n6; omega, fun h hh => by have := v.len hh; have := v.m7; omega⟩
theorem hd_mem {hs : List (List Nat)} {i : Nat} (h : i < hs.length) : hd hs i ∈ hs := by
  unfold hd
  rw [List.getD_eq_getElem?_getD, List.getElem?_eq_getElem h]
  exact List.getElem_mem _
theorem Sm.hd {hs : List (List Nat)} (s : Sm hs) (i : Nat) : (hd hs i).length ≤ 64 := by
  by_cases h : i < hs.length
  · exact s.h _ (hd_mem h)
  · unfold TP.hd
    rw [List.getD_eq_getElem?_getD, List.getElem?_eq_none (by omega)]
    exact Nat.zero_le _
theorem ixHd {hs : List (List Nat)} {i : Nat} (h : i < hs.length) : pyIx (.tuple (hs.map tN)) (nD i) = .ok (tN (hd hs i)) := ixTm [] h
theorem thenSat {A J : Type} {m : R (Oc J)} {r : D → D → A} {k : J → R A} {P : Oc J → Prop} {Q : A → Prop} (h : Sat m P) (h1 : ∀ j, P (.nx j) → Sat (k j) Q) (h2 : ∀ t b, P (.rt t b) → Q (r t b)) (h3 : ∀ j, ¬ P (.bk j)) : Sat (thenO m r k) Q := by
  obtain ⟨o, rfl, ho⟩ := h
  cases o with
  | nx j => exact h1 j ho
  | rt t b => exact ⟨_, rfl, h2 t b ho⟩
  | bk j => exact absurd ho (h3 j)
theorem extD_ofT {xs : List D} {ys : List Nat} (h : xs.length + ys.length ≤ 16777216) : extD (.list xs) (tN ys) = .ok (.list (xs ++ ys.map nD)) := by
  simp only [extD, tN]
  rw [if_pos (by rw [sizeLine_eq]; simpa using h)]
theorem eqd_int : EqD 0 PyData.int := ⟨fun a => fitk_int a, fun a b => by rw [eqv_int]; simp⟩
theorem natsOf_neg : ∀ {is : List Int}, natsOf (is.map PyData.int) = none → ∃ i ∈ is, i < 0
  | [], h => nomatch h
  | i :: is, h => by
    by_cases hi : i < 0
    · exact ⟨i, List.mem_cons_self, hi⟩
    · rw [List.map_cons, natsOf] at h
      have e : natOf (.int i) = some i.toNat := by simp only [natOf]; rw [if_pos (by omega)]
      cases h2 : natsOf (is.map PyData.int) with
      | none =>
        obtain ⟨j, hj, hj2⟩ := natsOf_neg h2
        exact ⟨j, List.mem_cons_of_mem _ hj, hj2⟩
      | some o => rw [e, h2] at h; cases h
theorem sorted_neg {is : List Int} (h : natsOf (is.map PyData.int) = none) (n : Nat) : ∃ ms : List Int, pySorted [.tuple (is.map .int)] = .ok (.list (ms.map .int)) ∧ pyNe (.list (ms.map .int)) (.list ((List.range n).map nD)) = .ok (.bool true) := by
  obtain ⟨i, hi, hneg⟩ := natsOf_neg h
  have hp := List.mergeSort_perm (is.map PyData.int) (PySem.W.dataLe false fun d => d)
  obtain ⟨ms, e⟩ := ints_of (rs := sortD (is.map .int)) fun d hd => by
    have := hp.mem_iff.mp hd
    obtain ⟨i, _, rfl⟩ := List.mem_map.mp this
    exact ⟨i, rfl⟩
  refine ⟨ms, ?_, ?_⟩
  · simp only [pySorted]
    rw [if_pos (sortable_ints is), e]
  · have hm : i ∈ ms := by
      have : PyData.int i ∈ sortD (is.map .int) := hp.mem_iff.mpr (List.mem_map.mpr ⟨i, hi, rfl⟩)
      rw [e] at this
      obtain ⟨j, hj, e2⟩ := List.mem_map.mp this
      cases e2
      exact hj
    have e2 : (List.range n).map nD = ((List.range n).map fun n : Nat => (n : Int)).map PyData.int := by rw [List.map_map]; rfl
    rw [e2, eqd_int.lst.ne (by decide)]
    have : ms ≠ (List.range n).map fun n : Nat => (n : Int) := fun z => by
      rw [z] at hm
      obtain ⟨k, _, rfl⟩ := List.mem_map.mp hm
      omega
    simp [this]
theorem flat_len {α β : Type} {f : α → List β} {N : Nat} : ∀ {xs : List α}, (∀ x ∈ xs, (f x).length ≤ N) → (xs.flatMap f).length ≤ N * xs.length
  | [], _ => Nat.zero_le _
  | x :: xs, h => by
    have h1 := h x List.mem_cons_self
    have h2 := flat_len fun y hy => h y (List.mem_cons_of_mem x hy)
    rw [List.flatMap_cons, List.length_append, List.length_cons, Nat.mul_add]
    omega
/-- things, one after another; the state holds its own -/
theorem foldO_things {J : Type} {mb : J → D → R (Oc J)} {I : J → Prop} {P : D → Prop} : ∀ {xs : List D} {j : J}, (∀ x ∈ xs, P x) → (∀ j x, I j → P x → Sat (mb j x) fun o => ∃ j', o = Oc.nx j' ∧ I j') → I j → Sat (foldO (fun d => R.ok d) mb xs j) fun o => ∃ j', o = Oc.nx j' ∧ I j'
  | [], j, _, _, hi => ⟨_, rfl, j, rfl, hi⟩
  | x :: xs, j, hp, hm, hi => by
    rw [foldO, nox_ok, okb]
    obtain ⟨_, e, j', rfl, hi'⟩ := hm j x hi (hp x List.mem_cons_self)
    rw [e, okb]
    exact foldO_things (fun y hy => hp y (List.mem_cons_of_mem _ hy)) hm hi'
theorem thenThings {A J : Type} {m : R (Oc J)} {r : D → D → A} {k : J → R A} {I : J → Prop} {Q : A → Prop} (h : Sat m fun o => ∃ j', o = Oc.nx j' ∧ I j') (h1 : ∀ j, I j → Sat (k j) Q) : Sat (thenO m r k) Q :=
  thenSat h (fun j ⟨_, e, i⟩ => by cases e; exact h1 _ i) (fun _ _ ⟨_, e, _⟩ => nomatch e) (fun _ ⟨_, e, _⟩ => nomatch e)
theorem fit_optT (o : Option (List Nat)) : fitk 1 (optT o) := by
  cases o with
  | none => exact fitk_none.mono (by decide)
  | some l => exact eqd_tN.fit l
def bothL (a b : List Nat) : List Nat := a.filter fun c => decide (c ∈ b)
theorem both_is (a b : List Nat) : m_both [tN a, tN b] = .ok (tN (bothL a b)) := by
  rw [m_both]
  simp only [okb, int_lit, tN_def, nox_bind, bind_as, noxo, nox_nox, nox_no', R.bind_ok, eqN, neN, ltN, leN, gtN, geN, addN, minN, maxN, truN, truB, asBB, asIntN, partN, nl_okN, nl_bool, lstD_ok, items_l, items_t, items_tN, len_l, len_t, len_tN, tuple_l, tuple_t, list_l, list_t, list_tN, ix0, ix1, ix2, ix0l, ix1l, inLN, inTN, ninLN, ninTN, inLT, inTT, ninLT, ninTT, eqT, neT, eqT0, neT0, eqL0, neL0, unp2_t, unp3_t, sl_to, sl_from, sl_tol, sl_froml, sl_totN, sl_fromtN, sortedN, decide_eq_true_eq, Bool.false_eq_true, if_true, if_false, List.length_map, List.length_range, nl_tN, nf_ok, unp2_pN, ix0p, ix1p, eqP, nf_okP, nf_okT, nl_okP, neL0P, eqL0P, neL0T, eqL0T, inLP, inTP, any_m, all_m, is_none, isnot_none, isNone_n, isNone_N, isNone_T, isNone_t, isNone_l, thenO_nx, thenO_rt, Bool.not_true, Bool.not_false, is_tuple_none, is_tuple_bool, is_tuple_int, is_tuple_str, is_tuple_list, is_tuple_tuple, is_tuple_dict, is_tuple_N, is_tuple_T, is_tuple_P, is_list_none, is_list_bool, is_list_int, is_list_str, is_list_list, is_list_tuple, is_list_dict, is_list_N, is_list_T, is_list_P, is_int_none, is_int_bool, is_int_int, is_int_str, is_int_list, is_int_tuple, is_int_dict, is_int_N, is_int_T, is_int_P, is_bool_none, is_bool_bool, is_bool_int, is_bool_str, is_bool_list, is_bool_tuple, is_bool_dict, is_bool_N, is_bool_T, is_bool_P, is_str_none, is_str_bool, is_str_int, is_str_str, is_str_list, is_str_tuple, is_str_dict, is_str_N, is_str_T, is_str_P, is_seq_none, is_seq_bool, is_seq_int, is_seq_str, is_seq_list, is_seq_tuple, is_seq_dict, is_seq_N, is_seq_T, is_seq_P, zip_ll, zip_tt, zip_lt, zip_tl, upto_N, whole_N, enum_t, enum_l, ix0Lm, ix0Tm, neg1, ix_last, ix_lastT, sortedtN, eqL, neL, rev_tN, isNone_optT]
  rw [filR_m (fun c => decide (c ∈ b)) nD (fun c _ => by simp only [okb, int_lit, tN_def, nox_bind, bind_as, noxo, nox_nox, nox_no', R.bind_ok, eqN, neN, ltN, leN, gtN, geN, addN, minN, maxN, truN, truB, asBB, asIntN, partN, nl_okN, nl_bool, lstD_ok, items_l, items_t, items_tN, len_l, len_t, len_tN, tuple_l, tuple_t, list_l, list_t, list_tN, ix0, ix1, ix2, ix0l, ix1l, inLN, inTN, ninLN, ninTN, inLT, inTT, ninLT, ninTT, eqT, neT, eqT0, neT0, eqL0, neL0, unp2_t, unp3_t, sl_to, sl_from, sl_tol, sl_froml, sl_totN, sl_fromtN, sortedN, decide_eq_true_eq, Bool.false_eq_true, if_true, if_false, List.length_map, List.length_range, nl_tN, nf_ok, unp2_pN, ix0p, ix1p, eqP, nf_okP, nf_okT, nl_okP, neL0P, eqL0P, neL0T, eqL0T, inLP, inTP, any_m, all_m, is_none, isnot_none, isNone_n, isNone_N, isNone_T, isNone_t, isNone_l, thenO_nx, thenO_rt, Bool.not_true, Bool.not_false, is_tuple_none, is_tuple_bool, is_tuple_int, is_tuple_str, is_tuple_list, is_tuple_tuple, is_tuple_dict, is_tuple_N, is_tuple_T, is_tuple_P, is_list_none, is_list_bool, is_list_int, is_list_str, is_list_list, is_list_tuple, is_list_dict, is_list_N, is_list_T, is_list_P, is_int_none, is_int_bool, is_int_int, is_int_str, is_int_list, is_int_tuple, is_int_dict, is_int_N, is_int_T, is_int_P, is_bool_none, is_bool_bool, is_bool_int, is_bool_str, is_bool_list, is_bool_tuple, is_bool_dict, is_bool_N, is_bool_T, is_bool_P, is_str_none, is_str_bool, is_str_int, is_str_str, is_str_list, is_str_tuple, is_str_dict, is_str_N, is_str_T, is_str_P, is_seq_none, is_seq_bool, is_seq_int, is_seq_str, is_seq_list, is_seq_tuple, is_seq_dict, is_seq_N, is_seq_T, is_seq_P, zip_ll, zip_tt, zip_lt, zip_tl, upto_N, whole_N, enum_t, enum_l, ix0Lm, ix0Tm, neg1, ix_last, ix_lastT, sortedtN, eqL, neL, rev_tN, isNone_optT]) (fun _ _ _ => rfl)]
  simp only [okb, int_lit, tN_def, nox_bind, bind_as, noxo, nox_nox, nox_no', R.bind_ok, eqN, neN, ltN, leN, gtN, geN, addN, minN, maxN, truN, truB, asBB, asIntN, partN, nl_okN, nl_bool, lstD_ok, items_l, items_t, items_tN, len_l, len_t, len_tN, tuple_l, tuple_t, list_l, list_t, list_tN, ix0, ix1, ix2, ix0l, ix1l, inLN, inTN, ninLN, ninTN, inLT, inTT, ninLT, ninTT, eqT, neT, eqT0, neT0, eqL0, neL0, unp2_t, unp3_t, sl_to, sl_from, sl_tol, sl_froml, sl_totN, sl_fromtN, sortedN, decide_eq_true_eq, Bool.false_eq_true, if_true, if_false, List.length_map, List.length_range, nl_tN, nf_ok, unp2_pN, ix0p, ix1p, eqP, nf_okP, nf_okT, nl_okP, neL0P, eqL0P, neL0T, eqL0T, inLP, inTP, any_m, all_m, is_none, isnot_none, isNone_n, isNone_N, isNone_T, isNone_t, isNone_l, thenO_nx, thenO_rt, Bool.not_true, Bool.not_false, is_tuple_none, is_tuple_bool, is_tuple_int, is_tuple_str, is_tuple_list, is_tuple_tuple, is_tuple_dict, is_tuple_N, is_tuple_T, is_tuple_P, is_list_none, is_list_bool, is_list_int, is_list_str, is_list_list, is_list_tuple, is_list_dict, is_list_N, is_list_T, is_list_P, is_int_none, is_int_bool, is_int_int, is_int_str, is_int_list, is_int_tuple, is_int_dict, is_int_N, is_int_T, is_int_P, is_bool_none, is_bool_bool, is_bool_int, is_bool_str, is_bool_list, is_bool_tuple, is_bool_dict, is_bool_N, is_bool_T, is_bool_P, is_str_none, is_str_bool, is_str_int, is_str_str, is_str_list, is_str_tuple, is_str_dict, is_str_N, is_str_T, is_str_P, is_seq_none, is_seq_bool, is_seq_int, is_seq_str, is_seq_list, is_seq_tuple, is_seq_dict, is_seq_N, is_seq_T, is_seq_P, zip_ll, zip_tt, zip_lt, zip_tl, upto_N, whole_N, enum_t, enum_l, ix0Lm, ix0Tm, neg1, ix_last, ix_lastT, sortedtN, eqL, neL, rev_tN, isNone_optT]
  rfl
/-- a list that grows, step by step -/
theorem foldR_st {α β : Type} {u : D → R β} {mb : D → β → R D} {g : α → D} (h : α → β) (st : List Nat → α → List Nat) (B N : Nat) : ∀ {xs : List α} {acc : List Nat}, (∀ x ∈ xs, u (g x) = .ok (h x)) → (∀ acc : List Nat, ∀ x ∈ xs, acc.length + B ≤ N → mb (.list (acc.map nD)) (h x) = .ok (.list ((st acc x).map nD)) ∧ (st acc x).length ≤ acc.length + B) → acc.length + B * xs.length ≤ N → foldR u mb (xs.map g) (.list (acc.map nD)) = .ok (.list ((xs.foldl st acc).map nD))
  | [], acc, _, _, _ => rfl
  | x :: xs, acc, hu, hm, hN => by
    rw [List.length_cons, Nat.mul_add] at hN
    obtain ⟨h1, h2⟩ := hm acc x List.mem_cons_self (by omega)
    rw [List.map_cons, foldR, hu x List.mem_cons_self, nox_ok, okb, h1, okb, List.foldl_cons]
    exact foldR_st h st B N (fun y hy => hu y (List.mem_cons_of_mem _ hy)) (fun a y hy => hm a y (List.mem_cons_of_mem _ hy)) (by omega)
theorem foldR_st0 {α β : Type} {u : D → R β} {mb : D → β → R D} {g : α → D} (h : α → β) (st : List Nat → α → List Nat) (B N : Nat) {xs : List α} (hu : ∀ x ∈ xs, u (g x) = .ok (h x)) (hm : ∀ acc : List Nat, ∀ x ∈ xs, acc.length + B ≤ N → mb (.list (acc.map nD)) (h x) = .ok (.list ((st acc x).map nD)) ∧ (st acc x).length ≤ acc.length + B) (hN : B * xs.length ≤ N) : foldR u mb (xs.map g) (.list []) = .ok (.list ((xs.foldl st []).map nD)) :=
  foldR_st h st B N (acc := []) hu hm (by simpa using hN)
theorem law_order_sat2 {s : D} {n : Nat} (hn : n ≤ 1000) (hb : IsBox s) : Sat (m_law_order s [nD n]) fun p => (∃ o : List Nat, o.Perm (List.range n) ∧ p.1 = tN o) ∧ IsBox p.2 := by
  rw [m_law_order]
  simp only [okb, int_lit, tN_def, nox_bind, bind_as, noxo, nox_nox, nox_no', R.bind_ok, eqN, neN, ltN, leN, gtN, geN, addN, minN, maxN, truN, truB, asBB, asIntN, partN, nl_okN, nl_bool, lstD_ok, items_l, items_t, items_tN, len_l, len_t, len_tN, tuple_l, tuple_t, list_l, list_t, list_tN, ix0, ix1, ix2, ix0l, ix1l, inLN, inTN, ninLN, ninTN, inLT, inTT, ninLT, ninTT, eqT, neT, eqT0, neT0, eqL0, neL0, unp2_t, unp3_t, sl_to, sl_from, sl_tol, sl_froml, sl_totN, sl_fromtN, sortedN, decide_eq_true_eq, Bool.false_eq_true, if_true, if_false, List.length_map, List.length_range, nl_tN, nf_ok, unp2_pN, ix0p, ix1p, eqP, nf_okP, nf_okT, nl_okP, neL0P, eqL0P, neL0T, eqL0T, inLP, inTP, any_m, all_m, is_none, isnot_none, isNone_n, isNone_N, isNone_T, isNone_t, isNone_l, thenO_nx, thenO_rt, Bool.not_true, Bool.not_false, is_tuple_none, is_tuple_bool, is_tuple_int, is_tuple_str, is_tuple_list, is_tuple_tuple, is_tuple_dict, is_tuple_N, is_tuple_T, is_tuple_P, is_list_none, is_list_bool, is_list_int, is_list_str, is_list_list, is_list_tuple, is_list_dict, is_list_N, is_list_T, is_list_P, is_int_none, is_int_bool, is_int_int, is_int_str, is_int_list, is_int_tuple, is_int_dict, is_int_N, is_int_T, is_int_P, is_bool_none, is_bool_bool, is_bool_int, is_bool_str, is_bool_list, is_bool_tuple, is_bool_dict, is_bool_N, is_bool_T, is_bool_P, is_str_none, is_str_bool, is_str_int, is_str_str, is_str_list, is_str_tuple, is_str_dict, is_str_N, is_str_T, is_str_P, is_seq_none, is_seq_bool, is_seq_int, is_seq_str, is_seq_list, is_seq_tuple, is_seq_dict, is_seq_N, is_seq_T, is_seq_P, zip_ll, zip_tt, zip_lt, zip_tl, upto_N, whole_N, enum_t, enum_l, ix0Lm, ix0Tm, neg1, ix_last, ix_lastT, sortedtN, eqL, neL, rev_tN, isNone_optT, rgl1 (show n ≤ 16777216 by omega), range1 (show n ≤ 16777216 by omega)]
  obtain ⟨_, e, ⟨o, po, eo⟩, b2⟩ := (order_drawn hn hb).nox
  rw [e]
  refine ⟨_, rfl, ⟨o, po, ?_⟩, b2⟩
  show PyData.tuple _ = _
  rw [eo]
  rfl
theorem foldR_append {α J : Type} {u : D → R α} {mb : J → α → R J} : ∀ {xs ys : List D} {j : J}, foldR u mb (xs ++ ys) j = (foldR u mb xs j).bind fun j' => foldR u mb ys j'
  | [], ys, j => by rw [List.nil_append, foldR, okb]
  | x :: xs, ys, j => by
    rw [List.cons_append, foldR, foldR]
    cases nox (u x) with
    | no => rfl
    | ex c => rfl
    | ok a =>
      rw [okb, okb]
      cases mb j a with
      | no => rfl
      | ex c => rfl
      | ok j' =>
        rw [okb, okb]
        exact foldR_append
@[simp] theorem popD_last (xs : List D) (d : D) : popD (.list (xs ++ [d])) = .ok (d, .list xs) := by
  simp only [popD]
  rw [show (xs ++ [d]).length - 1 = xs.length by simp, List.getElem?_append_right (Nat.le_refl _)]
  simp
theorem enumD_hs (hs : List (List Nat)) : enumD (hs.map tN) = (List.range hs.length).map fun k => .tuple [nD k, tN (hd hs k)] := enumD_map tN [] hs
theorem foldO_stR {α β γ J : Type} {u : D → R β} {mb : J → β → R (Oc J)} {g : α → D} (h : α → β) (e : γ → J) (st : γ → α → γ) (I : γ → List α → Prop) (hu : ∀ x, u (g x) = .ok (h x)) (hm : ∀ s x ys, I s (x :: ys) → mb (e s) (h x) = .ok (.nx (e (st s x))) ∧ I (st s x) ys) : ∀ {xs : List α} {s : γ}, I s xs → foldO u mb (xs.map g) (e s) = .ok (.nx (e (xs.foldl st s)))
  | [], s, _ => rfl
  | x :: xs, s, hi => by
    obtain ⟨h1, h2⟩ := hm s x xs hi
    rw [List.map_cons, foldO, hu x, nox_ok, okb, h1, okb]
    exact foldO_stR h e st I hu hm h2
theorem lay0 (m : Nat) (hs : List (List Nat)) : pyIx (layD m hs) (nD 0) = .ok (nD m) := ix0 _ _
theorem lay1 (m : Nat) (hs : List (List Nat)) : pyIx (layD m hs) (nD 1) = .ok (.tuple (hs.map tN)) := ix1 _ _ _
theorem index_is {o : List Nat} {c : Nat} (h : c ∈ o) : pyIndex (tN o) (nD c) = .ok (nD (o.idxOf c)) := by
  simp only [tN, pyIndex]
  rw [if_pos ⟨(eqd_nD.fit c).fit (by decide), (eqd_tN.fit o).fit (by decide)⟩]
  have : TL.placeOf (o.map nD) (nD c) = some (o.idxOf c) := by
    unfold TL.placeOf
    rw [List.findIdx?_map]
    have e : ((fun z => PyData.eqv z (nD c)) ∘ nD) = fun z => z == c := by
      funext z
      show PyData.eqv (nD z) (nD c) = (z == c)
      rw [Bool.eq_iff_iff, eqd_nD.eqv, beq_iff_eq]
    rw [e]
    have h2 : o.idxOf c < o.length := List.idxOf_lt_length_of_mem h
    rw [List.findIdx?_eq_some_iff_findIdx_eq]
    exact ⟨h2, rfl⟩
  rw [this]
  rfl
@[simp] theorem sqOk_T (xs : List D) : sqOk (.tuple xs) = .ok () := id (Eq.refl _)
@[simp] theorem sqOk_tN (xs : List Nat) : sqOk (tN xs) = .ok () := id (Eq.refl _)
theorem hd_map {hs : List (List Nat)} {f : List Nat → List Nat} (h0 : f [] = []) (i : Nat) : hd (hs.map f) i = f (hd hs i) := by
  unfold hd
  rw [List.getD_eq_getElem?_getD, List.getD_eq_getElem?_getD, List.getElem?_map]
  cases hs[i]? with
  | none => exact h0.symm
  | some x => rfl
end TP
/-! the plain layer: pieces of a layout -/
namespace TP
open PySem PySem.Spec PyProof.Rows L2 TL JT
/-- reached from a over numbers below n -/
inductive Con (n : Nat) (R : Nat → Nat → Bool) (a : Nat) : Nat → Prop where
  | refl : Con n R a a
  | step {b c : Nat} : Con n R a b → R b c = true → c < n → Con n R a c
theorem Con.trans {n : Nat} {R : Nat → Nat → Bool} {a b c : Nat} (h : Con n R a b) (k : Con n R b c) : Con n R a c := by
  induction k with
  | refl => exact h
  | step _ r l ih => exact ih.step r l
theorem Con.symm {n : Nat} {R : Nat → Nat → Bool} (hR : ∀ a b, R a b = R b a) {a b : Nat} (ha : a < n) (h : Con n R a b) : Con n R b a := by
  induction h with
  | refl => exact .refl
  | step h r l ih =>
    have : Con n R _ _ := Con.step .refl (by rw [hR]; exact r) (show _ < n from by cases h with
      | refl => exact ha
      | step _ _ l => exact l)
    exact this.trans ih
theorem Con.lt {n : Nat} {R : Nat → Nat → Bool} {a b : Nat} (ha : a < n) (h : Con n R a b) : b < n := by
  cases h with
  | refl => exact ha
  | step _ _ l => exact l
open Classical in
noncomputable def comp (n : Nat) (R : Nat → Nat → Bool) (a : Nat) : List Nat := (List.range n).filter fun x => decide (Con n R a x)
theorem comp_mem {n : Nat} {R : Nat → Nat → Bool} {a x : Nat} (ha : a < n) : x ∈ comp n R a ↔ Con n R a x := by
  unfold comp
  rw [List.mem_filter, List.mem_range]
  simp only [decide_eq_true_eq]
  exact ⟨fun h => h.2, fun h => ⟨h.lt ha, h⟩⟩
theorem comp_up {n : Nat} {R : Nat → Nat → Bool} {a : Nat} : (comp n R a).Pairwise (· < ·) := by
  unfold comp
  exact List.pairwise_lt_range.filter _
theorem comp_nd {n : Nat} {R : Nat → Nat → Bool} {a : Nat} : (comp n R a).Nodup := comp_up.imp fun h => Nat.ne_of_lt h
def putC (c : Nat → List Nat) (acc : List (List Nat)) (k : Nat) : List (List Nat) := if (acc.any fun p => decide (k ∈ p)) = true then acc else acc ++ [c k]
def piecesG (n : Nat) (c : Nat → List Nat) : List (List Nat) := (List.range n).foldl (putC c) []
/-- the invariant of the pieces -/
theorem pieces_inv {n : Nat} {R : Nat → Nat → Bool} (hR : ∀ a b, R a b = R b a) : ∀ i, i ≤ n → ((List.range i).foldl (putC (comp n R)) []).flatten.Nodup ∧ (∀ p ∈ (List.range i).foldl (putC (comp n R)) [], ∃ k, k < n ∧ p = comp n R k) ∧ (∀ x, x < i → x ∈ ((List.range i).foldl (putC (comp n R)) []).flatten) ∧ ((List.range i).foldl (putC (comp n R)) []).length ≤ i := by
  intro i
  induction i with
  | zero => exact fun _ => ⟨by simp, by simp, by simp, by simp⟩
  | succ i ih =>
    intro hi
    obtain ⟨h1, h2, h3, h4⟩ := ih (by omega)
    rw [List.range_succ, List.foldl_append, List.foldl_cons, List.foldl_nil]
    generalize (List.range i).foldl (putC (comp n R)) [] = acc at h1 h2 h3 h4
    unfold putC
    by_cases ha : (acc.any fun p => decide (i ∈ p)) = true
    · rw [if_pos ha]
      refine ⟨h1, h2, fun x hx => ?_, by omega⟩
      rcases Nat.lt_succ_iff_lt_or_eq.mp hx with h | h
      · exact h3 x h
      · subst h
        obtain ⟨p, hp, hx⟩ := List.any_eq_true.mp ha
        exact List.mem_flatten.mpr ⟨p, hp, of_decide_eq_true hx⟩
    · rw [if_neg ha]
      have hno : ∀ p ∈ acc, i ∉ p := fun p hp hx => ha (List.any_eq_true.mpr ⟨p, hp, decide_eq_true hx⟩)
      refine ⟨?_, fun p hp => ?_, fun x hx => ?_, by simp; omega⟩
      · rw [List.flatten_append, List.nodup_append]
        refine ⟨h1, by simpa using comp_nd, fun x hx y hy e => ?_⟩
        subst e
        obtain ⟨p, hp, hx⟩ := List.mem_flatten.mp hx
        obtain ⟨k, hk, rfl⟩ := h2 p hp
        have hy' : x ∈ comp n R i := by simpa using hy
        have c1 := (comp_mem hk).mp hx
        have c2 := (comp_mem (show i < n by omega)).mp hy'
        exact hno _ hp ((comp_mem hk).mpr (c1.trans (c2.symm hR (by omega))))
      · rcases List.mem_append.mp hp with h | h
        · exact h2 p h
        · exact ⟨i, by omega, List.mem_singleton.mp h⟩
      · rw [List.flatten_append, List.mem_append]
        rcases Nat.lt_succ_iff_lt_or_eq.mp hx with h | h
        · exact .inl (h3 x h)
        · subst h
          refine .inr ?_
          have : x ∈ comp n R x := (comp_mem (by omega)).mpr .refl
          simpa using this
def adjB (hs : List (List Nat)) (i j : Nat) : Bool := decide (bothL (hd hs i) (hd hs j) ≠ [])
theorem adj_iff {hs : List (List Nat)} {i j : Nat} : adjB hs i j = true ↔ ∃ c, c ∈ hd hs i ∧ c ∈ hd hs j := by
  unfold adjB bothL
  rw [decide_eq_true_iff, Ne, List.filter_eq_nil_iff]
  simp
theorem adj_symm (hs : List (List Nat)) (a b : Nat) : adjB hs a b = adjB hs b a := by
  rw [Bool.eq_iff_iff, adj_iff, adj_iff]
  exact ⟨fun ⟨c, h1, h2⟩ => ⟨c, h2, h1⟩, fun ⟨c, h1, h2⟩ => ⟨c, h2, h1⟩⟩
noncomputable def piecesL (hs : List (List Nat)) : List (List Nat) := piecesG hs.length (comp hs.length (adjB hs))
section
variable {hs : List (List Nat)} (sm : Sm hs)
include sm
theorem come_to_is {a : Nat} (ha : a < hs.length) : m_come_to [.tuple (hs.map tN), nD a] = .ok (tN (comp hs.length (adjB hs) a)) := by
  have hn := sm.n
  rw [m_come_to]
  apply Sat.eq
  have cnt : ∀ {o : List Nat}, o.Nodup → (∀ x ∈ o, x < hs.length) → o.length ≤ hs.length := fun {o} nd h => by
    have := nd.length_le_of_subset (l₂ := List.range hs.length) fun x hx => List.mem_range.mpr (h x hx)
    simpa using this
  refine thenSat (P := fun o => ∃ f : List Nat, o = Oc.nx (.list (f.map nD), PyData.list []) ∧ f.Nodup ∧ ∀ x, x ∈ f ↔ Con hs.length (adjB hs) a x) ?_ ?_ (fun t b ⟨_, z, _⟩ => nomatch z) (fun j ⟨_, z, _⟩ => nomatch z)
  rotate_left
  · rintro j ⟨f, e, nd, hf⟩
    cases e
    simp only [okb, int_lit, tN_def, nox_bind, bind_as, noxo, nox_nox, nox_no', R.bind_ok, eqN, neN, ltN, leN, gtN, geN, addN, minN, maxN, truN, truB, asBB, asIntN, partN, nl_okN, nl_bool, lstD_ok, items_l, items_t, items_tN, len_l, len_t, len_tN, tuple_l, tuple_t, list_l, list_t, list_tN, ix0, ix1, ix2, ix0l, ix1l, inLN, inTN, ninLN, ninTN, inLT, inTT, ninLT, ninTT, eqT, neT, eqT0, neT0, eqL0, neL0, unp2_t, unp3_t, sl_to, sl_from, sl_tol, sl_froml, sl_totN, sl_fromtN, sortedN, decide_eq_true_eq, Bool.false_eq_true, if_true, if_false, List.length_map, List.length_range, nl_tN, nf_ok, unp2_pN, ix0p, ix1p, eqP, nf_okP, nf_okT, nl_okP, neL0P, eqL0P, neL0T, eqL0T, inLP, inTP, any_m, all_m, is_none, isnot_none, isNone_n, isNone_N, isNone_T, isNone_t, isNone_l, thenO_nx, thenO_rt, Bool.not_true, Bool.not_false, is_tuple_none, is_tuple_bool, is_tuple_int, is_tuple_str, is_tuple_list, is_tuple_tuple, is_tuple_dict, is_tuple_N, is_tuple_T, is_tuple_P, is_list_none, is_list_bool, is_list_int, is_list_str, is_list_list, is_list_tuple, is_list_dict, is_list_N, is_list_T, is_list_P, is_int_none, is_int_bool, is_int_int, is_int_str, is_int_list, is_int_tuple, is_int_dict, is_int_N, is_int_T, is_int_P, is_bool_none, is_bool_bool, is_bool_int, is_bool_str, is_bool_list, is_bool_tuple, is_bool_dict, is_bool_N, is_bool_T, is_bool_P, is_str_none, is_str_bool, is_str_int, is_str_str, is_str_list, is_str_tuple, is_str_dict, is_str_N, is_str_T, is_str_P, is_seq_none, is_seq_bool, is_seq_int, is_seq_str, is_seq_list, is_seq_tuple, is_seq_dict, is_seq_N, is_seq_T, is_seq_P, zip_ll, zip_tt, zip_lt, zip_tl, upto_N, whole_N, enum_t, enum_l, ix0Lm, ix0Tm, neg1, ix_last, ix_lastT, sortedtN, eqL, neL, rev_tN, isNone_optT]
    refine ⟨_, rfl, ?_⟩
    show tN (sortN f) = _
    rw [rise_eq (sortN_lt nd) comp_up fun k => by rw [sortN_mem, hf, comp_mem ha]]
  · refine whX_sat (I := fun j => ∃ f w : List Nat, j = (.list (f.map nD), .list (w.map nD)) ∧ f.Nodup ∧ w.Nodup ∧ (∀ x ∈ w, x ∈ f) ∧ (∀ x ∈ f, Con hs.length (adjB hs) a x) ∧ a ∈ f ∧ ∀ x ∈ f, x ∉ w → ∀ k, k < hs.length → adjB hs x k = true → k ∈ f) (μ := fun j => match j with
      | (PyData.list f, PyData.list w) => 2 * (hs.length - f.length) + w.length
      | _ => 0) ?_ ⟨[a], [a], rfl, by simp, by simp, by simp, fun x hx => by rw [List.mem_singleton.mp hx]; exact .refl, by simp, fun x h1 h2 => absurd h1 h2⟩
    rintro _ ⟨f, w, rfl, nf', nw, hwf, hc, haf, hcl⟩
    have hlt : ∀ x ∈ f, x < hs.length := fun x hx => (hc x hx).lt ha
    simp only [okb, int_lit, tN_def, nox_bind, bind_as, noxo, nox_nox, nox_no', R.bind_ok, eqN, neN, ltN, leN, gtN, geN, addN, minN, maxN, truN, truB, asBB, asIntN, partN, nl_okN, nl_bool, lstD_ok, items_l, items_t, items_tN, len_l, len_t, len_tN, tuple_l, tuple_t, list_l, list_t, list_tN, ix0, ix1, ix2, ix0l, ix1l, inLN, inTN, ninLN, ninTN, inLT, inTT, ninLT, ninTT, eqT, neT, eqT0, neT0, eqL0, neL0, unp2_t, unp3_t, sl_to, sl_from, sl_tol, sl_froml, sl_totN, sl_fromtN, sortedN, decide_eq_true_eq, Bool.false_eq_true, if_true, if_false, List.length_map, List.length_range, nl_tN, nf_ok, unp2_pN, ix0p, ix1p, eqP, nf_okP, nf_okT, nl_okP, neL0P, eqL0P, neL0T, eqL0T, inLP, inTP, any_m, all_m, is_none, isnot_none, isNone_n, isNone_N, isNone_T, isNone_t, isNone_l, thenO_nx, thenO_rt, Bool.not_true, Bool.not_false, is_tuple_none, is_tuple_bool, is_tuple_int, is_tuple_str, is_tuple_list, is_tuple_tuple, is_tuple_dict, is_tuple_N, is_tuple_T, is_tuple_P, is_list_none, is_list_bool, is_list_int, is_list_str, is_list_list, is_list_tuple, is_list_dict, is_list_N, is_list_T, is_list_P, is_int_none, is_int_bool, is_int_int, is_int_str, is_int_list, is_int_tuple, is_int_dict, is_int_N, is_int_T, is_int_P, is_bool_none, is_bool_bool, is_bool_int, is_bool_str, is_bool_list, is_bool_tuple, is_bool_dict, is_bool_N, is_bool_T, is_bool_P, is_str_none, is_str_bool, is_str_int, is_str_str, is_str_list, is_str_tuple, is_str_dict, is_str_N, is_str_T, is_str_P, is_seq_none, is_seq_bool, is_seq_int, is_seq_str, is_seq_list, is_seq_tuple, is_seq_dict, is_seq_N, is_seq_T, is_seq_P, zip_ll, zip_tt, zip_lt, zip_tl, upto_N, whole_N, enum_t, enum_l, ix0Lm, ix0Tm, neg1, ix_last, ix_lastT, sortedtN, eqL, neL, rev_tN, isNone_optT]
    refine ⟨_, rfl, ?_⟩
    show if decide (w ≠ []) = true then _ else _
    by_cases hw : w = []
    · subst hw
      have : decide (([] : List Nat) ≠ []) = false := by decide
      rw [this, if_neg Bool.false_ne_true]
      refine ⟨f, rfl, nf', fun x => ⟨hc x, fun h => ?_⟩⟩
      induction h with
      | refl => exact haf
      | step h r l ih => exact hcl _ ih (by simp) _ l r
    · rw [if_pos (decide_eq_true hw)]
      obtain ⟨w', p, rfl⟩ : ∃ w' p, w = w' ++ [p] := ⟨w.dropLast, w.getLast hw, (List.dropLast_concat_getLast hw).symm⟩
      have hpf : p ∈ f := hwf p (by simp)
      have hp := hlt p hpf
      have hfl := cnt nf' hlt
      have hwl := cnt nw fun x hx => hlt x (hwf x hx)
      rw [List.map_append, List.map_singleton, popD_last]
      simp only [okb, int_lit, tN_def, nox_bind, bind_as, noxo, nox_nox, nox_no', R.bind_ok, eqN, neN, ltN, leN, gtN, geN, addN, minN, maxN, truN, truB, asBB, asIntN, partN, nl_okN, nl_bool, lstD_ok, items_l, items_t, items_tN, len_l, len_t, len_tN, tuple_l, tuple_t, list_l, list_t, list_tN, ix0, ix1, ix2, ix0l, ix1l, inLN, inTN, ninLN, ninTN, inLT, inTT, ninLT, ninTT, eqT, neT, eqT0, neT0, eqL0, neL0, unp2_t, unp3_t, sl_to, sl_from, sl_tol, sl_froml, sl_totN, sl_fromtN, sortedN, decide_eq_true_eq, Bool.false_eq_true, if_true, if_false, List.length_map, List.length_range, nl_tN, nf_ok, unp2_pN, ix0p, ix1p, eqP, nf_okP, nf_okT, nl_okP, neL0P, eqL0P, neL0T, eqL0T, inLP, inTP, any_m, all_m, is_none, isnot_none, isNone_n, isNone_N, isNone_T, isNone_t, isNone_l, thenO_nx, thenO_rt, Bool.not_true, Bool.not_false, is_tuple_none, is_tuple_bool, is_tuple_int, is_tuple_str, is_tuple_list, is_tuple_tuple, is_tuple_dict, is_tuple_N, is_tuple_T, is_tuple_P, is_list_none, is_list_bool, is_list_int, is_list_str, is_list_list, is_list_tuple, is_list_dict, is_list_N, is_list_T, is_list_P, is_int_none, is_int_bool, is_int_int, is_int_str, is_int_list, is_int_tuple, is_int_dict, is_int_N, is_int_T, is_int_P, is_bool_none, is_bool_bool, is_bool_int, is_bool_str, is_bool_list, is_bool_tuple, is_bool_dict, is_bool_N, is_bool_T, is_bool_P, is_str_none, is_str_bool, is_str_int, is_str_str, is_str_list, is_str_tuple, is_str_dict, is_str_N, is_str_T, is_str_P, is_seq_none, is_seq_bool, is_seq_int, is_seq_str, is_seq_list, is_seq_tuple, is_seq_dict, is_seq_N, is_seq_T, is_seq_P, zip_ll, zip_tt, zip_lt, zip_tl, upto_N, whole_N, enum_t, enum_l, ix0Lm, ix0Tm, neg1, ix_last, ix_lastT, sortedtN, eqL, neL, rev_tN, isNone_optT, ixHd hp, enumD_hs]
      rw [filR_m (fun k => adjB hs p k && decide (k ∉ f)) nD (fun k hk => by
        have : k < hs.length := by simpa using hk
        simp only [okb, int_lit, tN_def, nox_bind, bind_as, noxo, nox_nox, nox_no', R.bind_ok, eqN, neN, ltN, leN, gtN, geN, addN, minN, maxN, truN, truB, asBB, asIntN, partN, nl_okN, nl_bool, lstD_ok, items_l, items_t, items_tN, len_l, len_t, len_tN, tuple_l, tuple_t, list_l, list_t, list_tN, ix0, ix1, ix2, ix0l, ix1l, inLN, inTN, ninLN, ninTN, inLT, inTT, ninLT, ninTT, eqT, neT, eqT0, neT0, eqL0, neL0, unp2_t, unp3_t, sl_to, sl_from, sl_tol, sl_froml, sl_totN, sl_fromtN, sortedN, decide_eq_true_eq, Bool.false_eq_true, if_true, if_false, List.length_map, List.length_range, nl_tN, nf_ok, unp2_pN, ix0p, ix1p, eqP, nf_okP, nf_okT, nl_okP, neL0P, eqL0P, neL0T, eqL0T, inLP, inTP, any_m, all_m, is_none, isnot_none, isNone_n, isNone_N, isNone_T, isNone_t, isNone_l, thenO_nx, thenO_rt, Bool.not_true, Bool.not_false, is_tuple_none, is_tuple_bool, is_tuple_int, is_tuple_str, is_tuple_list, is_tuple_tuple, is_tuple_dict, is_tuple_N, is_tuple_T, is_tuple_P, is_list_none, is_list_bool, is_list_int, is_list_str, is_list_list, is_list_tuple, is_list_dict, is_list_N, is_list_T, is_list_P, is_int_none, is_int_bool, is_int_int, is_int_str, is_int_list, is_int_tuple, is_int_dict, is_int_N, is_int_T, is_int_P, is_bool_none, is_bool_bool, is_bool_int, is_bool_str, is_bool_list, is_bool_tuple, is_bool_dict, is_bool_N, is_bool_T, is_bool_P, is_str_none, is_str_bool, is_str_int, is_str_str, is_str_list, is_str_tuple, is_str_dict, is_str_N, is_str_T, is_str_P, is_seq_none, is_seq_bool, is_seq_int, is_seq_str, is_seq_list, is_seq_tuple, is_seq_dict, is_seq_N, is_seq_T, is_seq_P, zip_ll, zip_tt, zip_lt, zip_tl, upto_N, whole_N, enum_t, enum_l, ix0Lm, ix0Tm, neg1, ix_last, ix_lastT, sortedtN, eqL, neL, rev_tN, isNone_optT, both_is]
        unfold adjB
        by_cases h1 : bothL (hd hs p) (hd hs k) = [] <;> simp [h1]) (fun k _ _ => by simp only [okb, int_lit, tN_def, nox_bind, bind_as, noxo, nox_nox, nox_no', R.bind_ok, eqN, neN, ltN, leN, gtN, geN, addN, minN, maxN, truN, truB, asBB, asIntN, partN, nl_okN, nl_bool, lstD_ok, items_l, items_t, items_tN, len_l, len_t, len_tN, tuple_l, tuple_t, list_l, list_t, list_tN, ix0, ix1, ix2, ix0l, ix1l, inLN, inTN, ninLN, ninTN, inLT, inTT, ninLT, ninTT, eqT, neT, eqT0, neT0, eqL0, neL0, unp2_t, unp3_t, sl_to, sl_from, sl_tol, sl_froml, sl_totN, sl_fromtN, sortedN, decide_eq_true_eq, Bool.false_eq_true, if_true, if_false, List.length_map, List.length_range, nl_tN, nf_ok, unp2_pN, ix0p, ix1p, eqP, nf_okP, nf_okT, nl_okP, neL0P, eqL0P, neL0T, eqL0T, inLP, inTP, any_m, all_m, is_none, isnot_none, isNone_n, isNone_N, isNone_T, isNone_t, isNone_l, thenO_nx, thenO_rt, Bool.not_true, Bool.not_false, is_tuple_none, is_tuple_bool, is_tuple_int, is_tuple_str, is_tuple_list, is_tuple_tuple, is_tuple_dict, is_tuple_N, is_tuple_T, is_tuple_P, is_list_none, is_list_bool, is_list_int, is_list_str, is_list_list, is_list_tuple, is_list_dict, is_list_N, is_list_T, is_list_P, is_int_none, is_int_bool, is_int_int, is_int_str, is_int_list, is_int_tuple, is_int_dict, is_int_N, is_int_T, is_int_P, is_bool_none, is_bool_bool, is_bool_int, is_bool_str, is_bool_list, is_bool_tuple, is_bool_dict, is_bool_N, is_bool_T, is_bool_P, is_str_none, is_str_bool, is_str_int, is_str_str, is_str_list, is_str_tuple, is_str_dict, is_str_N, is_str_T, is_str_P, is_seq_none, is_seq_bool, is_seq_int, is_seq_str, is_seq_list, is_seq_tuple, is_seq_dict, is_seq_N, is_seq_T, is_seq_P, zip_ll, zip_tt, zip_lt, zip_tl, upto_N, whole_N, enum_t, enum_l, ix0Lm, ix0Tm, neg1, ix_last, ix_lastT, sortedtN, eqL, neL, rev_tN, isNone_optT])]
      generalize hmo : (List.range hs.length).filter (fun k => adjB hs p k && decide (k ∉ f)) = mo
      have hmm : ∀ x, x ∈ mo ↔ x < hs.length ∧ adjB hs p x = true ∧ x ∉ f := fun x => by
        rw [← hmo, List.mem_filter, List.mem_range]
        simp
      have nmo : mo.Nodup := by rw [← hmo]; exact List.nodup_range.filter _
      have hml : mo.length ≤ hs.length := cnt nmo fun x hx => ((hmm x).mp hx).1
      simp only [okb, int_lit, tN_def, nox_bind, bind_as, noxo, nox_nox, nox_no', R.bind_ok, eqN, neN, ltN, leN, gtN, geN, addN, minN, maxN, truN, truB, asBB, asIntN, partN, nl_okN, nl_bool, lstD_ok, items_l, items_t, items_tN, len_l, len_t, len_tN, tuple_l, tuple_t, list_l, list_t, list_tN, ix0, ix1, ix2, ix0l, ix1l, inLN, inTN, ninLN, ninTN, inLT, inTT, ninLT, ninTT, eqT, neT, eqT0, neT0, eqL0, neL0, unp2_t, unp3_t, sl_to, sl_from, sl_tol, sl_froml, sl_totN, sl_fromtN, sortedN, decide_eq_true_eq, Bool.false_eq_true, if_true, if_false, List.length_map, List.length_range, nl_tN, nf_ok, unp2_pN, ix0p, ix1p, eqP, nf_okP, nf_okT, nl_okP, neL0P, eqL0P, neL0T, eqL0T, inLP, inTP, any_m, all_m, is_none, isnot_none, isNone_n, isNone_N, isNone_T, isNone_t, isNone_l, thenO_nx, thenO_rt, Bool.not_true, Bool.not_false, is_tuple_none, is_tuple_bool, is_tuple_int, is_tuple_str, is_tuple_list, is_tuple_tuple, is_tuple_dict, is_tuple_N, is_tuple_T, is_tuple_P, is_list_none, is_list_bool, is_list_int, is_list_str, is_list_list, is_list_tuple, is_list_dict, is_list_N, is_list_T, is_list_P, is_int_none, is_int_bool, is_int_int, is_int_str, is_int_list, is_int_tuple, is_int_dict, is_int_N, is_int_T, is_int_P, is_bool_none, is_bool_bool, is_bool_int, is_bool_str, is_bool_list, is_bool_tuple, is_bool_dict, is_bool_N, is_bool_T, is_bool_P, is_str_none, is_str_bool, is_str_int, is_str_str, is_str_list, is_str_tuple, is_str_dict, is_str_N, is_str_T, is_str_P, is_seq_none, is_seq_bool, is_seq_int, is_seq_str, is_seq_list, is_seq_tuple, is_seq_dict, is_seq_N, is_seq_T, is_seq_P, zip_ll, zip_tt, zip_lt, zip_tl, upto_N, whole_N, enum_t, enum_l, ix0Lm, ix0Tm, neg1, ix_last, ix_lastT, sortedtN, eqL, neL, rev_tN, isNone_optT]
      rw [extD_of (by simp; omega), okb, extD_of (by simp at hwl ⊢; omega), okb, ← List.map_append, ← List.map_append]
      have nfm : (f ++ mo).Nodup := by
        rw [List.nodup_append]
        exact ⟨nf', nmo, fun x hx y hy e => by subst e; exact ((hmm x).mp hy).2.2 hx⟩
      rw [List.nodup_append] at nw
      have hfm : ∀ x ∈ f ++ mo, Con hs.length (adjB hs) a x := fun x hx => by
        rcases List.mem_append.mp hx with h | h
        · exact hc x h
        · obtain ⟨h1, h2, _⟩ := (hmm x).mp h
          exact (hc p hpf).step h2 h1
      refine ⟨_, rfl, ⟨f ++ mo, w' ++ mo, rfl, nfm, ?_, fun x hx => ?_, hfm, List.mem_append_left _ haf, fun x hx hxw k hk hr => ?_⟩, ?_⟩
      · rw [List.nodup_append]
        exact ⟨nw.1, nmo, fun x hx y hy e => by subst e; exact ((hmm x).mp hy).2.2 (hwf x (List.mem_append_left _ hx))⟩
      · rcases List.mem_append.mp hx with h | h
        · exact List.mem_append_left _ (hwf x (List.mem_append_left _ h))
        · exact List.mem_append_right _ h
      · by_cases hkf : k ∈ f
        · exact List.mem_append_left _ hkf
        · refine List.mem_append_right _ ((hmm k).mpr ⟨hk, ?_, hkf⟩)
          by_cases hxp : x = p
          · rw [← hxp]; exact hr
          · rcases List.mem_append.mp hx with h | h
            · exact absurd (hcl x h (by
                simp only [List.mem_append, List.mem_singleton, not_or]
                exact ⟨fun z => hxw (List.mem_append_left _ z), hxp⟩) k hk hr) hkf
            · exact absurd (List.mem_append_right _ h) hxw
      · have := cnt nfm fun x hx => (hfm x hx).lt ha
        show 2 * (hs.length - ((f ++ mo).map nD).length) + ((w' ++ mo).map nD).length < 2 * (hs.length - f.length) + (w' ++ [p]).length
        simp only [List.length_map, List.length_append, List.length_singleton] at this ⊢
        omega
theorem pieces_is {m : Nat} : m_pieces [layD m hs] = .ok (.list ((piecesL hs).map tN)) := by
  have hn := sm.n
  have e1 : pyIx (layD m hs) (nD 1) = .ok (.tuple (hs.map tN)) := ix1 _ _ _
  rw [m_pieces]
  simp only [okb, int_lit, tN_def, nox_bind, bind_as, noxo, nox_nox, nox_no', R.bind_ok, eqN, neN, ltN, leN, gtN, geN, addN, minN, maxN, truN, truB, asBB, asIntN, partN, nl_okN, nl_bool, lstD_ok, items_l, items_t, items_tN, len_l, len_t, len_tN, tuple_l, tuple_t, list_l, list_t, list_tN, ix0, ix1, ix2, ix0l, ix1l, inLN, inTN, ninLN, ninTN, inLT, inTT, ninLT, ninTT, eqT, neT, eqT0, neT0, eqL0, neL0, unp2_t, unp3_t, sl_to, sl_from, sl_tol, sl_froml, sl_totN, sl_fromtN, sortedN, decide_eq_true_eq, Bool.false_eq_true, if_true, if_false, List.length_map, List.length_range, nl_tN, nf_ok, unp2_pN, ix0p, ix1p, eqP, nf_okP, nf_okT, nl_okP, neL0P, eqL0P, neL0T, eqL0T, inLP, inTP, any_m, all_m, is_none, isnot_none, isNone_n, isNone_N, isNone_T, isNone_t, isNone_l, thenO_nx, thenO_rt, Bool.not_true, Bool.not_false, is_tuple_none, is_tuple_bool, is_tuple_int, is_tuple_str, is_tuple_list, is_tuple_tuple, is_tuple_dict, is_tuple_N, is_tuple_T, is_tuple_P, is_list_none, is_list_bool, is_list_int, is_list_str, is_list_list, is_list_tuple, is_list_dict, is_list_N, is_list_T, is_list_P, is_int_none, is_int_bool, is_int_int, is_int_str, is_int_list, is_int_tuple, is_int_dict, is_int_N, is_int_T, is_int_P, is_bool_none, is_bool_bool, is_bool_int, is_bool_str, is_bool_list, is_bool_tuple, is_bool_dict, is_bool_N, is_bool_T, is_bool_P, is_str_none, is_str_bool, is_str_int, is_str_str, is_str_list, is_str_tuple, is_str_dict, is_str_N, is_str_T, is_str_P, is_seq_none, is_seq_bool, is_seq_int, is_seq_str, is_seq_list, is_seq_tuple, is_seq_dict, is_seq_N, is_seq_T, is_seq_P, zip_ll, zip_tt, zip_lt, zip_tl, upto_N, whole_N, enum_t, enum_l, ix0Lm, ix0Tm, neg1, ix_last, ix_lastT, sortedtN, eqL, neL, rev_tN, isNone_optT, e1, range1 (show hs.length ≤ 16777216 by omega)]
  have key : ∀ i, i ≤ hs.length → foldR (fun d => R.ok d) (fun j7 a8 =>
              (items j7).bind fun a =>
                (mapR (fun a10 => pyIn a8 a10) a).bind fun a =>
                  (pyAny [PyData.list a]).bind fun a =>
                    (tru a).bind fun a =>
                      if (!a) = true then
                        (lstD j7).bind fun u32 =>
                          (pyIx (layD m hs) (nD 1)).bind fun a => (m_come_to [a, a8]).bind fun v31 => appD j7 v31
                      else R.ok j7) ((List.range i).map nD) (.list []) = .ok (.list (((List.range i).foldl (putC (comp hs.length (adjB hs))) []).map tN)) := by
    intro i
    induction i with
    | zero => intro _; rfl
    | succ i ih =>
      intro hi
      have il := (pieces_inv (n := hs.length) (R := adjB hs) (adj_symm hs) i (by omega)).2.2.2
      rw [List.range_succ, List.map_append, foldR_append, ih (by omega), okb, List.foldl_append]
      generalize (List.range i).foldl (putC (comp hs.length (adjB hs))) [] = acc at il
      rw [List.map_singleton, foldR, nox_ok, okb]
      simp only [okb, int_lit, tN_def, nox_bind, bind_as, noxo, nox_nox, nox_no', R.bind_ok, eqN, neN, ltN, leN, gtN, geN, addN, minN, maxN, truN, truB, asBB, asIntN, partN, nl_okN, nl_bool, lstD_ok, items_l, items_t, items_tN, len_l, len_t, len_tN, tuple_l, tuple_t, list_l, list_t, list_tN, ix0, ix1, ix2, ix0l, ix1l, inLN, inTN, ninLN, ninTN, inLT, inTT, ninLT, ninTT, eqT, neT, eqT0, neT0, eqL0, neL0, unp2_t, unp3_t, sl_to, sl_from, sl_tol, sl_froml, sl_totN, sl_fromtN, sortedN, decide_eq_true_eq, Bool.false_eq_true, if_true, if_false, List.length_map, List.length_range, nl_tN, nf_ok, unp2_pN, ix0p, ix1p, eqP, nf_okP, nf_okT, nl_okP, neL0P, eqL0P, neL0T, eqL0T, inLP, inTP, any_m, all_m, is_none, isnot_none, isNone_n, isNone_N, isNone_T, isNone_t, isNone_l, thenO_nx, thenO_rt, Bool.not_true, Bool.not_false, is_tuple_none, is_tuple_bool, is_tuple_int, is_tuple_str, is_tuple_list, is_tuple_tuple, is_tuple_dict, is_tuple_N, is_tuple_T, is_tuple_P, is_list_none, is_list_bool, is_list_int, is_list_str, is_list_list, is_list_tuple, is_list_dict, is_list_N, is_list_T, is_list_P, is_int_none, is_int_bool, is_int_int, is_int_str, is_int_list, is_int_tuple, is_int_dict, is_int_N, is_int_T, is_int_P, is_bool_none, is_bool_bool, is_bool_int, is_bool_str, is_bool_list, is_bool_tuple, is_bool_dict, is_bool_N, is_bool_T, is_bool_P, is_str_none, is_str_bool, is_str_int, is_str_str, is_str_list, is_str_tuple, is_str_dict, is_str_N, is_str_T, is_str_P, is_seq_none, is_seq_bool, is_seq_int, is_seq_str, is_seq_list, is_seq_tuple, is_seq_dict, is_seq_N, is_seq_T, is_seq_P, zip_ll, zip_tt, zip_lt, zip_tl, upto_N, whole_N, enum_t, enum_l, ix0Lm, ix0Tm, neg1, ix_last, ix_lastT, sortedtN, eqL, neL, rev_tN, isNone_optT, e1]
      rw [mapR_m (fun p => PyData.bool (decide (i ∈ p))) (fun p _ => by simp only [okb, int_lit, tN_def, nox_bind, bind_as, noxo, nox_nox, nox_no', R.bind_ok, eqN, neN, ltN, leN, gtN, geN, addN, minN, maxN, truN, truB, asBB, asIntN, partN, nl_okN, nl_bool, lstD_ok, items_l, items_t, items_tN, len_l, len_t, len_tN, tuple_l, tuple_t, list_l, list_t, list_tN, ix0, ix1, ix2, ix0l, ix1l, inLN, inTN, ninLN, ninTN, inLT, inTT, ninLT, ninTT, eqT, neT, eqT0, neT0, eqL0, neL0, unp2_t, unp3_t, sl_to, sl_from, sl_tol, sl_froml, sl_totN, sl_fromtN, sortedN, decide_eq_true_eq, Bool.false_eq_true, if_true, if_false, List.length_map, List.length_range, nl_tN, nf_ok, unp2_pN, ix0p, ix1p, eqP, nf_okP, nf_okT, nl_okP, neL0P, eqL0P, neL0T, eqL0T, inLP, inTP, any_m, all_m, is_none, isnot_none, isNone_n, isNone_N, isNone_T, isNone_t, isNone_l, thenO_nx, thenO_rt, Bool.not_true, Bool.not_false, is_tuple_none, is_tuple_bool, is_tuple_int, is_tuple_str, is_tuple_list, is_tuple_tuple, is_tuple_dict, is_tuple_N, is_tuple_T, is_tuple_P, is_list_none, is_list_bool, is_list_int, is_list_str, is_list_list, is_list_tuple, is_list_dict, is_list_N, is_list_T, is_list_P, is_int_none, is_int_bool, is_int_int, is_int_str, is_int_list, is_int_tuple, is_int_dict, is_int_N, is_int_T, is_int_P, is_bool_none, is_bool_bool, is_bool_int, is_bool_str, is_bool_list, is_bool_tuple, is_bool_dict, is_bool_N, is_bool_T, is_bool_P, is_str_none, is_str_bool, is_str_int, is_str_str, is_str_list, is_str_tuple, is_str_dict, is_str_N, is_str_T, is_str_P, is_seq_none, is_seq_bool, is_seq_int, is_seq_str, is_seq_list, is_seq_tuple, is_seq_dict, is_seq_N, is_seq_T, is_seq_P, zip_ll, zip_tt, zip_lt, zip_tl, upto_N, whole_N, enum_t, enum_l, ix0Lm, ix0Tm, neg1, ix_last, ix_lastT, sortedtN, eqL, neL, rev_tN, isNone_optT])]
      simp only [okb, int_lit, tN_def, nox_bind, bind_as, noxo, nox_nox, nox_no', R.bind_ok, eqN, neN, ltN, leN, gtN, geN, addN, minN, maxN, truN, truB, asBB, asIntN, partN, nl_okN, nl_bool, lstD_ok, items_l, items_t, items_tN, len_l, len_t, len_tN, tuple_l, tuple_t, list_l, list_t, list_tN, ix0, ix1, ix2, ix0l, ix1l, inLN, inTN, ninLN, ninTN, inLT, inTT, ninLT, ninTT, eqT, neT, eqT0, neT0, eqL0, neL0, unp2_t, unp3_t, sl_to, sl_from, sl_tol, sl_froml, sl_totN, sl_fromtN, sortedN, decide_eq_true_eq, Bool.false_eq_true, if_true, if_false, List.length_map, List.length_range, nl_tN, nf_ok, unp2_pN, ix0p, ix1p, eqP, nf_okP, nf_okT, nl_okP, neL0P, eqL0P, neL0T, eqL0T, inLP, inTP, any_m, all_m, is_none, isnot_none, isNone_n, isNone_N, isNone_T, isNone_t, isNone_l, thenO_nx, thenO_rt, Bool.not_true, Bool.not_false, is_tuple_none, is_tuple_bool, is_tuple_int, is_tuple_str, is_tuple_list, is_tuple_tuple, is_tuple_dict, is_tuple_N, is_tuple_T, is_tuple_P, is_list_none, is_list_bool, is_list_int, is_list_str, is_list_list, is_list_tuple, is_list_dict, is_list_N, is_list_T, is_list_P, is_int_none, is_int_bool, is_int_int, is_int_str, is_int_list, is_int_tuple, is_int_dict, is_int_N, is_int_T, is_int_P, is_bool_none, is_bool_bool, is_bool_int, is_bool_str, is_bool_list, is_bool_tuple, is_bool_dict, is_bool_N, is_bool_T, is_bool_P, is_str_none, is_str_bool, is_str_int, is_str_str, is_str_list, is_str_tuple, is_str_dict, is_str_N, is_str_T, is_str_P, is_seq_none, is_seq_bool, is_seq_int, is_seq_str, is_seq_list, is_seq_tuple, is_seq_dict, is_seq_N, is_seq_T, is_seq_P, zip_ll, zip_tt, zip_lt, zip_tl, upto_N, whole_N, enum_t, enum_l, ix0Lm, ix0Tm, neg1, ix_last, ix_lastT, sortedtN, eqL, neL, rev_tN, isNone_optT, come_to_is sm (show i < hs.length by omega)]
      rw [List.foldl_cons, List.foldl_nil]
      unfold putC
      cases hb : acc.any fun p => decide (i ∈ p) with
      | true =>
        simp only [okb, int_lit, tN_def, nox_bind, bind_as, noxo, nox_nox, nox_no', R.bind_ok, eqN, neN, ltN, leN, gtN, geN, addN, minN, maxN, truN, truB, asBB, asIntN, partN, nl_okN, nl_bool, lstD_ok, items_l, items_t, items_tN, len_l, len_t, len_tN, tuple_l, tuple_t, list_l, list_t, list_tN, ix0, ix1, ix2, ix0l, ix1l, inLN, inTN, ninLN, ninTN, inLT, inTT, ninLT, ninTT, eqT, neT, eqT0, neT0, eqL0, neL0, unp2_t, unp3_t, sl_to, sl_from, sl_tol, sl_froml, sl_totN, sl_fromtN, sortedN, decide_eq_true_eq, Bool.false_eq_true, if_true, if_false, List.length_map, List.length_range, nl_tN, nf_ok, unp2_pN, ix0p, ix1p, eqP, nf_okP, nf_okT, nl_okP, neL0P, eqL0P, neL0T, eqL0T, inLP, inTP, any_m, all_m, is_none, isnot_none, isNone_n, isNone_N, isNone_T, isNone_t, isNone_l, thenO_nx, thenO_rt, Bool.not_true, Bool.not_false, is_tuple_none, is_tuple_bool, is_tuple_int, is_tuple_str, is_tuple_list, is_tuple_tuple, is_tuple_dict, is_tuple_N, is_tuple_T, is_tuple_P, is_list_none, is_list_bool, is_list_int, is_list_str, is_list_list, is_list_tuple, is_list_dict, is_list_N, is_list_T, is_list_P, is_int_none, is_int_bool, is_int_int, is_int_str, is_int_list, is_int_tuple, is_int_dict, is_int_N, is_int_T, is_int_P, is_bool_none, is_bool_bool, is_bool_int, is_bool_str, is_bool_list, is_bool_tuple, is_bool_dict, is_bool_N, is_bool_T, is_bool_P, is_str_none, is_str_bool, is_str_int, is_str_str, is_str_list, is_str_tuple, is_str_dict, is_str_N, is_str_T, is_str_P, is_seq_none, is_seq_bool, is_seq_int, is_seq_str, is_seq_list, is_seq_tuple, is_seq_dict, is_seq_N, is_seq_T, is_seq_P, zip_ll, zip_tt, zip_lt, zip_tl, upto_N, whole_N, enum_t, enum_l, ix0Lm, ix0Tm, neg1, ix_last, ix_lastT, sortedtN, eqL, neL, rev_tN, isNone_optT]
        rfl
      | false =>
        simp only [okb, int_lit, tN_def, nox_bind, bind_as, noxo, nox_nox, nox_no', R.bind_ok, eqN, neN, ltN, leN, gtN, geN, addN, minN, maxN, truN, truB, asBB, asIntN, partN, nl_okN, nl_bool, lstD_ok, items_l, items_t, items_tN, len_l, len_t, len_tN, tuple_l, tuple_t, list_l, list_t, list_tN, ix0, ix1, ix2, ix0l, ix1l, inLN, inTN, ninLN, ninTN, inLT, inTT, ninLT, ninTT, eqT, neT, eqT0, neT0, eqL0, neL0, unp2_t, unp3_t, sl_to, sl_from, sl_tol, sl_froml, sl_totN, sl_fromtN, sortedN, decide_eq_true_eq, Bool.false_eq_true, if_true, if_false, List.length_map, List.length_range, nl_tN, nf_ok, unp2_pN, ix0p, ix1p, eqP, nf_okP, nf_okT, nl_okP, neL0P, eqL0P, neL0T, eqL0T, inLP, inTP, any_m, all_m, is_none, isnot_none, isNone_n, isNone_N, isNone_T, isNone_t, isNone_l, thenO_nx, thenO_rt, Bool.not_true, Bool.not_false, is_tuple_none, is_tuple_bool, is_tuple_int, is_tuple_str, is_tuple_list, is_tuple_tuple, is_tuple_dict, is_tuple_N, is_tuple_T, is_tuple_P, is_list_none, is_list_bool, is_list_int, is_list_str, is_list_list, is_list_tuple, is_list_dict, is_list_N, is_list_T, is_list_P, is_int_none, is_int_bool, is_int_int, is_int_str, is_int_list, is_int_tuple, is_int_dict, is_int_N, is_int_T, is_int_P, is_bool_none, is_bool_bool, is_bool_int, is_bool_str, is_bool_list, is_bool_tuple, is_bool_dict, is_bool_N, is_bool_T, is_bool_P, is_str_none, is_str_bool, is_str_int, is_str_str, is_str_list, is_str_tuple, is_str_dict, is_str_N, is_str_T, is_str_P, is_seq_none, is_seq_bool, is_seq_int, is_seq_str, is_seq_list, is_seq_tuple, is_seq_dict, is_seq_N, is_seq_T, is_seq_P, zip_ll, zip_tt, zip_lt, zip_tl, upto_N, whole_N, enum_t, enum_l, ix0Lm, ix0Tm, neg1, ix_last, ix_lastT, sortedtN, eqL, neL, rev_tN, isNone_optT]
        rw [appD_of (by simp; omega), okb, List.map_append]
        rfl
  have := key hs.length (Nat.le_refl _)
  simp only [e1, okb, int_lit, tN_def, nox_bind, bind_as, noxo, nox_nox, nox_no', R.bind_ok, eqN, neN, ltN, leN, gtN, geN, addN, minN, maxN, truN, truB, asBB, asIntN, partN, nl_okN, nl_bool, lstD_ok, items_l, items_t, items_tN, len_l, len_t, len_tN, tuple_l, tuple_t, list_l, list_t, list_tN, ix0, ix1, ix2, ix0l, ix1l, inLN, inTN, ninLN, ninTN, inLT, inTT, ninLT, ninTT, eqT, neT, eqT0, neT0, eqL0, neL0, unp2_t, unp3_t, sl_to, sl_from, sl_tol, sl_froml, sl_totN, sl_fromtN, sortedN, decide_eq_true_eq, Bool.false_eq_true, if_true, if_false, List.length_map, List.length_range, nl_tN, nf_ok, unp2_pN, ix0p, ix1p, eqP, nf_okP, nf_okT, nl_okP, neL0P, eqL0P, neL0T, eqL0T, inLP, inTP, any_m, all_m, is_none, isnot_none, isNone_n, isNone_N, isNone_T, isNone_t, isNone_l, thenO_nx, thenO_rt, Bool.not_true, Bool.not_false, is_tuple_none, is_tuple_bool, is_tuple_int, is_tuple_str, is_tuple_list, is_tuple_tuple, is_tuple_dict, is_tuple_N, is_tuple_T, is_tuple_P, is_list_none, is_list_bool, is_list_int, is_list_str, is_list_list, is_list_tuple, is_list_dict, is_list_N, is_list_T, is_list_P, is_int_none, is_int_bool, is_int_int, is_int_str, is_int_list, is_int_tuple, is_int_dict, is_int_N, is_int_T, is_int_P, is_bool_none, is_bool_bool, is_bool_int, is_bool_str, is_bool_list, is_bool_tuple, is_bool_dict, is_bool_N, is_bool_T, is_bool_P, is_str_none, is_str_bool, is_str_int, is_str_str, is_str_list, is_str_tuple, is_str_dict, is_str_N, is_str_T, is_str_P, is_seq_none, is_seq_bool, is_seq_int, is_seq_str, is_seq_list, is_seq_tuple, is_seq_dict, is_seq_N, is_seq_T, is_seq_P, zip_ll, zip_tt, zip_lt, zip_tl, upto_N, whole_N, enum_t, enum_l, ix0Lm, ix0Tm, neg1, ix_last, ix_lastT, sortedtN, eqL, neL, rev_tN, isNone_optT] at this ⊢
  exact this
end
end TP
/-! the plain layer: layouts looked at -/
namespace TP
open PySem PySem.Spec PyProof.Rows L2 TL JT
theorem look_head {m : Nat} {hs : List (List Nat)} {i : Nat} (h : i < hs.length) : m_look_at_head [layD m hs, nD i] = .ok .none := by
  rw [m_look_at_head]
  simp only [okb, int_lit, tN_def, nox_bind, bind_as, noxo, nox_nox, nox_no', R.bind_ok, eqN, neN, ltN, leN, gtN, geN, addN, minN, maxN, truN, truB, asBB, asIntN, partN, nl_okN, nl_bool, lstD_ok, items_l, items_t, items_tN, len_l, len_t, len_tN, tuple_l, tuple_t, list_l, list_t, list_tN, ix0, ix1, ix2, ix0l, ix1l, inLN, inTN, ninLN, ninTN, inLT, inTT, ninLT, ninTT, eqT, neT, eqT0, neT0, eqL0, neL0, unp2_t, unp3_t, sl_to, sl_from, sl_tol, sl_froml, sl_totN, sl_fromtN, sortedN, decide_eq_true_eq, Bool.false_eq_true, if_true, if_false, List.length_map, List.length_range, nl_tN, nf_ok, unp2_pN, ix0p, ix1p, eqP, nf_okP, nf_okT, nl_okP, neL0P, eqL0P, neL0T, eqL0T, inLP, inTP, any_m, all_m, is_none, isnot_none, isNone_n, isNone_N, isNone_T, isNone_t, isNone_l, thenO_nx, thenO_rt, Bool.not_true, Bool.not_false, is_tuple_none, is_tuple_bool, is_tuple_int, is_tuple_str, is_tuple_list, is_tuple_tuple, is_tuple_dict, is_tuple_N, is_tuple_T, is_tuple_P, is_list_none, is_list_bool, is_list_int, is_list_str, is_list_list, is_list_tuple, is_list_dict, is_list_N, is_list_T, is_list_P, is_int_none, is_int_bool, is_int_int, is_int_str, is_int_list, is_int_tuple, is_int_dict, is_int_N, is_int_T, is_int_P, is_bool_none, is_bool_bool, is_bool_int, is_bool_str, is_bool_list, is_bool_tuple, is_bool_dict, is_bool_N, is_bool_T, is_bool_P, is_str_none, is_str_bool, is_str_int, is_str_str, is_str_list, is_str_tuple, is_str_dict, is_str_N, is_str_T, is_str_P, is_seq_none, is_seq_bool, is_seq_int, is_seq_str, is_seq_list, is_seq_tuple, is_seq_dict, is_seq_N, is_seq_T, is_seq_P, zip_ll, zip_tt, zip_lt, zip_tl, upto_N, whole_N, enum_t, enum_l, ix0Lm, ix0Tm, neg1, ix_last, ix_lastT, sortedtN, eqL, neL, rev_tN, isNone_optT, lay1, h, decide_true]
theorem look_column {m : Nat} {hs : List (List Nat)} {i : Nat} (h : i < m) : m_look_at_column [layD m hs, nD i] = .ok .none := by
  rw [m_look_at_column]
  simp only [okb, int_lit, tN_def, nox_bind, bind_as, noxo, nox_nox, nox_no', R.bind_ok, eqN, neN, ltN, leN, gtN, geN, addN, minN, maxN, truN, truB, asBB, asIntN, partN, nl_okN, nl_bool, lstD_ok, items_l, items_t, items_tN, len_l, len_t, len_tN, tuple_l, tuple_t, list_l, list_t, list_tN, ix0, ix1, ix2, ix0l, ix1l, inLN, inTN, ninLN, ninTN, inLT, inTT, ninLT, ninTT, eqT, neT, eqT0, neT0, eqL0, neL0, unp2_t, unp3_t, sl_to, sl_from, sl_tol, sl_froml, sl_totN, sl_fromtN, sortedN, decide_eq_true_eq, Bool.false_eq_true, if_true, if_false, List.length_map, List.length_range, nl_tN, nf_ok, unp2_pN, ix0p, ix1p, eqP, nf_okP, nf_okT, nl_okP, neL0P, eqL0P, neL0T, eqL0T, inLP, inTP, any_m, all_m, is_none, isnot_none, isNone_n, isNone_N, isNone_T, isNone_t, isNone_l, thenO_nx, thenO_rt, Bool.not_true, Bool.not_false, is_tuple_none, is_tuple_bool, is_tuple_int, is_tuple_str, is_tuple_list, is_tuple_tuple, is_tuple_dict, is_tuple_N, is_tuple_T, is_tuple_P, is_list_none, is_list_bool, is_list_int, is_list_str, is_list_list, is_list_tuple, is_list_dict, is_list_N, is_list_T, is_list_P, is_int_none, is_int_bool, is_int_int, is_int_str, is_int_list, is_int_tuple, is_int_dict, is_int_N, is_int_T, is_int_P, is_bool_none, is_bool_bool, is_bool_int, is_bool_str, is_bool_list, is_bool_tuple, is_bool_dict, is_bool_N, is_bool_T, is_bool_P, is_str_none, is_str_bool, is_str_int, is_str_str, is_str_list, is_str_tuple, is_str_dict, is_str_N, is_str_T, is_str_P, is_seq_none, is_seq_bool, is_seq_int, is_seq_str, is_seq_list, is_seq_tuple, is_seq_dict, is_seq_N, is_seq_T, is_seq_P, zip_ll, zip_tt, zip_lt, zip_tl, upto_N, whole_N, enum_t, enum_l, ix0Lm, ix0Tm, neg1, ix_last, ix_lastT, sortedtN, eqL, neL, rev_tN, isNone_optT, lay0, h, decide_true]
theorem common_is {m : Nat} {hs : List (List Nat)} {i j : Nat} (hi : i < hs.length) (hj : j < hs.length) : m_common [layD m hs, nD i, nD j] = .ok (tN (bothL (hd hs i) (hd hs j))) := by
  rw [m_common]
  simp only [okb, int_lit, tN_def, nox_bind, bind_as, noxo, nox_nox, nox_no', R.bind_ok, eqN, neN, ltN, leN, gtN, geN, addN, minN, maxN, truN, truB, asBB, asIntN, partN, nl_okN, nl_bool, lstD_ok, items_l, items_t, items_tN, len_l, len_t, len_tN, tuple_l, tuple_t, list_l, list_t, list_tN, ix0, ix1, ix2, ix0l, ix1l, inLN, inTN, ninLN, ninTN, inLT, inTT, ninLT, ninTT, eqT, neT, eqT0, neT0, eqL0, neL0, unp2_t, unp3_t, sl_to, sl_from, sl_tol, sl_froml, sl_totN, sl_fromtN, sortedN, decide_eq_true_eq, Bool.false_eq_true, if_true, if_false, List.length_map, List.length_range, nl_tN, nf_ok, unp2_pN, ix0p, ix1p, eqP, nf_okP, nf_okT, nl_okP, neL0P, eqL0P, neL0T, eqL0T, inLP, inTP, any_m, all_m, is_none, isnot_none, isNone_n, isNone_N, isNone_T, isNone_t, isNone_l, thenO_nx, thenO_rt, Bool.not_true, Bool.not_false, is_tuple_none, is_tuple_bool, is_tuple_int, is_tuple_str, is_tuple_list, is_tuple_tuple, is_tuple_dict, is_tuple_N, is_tuple_T, is_tuple_P, is_list_none, is_list_bool, is_list_int, is_list_str, is_list_list, is_list_tuple, is_list_dict, is_list_N, is_list_T, is_list_P, is_int_none, is_int_bool, is_int_int, is_int_str, is_int_list, is_int_tuple, is_int_dict, is_int_N, is_int_T, is_int_P, is_bool_none, is_bool_bool, is_bool_int, is_bool_str, is_bool_list, is_bool_tuple, is_bool_dict, is_bool_N, is_bool_T, is_bool_P, is_str_none, is_str_bool, is_str_int, is_str_str, is_str_list, is_str_tuple, is_str_dict, is_str_N, is_str_T, is_str_P, is_seq_none, is_seq_bool, is_seq_int, is_seq_str, is_seq_list, is_seq_tuple, is_seq_dict, is_seq_N, is_seq_T, is_seq_P, zip_ll, zip_tt, zip_lt, zip_tl, upto_N, whole_N, enum_t, enum_l, ix0Lm, ix0Tm, neg1, ix_last, ix_lastT, sortedtN, eqL, neL, rev_tN, isNone_optT, lay1, look_head hi, look_head hj, ixHd hi, ixHd hj, both_is]
/-! ### is it a layout -/
@[simp] theorem sl_m1 (xs : List D) : pySl (.tuple xs) none (some (-1)) = .ok (.tuple xs.dropLast) := by
  rw [pySl]
  unfold TL.cutD
  rw [HT.sIx_none, List.drop_zero, Nat.sub_zero, List.dropLast_eq_take]
  congr 3
  unfold HT.sIx
  simp only []
  rw [if_pos (by decide)]
  omega
@[simp] theorem sl_m1N (xs : List Nat) : pySl (tN xs) none (some (-1)) = .ok (tN xs.dropLast) := by
  unfold tN
  rw [sl_m1, List.map_dropLast]
@[simp] theorem zipNN (xs ys : List Nat) : pyZip [tN xs, tN ys] = .ok ((xs.zip ys).map pN) := by
  show R.ok (pairs (xs.map nD) (ys.map nD)) = _
  unfold pairs
  rw [List.zipWith_map, List.zip, List.map_zipWith]
  rfl
theorem rise_zip : ∀ xs : List Nat, ((xs.dropLast.zip (xs.drop 1)).all fun p => decide (p.1 < p.2)) = decide (xs.Pairwise (· < ·))
  | [] => rfl
  | [a] => by simp
  | a :: b :: t => by
    have ih := rise_zip (b :: t)
    rw [List.dropLast_cons₂, List.drop_one, List.tail_cons, List.zip_cons_cons, List.all_cons]
    rw [List.drop_one, List.tail_cons] at ih
    rw [ih, Bool.eq_iff_iff, Bool.and_eq_true, decide_eq_true_iff, decide_eq_true_iff, decide_eq_true_iff, List.pairwise_cons (a := a)]
    refine ⟨fun ⟨h1, h2⟩ => ⟨fun c hc => ?_, h2⟩, fun ⟨h1, h2⟩ => ⟨h1 b List.mem_cons_self, h2⟩⟩
    rcases List.mem_cons.mp hc with e | e
    · rw [e]; exact h1
    · have := (List.pairwise_cons.mp h2).1 c e
      show a < c
      have h1' : a < b := h1
      omega
theorem is_rising_is (xs : List Nat) : m_is_rising [tN xs] = .ok (.bool (decide (xs.Pairwise (· < ·)))) := by
  rw [m_is_rising]
  have e : partD (.int (-1)) = .ok (some (-1)) := rfl
  simp only [okb, int_lit, tN_def, nox_bind, bind_as, noxo, nox_nox, nox_no', R.bind_ok, eqN, neN, ltN, leN, gtN, geN, addN, minN, maxN, truN, truB, asBB, asIntN, partN, nl_okN, nl_bool, lstD_ok, items_l, items_t, items_tN, len_l, len_t, len_tN, tuple_l, tuple_t, list_l, list_t, list_tN, ix0, ix1, ix2, ix0l, ix1l, inLN, inTN, ninLN, ninTN, inLT, inTT, ninLT, ninTT, eqT, neT, eqT0, neT0, eqL0, neL0, unp2_t, unp3_t, sl_to, sl_from, sl_tol, sl_froml, sl_totN, sl_fromtN, sortedN, decide_eq_true_eq, Bool.false_eq_true, if_true, if_false, List.length_map, List.length_range, nl_tN, nf_ok, unp2_pN, ix0p, ix1p, eqP, nf_okP, nf_okT, nl_okP, neL0P, eqL0P, neL0T, eqL0T, inLP, inTP, any_m, all_m, is_none, isnot_none, isNone_n, isNone_N, isNone_T, isNone_t, isNone_l, thenO_nx, thenO_rt, Bool.not_true, Bool.not_false, is_tuple_none, is_tuple_bool, is_tuple_int, is_tuple_str, is_tuple_list, is_tuple_tuple, is_tuple_dict, is_tuple_N, is_tuple_T, is_tuple_P, is_list_none, is_list_bool, is_list_int, is_list_str, is_list_list, is_list_tuple, is_list_dict, is_list_N, is_list_T, is_list_P, is_int_none, is_int_bool, is_int_int, is_int_str, is_int_list, is_int_tuple, is_int_dict, is_int_N, is_int_T, is_int_P, is_bool_none, is_bool_bool, is_bool_int, is_bool_str, is_bool_list, is_bool_tuple, is_bool_dict, is_bool_N, is_bool_T, is_bool_P, is_str_none, is_str_bool, is_str_int, is_str_str, is_str_list, is_str_tuple, is_str_dict, is_str_N, is_str_T, is_str_P, is_seq_none, is_seq_bool, is_seq_int, is_seq_str, is_seq_list, is_seq_tuple, is_seq_dict, is_seq_N, is_seq_T, is_seq_P, zip_ll, zip_tt, zip_lt, zip_tl, upto_N, whole_N, enum_t, enum_l, ix0Lm, ix0Tm, neg1, ix_last, ix_lastT, sortedtN, eqL, neL, rev_tN, isNone_optT, e, sl_m1N, zipNN]
  have e2 : pySl (tN xs) (some ((1 : Nat) : Int)) none = .ok (tN (xs.drop 1)) := sl_fromtN xs 1
  rw [mapR_m (fun p : Nat × Nat => PyData.bool (decide (p.1 < p.2))) (fun p _ => by simp only [okb, int_lit, tN_def, nox_bind, bind_as, noxo, nox_nox, nox_no', R.bind_ok, eqN, neN, ltN, leN, gtN, geN, addN, minN, maxN, truN, truB, asBB, asIntN, partN, nl_okN, nl_bool, lstD_ok, items_l, items_t, items_tN, len_l, len_t, len_tN, tuple_l, tuple_t, list_l, list_t, list_tN, ix0, ix1, ix2, ix0l, ix1l, inLN, inTN, ninLN, ninTN, inLT, inTT, ninLT, ninTT, eqT, neT, eqT0, neT0, eqL0, neL0, unp2_t, unp3_t, sl_to, sl_from, sl_tol, sl_froml, sl_totN, sl_fromtN, sortedN, decide_eq_true_eq, Bool.false_eq_true, if_true, if_false, List.length_map, List.length_range, nl_tN, nf_ok, unp2_pN, ix0p, ix1p, eqP, nf_okP, nf_okT, nl_okP, neL0P, eqL0P, neL0T, eqL0T, inLP, inTP, any_m, all_m, is_none, isnot_none, isNone_n, isNone_N, isNone_T, isNone_t, isNone_l, thenO_nx, thenO_rt, Bool.not_true, Bool.not_false, is_tuple_none, is_tuple_bool, is_tuple_int, is_tuple_str, is_tuple_list, is_tuple_tuple, is_tuple_dict, is_tuple_N, is_tuple_T, is_tuple_P, is_list_none, is_list_bool, is_list_int, is_list_str, is_list_list, is_list_tuple, is_list_dict, is_list_N, is_list_T, is_list_P, is_int_none, is_int_bool, is_int_int, is_int_str, is_int_list, is_int_tuple, is_int_dict, is_int_N, is_int_T, is_int_P, is_bool_none, is_bool_bool, is_bool_int, is_bool_str, is_bool_list, is_bool_tuple, is_bool_dict, is_bool_N, is_bool_T, is_bool_P, is_str_none, is_str_bool, is_str_int, is_str_str, is_str_list, is_str_tuple, is_str_dict, is_str_N, is_str_T, is_str_P, is_seq_none, is_seq_bool, is_seq_int, is_seq_str, is_seq_list, is_seq_tuple, is_seq_dict, is_seq_N, is_seq_T, is_seq_P, zip_ll, zip_tt, zip_lt, zip_tl, upto_N, whole_N, enum_t, enum_l, ix0Lm, ix0Tm, neg1, ix_last, ix_lastT, sortedtN, eqL, neL, rev_tN, isNone_optT])]
  simp only [okb, int_lit, tN_def, nox_bind, bind_as, noxo, nox_nox, nox_no', R.bind_ok, eqN, neN, ltN, leN, gtN, geN, addN, minN, maxN, truN, truB, asBB, asIntN, partN, nl_okN, nl_bool, lstD_ok, items_l, items_t, items_tN, len_l, len_t, len_tN, tuple_l, tuple_t, list_l, list_t, list_tN, ix0, ix1, ix2, ix0l, ix1l, inLN, inTN, ninLN, ninTN, inLT, inTT, ninLT, ninTT, eqT, neT, eqT0, neT0, eqL0, neL0, unp2_t, unp3_t, sl_to, sl_from, sl_tol, sl_froml, sl_totN, sl_fromtN, sortedN, decide_eq_true_eq, Bool.false_eq_true, if_true, if_false, List.length_map, List.length_range, nl_tN, nf_ok, unp2_pN, ix0p, ix1p, eqP, nf_okP, nf_okT, nl_okP, neL0P, eqL0P, neL0T, eqL0T, inLP, inTP, any_m, all_m, is_none, isnot_none, isNone_n, isNone_N, isNone_T, isNone_t, isNone_l, thenO_nx, thenO_rt, Bool.not_true, Bool.not_false, is_tuple_none, is_tuple_bool, is_tuple_int, is_tuple_str, is_tuple_list, is_tuple_tuple, is_tuple_dict, is_tuple_N, is_tuple_T, is_tuple_P, is_list_none, is_list_bool, is_list_int, is_list_str, is_list_list, is_list_tuple, is_list_dict, is_list_N, is_list_T, is_list_P, is_int_none, is_int_bool, is_int_int, is_int_str, is_int_list, is_int_tuple, is_int_dict, is_int_N, is_int_T, is_int_P, is_bool_none, is_bool_bool, is_bool_int, is_bool_str, is_bool_list, is_bool_tuple, is_bool_dict, is_bool_N, is_bool_T, is_bool_P, is_str_none, is_str_bool, is_str_int, is_str_str, is_str_list, is_str_tuple, is_str_dict, is_str_N, is_str_T, is_str_P, is_seq_none, is_seq_bool, is_seq_int, is_seq_str, is_seq_list, is_seq_tuple, is_seq_dict, is_seq_N, is_seq_T, is_seq_P, zip_ll, zip_tt, zip_lt, zip_tl, upto_N, whole_N, enum_t, enum_l, ix0Lm, ix0Tm, neg1, ix_last, ix_lastT, sortedtN, eqL, neL, rev_tN, isNone_optT, rise_zip]
def headB (h : List Nat) (m : Nat) : Bool := decide (h ≠ []) && (h.all fun c => decide (c < m)) && decide (h.Pairwise (· < ·))
theorem is_head_is (h : List Nat) (m : Nat) : m_is_head [tN h, nD m] = .ok (.bool (headB h m)) := by
  rw [m_is_head]
  simp only [okb, int_lit, tN_def, nox_bind, bind_as, noxo, nox_nox, nox_no', R.bind_ok, eqN, neN, ltN, leN, gtN, geN, addN, minN, maxN, truN, truB, asBB, asIntN, partN, nl_okN, nl_bool, lstD_ok, items_l, items_t, items_tN, len_l, len_t, len_tN, tuple_l, tuple_t, list_l, list_t, list_tN, ix0, ix1, ix2, ix0l, ix1l, inLN, inTN, ninLN, ninTN, inLT, inTT, ninLT, ninTT, eqT, neT, eqT0, neT0, eqL0, neL0, unp2_t, unp3_t, sl_to, sl_from, sl_tol, sl_froml, sl_totN, sl_fromtN, sortedN, decide_eq_true_eq, Bool.false_eq_true, if_true, if_false, List.length_map, List.length_range, nl_tN, nf_ok, unp2_pN, ix0p, ix1p, eqP, nf_okP, nf_okT, nl_okP, neL0P, eqL0P, neL0T, eqL0T, inLP, inTP, any_m, all_m, is_none, isnot_none, isNone_n, isNone_N, isNone_T, isNone_t, isNone_l, thenO_nx, thenO_rt, Bool.not_true, Bool.not_false, is_tuple_none, is_tuple_bool, is_tuple_int, is_tuple_str, is_tuple_list, is_tuple_tuple, is_tuple_dict, is_tuple_N, is_tuple_T, is_tuple_P, is_list_none, is_list_bool, is_list_int, is_list_str, is_list_list, is_list_tuple, is_list_dict, is_list_N, is_list_T, is_list_P, is_int_none, is_int_bool, is_int_int, is_int_str, is_int_list, is_int_tuple, is_int_dict, is_int_N, is_int_T, is_int_P, is_bool_none, is_bool_bool, is_bool_int, is_bool_str, is_bool_list, is_bool_tuple, is_bool_dict, is_bool_N, is_bool_T, is_bool_P, is_str_none, is_str_bool, is_str_int, is_str_str, is_str_list, is_str_tuple, is_str_dict, is_str_N, is_str_T, is_str_P, is_seq_none, is_seq_bool, is_seq_int, is_seq_str, is_seq_list, is_seq_tuple, is_seq_dict, is_seq_N, is_seq_T, is_seq_P, zip_ll, zip_tt, zip_lt, zip_tl, upto_N, whole_N, enum_t, enum_l, ix0Lm, ix0Tm, neg1, ix_last, ix_lastT, sortedtN, eqL, neL, rev_tN, isNone_optT]
  rw [mapR_m (fun c => PyData.bool (decide (c < m))) (fun c _ => by simp only [okb, int_lit, tN_def, nox_bind, bind_as, noxo, nox_nox, nox_no', R.bind_ok, eqN, neN, ltN, leN, gtN, geN, addN, minN, maxN, truN, truB, asBB, asIntN, partN, nl_okN, nl_bool, lstD_ok, items_l, items_t, items_tN, len_l, len_t, len_tN, tuple_l, tuple_t, list_l, list_t, list_tN, ix0, ix1, ix2, ix0l, ix1l, inLN, inTN, ninLN, ninTN, inLT, inTT, ninLT, ninTT, eqT, neT, eqT0, neT0, eqL0, neL0, unp2_t, unp3_t, sl_to, sl_from, sl_tol, sl_froml, sl_totN, sl_fromtN, sortedN, decide_eq_true_eq, Bool.false_eq_true, if_true, if_false, List.length_map, List.length_range, nl_tN, nf_ok, unp2_pN, ix0p, ix1p, eqP, nf_okP, nf_okT, nl_okP, neL0P, eqL0P, neL0T, eqL0T, inLP, inTP, any_m, all_m, is_none, isnot_none, isNone_n, isNone_N, isNone_T, isNone_t, isNone_l, thenO_nx, thenO_rt, Bool.not_true, Bool.not_false, is_tuple_none, is_tuple_bool, is_tuple_int, is_tuple_str, is_tuple_list, is_tuple_tuple, is_tuple_dict, is_tuple_N, is_tuple_T, is_tuple_P, is_list_none, is_list_bool, is_list_int, is_list_str, is_list_list, is_list_tuple, is_list_dict, is_list_N, is_list_T, is_list_P, is_int_none, is_int_bool, is_int_int, is_int_str, is_int_list, is_int_tuple, is_int_dict, is_int_N, is_int_T, is_int_P, is_bool_none, is_bool_bool, is_bool_int, is_bool_str, is_bool_list, is_bool_tuple, is_bool_dict, is_bool_N, is_bool_T, is_bool_P, is_str_none, is_str_bool, is_str_int, is_str_str, is_str_list, is_str_tuple, is_str_dict, is_str_N, is_str_T, is_str_P, is_seq_none, is_seq_bool, is_seq_int, is_seq_str, is_seq_list, is_seq_tuple, is_seq_dict, is_seq_N, is_seq_T, is_seq_P, zip_ll, zip_tt, zip_lt, zip_tl, upto_N, whole_N, enum_t, enum_l, ix0Lm, ix0Tm, neg1, ix_last, ix_lastT, sortedtN, eqL, neL, rev_tN, isNone_optT])]
  unfold headB
  by_cases h0 : h = []
  · simp only [h0, okb, int_lit, tN_def, nox_bind, bind_as, noxo, nox_nox, nox_no', R.bind_ok, eqN, neN, ltN, leN, gtN, geN, addN, minN, maxN, truN, truB, asBB, asIntN, partN, nl_okN, nl_bool, lstD_ok, items_l, items_t, items_tN, len_l, len_t, len_tN, tuple_l, tuple_t, list_l, list_t, list_tN, ix0, ix1, ix2, ix0l, ix1l, inLN, inTN, ninLN, ninTN, inLT, inTT, ninLT, ninTT, eqT, neT, eqT0, neT0, eqL0, neL0, unp2_t, unp3_t, sl_to, sl_from, sl_tol, sl_froml, sl_totN, sl_fromtN, sortedN, decide_eq_true_eq, Bool.false_eq_true, if_true, if_false, List.length_map, List.length_range, nl_tN, nf_ok, unp2_pN, ix0p, ix1p, eqP, nf_okP, nf_okT, nl_okP, neL0P, eqL0P, neL0T, eqL0T, inLP, inTP, any_m, all_m, is_none, isnot_none, isNone_n, isNone_N, isNone_T, isNone_t, isNone_l, thenO_nx, thenO_rt, Bool.not_true, Bool.not_false, is_tuple_none, is_tuple_bool, is_tuple_int, is_tuple_str, is_tuple_list, is_tuple_tuple, is_tuple_dict, is_tuple_N, is_tuple_T, is_tuple_P, is_list_none, is_list_bool, is_list_int, is_list_str, is_list_list, is_list_tuple, is_list_dict, is_list_N, is_list_T, is_list_P, is_int_none, is_int_bool, is_int_int, is_int_str, is_int_list, is_int_tuple, is_int_dict, is_int_N, is_int_T, is_int_P, is_bool_none, is_bool_bool, is_bool_int, is_bool_str, is_bool_list, is_bool_tuple, is_bool_dict, is_bool_N, is_bool_T, is_bool_P, is_str_none, is_str_bool, is_str_int, is_str_str, is_str_list, is_str_tuple, is_str_dict, is_str_N, is_str_T, is_str_P, is_seq_none, is_seq_bool, is_seq_int, is_seq_str, is_seq_list, is_seq_tuple, is_seq_dict, is_seq_N, is_seq_T, is_seq_P, zip_ll, zip_tt, zip_lt, zip_tl, upto_N, whole_N, enum_t, enum_l, ix0Lm, ix0Tm, neg1, ix_last, ix_lastT, sortedtN, eqL, neL, rev_tN, isNone_optT, decide_true, ne_eq, not_true, decide_false, Bool.false_and]
  · simp only [h0, okb, int_lit, tN_def, nox_bind, bind_as, noxo, nox_nox, nox_no', R.bind_ok, eqN, neN, ltN, leN, gtN, geN, addN, minN, maxN, truN, truB, asBB, asIntN, partN, nl_okN, nl_bool, lstD_ok, items_l, items_t, items_tN, len_l, len_t, len_tN, tuple_l, tuple_t, list_l, list_t, list_tN, ix0, ix1, ix2, ix0l, ix1l, inLN, inTN, ninLN, ninTN, inLT, inTT, ninLT, ninTT, eqT, neT, eqT0, neT0, eqL0, neL0, unp2_t, unp3_t, sl_to, sl_from, sl_tol, sl_froml, sl_totN, sl_fromtN, sortedN, decide_eq_true_eq, Bool.false_eq_true, if_true, if_false, List.length_map, List.length_range, nl_tN, nf_ok, unp2_pN, ix0p, ix1p, eqP, nf_okP, nf_okT, nl_okP, neL0P, eqL0P, neL0T, eqL0T, inLP, inTP, any_m, all_m, is_none, isnot_none, isNone_n, isNone_N, isNone_T, isNone_t, isNone_l, thenO_nx, thenO_rt, Bool.not_true, Bool.not_false, is_tuple_none, is_tuple_bool, is_tuple_int, is_tuple_str, is_tuple_list, is_tuple_tuple, is_tuple_dict, is_tuple_N, is_tuple_T, is_tuple_P, is_list_none, is_list_bool, is_list_int, is_list_str, is_list_list, is_list_tuple, is_list_dict, is_list_N, is_list_T, is_list_P, is_int_none, is_int_bool, is_int_int, is_int_str, is_int_list, is_int_tuple, is_int_dict, is_int_N, is_int_T, is_int_P, is_bool_none, is_bool_bool, is_bool_int, is_bool_str, is_bool_list, is_bool_tuple, is_bool_dict, is_bool_N, is_bool_T, is_bool_P, is_str_none, is_str_bool, is_str_int, is_str_str, is_str_list, is_str_tuple, is_str_dict, is_str_N, is_str_T, is_str_P, is_seq_none, is_seq_bool, is_seq_int, is_seq_str, is_seq_list, is_seq_tuple, is_seq_dict, is_seq_N, is_seq_T, is_seq_P, zip_ll, zip_tt, zip_lt, zip_tl, upto_N, whole_N, enum_t, enum_l, ix0Lm, ix0Tm, neg1, ix_last, ix_lastT, sortedtN, eqL, neL, rev_tN, isNone_optT, decide_false, ne_eq, not_false_eq_true, decide_true, Bool.true_and]
    cases h1 : h.all fun c => decide (c < m) with
    | false => simp only [okb, int_lit, tN_def, nox_bind, bind_as, noxo, nox_nox, nox_no', R.bind_ok, eqN, neN, ltN, leN, gtN, geN, addN, minN, maxN, truN, truB, asBB, asIntN, partN, nl_okN, nl_bool, lstD_ok, items_l, items_t, items_tN, len_l, len_t, len_tN, tuple_l, tuple_t, list_l, list_t, list_tN, ix0, ix1, ix2, ix0l, ix1l, inLN, inTN, ninLN, ninTN, inLT, inTT, ninLT, ninTT, eqT, neT, eqT0, neT0, eqL0, neL0, unp2_t, unp3_t, sl_to, sl_from, sl_tol, sl_froml, sl_totN, sl_fromtN, sortedN, decide_eq_true_eq, Bool.false_eq_true, if_true, if_false, List.length_map, List.length_range, nl_tN, nf_ok, unp2_pN, ix0p, ix1p, eqP, nf_okP, nf_okT, nl_okP, neL0P, eqL0P, neL0T, eqL0T, inLP, inTP, any_m, all_m, is_none, isnot_none, isNone_n, isNone_N, isNone_T, isNone_t, isNone_l, thenO_nx, thenO_rt, Bool.not_true, Bool.not_false, is_tuple_none, is_tuple_bool, is_tuple_int, is_tuple_str, is_tuple_list, is_tuple_tuple, is_tuple_dict, is_tuple_N, is_tuple_T, is_tuple_P, is_list_none, is_list_bool, is_list_int, is_list_str, is_list_list, is_list_tuple, is_list_dict, is_list_N, is_list_T, is_list_P, is_int_none, is_int_bool, is_int_int, is_int_str, is_int_list, is_int_tuple, is_int_dict, is_int_N, is_int_T, is_int_P, is_bool_none, is_bool_bool, is_bool_int, is_bool_str, is_bool_list, is_bool_tuple, is_bool_dict, is_bool_N, is_bool_T, is_bool_P, is_str_none, is_str_bool, is_str_int, is_str_str, is_str_list, is_str_tuple, is_str_dict, is_str_N, is_str_T, is_str_P, is_seq_none, is_seq_bool, is_seq_int, is_seq_str, is_seq_list, is_seq_tuple, is_seq_dict, is_seq_N, is_seq_T, is_seq_P, zip_ll, zip_tt, zip_lt, zip_tl, upto_N, whole_N, enum_t, enum_l, ix0Lm, ix0Tm, neg1, ix_last, ix_lastT, sortedtN, eqL, neL, rev_tN, isNone_optT, Bool.false_and]
    | true => simp only [okb, int_lit, tN_def, nox_bind, bind_as, noxo, nox_nox, nox_no', R.bind_ok, eqN, neN, ltN, leN, gtN, geN, addN, minN, maxN, truN, truB, asBB, asIntN, partN, nl_okN, nl_bool, lstD_ok, items_l, items_t, items_tN, len_l, len_t, len_tN, tuple_l, tuple_t, list_l, list_t, list_tN, ix0, ix1, ix2, ix0l, ix1l, inLN, inTN, ninLN, ninTN, inLT, inTT, ninLT, ninTT, eqT, neT, eqT0, neT0, eqL0, neL0, unp2_t, unp3_t, sl_to, sl_from, sl_tol, sl_froml, sl_totN, sl_fromtN, sortedN, decide_eq_true_eq, Bool.false_eq_true, if_true, if_false, List.length_map, List.length_range, nl_tN, nf_ok, unp2_pN, ix0p, ix1p, eqP, nf_okP, nf_okT, nl_okP, neL0P, eqL0P, neL0T, eqL0T, inLP, inTP, any_m, all_m, is_none, isnot_none, isNone_n, isNone_N, isNone_T, isNone_t, isNone_l, thenO_nx, thenO_rt, Bool.not_true, Bool.not_false, is_tuple_none, is_tuple_bool, is_tuple_int, is_tuple_str, is_tuple_list, is_tuple_tuple, is_tuple_dict, is_tuple_N, is_tuple_T, is_tuple_P, is_list_none, is_list_bool, is_list_int, is_list_str, is_list_list, is_list_tuple, is_list_dict, is_list_N, is_list_T, is_list_P, is_int_none, is_int_bool, is_int_int, is_int_str, is_int_list, is_int_tuple, is_int_dict, is_int_N, is_int_T, is_int_P, is_bool_none, is_bool_bool, is_bool_int, is_bool_str, is_bool_list, is_bool_tuple, is_bool_dict, is_bool_N, is_bool_T, is_bool_P, is_str_none, is_str_bool, is_str_int, is_str_str, is_str_list, is_str_tuple, is_str_dict, is_str_N, is_str_T, is_str_P, is_seq_none, is_seq_bool, is_seq_int, is_seq_str, is_seq_list, is_seq_tuple, is_seq_dict, is_seq_N, is_seq_T, is_seq_P, zip_ll, zip_tt, zip_lt, zip_tl, upto_N, whole_N, enum_t, enum_l, ix0Lm, ix0Tm, neg1, ix_last, ix_lastT, sortedtN, eqL, neL, rev_tN, isNone_optT, Bool.true_and, is_rising_is]
theorem is_layout_yes {m : Nat} {hs : List (List Nat)} (v : LayV m hs) : m_is_layout [layD m hs] = .ok (.bool true) := by
  rw [m_is_layout]
  have h1 := v.m1
  have h2 := v.m7
  have h3 := v.n1
  have h4 := v.n6
  have ht : isD ["tuple"] (layD m hs) = .ok (.bool true) := is_tuple_tuple _
  have hl : TL.pyLen [layD m hs] = .ok (nD 2) := rfl
  simp only [okb, int_lit, tN_def, nox_bind, bind_as, noxo, nox_nox, nox_no', R.bind_ok, eqN, neN, ltN, leN, gtN, geN, addN, minN, maxN, truN, truB, asBB, asIntN, partN, nl_okN, nl_bool, lstD_ok, items_l, items_t, items_tN, len_l, len_t, len_tN, tuple_l, tuple_t, list_l, list_t, list_tN, ix0, ix1, ix2, ix0l, ix1l, inLN, inTN, ninLN, ninTN, inLT, inTT, ninLT, ninTT, eqT, neT, eqT0, neT0, eqL0, neL0, unp2_t, unp3_t, sl_to, sl_from, sl_tol, sl_froml, sl_totN, sl_fromtN, sortedN, decide_eq_true_eq, Bool.false_eq_true, if_true, if_false, List.length_map, List.length_range, nl_tN, nf_ok, unp2_pN, ix0p, ix1p, eqP, nf_okP, nf_okT, nl_okP, neL0P, eqL0P, neL0T, eqL0T, inLP, inTP, any_m, all_m, is_none, isnot_none, isNone_n, isNone_N, isNone_T, isNone_t, isNone_l, thenO_nx, thenO_rt, Bool.not_true, Bool.not_false, is_tuple_none, is_tuple_bool, is_tuple_int, is_tuple_str, is_tuple_list, is_tuple_tuple, is_tuple_dict, is_tuple_N, is_tuple_T, is_tuple_P, is_list_none, is_list_bool, is_list_int, is_list_str, is_list_list, is_list_tuple, is_list_dict, is_list_N, is_list_T, is_list_P, is_int_none, is_int_bool, is_int_int, is_int_str, is_int_list, is_int_tuple, is_int_dict, is_int_N, is_int_T, is_int_P, is_bool_none, is_bool_bool, is_bool_int, is_bool_str, is_bool_list, is_bool_tuple, is_bool_dict, is_bool_N, is_bool_T, is_bool_P, is_str_none, is_str_bool, is_str_int, is_str_str, is_str_list, is_str_tuple, is_str_dict, is_str_N, is_str_T, is_str_P, is_seq_none, is_seq_bool, is_seq_int, is_seq_str, is_seq_list, is_seq_tuple, is_seq_dict, is_seq_N, is_seq_T, is_seq_P, zip_ll, zip_tt, zip_lt, zip_tl, upto_N, whole_N, enum_t, enum_l, ix0Lm, ix0Tm, neg1, ix_last, ix_lastT, sortedtN, eqL, neL, rev_tN, isNone_optT, lay0, lay1, ht, hl, show m < 7 + 1 by omega, show m ≠ 0 by omega, show 1 ≤ hs.length from h3, show hs.length ≤ 6 from h4, decide_true, decide_false, ne_eq, not_true]
  rw [mapR_m (fun h => PyData.bool (headB h m)) (fun h _ => is_head_is h m)]
  simp only [okb, int_lit, tN_def, nox_bind, bind_as, noxo, nox_nox, nox_no', R.bind_ok, eqN, neN, ltN, leN, gtN, geN, addN, minN, maxN, truN, truB, asBB, asIntN, partN, nl_okN, nl_bool, lstD_ok, items_l, items_t, items_tN, len_l, len_t, len_tN, tuple_l, tuple_t, list_l, list_t, list_tN, ix0, ix1, ix2, ix0l, ix1l, inLN, inTN, ninLN, ninTN, inLT, inTT, ninLT, ninTT, eqT, neT, eqT0, neT0, eqL0, neL0, unp2_t, unp3_t, sl_to, sl_from, sl_tol, sl_froml, sl_totN, sl_fromtN, sortedN, decide_eq_true_eq, Bool.false_eq_true, if_true, if_false, List.length_map, List.length_range, nl_tN, nf_ok, unp2_pN, ix0p, ix1p, eqP, nf_okP, nf_okT, nl_okP, neL0P, eqL0P, neL0T, eqL0T, inLP, inTP, any_m, all_m, is_none, isnot_none, isNone_n, isNone_N, isNone_T, isNone_t, isNone_l, thenO_nx, thenO_rt, Bool.not_true, Bool.not_false, is_tuple_none, is_tuple_bool, is_tuple_int, is_tuple_str, is_tuple_list, is_tuple_tuple, is_tuple_dict, is_tuple_N, is_tuple_T, is_tuple_P, is_list_none, is_list_bool, is_list_int, is_list_str, is_list_list, is_list_tuple, is_list_dict, is_list_N, is_list_T, is_list_P, is_int_none, is_int_bool, is_int_int, is_int_str, is_int_list, is_int_tuple, is_int_dict, is_int_N, is_int_T, is_int_P, is_bool_none, is_bool_bool, is_bool_int, is_bool_str, is_bool_list, is_bool_tuple, is_bool_dict, is_bool_N, is_bool_T, is_bool_P, is_str_none, is_str_bool, is_str_int, is_str_str, is_str_list, is_str_tuple, is_str_dict, is_str_N, is_str_T, is_str_P, is_seq_none, is_seq_bool, is_seq_int, is_seq_str, is_seq_list, is_seq_tuple, is_seq_dict, is_seq_N, is_seq_T, is_seq_P, zip_ll, zip_tt, zip_lt, zip_tl, upto_N, whole_N, enum_t, enum_l, ix0Lm, ix0Tm, neg1, ix_last, ix_lastT, sortedtN, eqL, neL, rev_tN, isNone_optT]
  have : hs.all (fun h => headB h m) = true := List.all_eq_true.mpr fun h hh => by
    unfold headB
    rw [decide_eq_true (v.ne h hh), decide_eq_true (v.up h hh), List.all_eq_true.mpr fun c hc => decide_eq_true (v.lt h hh c hc)]
    rfl
  rw [this]
end TP
/-! the plain layer: layouts together -/
namespace TP
open PySem PySem.Spec PyProof.Rows L2 TL JT
def havingL (hs : List (List Nat)) (c : Nat) : List Nat := (List.range hs.length).filter fun k => decide (c ∈ hd hs k)
theorem having_is (hs : List (List Nat)) (c : Nat) : m_having [.tuple (hs.map tN), nD c] = .ok (tN (havingL hs c)) := by
  rw [m_having]
  simp only [okb, int_lit, tN_def, nox_bind, bind_as, noxo, nox_nox, nox_no', R.bind_ok, eqN, neN, ltN, leN, gtN, geN, addN, minN, maxN, truN, truB, asBB, asIntN, partN, nl_okN, nl_bool, lstD_ok, items_l, items_t, items_tN, len_l, len_t, len_tN, tuple_l, tuple_t, list_l, list_t, list_tN, ix0, ix1, ix2, ix0l, ix1l, inLN, inTN, ninLN, ninTN, inLT, inTT, ninLT, ninTT, eqT, neT, eqT0, neT0, eqL0, neL0, unp2_t, unp3_t, sl_to, sl_from, sl_tol, sl_froml, sl_totN, sl_fromtN, sortedN, decide_eq_true_eq, Bool.false_eq_true, if_true, if_false, List.length_map, List.length_range, nl_tN, nf_ok, unp2_pN, ix0p, ix1p, eqP, nf_okP, nf_okT, nl_okP, neL0P, eqL0P, neL0T, eqL0T, inLP, inTP, any_m, all_m, is_none, isnot_none, isNone_n, isNone_N, isNone_T, isNone_t, isNone_l, thenO_nx, thenO_rt, Bool.not_true, Bool.not_false, is_tuple_none, is_tuple_bool, is_tuple_int, is_tuple_str, is_tuple_list, is_tuple_tuple, is_tuple_dict, is_tuple_N, is_tuple_T, is_tuple_P, is_list_none, is_list_bool, is_list_int, is_list_str, is_list_list, is_list_tuple, is_list_dict, is_list_N, is_list_T, is_list_P, is_int_none, is_int_bool, is_int_int, is_int_str, is_int_list, is_int_tuple, is_int_dict, is_int_N, is_int_T, is_int_P, is_bool_none, is_bool_bool, is_bool_int, is_bool_str, is_bool_list, is_bool_tuple, is_bool_dict, is_bool_N, is_bool_T, is_bool_P, is_str_none, is_str_bool, is_str_int, is_str_str, is_str_list, is_str_tuple, is_str_dict, is_str_N, is_str_T, is_str_P, is_seq_none, is_seq_bool, is_seq_int, is_seq_str, is_seq_list, is_seq_tuple, is_seq_dict, is_seq_N, is_seq_T, is_seq_P, zip_ll, zip_tt, zip_lt, zip_tl, upto_N, whole_N, enum_t, enum_l, ix0Lm, ix0Tm, neg1, ix_last, ix_lastT, sortedtN, eqL, neL, rev_tN, isNone_optT, enumD_hs]
  rw [filR_m (fun k => decide (c ∈ hd hs k)) nD (fun k _ => by simp only [okb, int_lit, tN_def, nox_bind, bind_as, noxo, nox_nox, nox_no', R.bind_ok, eqN, neN, ltN, leN, gtN, geN, addN, minN, maxN, truN, truB, asBB, asIntN, partN, nl_okN, nl_bool, lstD_ok, items_l, items_t, items_tN, len_l, len_t, len_tN, tuple_l, tuple_t, list_l, list_t, list_tN, ix0, ix1, ix2, ix0l, ix1l, inLN, inTN, ninLN, ninTN, inLT, inTT, ninLT, ninTT, eqT, neT, eqT0, neT0, eqL0, neL0, unp2_t, unp3_t, sl_to, sl_from, sl_tol, sl_froml, sl_totN, sl_fromtN, sortedN, decide_eq_true_eq, Bool.false_eq_true, if_true, if_false, List.length_map, List.length_range, nl_tN, nf_ok, unp2_pN, ix0p, ix1p, eqP, nf_okP, nf_okT, nl_okP, neL0P, eqL0P, neL0T, eqL0T, inLP, inTP, any_m, all_m, is_none, isnot_none, isNone_n, isNone_N, isNone_T, isNone_t, isNone_l, thenO_nx, thenO_rt, Bool.not_true, Bool.not_false, is_tuple_none, is_tuple_bool, is_tuple_int, is_tuple_str, is_tuple_list, is_tuple_tuple, is_tuple_dict, is_tuple_N, is_tuple_T, is_tuple_P, is_list_none, is_list_bool, is_list_int, is_list_str, is_list_list, is_list_tuple, is_list_dict, is_list_N, is_list_T, is_list_P, is_int_none, is_int_bool, is_int_int, is_int_str, is_int_list, is_int_tuple, is_int_dict, is_int_N, is_int_T, is_int_P, is_bool_none, is_bool_bool, is_bool_int, is_bool_str, is_bool_list, is_bool_tuple, is_bool_dict, is_bool_N, is_bool_T, is_bool_P, is_str_none, is_str_bool, is_str_int, is_str_str, is_str_list, is_str_tuple, is_str_dict, is_str_N, is_str_T, is_str_P, is_seq_none, is_seq_bool, is_seq_int, is_seq_str, is_seq_list, is_seq_tuple, is_seq_dict, is_seq_N, is_seq_T, is_seq_P, zip_ll, zip_tt, zip_lt, zip_tl, upto_N, whole_N, enum_t, enum_l, ix0Lm, ix0Tm, neg1, ix_last, ix_lastT, sortedtN, eqL, neL, rev_tN, isNone_optT]) (fun k _ _ => by simp only [okb, int_lit, tN_def, nox_bind, bind_as, noxo, nox_nox, nox_no', R.bind_ok, eqN, neN, ltN, leN, gtN, geN, addN, minN, maxN, truN, truB, asBB, asIntN, partN, nl_okN, nl_bool, lstD_ok, items_l, items_t, items_tN, len_l, len_t, len_tN, tuple_l, tuple_t, list_l, list_t, list_tN, ix0, ix1, ix2, ix0l, ix1l, inLN, inTN, ninLN, ninTN, inLT, inTT, ninLT, ninTT, eqT, neT, eqT0, neT0, eqL0, neL0, unp2_t, unp3_t, sl_to, sl_from, sl_tol, sl_froml, sl_totN, sl_fromtN, sortedN, decide_eq_true_eq, Bool.false_eq_true, if_true, if_false, List.length_map, List.length_range, nl_tN, nf_ok, unp2_pN, ix0p, ix1p, eqP, nf_okP, nf_okT, nl_okP, neL0P, eqL0P, neL0T, eqL0T, inLP, inTP, any_m, all_m, is_none, isnot_none, isNone_n, isNone_N, isNone_T, isNone_t, isNone_l, thenO_nx, thenO_rt, Bool.not_true, Bool.not_false, is_tuple_none, is_tuple_bool, is_tuple_int, is_tuple_str, is_tuple_list, is_tuple_tuple, is_tuple_dict, is_tuple_N, is_tuple_T, is_tuple_P, is_list_none, is_list_bool, is_list_int, is_list_str, is_list_list, is_list_tuple, is_list_dict, is_list_N, is_list_T, is_list_P, is_int_none, is_int_bool, is_int_int, is_int_str, is_int_list, is_int_tuple, is_int_dict, is_int_N, is_int_T, is_int_P, is_bool_none, is_bool_bool, is_bool_int, is_bool_str, is_bool_list, is_bool_tuple, is_bool_dict, is_bool_N, is_bool_T, is_bool_P, is_str_none, is_str_bool, is_str_int, is_str_str, is_str_list, is_str_tuple, is_str_dict, is_str_N, is_str_T, is_str_P, is_seq_none, is_seq_bool, is_seq_int, is_seq_str, is_seq_list, is_seq_tuple, is_seq_dict, is_seq_N, is_seq_T, is_seq_P, zip_ll, zip_tt, zip_lt, zip_tl, upto_N, whole_N, enum_t, enum_l, ix0Lm, ix0Tm, neg1, ix_last, ix_lastT, sortedtN, eqL, neL, rev_tN, isNone_optT])]
  simp only [okb, int_lit, tN_def, nox_bind, bind_as, noxo, nox_nox, nox_no', R.bind_ok, eqN, neN, ltN, leN, gtN, geN, addN, minN, maxN, truN, truB, asBB, asIntN, partN, nl_okN, nl_bool, lstD_ok, items_l, items_t, items_tN, len_l, len_t, len_tN, tuple_l, tuple_t, list_l, list_t, list_tN, ix0, ix1, ix2, ix0l, ix1l, inLN, inTN, ninLN, ninTN, inLT, inTT, ninLT, ninTT, eqT, neT, eqT0, neT0, eqL0, neL0, unp2_t, unp3_t, sl_to, sl_from, sl_tol, sl_froml, sl_totN, sl_fromtN, sortedN, decide_eq_true_eq, Bool.false_eq_true, if_true, if_false, List.length_map, List.length_range, nl_tN, nf_ok, unp2_pN, ix0p, ix1p, eqP, nf_okP, nf_okT, nl_okP, neL0P, eqL0P, neL0T, eqL0T, inLP, inTP, any_m, all_m, is_none, isnot_none, isNone_n, isNone_N, isNone_T, isNone_t, isNone_l, thenO_nx, thenO_rt, Bool.not_true, Bool.not_false, is_tuple_none, is_tuple_bool, is_tuple_int, is_tuple_str, is_tuple_list, is_tuple_tuple, is_tuple_dict, is_tuple_N, is_tuple_T, is_tuple_P, is_list_none, is_list_bool, is_list_int, is_list_str, is_list_list, is_list_tuple, is_list_dict, is_list_N, is_list_T, is_list_P, is_int_none, is_int_bool, is_int_int, is_int_str, is_int_list, is_int_tuple, is_int_dict, is_int_N, is_int_T, is_int_P, is_bool_none, is_bool_bool, is_bool_int, is_bool_str, is_bool_list, is_bool_tuple, is_bool_dict, is_bool_N, is_bool_T, is_bool_P, is_str_none, is_str_bool, is_str_int, is_str_str, is_str_list, is_str_tuple, is_str_dict, is_str_N, is_str_T, is_str_P, is_seq_none, is_seq_bool, is_seq_int, is_seq_str, is_seq_list, is_seq_tuple, is_seq_dict, is_seq_N, is_seq_T, is_seq_P, zip_ll, zip_tt, zip_lt, zip_tl, upto_N, whole_N, enum_t, enum_l, ix0Lm, ix0Tm, neg1, ix_last, ix_lastT, sortedtN, eqL, neL, rev_tN, isNone_optT]
  rfl
theorem heads_of_is {m : Nat} {hs : List (List Nat)} {c : Nat} (h : c < m) : m_heads_of [layD m hs, nD c] = .ok (tN (havingL hs c)) := by
  rw [m_heads_of]
  simp only [okb, int_lit, tN_def, nox_bind, bind_as, noxo, nox_nox, nox_no', R.bind_ok, eqN, neN, ltN, leN, gtN, geN, addN, minN, maxN, truN, truB, asBB, asIntN, partN, nl_okN, nl_bool, lstD_ok, items_l, items_t, items_tN, len_l, len_t, len_tN, tuple_l, tuple_t, list_l, list_t, list_tN, ix0, ix1, ix2, ix0l, ix1l, inLN, inTN, ninLN, ninTN, inLT, inTT, ninLT, ninTT, eqT, neT, eqT0, neT0, eqL0, neL0, unp2_t, unp3_t, sl_to, sl_from, sl_tol, sl_froml, sl_totN, sl_fromtN, sortedN, decide_eq_true_eq, Bool.false_eq_true, if_true, if_false, List.length_map, List.length_range, nl_tN, nf_ok, unp2_pN, ix0p, ix1p, eqP, nf_okP, nf_okT, nl_okP, neL0P, eqL0P, neL0T, eqL0T, inLP, inTP, any_m, all_m, is_none, isnot_none, isNone_n, isNone_N, isNone_T, isNone_t, isNone_l, thenO_nx, thenO_rt, Bool.not_true, Bool.not_false, is_tuple_none, is_tuple_bool, is_tuple_int, is_tuple_str, is_tuple_list, is_tuple_tuple, is_tuple_dict, is_tuple_N, is_tuple_T, is_tuple_P, is_list_none, is_list_bool, is_list_int, is_list_str, is_list_list, is_list_tuple, is_list_dict, is_list_N, is_list_T, is_list_P, is_int_none, is_int_bool, is_int_int, is_int_str, is_int_list, is_int_tuple, is_int_dict, is_int_N, is_int_T, is_int_P, is_bool_none, is_bool_bool, is_bool_int, is_bool_str, is_bool_list, is_bool_tuple, is_bool_dict, is_bool_N, is_bool_T, is_bool_P, is_str_none, is_str_bool, is_str_int, is_str_str, is_str_list, is_str_tuple, is_str_dict, is_str_N, is_str_T, is_str_P, is_seq_none, is_seq_bool, is_seq_int, is_seq_str, is_seq_list, is_seq_tuple, is_seq_dict, is_seq_N, is_seq_T, is_seq_P, zip_ll, zip_tt, zip_lt, zip_tl, upto_N, whole_N, enum_t, enum_l, ix0Lm, ix0Tm, neg1, ix_last, ix_lastT, sortedtN, eqL, neL, rev_tN, isNone_optT, lay1, look_column h, having_is]
theorem pieces_flat (hs : List (List Nat)) : sortN (piecesL hs).flatten = List.range hs.length := by
  obtain ⟨h1, h2, h3, _⟩ := pieces_inv (n := hs.length) (R := adjB hs) (adj_symm hs) hs.length (Nat.le_refl _)
  refine rise_eq (sortN_lt h1) List.pairwise_lt_range fun k => ?_
  rw [sortN_mem, List.mem_range]
  refine ⟨fun h => ?_, h3 k⟩
  obtain ⟨p, hp, hk⟩ := List.mem_flatten.mp h
  obtain ⟨a, ha, rfl⟩ := h2 p hp
  exact ((comp_mem ha).mp hk).lt ha
theorem pieces_of {hs : List (List Nat)} {p : List Nat} (h : p ∈ piecesL hs) : ∃ k, k < hs.length ∧ p = comp hs.length (adjB hs) k :=
  (pieces_inv (n := hs.length) (R := adjB hs) (adj_symm hs) hs.length (Nat.le_refl _)).2.1 p h
section
variable {m : Nat} {hs : List (List Nat)} (sm : Sm hs)
include sm
theorem law_right_is (hm : m ≤ 64) : m_law_right [layD m hs] = .ok (.bool true) := by
  have hn := sm.n
  rw [m_law_right]
  simp only [okb, int_lit, tN_def, nox_bind, bind_as, noxo, nox_nox, nox_no', R.bind_ok, eqN, neN, ltN, leN, gtN, geN, addN, minN, maxN, truN, truB, asBB, asIntN, partN, nl_okN, nl_bool, lstD_ok, items_l, items_t, items_tN, len_l, len_t, len_tN, tuple_l, tuple_t, list_l, list_t, list_tN, ix0, ix1, ix2, ix0l, ix1l, inLN, inTN, ninLN, ninTN, inLT, inTT, ninLT, ninTT, eqT, neT, eqT0, neT0, eqL0, neL0, unp2_t, unp3_t, sl_to, sl_from, sl_tol, sl_froml, sl_totN, sl_fromtN, sortedN, decide_eq_true_eq, Bool.false_eq_true, if_true, if_false, List.length_map, List.length_range, nl_tN, nf_ok, unp2_pN, ix0p, ix1p, eqP, nf_okP, nf_okT, nl_okP, neL0P, eqL0P, neL0T, eqL0T, inLP, inTP, any_m, all_m, is_none, isnot_none, isNone_n, isNone_N, isNone_T, isNone_t, isNone_l, thenO_nx, thenO_rt, Bool.not_true, Bool.not_false, is_tuple_none, is_tuple_bool, is_tuple_int, is_tuple_str, is_tuple_list, is_tuple_tuple, is_tuple_dict, is_tuple_N, is_tuple_T, is_tuple_P, is_list_none, is_list_bool, is_list_int, is_list_str, is_list_list, is_list_tuple, is_list_dict, is_list_N, is_list_T, is_list_P, is_int_none, is_int_bool, is_int_int, is_int_str, is_int_list, is_int_tuple, is_int_dict, is_int_N, is_int_T, is_int_P, is_bool_none, is_bool_bool, is_bool_int, is_bool_str, is_bool_list, is_bool_tuple, is_bool_dict, is_bool_N, is_bool_T, is_bool_P, is_str_none, is_str_bool, is_str_int, is_str_str, is_str_list, is_str_tuple, is_str_dict, is_str_N, is_str_T, is_str_P, is_seq_none, is_seq_bool, is_seq_int, is_seq_str, is_seq_list, is_seq_tuple, is_seq_dict, is_seq_N, is_seq_T, is_seq_P, zip_ll, zip_tt, zip_lt, zip_tl, upto_N, whole_N, enum_t, enum_l, ix0Lm, ix0Tm, neg1, ix_last, ix_lastT, sortedtN, eqL, neL, rev_tN, isNone_optT, lay0, lay1, range1 (show m ≤ 16777216 by omega), range1 (show hs.length ≤ 16777216 by omega), rgl1 (show hs.length ≤ 16777216 by omega), pieces_is sm]
  apply Sat.eq
  refine thenFine (turnsN fun c hc => ?_) ?_
  · refine thenFine (turnsN fun i hi => ?_) ⟨_, rfl, rfl⟩
    simp only [okb, int_lit, tN_def, nox_bind, bind_as, noxo, nox_nox, nox_no', R.bind_ok, eqN, neN, ltN, leN, gtN, geN, addN, minN, maxN, truN, truB, asBB, asIntN, partN, nl_okN, nl_bool, lstD_ok, items_l, items_t, items_tN, len_l, len_t, len_tN, tuple_l, tuple_t, list_l, list_t, list_tN, ix0, ix1, ix2, ix0l, ix1l, inLN, inTN, ninLN, ninTN, inLT, inTT, ninLT, ninTT, eqT, neT, eqT0, neT0, eqL0, neL0, unp2_t, unp3_t, sl_to, sl_from, sl_tol, sl_froml, sl_totN, sl_fromtN, sortedN, decide_eq_true_eq, Bool.false_eq_true, if_true, if_false, List.length_map, List.length_range, nl_tN, nf_ok, unp2_pN, ix0p, ix1p, eqP, nf_okP, nf_okT, nl_okP, neL0P, eqL0P, neL0T, eqL0T, inLP, inTP, any_m, all_m, is_none, isnot_none, isNone_n, isNone_N, isNone_T, isNone_t, isNone_l, thenO_nx, thenO_rt, Bool.not_true, Bool.not_false, is_tuple_none, is_tuple_bool, is_tuple_int, is_tuple_str, is_tuple_list, is_tuple_tuple, is_tuple_dict, is_tuple_N, is_tuple_T, is_tuple_P, is_list_none, is_list_bool, is_list_int, is_list_str, is_list_list, is_list_tuple, is_list_dict, is_list_N, is_list_T, is_list_P, is_int_none, is_int_bool, is_int_int, is_int_str, is_int_list, is_int_tuple, is_int_dict, is_int_N, is_int_T, is_int_P, is_bool_none, is_bool_bool, is_bool_int, is_bool_str, is_bool_list, is_bool_tuple, is_bool_dict, is_bool_N, is_bool_T, is_bool_P, is_str_none, is_str_bool, is_str_int, is_str_str, is_str_list, is_str_tuple, is_str_dict, is_str_N, is_str_T, is_str_P, is_seq_none, is_seq_bool, is_seq_int, is_seq_str, is_seq_list, is_seq_tuple, is_seq_dict, is_seq_N, is_seq_T, is_seq_P, zip_ll, zip_tt, zip_lt, zip_tl, upto_N, whole_N, enum_t, enum_l, ix0Lm, ix0Tm, neg1, ix_last, ix_lastT, sortedtN, eqL, neL, rev_tN, isNone_optT, heads_of_is hc, ixHd hi]
    have : decide (i ∈ havingL hs c) = decide (c ∈ hd hs i) := by
      rw [decide_eq_decide]
      unfold havingL
      rw [List.mem_filter, List.mem_range, decide_eq_true_iff]
      exact ⟨fun h => h.2, fun h => ⟨hi, h⟩⟩
    rw [this, pyNe_bool]
    exact ⟨_, rfl, rfl⟩
  · have hfl : (piecesL hs).flatten.length = hs.length := by
      have := congrArg List.length (pieces_flat hs)
      rw [sortN_length, List.length_range] at this
      exact this
    have key := foldO_stR (u := fun d => R.ok d) (mb := fun j35 a36 =>
                (pyList [a36]).bind fun a =>
                  (pyAdd j35 a).bind fun v40 =>
                          (filR (fun x49 => (pyNotIn x49 a36).bind asB) (fun d => R.ok d) ((List.range hs.length).map nD)).bind fun a =>
                            thenO
                              ((items a36).bind fun b54 =>
                                foldO (fun d => R.ok d)
                                  (fun (j55 : Unit) a56 =>
                                    (filR
                                          (fun a58 =>
                                            (m_common [layD m hs, a56, a58]).bind fun x65 =>
                                              (pyNe x65 (PyData.tuple [])).bind asB)
                                          (fun d => R.ok d) a).bind
                                      fun a =>
                                      (pyNe (PyData.list a) (PyData.list [])).bind fun a =>
                                        (asB a).bind fun b27 =>
                                          if b27 = true then R.ok (Oc.rt (PyData.bool false) PyData.none)
                                          else R.ok (Oc.nx ()))
                                  b54 ())
                              (fun t b => Oc.rt t b) fun j73 => R.ok (Oc.nx v40)) (g := tN) tN (fun f : List Nat => PyData.list (f.map nD)) (fun f p => f ++ p) (fun f ps => f ++ ps.flatten = (piecesL hs).flatten ∧ ∀ p ∈ ps, p ∈ piecesL hs) (fun _ => rfl) (fun f p ps ⟨h1, h2⟩ => by
      obtain ⟨k, hk, rfl⟩ := pieces_of (h2 p List.mem_cons_self)
      generalize hp : comp hs.length (adjB hs) k = p at h1 h2
      have hl : f.length + p.length ≤ hs.length := by
        rw [← hfl, ← h1]
        simp
      refine ⟨?_, by rw [← h1]; simp, fun q hq => h2 q (List.mem_cons_of_mem _ hq)⟩
      have ea : pyAdd (.list (f.map nD)) (.list (p.map nD)) = .ok (.list ((f ++ p).map nD)) := by
        rw [addL (by simp only [List.length_map]; omega), List.map_append]
      simp only [okb, int_lit, tN_def, nox_bind, bind_as, noxo, nox_nox, nox_no', R.bind_ok, eqN, neN, ltN, leN, gtN, geN, addN, minN, maxN, truN, truB, asBB, asIntN, partN, nl_okN, nl_bool, lstD_ok, items_l, items_t, items_tN, len_l, len_t, len_tN, tuple_l, tuple_t, list_l, list_t, list_tN, ix0, ix1, ix2, ix0l, ix1l, inLN, inTN, ninLN, ninTN, inLT, inTT, ninLT, ninTT, eqT, neT, eqT0, neT0, eqL0, neL0, unp2_t, unp3_t, sl_to, sl_from, sl_tol, sl_froml, sl_totN, sl_fromtN, sortedN, decide_eq_true_eq, Bool.false_eq_true, if_true, if_false, List.length_map, List.length_range, nl_tN, nf_ok, unp2_pN, ix0p, ix1p, eqP, nf_okP, nf_okT, nl_okP, neL0P, eqL0P, neL0T, eqL0T, inLP, inTP, any_m, all_m, is_none, isnot_none, isNone_n, isNone_N, isNone_T, isNone_t, isNone_l, thenO_nx, thenO_rt, Bool.not_true, Bool.not_false, is_tuple_none, is_tuple_bool, is_tuple_int, is_tuple_str, is_tuple_list, is_tuple_tuple, is_tuple_dict, is_tuple_N, is_tuple_T, is_tuple_P, is_list_none, is_list_bool, is_list_int, is_list_str, is_list_list, is_list_tuple, is_list_dict, is_list_N, is_list_T, is_list_P, is_int_none, is_int_bool, is_int_int, is_int_str, is_int_list, is_int_tuple, is_int_dict, is_int_N, is_int_T, is_int_P, is_bool_none, is_bool_bool, is_bool_int, is_bool_str, is_bool_list, is_bool_tuple, is_bool_dict, is_bool_N, is_bool_T, is_bool_P, is_str_none, is_str_bool, is_str_int, is_str_str, is_str_list, is_str_tuple, is_str_dict, is_str_N, is_str_T, is_str_P, is_seq_none, is_seq_bool, is_seq_int, is_seq_str, is_seq_list, is_seq_tuple, is_seq_dict, is_seq_N, is_seq_T, is_seq_P, zip_ll, zip_tt, zip_lt, zip_tl, upto_N, whole_N, enum_t, enum_l, ix0Lm, ix0Tm, neg1, ix_last, ix_lastT, sortedtN, eqL, neL, rev_tN, isNone_optT, ea]
      rw [filR_m (fun k => decide (k ∉ p)) nD (fun k _ => by simp only [okb, int_lit, tN_def, nox_bind, bind_as, noxo, nox_nox, nox_no', R.bind_ok, eqN, neN, ltN, leN, gtN, geN, addN, minN, maxN, truN, truB, asBB, asIntN, partN, nl_okN, nl_bool, lstD_ok, items_l, items_t, items_tN, len_l, len_t, len_tN, tuple_l, tuple_t, list_l, list_t, list_tN, ix0, ix1, ix2, ix0l, ix1l, inLN, inTN, ninLN, ninTN, inLT, inTT, ninLT, ninTT, eqT, neT, eqT0, neT0, eqL0, neL0, unp2_t, unp3_t, sl_to, sl_from, sl_tol, sl_froml, sl_totN, sl_fromtN, sortedN, decide_eq_true_eq, Bool.false_eq_true, if_true, if_false, List.length_map, List.length_range, nl_tN, nf_ok, unp2_pN, ix0p, ix1p, eqP, nf_okP, nf_okT, nl_okP, neL0P, eqL0P, neL0T, eqL0T, inLP, inTP, any_m, all_m, is_none, isnot_none, isNone_n, isNone_N, isNone_T, isNone_t, isNone_l, thenO_nx, thenO_rt, Bool.not_true, Bool.not_false, is_tuple_none, is_tuple_bool, is_tuple_int, is_tuple_str, is_tuple_list, is_tuple_tuple, is_tuple_dict, is_tuple_N, is_tuple_T, is_tuple_P, is_list_none, is_list_bool, is_list_int, is_list_str, is_list_list, is_list_tuple, is_list_dict, is_list_N, is_list_T, is_list_P, is_int_none, is_int_bool, is_int_int, is_int_str, is_int_list, is_int_tuple, is_int_dict, is_int_N, is_int_T, is_int_P, is_bool_none, is_bool_bool, is_bool_int, is_bool_str, is_bool_list, is_bool_tuple, is_bool_dict, is_bool_N, is_bool_T, is_bool_P, is_str_none, is_str_bool, is_str_int, is_str_str, is_str_list, is_str_tuple, is_str_dict, is_str_N, is_str_T, is_str_P, is_seq_none, is_seq_bool, is_seq_int, is_seq_str, is_seq_list, is_seq_tuple, is_seq_dict, is_seq_N, is_seq_T, is_seq_P, zip_ll, zip_tt, zip_lt, zip_tl, upto_N, whole_N, enum_t, enum_l, ix0Lm, ix0Tm, neg1, ix_last, ix_lastT, sortedtN, eqL, neL, rev_tN, isNone_optT]) (fun _ _ _ => rfl)]
      simp only [okb, int_lit, tN_def, nox_bind, bind_as, noxo, nox_nox, nox_no', R.bind_ok, eqN, neN, ltN, leN, gtN, geN, addN, minN, maxN, truN, truB, asBB, asIntN, partN, nl_okN, nl_bool, lstD_ok, items_l, items_t, items_tN, len_l, len_t, len_tN, tuple_l, tuple_t, list_l, list_t, list_tN, ix0, ix1, ix2, ix0l, ix1l, inLN, inTN, ninLN, ninTN, inLT, inTT, ninLT, ninTT, eqT, neT, eqT0, neT0, eqL0, neL0, unp2_t, unp3_t, sl_to, sl_from, sl_tol, sl_froml, sl_totN, sl_fromtN, sortedN, decide_eq_true_eq, Bool.false_eq_true, if_true, if_false, List.length_map, List.length_range, nl_tN, nf_ok, unp2_pN, ix0p, ix1p, eqP, nf_okP, nf_okT, nl_okP, neL0P, eqL0P, neL0T, eqL0T, inLP, inTP, any_m, all_m, is_none, isnot_none, isNone_n, isNone_N, isNone_T, isNone_t, isNone_l, thenO_nx, thenO_rt, Bool.not_true, Bool.not_false, is_tuple_none, is_tuple_bool, is_tuple_int, is_tuple_str, is_tuple_list, is_tuple_tuple, is_tuple_dict, is_tuple_N, is_tuple_T, is_tuple_P, is_list_none, is_list_bool, is_list_int, is_list_str, is_list_list, is_list_tuple, is_list_dict, is_list_N, is_list_T, is_list_P, is_int_none, is_int_bool, is_int_int, is_int_str, is_int_list, is_int_tuple, is_int_dict, is_int_N, is_int_T, is_int_P, is_bool_none, is_bool_bool, is_bool_int, is_bool_str, is_bool_list, is_bool_tuple, is_bool_dict, is_bool_N, is_bool_T, is_bool_P, is_str_none, is_str_bool, is_str_int, is_str_str, is_str_list, is_str_tuple, is_str_dict, is_str_N, is_str_T, is_str_P, is_seq_none, is_seq_bool, is_seq_int, is_seq_str, is_seq_list, is_seq_tuple, is_seq_dict, is_seq_N, is_seq_T, is_seq_P, zip_ll, zip_tt, zip_lt, zip_tl, upto_N, whole_N, enum_t, enum_l, ix0Lm, ix0Tm, neg1, ix_last, ix_lastT, sortedtN, eqL, neL, rev_tN, isNone_optT]
      have hin : Sat (foldO (fun d => R.ok d) (fun (j55 : Unit) a56 =>
                                    (filR
                                          (fun a58 =>
                                            (m_common [layD m hs, a56, a58]).bind fun x65 =>
                                              (pyNe x65 (PyData.tuple [])).bind asB)
                                          (fun d => R.ok d) (((List.range hs.length).filter fun k => decide (k ∉ p)).map nD)).bind
                                      fun a =>
                                      (pyNe (PyData.list a) (PyData.list [])).bind fun a =>
                                        (asB a).bind fun b27 =>
                                          if b27 = true then R.ok (Oc.rt (PyData.bool false) PyData.none)
                                          else R.ok (Oc.nx ())) (p.map nD) ()) Fine := turns (fun _ _ => rfl) fun x hx => by
        have hxc : Con hs.length (adjB hs) k x := (comp_mem hk).mp (by rw [hp]; exact hx)
        rw [filR_m (fun y => adjB hs x y) nD (fun y hy => by
          have hy' := List.mem_filter.mp hy
          simp only [okb, int_lit, tN_def, nox_bind, bind_as, noxo, nox_nox, nox_no', R.bind_ok, eqN, neN, ltN, leN, gtN, geN, addN, minN, maxN, truN, truB, asBB, asIntN, partN, nl_okN, nl_bool, lstD_ok, items_l, items_t, items_tN, len_l, len_t, len_tN, tuple_l, tuple_t, list_l, list_t, list_tN, ix0, ix1, ix2, ix0l, ix1l, inLN, inTN, ninLN, ninTN, inLT, inTT, ninLT, ninTT, eqT, neT, eqT0, neT0, eqL0, neL0, unp2_t, unp3_t, sl_to, sl_from, sl_tol, sl_froml, sl_totN, sl_fromtN, sortedN, decide_eq_true_eq, Bool.false_eq_true, if_true, if_false, List.length_map, List.length_range, nl_tN, nf_ok, unp2_pN, ix0p, ix1p, eqP, nf_okP, nf_okT, nl_okP, neL0P, eqL0P, neL0T, eqL0T, inLP, inTP, any_m, all_m, is_none, isnot_none, isNone_n, isNone_N, isNone_T, isNone_t, isNone_l, thenO_nx, thenO_rt, Bool.not_true, Bool.not_false, is_tuple_none, is_tuple_bool, is_tuple_int, is_tuple_str, is_tuple_list, is_tuple_tuple, is_tuple_dict, is_tuple_N, is_tuple_T, is_tuple_P, is_list_none, is_list_bool, is_list_int, is_list_str, is_list_list, is_list_tuple, is_list_dict, is_list_N, is_list_T, is_list_P, is_int_none, is_int_bool, is_int_int, is_int_str, is_int_list, is_int_tuple, is_int_dict, is_int_N, is_int_T, is_int_P, is_bool_none, is_bool_bool, is_bool_int, is_bool_str, is_bool_list, is_bool_tuple, is_bool_dict, is_bool_N, is_bool_T, is_bool_P, is_str_none, is_str_bool, is_str_int, is_str_str, is_str_list, is_str_tuple, is_str_dict, is_str_N, is_str_T, is_str_P, is_seq_none, is_seq_bool, is_seq_int, is_seq_str, is_seq_list, is_seq_tuple, is_seq_dict, is_seq_N, is_seq_T, is_seq_P, zip_ll, zip_tt, zip_lt, zip_tl, upto_N, whole_N, enum_t, enum_l, ix0Lm, ix0Tm, neg1, ix_last, ix_lastT, sortedtN, eqL, neL, rev_tN, isNone_optT, common_is (hxc.lt hk) (List.mem_range.mp hy'.1)]
          rfl) (fun _ _ _ => rfl)]
        have : ((List.range hs.length).filter fun k => decide (k ∉ p)).filter (fun y => adjB hs x y) = [] := by
          rw [List.filter_eq_nil_iff]
          intro y hy hr
          have hy' := List.mem_filter.mp hy
          refine of_decide_eq_true hy'.2 ?_
          rw [← hp, comp_mem hk]
          exact hxc.step hr (List.mem_range.mp hy'.1)
        rw [this]
        exact ⟨_, rfl, rfl⟩
      obtain ⟨_, e, rfl⟩ := hin
      rw [e]
      rfl) (xs := piecesL hs) (s := []) ⟨by simp, fun p hp => hp⟩
    have e2 : (piecesL hs).foldl (fun f p => f ++ p) [] = (piecesL hs).flatten := by
      have : ∀ (ps : List (List Nat)) (a : List Nat), ps.foldl (fun f p => f ++ p) a = a ++ ps.flatten := by
        intro ps
        induction ps with
        | nil => intro a; simp
        | cons p ps ih => intro a; rw [List.foldl_cons, ih]; simp
      rw [this, List.nil_append]
    rw [e2] at key
    simp only [List.map_nil] at key
    rw [key]
    simp only [okb, int_lit, tN_def, nox_bind, bind_as, noxo, nox_nox, nox_no', R.bind_ok, eqN, neN, ltN, leN, gtN, geN, addN, minN, maxN, truN, truB, asBB, asIntN, partN, nl_okN, nl_bool, lstD_ok, items_l, items_t, items_tN, len_l, len_t, len_tN, tuple_l, tuple_t, list_l, list_t, list_tN, ix0, ix1, ix2, ix0l, ix1l, inLN, inTN, ninLN, ninTN, inLT, inTT, ninLT, ninTT, eqT, neT, eqT0, neT0, eqL0, neL0, unp2_t, unp3_t, sl_to, sl_from, sl_tol, sl_froml, sl_totN, sl_fromtN, sortedN, decide_eq_true_eq, Bool.false_eq_true, if_true, if_false, List.length_map, List.length_range, nl_tN, nf_ok, unp2_pN, ix0p, ix1p, eqP, nf_okP, nf_okT, nl_okP, neL0P, eqL0P, neL0T, eqL0T, inLP, inTP, any_m, all_m, is_none, isnot_none, isNone_n, isNone_N, isNone_T, isNone_t, isNone_l, thenO_nx, thenO_rt, Bool.not_true, Bool.not_false, is_tuple_none, is_tuple_bool, is_tuple_int, is_tuple_str, is_tuple_list, is_tuple_tuple, is_tuple_dict, is_tuple_N, is_tuple_T, is_tuple_P, is_list_none, is_list_bool, is_list_int, is_list_str, is_list_list, is_list_tuple, is_list_dict, is_list_N, is_list_T, is_list_P, is_int_none, is_int_bool, is_int_int, is_int_str, is_int_list, is_int_tuple, is_int_dict, is_int_N, is_int_T, is_int_P, is_bool_none, is_bool_bool, is_bool_int, is_bool_str, is_bool_list, is_bool_tuple, is_bool_dict, is_bool_N, is_bool_T, is_bool_P, is_str_none, is_str_bool, is_str_int, is_str_str, is_str_list, is_str_tuple, is_str_dict, is_str_N, is_str_T, is_str_P, is_seq_none, is_seq_bool, is_seq_int, is_seq_str, is_seq_list, is_seq_tuple, is_seq_dict, is_seq_N, is_seq_T, is_seq_P, zip_ll, zip_tt, zip_lt, zip_tl, upto_N, whole_N, enum_t, enum_l, ix0Lm, ix0Tm, neg1, ix_last, ix_lastT, sortedtN, eqL, neL, rev_tN, isNone_optT, pieces_flat]
    exact ⟨_, rfl, rfl⟩
end
/-! ### renamed -/
def namedL (o : List Nat) (hs : List (List Nat)) : List (List Nat) := hs.map fun h => sortN (h.map fun c => o.idxOf c)
section
variable {m : Nat} {hs : List (List Nat)} {o : List Nat} (v : LayV m hs) (po : o.Perm (List.range m))
include v po
theorem ord_in {c : Nat} (h : c < m) : c ∈ o := po.mem_iff.mpr (List.mem_range.mpr h)
omit v in
theorem ord_len : o.length = m := by simpa using po.length_eq
omit v in
theorem ord_nd : o.Nodup := po.nodup_iff.mpr List.nodup_range
theorem idx_lt {c : Nat} (h : c < m) : o.idxOf c < m := by
  have := List.idxOf_lt_length_of_mem (ord_in v po h)
  rw [ord_len po] at this
  exact this
theorem idx_inj {c d : Nat} (hc : c < m) (hd : d < m) (e : o.idxOf c = o.idxOf d) : c = d := by
  have h1 := List.getElem_idxOf (List.idxOf_lt_length_of_mem (ord_in v po hc))
  have h2 := List.getElem_idxOf (List.idxOf_lt_length_of_mem (ord_in v po hd))
  rw [← h1, ← h2]
  congr 1
theorem named_is : m_named [layD m hs, tN o] = .ok (layD m (namedL o hs)) := by
  have hm := v.m7
  have th := thing_T o
  have ho : orderB (tN o) m = true := by
    rw [orderB_T]
    refine decide_eq_true ?_
    exact rise_eq (sortN_lt (ord_nd po)) List.pairwise_lt_range fun k => by rw [sortN_mem, po.mem_iff]
  rw [m_named]
  simp only [okb, int_lit, tN_def, nox_bind, bind_as, noxo, nox_nox, nox_no', R.bind_ok, eqN, neN, ltN, leN, gtN, geN, addN, minN, maxN, truN, truB, asBB, asIntN, partN, nl_okN, nl_bool, lstD_ok, items_l, items_t, items_tN, len_l, len_t, len_tN, tuple_l, tuple_t, list_l, list_t, list_tN, ix0, ix1, ix2, ix0l, ix1l, inLN, inTN, ninLN, ninTN, inLT, inTT, ninLT, ninTT, eqT, neT, eqT0, neT0, eqL0, neL0, unp2_t, unp3_t, sl_to, sl_from, sl_tol, sl_froml, sl_totN, sl_fromtN, sortedN, decide_eq_true_eq, Bool.false_eq_true, if_true, if_false, List.length_map, List.length_range, nl_tN, nf_ok, unp2_pN, ix0p, ix1p, eqP, nf_okP, nf_okT, nl_okP, neL0P, eqL0P, neL0T, eqL0T, inLP, inTP, any_m, all_m, is_none, isnot_none, isNone_n, isNone_N, isNone_T, isNone_t, isNone_l, thenO_nx, thenO_rt, Bool.not_true, Bool.not_false, is_tuple_none, is_tuple_bool, is_tuple_int, is_tuple_str, is_tuple_list, is_tuple_tuple, is_tuple_dict, is_tuple_N, is_tuple_T, is_tuple_P, is_list_none, is_list_bool, is_list_int, is_list_str, is_list_list, is_list_tuple, is_list_dict, is_list_N, is_list_T, is_list_P, is_int_none, is_int_bool, is_int_int, is_int_str, is_int_list, is_int_tuple, is_int_dict, is_int_N, is_int_T, is_int_P, is_bool_none, is_bool_bool, is_bool_int, is_bool_str, is_bool_list, is_bool_tuple, is_bool_dict, is_bool_N, is_bool_T, is_bool_P, is_str_none, is_str_bool, is_str_int, is_str_str, is_str_list, is_str_tuple, is_str_dict, is_str_N, is_str_T, is_str_P, is_seq_none, is_seq_bool, is_seq_int, is_seq_str, is_seq_list, is_seq_tuple, is_seq_dict, is_seq_N, is_seq_T, is_seq_P, zip_ll, zip_tt, zip_lt, zip_tl, upto_N, whole_N, enum_t, enum_l, ix0Lm, ix0Tm, neg1, ix_last, ix_lastT, sortedtN, eqL, neL, rev_tN, isNone_optT, lay0, lay1, order_of_is th (show m ≤ 16777216 by omega), ho]
  rw [mapR_m (fun h => tN (sortN (h.map fun c => o.idxOf c))) (fun h hh => by
    simp only [okb, int_lit, tN_def, nox_bind, bind_as, noxo, nox_nox, nox_no', R.bind_ok, eqN, neN, ltN, leN, gtN, geN, addN, minN, maxN, truN, truB, asBB, asIntN, partN, nl_okN, nl_bool, lstD_ok, items_l, items_t, items_tN, len_l, len_t, len_tN, tuple_l, tuple_t, list_l, list_t, list_tN, ix0, ix1, ix2, ix0l, ix1l, inLN, inTN, ninLN, ninTN, inLT, inTT, ninLT, ninTT, eqT, neT, eqT0, neT0, eqL0, neL0, unp2_t, unp3_t, sl_to, sl_from, sl_tol, sl_froml, sl_totN, sl_fromtN, sortedN, decide_eq_true_eq, Bool.false_eq_true, if_true, if_false, List.length_map, List.length_range, nl_tN, nf_ok, unp2_pN, ix0p, ix1p, eqP, nf_okP, nf_okT, nl_okP, neL0P, eqL0P, neL0T, eqL0T, inLP, inTP, any_m, all_m, is_none, isnot_none, isNone_n, isNone_N, isNone_T, isNone_t, isNone_l, thenO_nx, thenO_rt, Bool.not_true, Bool.not_false, is_tuple_none, is_tuple_bool, is_tuple_int, is_tuple_str, is_tuple_list, is_tuple_tuple, is_tuple_dict, is_tuple_N, is_tuple_T, is_tuple_P, is_list_none, is_list_bool, is_list_int, is_list_str, is_list_list, is_list_tuple, is_list_dict, is_list_N, is_list_T, is_list_P, is_int_none, is_int_bool, is_int_int, is_int_str, is_int_list, is_int_tuple, is_int_dict, is_int_N, is_int_T, is_int_P, is_bool_none, is_bool_bool, is_bool_int, is_bool_str, is_bool_list, is_bool_tuple, is_bool_dict, is_bool_N, is_bool_T, is_bool_P, is_str_none, is_str_bool, is_str_int, is_str_str, is_str_list, is_str_tuple, is_str_dict, is_str_N, is_str_T, is_str_P, is_seq_none, is_seq_bool, is_seq_int, is_seq_str, is_seq_list, is_seq_tuple, is_seq_dict, is_seq_N, is_seq_T, is_seq_P, zip_ll, zip_tt, zip_lt, zip_tl, upto_N, whole_N, enum_t, enum_l, ix0Lm, ix0Tm, neg1, ix_last, ix_lastT, sortedtN, eqL, neL, rev_tN, isNone_optT, sqOk_tN]
    rw [mapR_m (fun c => nD (o.idxOf c)) (fun c hc => index_is (ord_in v po (v.lt h hh c hc)))]
    rw [show h.map (fun c => nD (o.idxOf c)) = (h.map fun c => o.idxOf c).map nD from by rw [List.map_map]; rfl]
    simp only [okb, int_lit, tN_def, nox_bind, bind_as, noxo, nox_nox, nox_no', R.bind_ok, eqN, neN, ltN, leN, gtN, geN, addN, minN, maxN, truN, truB, asBB, asIntN, partN, nl_okN, nl_bool, lstD_ok, items_l, items_t, items_tN, len_l, len_t, len_tN, tuple_l, tuple_t, list_l, list_t, list_tN, ix0, ix1, ix2, ix0l, ix1l, inLN, inTN, ninLN, ninTN, inLT, inTT, ninLT, ninTT, eqT, neT, eqT0, neT0, eqL0, neL0, unp2_t, unp3_t, sl_to, sl_from, sl_tol, sl_froml, sl_totN, sl_fromtN, sortedN, decide_eq_true_eq, Bool.false_eq_true, if_true, if_false, List.length_map, List.length_range, nl_tN, nf_ok, unp2_pN, ix0p, ix1p, eqP, nf_okP, nf_okT, nl_okP, neL0P, eqL0P, neL0T, eqL0T, inLP, inTP, any_m, all_m, is_none, isnot_none, isNone_n, isNone_N, isNone_T, isNone_t, isNone_l, thenO_nx, thenO_rt, Bool.not_true, Bool.not_false, is_tuple_none, is_tuple_bool, is_tuple_int, is_tuple_str, is_tuple_list, is_tuple_tuple, is_tuple_dict, is_tuple_N, is_tuple_T, is_tuple_P, is_list_none, is_list_bool, is_list_int, is_list_str, is_list_list, is_list_tuple, is_list_dict, is_list_N, is_list_T, is_list_P, is_int_none, is_int_bool, is_int_int, is_int_str, is_int_list, is_int_tuple, is_int_dict, is_int_N, is_int_T, is_int_P, is_bool_none, is_bool_bool, is_bool_int, is_bool_str, is_bool_list, is_bool_tuple, is_bool_dict, is_bool_N, is_bool_T, is_bool_P, is_str_none, is_str_bool, is_str_int, is_str_str, is_str_list, is_str_tuple, is_str_dict, is_str_N, is_str_T, is_str_P, is_seq_none, is_seq_bool, is_seq_int, is_seq_str, is_seq_list, is_seq_tuple, is_seq_dict, is_seq_N, is_seq_T, is_seq_P, zip_ll, zip_tt, zip_lt, zip_tl, upto_N, whole_N, enum_t, enum_l, ix0Lm, ix0Tm, neg1, ix_last, ix_lastT, sortedtN, eqL, neL, rev_tN, isNone_optT]
    )]
  simp only [okb, int_lit, tN_def, nox_bind, bind_as, noxo, nox_nox, nox_no', R.bind_ok, eqN, neN, ltN, leN, gtN, geN, addN, minN, maxN, truN, truB, asBB, asIntN, partN, nl_okN, nl_bool, lstD_ok, items_l, items_t, items_tN, len_l, len_t, len_tN, tuple_l, tuple_t, list_l, list_t, list_tN, ix0, ix1, ix2, ix0l, ix1l, inLN, inTN, ninLN, ninTN, inLT, inTT, ninLT, ninTT, eqT, neT, eqT0, neT0, eqL0, neL0, unp2_t, unp3_t, sl_to, sl_from, sl_tol, sl_froml, sl_totN, sl_fromtN, sortedN, decide_eq_true_eq, Bool.false_eq_true, if_true, if_false, List.length_map, List.length_range, nl_tN, nf_ok, unp2_pN, ix0p, ix1p, eqP, nf_okP, nf_okT, nl_okP, neL0P, eqL0P, neL0T, eqL0T, inLP, inTP, any_m, all_m, is_none, isnot_none, isNone_n, isNone_N, isNone_T, isNone_t, isNone_l, thenO_nx, thenO_rt, Bool.not_true, Bool.not_false, is_tuple_none, is_tuple_bool, is_tuple_int, is_tuple_str, is_tuple_list, is_tuple_tuple, is_tuple_dict, is_tuple_N, is_tuple_T, is_tuple_P, is_list_none, is_list_bool, is_list_int, is_list_str, is_list_list, is_list_tuple, is_list_dict, is_list_N, is_list_T, is_list_P, is_int_none, is_int_bool, is_int_int, is_int_str, is_int_list, is_int_tuple, is_int_dict, is_int_N, is_int_T, is_int_P, is_bool_none, is_bool_bool, is_bool_int, is_bool_str, is_bool_list, is_bool_tuple, is_bool_dict, is_bool_N, is_bool_T, is_bool_P, is_str_none, is_str_bool, is_str_int, is_str_str, is_str_list, is_str_tuple, is_str_dict, is_str_N, is_str_T, is_str_P, is_seq_none, is_seq_bool, is_seq_int, is_seq_str, is_seq_list, is_seq_tuple, is_seq_dict, is_seq_N, is_seq_T, is_seq_P, zip_ll, zip_tt, zip_lt, zip_tl, upto_N, whole_N, enum_t, enum_l, ix0Lm, ix0Tm, neg1, ix_last, ix_lastT, sortedtN, eqL, neL, rev_tN, isNone_optT]
  unfold layD namedL
  rw [List.map_map]
  rfl
theorem named_lay : LayV m (namedL o hs) where
  m1 := v.m1
  m7 := v.m7
  n1 := by unfold namedL; rw [List.length_map]; exact v.n1
  n6 := by unfold namedL; rw [List.length_map]; exact v.n6
  ne := fun h hh => by
    obtain ⟨g, hg, rfl⟩ := List.mem_map.mp hh
    intro z
    have := congrArg List.length z
    rw [sortN_length, List.length_map] at this
    exact v.ne g hg (List.length_eq_zero_iff.mp this)
  up := fun h hh => by
    obtain ⟨g, hg, rfl⟩ := List.mem_map.mp hh
    refine sortN_lt ?_
    have hnd : g.Nodup := (v.up g hg).imp fun h => Nat.ne_of_lt h
    unfold List.Nodup
    rw [List.pairwise_map]
    exact (List.Pairwise.and_mem.mp hnd).imp fun ⟨ha, hb, h⟩ e => h (idx_inj v po (v.lt g hg _ ha) (v.lt g hg _ hb) e)
  lt := fun h hh c hc => by
    obtain ⟨g, hg, rfl⟩ := List.mem_map.mp hh
    rw [sortN_mem] at hc
    obtain ⟨d, hd, rfl⟩ := List.mem_map.mp hc
    exact idx_lt v po (v.lt g hg d hd)
theorem named_hd (i : Nat) : hd (namedL o hs) i = sortN ((hd hs i).map fun c => o.idxOf c) := hd_map (f := fun h => sortN (h.map fun c => o.idxOf c)) (by simp [sortN]) i
theorem hd_lt {i c : Nat} (h : c ∈ hd hs i) : c < m := by
  by_cases hi : i < hs.length
  · exact v.lt _ (hd_mem hi) c h
  · unfold hd at h
    rw [List.getD_eq_getElem?_getD, List.getElem?_eq_none (by omega)] at h
    exact absurd h (by simp)
theorem named_in {i c : Nat} (hc : c < m) : o.idxOf c ∈ hd (namedL o hs) i ↔ c ∈ hd hs i := by
  rw [named_hd v po, sortN_mem, List.mem_map]
  constructor
  · rintro ⟨d, hd', e⟩
    rw [idx_inj v po hc (hd_lt v po hd') e.symm]
    exact hd'
  · exact fun h => ⟨c, h, rfl⟩
theorem named_adj : adjB (namedL o hs) = adjB hs := by
  funext i j
  rw [Bool.eq_iff_iff, adj_iff, adj_iff]
  constructor
  · rintro ⟨c, h1, h2⟩
    rw [named_hd v po, sortN_mem] at h1
    obtain ⟨d, hd', rfl⟩ := List.mem_map.mp h1
    exact ⟨d, hd', (named_in v po (hd_lt v po hd')).mp h2⟩
  · rintro ⟨c, h1, h2⟩
    exact ⟨o.idxOf c, (named_in v po (hd_lt v po h1)).mpr h1, (named_in v po (hd_lt v po h1)).mpr h2⟩
theorem named_pieces : piecesL (namedL o hs) = piecesL hs := by
  unfold piecesL
  rw [named_adj v po]
  unfold namedL
  rw [List.length_map]
def backL (m : Nat) (o : List Nat) : List Nat := (List.range m).map fun c => o.idxOf c
theorem back_perm : (backL m o).Perm (List.range m) := by
  have nd : (backL m o).Nodup := by
    unfold backL List.Nodup
    rw [List.pairwise_map]
    exact (List.Pairwise.and_mem.mp (List.nodup_range (n := m))).imp fun ⟨ha, hb, h⟩ e => h (idx_inj v po (List.mem_range.mp ha) (List.mem_range.mp hb) e)
  refine (sortN_perm _).symm.trans ?_
  rw [rise_eq (sortN_lt nd) (List.pairwise_lt_range (n := m)) fun k => ?_]
  rw [sortN_mem]
  unfold backL
  rw [List.mem_map]
  constructor
  · rintro ⟨c, hc, rfl⟩
    exact List.mem_range.mpr (idx_lt v po (List.mem_range.mp hc))
  · intro hk
    have hk' : k < o.length := by rw [ord_len po]; exact List.mem_range.mp hk
    refine ⟨o[k], List.mem_range.mpr (List.mem_range.mp (po.mem_iff.mp (List.getElem_mem hk'))), ?_⟩
    exact (ord_nd po).idxOf_getElem k hk'
theorem back_idx {c : Nat} (hc : c < m) : (backL m o).idxOf (o.idxOf c) = c := by
  have h2 : c < (backL m o).length := by unfold backL; simpa using hc
  have e : (backL m o)[c] = o.idxOf c := by simp only [backL, List.getElem_map, List.getElem_range]
  rw [← e]
  exact (ord_nd (back_perm v po)).idxOf_getElem c h2
theorem back_named : namedL (backL m o) (namedL o hs) = hs := by
  unfold namedL
  rw [List.map_map]
  refine (List.map_congr_left fun h hh => ?_).trans (List.map_id hs)
  show sortN ((sortN (h.map fun c => o.idxOf c)).map fun c => (backL m o).idxOf c) = h
  have key : ((h.map fun c => o.idxOf c).map fun c => (backL m o).idxOf c) = h := by
    rw [List.map_map]
    refine (List.map_congr_left fun c hc => ?_).trans (List.map_id h)
    exact back_idx v po (v.lt h hh c hc)
  have pm : ((sortN (h.map fun c => o.idxOf c)).map fun c => (backL m o).idxOf c).Perm h := by
    have := (sortN_perm (h.map fun c => o.idxOf c)).map fun c => (backL m o).idxOf c
    rw [key] at this
    exact this
  have hnd : h.Nodup := (v.up h hh).imp fun h => Nat.ne_of_lt h
  refine rise_eq (sortN_lt (pm.nodup_iff.mpr hnd)) (v.up h hh) fun k => ?_
  rw [sortN_mem, pm.mem_iff]
theorem named_both (i j : Nat) : bothL (hd (namedL o hs) i) (hd (namedL o hs) j) = sortN ((bothL (hd hs i) (hd hs j)).map fun c => o.idxOf c) := by
  have v2 := named_lay v po
  have up1 : (bothL (hd (namedL o hs) i) (hd (namedL o hs) j)).Pairwise (· < ·) := by
    unfold bothL
    refine List.Pairwise.filter _ ?_
    by_cases hi : i < (namedL o hs).length
    · exact v2.up _ (hd_mem hi)
    · unfold hd
      rw [List.getD_eq_getElem?_getD, List.getElem?_eq_none (by omega)]
      exact List.Pairwise.nil
  have nd2 : ((bothL (hd hs i) (hd hs j)).map fun c => o.idxOf c).Nodup := by
    have h1 : (bothL (hd hs i) (hd hs j)).Nodup := by
      unfold bothL
      refine List.Pairwise.filter _ ?_
      by_cases hi : i < hs.length
      · exact (v.up _ (hd_mem hi)).imp fun h => Nat.ne_of_lt h
      · unfold hd
        rw [List.getD_eq_getElem?_getD, List.getElem?_eq_none (by omega)]
        exact List.Pairwise.nil
    unfold List.Nodup
    rw [List.pairwise_map]
    exact (List.Pairwise.and_mem.mp h1).imp fun ⟨ha, hb, h⟩ e => h (idx_inj v po (hd_lt v po (List.mem_filter.mp ha).1) (hd_lt v po (List.mem_filter.mp hb).1) e)
  refine rise_eq up1 (sortN_lt nd2) fun k => ?_
  rw [sortN_mem, List.mem_map]
  unfold bothL
  rw [List.mem_filter, decide_eq_true_iff]
  constructor
  · rintro ⟨h1, h2⟩
    have h1' := h1
    rw [named_hd v po, sortN_mem] at h1'
    obtain ⟨c, hc, rfl⟩ := List.mem_map.mp h1'
    exact ⟨c, List.mem_filter.mpr ⟨hc, decide_eq_true ((named_in v po (hd_lt v po hc)).mp h2)⟩, rfl⟩
  · rintro ⟨c, hc, rfl⟩
    obtain ⟨h1, h2⟩ := List.mem_filter.mp hc
    exact ⟨(named_in v po (hd_lt v po h1)).mpr h1, (named_in v po (hd_lt v po h1)).mpr (of_decide_eq_true h2)⟩
end
theorem both_comm_mem {a b : List Nat} {c : Nat} : c ∈ bothL a b ↔ c ∈ a ∧ c ∈ b := by
  unfold bothL
  rw [List.mem_filter, decide_eq_true_iff]
theorem eqd_lay {m : Nat} {hs : List (List Nat)} (p q : Nat × List (List Nat)) : PyData.eqv (layD p.1 p.2) (layD q.1 q.2) = true ↔ p = q := by
  unfold layD
  rw [PyData.eqv, PyData.eqvAll, PyData.eqvAll, PyData.eqvAll, Bool.and_true, Bool.and_eq_true, eqd_nD.eqv, eqd_tN.tup.eqv]
  exact ⟨fun ⟨a, b⟩ => by cases p; cases q; simp_all, fun h => by rw [h]; exact ⟨rfl, rfl⟩⟩
theorem eqd_layD : EqD 3 fun p : Nat × List (List Nat) => layD p.1 p.2 := ⟨fun p => fitk_tuple fun x hx => by
  rcases List.mem_cons.mp hx with e | e
  · rw [e]
    exact (eqd_nD.fit p.1).mono (by decide)
  · rw [List.mem_singleton.mp e]
    exact eqd_tN.tup.fit p.2, eqd_lay (m := 0) (hs := [])⟩
theorem neLay (m : Nat) (hs gs : List (List Nat)) : pyNe (layD m hs) (layD m gs) = .ok (.bool (decide (hs ≠ gs))) := by
  have := eqd_layD.ne (by decide) (m, hs) (m, gs)
  rw [this]
  congr 2
  rw [decide_eq_decide]
  simp
theorem law_named_right_is {m : Nat} {hs : List (List Nat)} (v : LayV m hs) {s : D} (hb : IsBox s) : Sat (m_law_named_right s [layD m hs]) fun p => p.1 = .bool true ∧ IsBox p.2 := by
  have hm := v.m7
  have hn := v.n6
  have hn1 := v.n1
  rw [m_law_named_right]
  simp only [okb, int_lit, tN_def, nox_bind, bind_as, noxo, nox_nox, nox_no', R.bind_ok, eqN, neN, ltN, leN, gtN, geN, addN, minN, maxN, truN, truB, asBB, asIntN, partN, nl_okN, nl_bool, lstD_ok, items_l, items_t, items_tN, len_l, len_t, len_tN, tuple_l, tuple_t, list_l, list_t, list_tN, ix0, ix1, ix2, ix0l, ix1l, inLN, inTN, ninLN, ninTN, inLT, inTT, ninLT, ninTT, eqT, neT, eqT0, neT0, eqL0, neL0, unp2_t, unp3_t, sl_to, sl_from, sl_tol, sl_froml, sl_totN, sl_fromtN, sortedN, decide_eq_true_eq, Bool.false_eq_true, if_true, if_false, List.length_map, List.length_range, nl_tN, nf_ok, unp2_pN, ix0p, ix1p, eqP, nf_okP, nf_okT, nl_okP, neL0P, eqL0P, neL0T, eqL0T, inLP, inTP, any_m, all_m, is_none, isnot_none, isNone_n, isNone_N, isNone_T, isNone_t, isNone_l, thenO_nx, thenO_rt, Bool.not_true, Bool.not_false, is_tuple_none, is_tuple_bool, is_tuple_int, is_tuple_str, is_tuple_list, is_tuple_tuple, is_tuple_dict, is_tuple_N, is_tuple_T, is_tuple_P, is_list_none, is_list_bool, is_list_int, is_list_str, is_list_list, is_list_tuple, is_list_dict, is_list_N, is_list_T, is_list_P, is_int_none, is_int_bool, is_int_int, is_int_str, is_int_list, is_int_tuple, is_int_dict, is_int_N, is_int_T, is_int_P, is_bool_none, is_bool_bool, is_bool_int, is_bool_str, is_bool_list, is_bool_tuple, is_bool_dict, is_bool_N, is_bool_T, is_bool_P, is_str_none, is_str_bool, is_str_int, is_str_str, is_str_list, is_str_tuple, is_str_dict, is_str_N, is_str_T, is_str_P, is_seq_none, is_seq_bool, is_seq_int, is_seq_str, is_seq_list, is_seq_tuple, is_seq_dict, is_seq_N, is_seq_T, is_seq_P, zip_ll, zip_tt, zip_lt, zip_tl, upto_N, whole_N, enum_t, enum_l, ix0Lm, ix0Tm, neg1, ix_last, ix_lastT, sortedtN, eqL, neL, rev_tN, isNone_optT, lay0, lay1]
  refine Sat.bind (law_order_sat2 (by omega) hb).nox ?_
  rintro ⟨_, s1⟩ ⟨⟨o, po, rfl⟩, b1⟩
  have v2 := named_lay v po
  have e1 : mapR (fun a20 => (sqOk (tN o)).bind fun _ => pyIndex (tN o) a20) ((List.range m).map nD) = .ok ((backL m o).map nD) := by
    rw [mapR_m (fun c => nD (o.idxOf c)) (fun c hc => by
      rw [sqOk_tN, okb, index_is (ord_in v po (List.mem_range.mp hc))])]
    unfold backL
    rw [List.map_map]
    rfl
  have e2 : m_named [layD m (namedL o hs), tN (backL m o)] = .ok (layD m hs) := by
    rw [named_is v2 (back_perm v po), back_named v po]
  have e3 : PyData.tuple ((backL m o).map nD) = tN (backL m o) := rfl
  have e4 : pyNe (layD m hs) (layD m hs) = .ok (.bool false) := by
    rw [neLay]
    simp
  have e5 : pyNe (.list ((piecesL hs).map tN)) (.list ((piecesL hs).map tN)) = .ok (.bool false) := by
    rw [eqd_tN.lst.ne (by decide)]
    simp
  simp only [named_is v po, range1 (show m ≤ 16777216 by omega), okb, int_lit, tN_def, nox_bind, bind_as, noxo, nox_nox, nox_no', R.bind_ok, eqN, neN, ltN, leN, gtN, geN, addN, minN, maxN, truN, truB, asBB, asIntN, partN, nl_okN, nl_bool, lstD_ok, items_l, items_t, items_tN, len_l, len_t, len_tN, tuple_l, tuple_t, list_l, list_t, list_tN, ix0, ix1, ix2, ix0l, ix1l, inLN, inTN, ninLN, ninTN, inLT, inTT, ninLT, ninTT, eqT, neT, eqT0, neT0, eqL0, neL0, unp2_t, unp3_t, sl_to, sl_from, sl_tol, sl_froml, sl_totN, sl_fromtN, sortedN, decide_eq_true_eq, Bool.false_eq_true, if_true, if_false, List.length_map, List.length_range, nl_tN, nf_ok, unp2_pN, ix0p, ix1p, eqP, nf_okP, nf_okT, nl_okP, neL0P, eqL0P, neL0T, eqL0T, inLP, inTP, any_m, all_m, is_none, isnot_none, isNone_n, isNone_N, isNone_T, isNone_t, isNone_l, thenO_nx, thenO_rt, Bool.not_true, Bool.not_false, is_tuple_none, is_tuple_bool, is_tuple_int, is_tuple_str, is_tuple_list, is_tuple_tuple, is_tuple_dict, is_tuple_N, is_tuple_T, is_tuple_P, is_list_none, is_list_bool, is_list_int, is_list_str, is_list_list, is_list_tuple, is_list_dict, is_list_N, is_list_T, is_list_P, is_int_none, is_int_bool, is_int_int, is_int_str, is_int_list, is_int_tuple, is_int_dict, is_int_N, is_int_T, is_int_P, is_bool_none, is_bool_bool, is_bool_int, is_bool_str, is_bool_list, is_bool_tuple, is_bool_dict, is_bool_N, is_bool_T, is_bool_P, is_str_none, is_str_bool, is_str_int, is_str_str, is_str_list, is_str_tuple, is_str_dict, is_str_N, is_str_T, is_str_P, is_seq_none, is_seq_bool, is_seq_int, is_seq_str, is_seq_list, is_seq_tuple, is_seq_dict, is_seq_N, is_seq_T, is_seq_P, zip_ll, zip_tt, zip_lt, zip_tl, upto_N, whole_N, enum_t, enum_l, ix0Lm, ix0Tm, neg1, ix_last, ix_lastT, sortedtN, eqL, neL, rev_tN, isNone_optT, e1, e2, e3, e4, e5, pieces_is v.sm, pieces_is v2.sm, named_pieces v po, is_layout_yes v2]
  refine Sat.bind (take_nox b1 (by omega) (by omega)) ?_
  rintro ⟨_, s2⟩ ⟨⟨i, hi, rfl⟩, b2⟩
  refine Sat.bind (take_nox b2 (by omega) (by omega)) ?_
  rintro ⟨_, s3⟩ ⟨⟨j, hj, rfl⟩, b3⟩
  have hl : (namedL o hs).length = hs.length := by unfold namedL; rw [List.length_map]
  have e6 : mapR (fun a20 => (sqOk (tN o)).bind fun _ => pyIndex (tN o) a20) ((bothL (hd hs i) (hd hs j)).map nD) = .ok (((bothL (hd hs i) (hd hs j)).map fun c => o.idxOf c).map nD) := by
    rw [mapR_m (fun c => nD (o.idxOf c)) (fun c hc => by
      rw [sqOk_tN, okb, index_is (ord_in v po (hd_lt v po (both_comm_mem.mp hc).1))])]
    rw [List.map_map]
    rfl
  have e7 : bothL (hd (namedL o hs) j) (hd (namedL o hs) i) = sortN ((bothL (hd hs i) (hd hs j)).map fun c => o.idxOf c) := by
    rw [← named_both v po]
    refine rise_eq ?_ ?_ fun k => by rw [both_comm_mem, both_comm_mem, and_comm]
    · unfold bothL
      exact List.Pairwise.filter _ (v2.up _ (hd_mem (by omega)))
    · unfold bothL
      exact List.Pairwise.filter _ (v2.up _ (hd_mem (by omega)))
  have e8 : ∀ xs : List Nat, PyData.tuple (xs.map nD) = tN xs := fun _ => rfl
  simp only [okb, int_lit, tN_def, nox_bind, bind_as, noxo, nox_nox, nox_no', R.bind_ok, eqN, neN, ltN, leN, gtN, geN, addN, minN, maxN, truN, truB, asBB, asIntN, partN, nl_okN, nl_bool, lstD_ok, items_l, items_t, items_tN, len_l, len_t, len_tN, tuple_l, tuple_t, list_l, list_t, list_tN, ix0, ix1, ix2, ix0l, ix1l, inLN, inTN, ninLN, ninTN, inLT, inTT, ninLT, ninTT, eqT, neT, eqT0, neT0, eqL0, neL0, unp2_t, unp3_t, sl_to, sl_from, sl_tol, sl_froml, sl_totN, sl_fromtN, sortedN, decide_eq_true_eq, Bool.false_eq_true, if_true, if_false, List.length_map, List.length_range, nl_tN, nf_ok, unp2_pN, ix0p, ix1p, eqP, nf_okP, nf_okT, nl_okP, neL0P, eqL0P, neL0T, eqL0T, inLP, inTP, any_m, all_m, is_none, isnot_none, isNone_n, isNone_N, isNone_T, isNone_t, isNone_l, thenO_nx, thenO_rt, Bool.not_true, Bool.not_false, is_tuple_none, is_tuple_bool, is_tuple_int, is_tuple_str, is_tuple_list, is_tuple_tuple, is_tuple_dict, is_tuple_N, is_tuple_T, is_tuple_P, is_list_none, is_list_bool, is_list_int, is_list_str, is_list_list, is_list_tuple, is_list_dict, is_list_N, is_list_T, is_list_P, is_int_none, is_int_bool, is_int_int, is_int_str, is_int_list, is_int_tuple, is_int_dict, is_int_N, is_int_T, is_int_P, is_bool_none, is_bool_bool, is_bool_int, is_bool_str, is_bool_list, is_bool_tuple, is_bool_dict, is_bool_N, is_bool_T, is_bool_P, is_str_none, is_str_bool, is_str_int, is_str_str, is_str_list, is_str_tuple, is_str_dict, is_str_N, is_str_T, is_str_P, is_seq_none, is_seq_bool, is_seq_int, is_seq_str, is_seq_list, is_seq_tuple, is_seq_dict, is_seq_N, is_seq_T, is_seq_P, zip_ll, zip_tt, zip_lt, zip_tl, upto_N, whole_N, enum_t, enum_l, ix0Lm, ix0Tm, neg1, ix_last, ix_lastT, sortedtN, eqL, neL, rev_tN, isNone_optT, common_is hi hj, e6, e8, common_is (m := m) (hs := namedL o hs) (i := i) (j := j) (by omega) (by omega), common_is (m := m) (hs := namedL o hs) (i := j) (j := i) (by omega) (by omega), named_both v po, e7, decide_true]
  refine ⟨_, rfl, ?_, b3⟩
  rw [named_both v po] at e7
  simp [e7]
/-! ### without a head -/
theorem without_is {m : Nat} {hs : List (List Nat)} {g : Nat} (hg : g < hs.length) (h2 : 2 ≤ hs.length) (hn : hs.length ≤ 64) : m_without [layD m hs, nD g] = .ok (layD m (hs.eraseIdx g)) := by
  rw [m_without]
  simp only [okb, int_lit, tN_def, nox_bind, bind_as, noxo, nox_nox, nox_no', R.bind_ok, eqN, neN, ltN, leN, gtN, geN, addN, minN, maxN, truN, truB, asBB, asIntN, partN, nl_okN, nl_bool, lstD_ok, items_l, items_t, items_tN, len_l, len_t, len_tN, tuple_l, tuple_t, list_l, list_t, list_tN, ix0, ix1, ix2, ix0l, ix1l, inLN, inTN, ninLN, ninTN, inLT, inTT, ninLT, ninTT, eqT, neT, eqT0, neT0, eqL0, neL0, unp2_t, unp3_t, sl_to, sl_from, sl_tol, sl_froml, sl_totN, sl_fromtN, sortedN, decide_eq_true_eq, Bool.false_eq_true, if_true, if_false, List.length_map, List.length_range, nl_tN, nf_ok, unp2_pN, ix0p, ix1p, eqP, nf_okP, nf_okT, nl_okP, neL0P, eqL0P, neL0T, eqL0T, inLP, inTP, any_m, all_m, is_none, isnot_none, isNone_n, isNone_N, isNone_T, isNone_t, isNone_l, thenO_nx, thenO_rt, Bool.not_true, Bool.not_false, is_tuple_none, is_tuple_bool, is_tuple_int, is_tuple_str, is_tuple_list, is_tuple_tuple, is_tuple_dict, is_tuple_N, is_tuple_T, is_tuple_P, is_list_none, is_list_bool, is_list_int, is_list_str, is_list_list, is_list_tuple, is_list_dict, is_list_N, is_list_T, is_list_P, is_int_none, is_int_bool, is_int_int, is_int_str, is_int_list, is_int_tuple, is_int_dict, is_int_N, is_int_T, is_int_P, is_bool_none, is_bool_bool, is_bool_int, is_bool_str, is_bool_list, is_bool_tuple, is_bool_dict, is_bool_N, is_bool_T, is_bool_P, is_str_none, is_str_bool, is_str_int, is_str_str, is_str_list, is_str_tuple, is_str_dict, is_str_N, is_str_T, is_str_P, is_seq_none, is_seq_bool, is_seq_int, is_seq_str, is_seq_list, is_seq_tuple, is_seq_dict, is_seq_N, is_seq_T, is_seq_P, zip_ll, zip_tt, zip_lt, zip_tl, upto_N, whole_N, enum_t, enum_l, ix0Lm, ix0Tm, neg1, ix_last, ix_lastT, sortedtN, eqL, neL, rev_tN, isNone_optT, lay0, lay1, look_head hg, show hs.length ≠ 1 by omega, decide_false]
  rw [← List.map_take, ← List.map_drop, addT (by simp; omega)]
  simp only [okb, int_lit, tN_def, nox_bind, bind_as, noxo, nox_nox, nox_no', R.bind_ok, eqN, neN, ltN, leN, gtN, geN, addN, minN, maxN, truN, truB, asBB, asIntN, partN, nl_okN, nl_bool, lstD_ok, items_l, items_t, items_tN, len_l, len_t, len_tN, tuple_l, tuple_t, list_l, list_t, list_tN, ix0, ix1, ix2, ix0l, ix1l, inLN, inTN, ninLN, ninTN, inLT, inTT, ninLT, ninTT, eqT, neT, eqT0, neT0, eqL0, neL0, unp2_t, unp3_t, sl_to, sl_from, sl_tol, sl_froml, sl_totN, sl_fromtN, sortedN, decide_eq_true_eq, Bool.false_eq_true, if_true, if_false, List.length_map, List.length_range, nl_tN, nf_ok, unp2_pN, ix0p, ix1p, eqP, nf_okP, nf_okT, nl_okP, neL0P, eqL0P, neL0T, eqL0T, inLP, inTP, any_m, all_m, is_none, isnot_none, isNone_n, isNone_N, isNone_T, isNone_t, isNone_l, thenO_nx, thenO_rt, Bool.not_true, Bool.not_false, is_tuple_none, is_tuple_bool, is_tuple_int, is_tuple_str, is_tuple_list, is_tuple_tuple, is_tuple_dict, is_tuple_N, is_tuple_T, is_tuple_P, is_list_none, is_list_bool, is_list_int, is_list_str, is_list_list, is_list_tuple, is_list_dict, is_list_N, is_list_T, is_list_P, is_int_none, is_int_bool, is_int_int, is_int_str, is_int_list, is_int_tuple, is_int_dict, is_int_N, is_int_T, is_int_P, is_bool_none, is_bool_bool, is_bool_int, is_bool_str, is_bool_list, is_bool_tuple, is_bool_dict, is_bool_N, is_bool_T, is_bool_P, is_str_none, is_str_bool, is_str_int, is_str_str, is_str_list, is_str_tuple, is_str_dict, is_str_N, is_str_T, is_str_P, is_seq_none, is_seq_bool, is_seq_int, is_seq_str, is_seq_list, is_seq_tuple, is_seq_dict, is_seq_N, is_seq_T, is_seq_P, zip_ll, zip_tt, zip_lt, zip_tl, upto_N, whole_N, enum_t, enum_l, ix0Lm, ix0Tm, neg1, ix_last, ix_lastT, sortedtN, eqL, neL, rev_tN, isNone_optT]
  unfold layD
  rw [List.eraseIdx_eq_take_drop_succ, List.map_append]
theorem hd_erase {hs : List (List Nat)} {g i : Nat} : hd (hs.eraseIdx g) i = hd hs (if i < g then i else i + 1) := by
  unfold hd
  rw [List.getD_eq_getElem?_getD, List.getD_eq_getElem?_getD, List.getElem?_eraseIdx]
  split <;> rfl
theorem but_get {n g i : Nat} (hg : g < n) (hi : i + 1 < n) : ((List.range n).filter fun k => decide (k ≠ g))[i]? = some (if i < g then i else i + 1) := by
  have e : (List.range n).filter (fun k => decide (k ≠ g)) = (List.range n).eraseIdx g := by
    have h1 := List.nodup_range.erase_eq_filter (l := List.range n) g
    have h2 := List.erase_eq_eraseIdx (List.range n) g
    have h3 : (List.range n).idxOf g = g := by
      have := (List.nodup_range (n := n)).idxOf_getElem g (by simpa using hg)
      simpa using this
    rw [show (fun k => decide (k ≠ g)) = fun k : Nat => k != g from by funext k; rw [Bool.eq_iff_iff]; simp, ← h1]
    rw [List.erase_eq_eraseIdx_of_idxOf h3]
  rw [e, List.getElem?_eraseIdx]
  split
  · rw [List.getElem?_range (by omega)]
  · rw [List.getElem?_range (by omega)]
/-! ### side by side -/
def shL (xs : List Nat) : List Nat := xs.map (· + 2)
def besL (hs : List (List Nat)) : List (List Nat) := [0, 1] :: [1] :: hs.map shL
theorem hd_bes0 (hs : List (List Nat)) : hd (besL hs) 0 = [0, 1] := rfl
theorem hd_bes1 (hs : List (List Nat)) : hd (besL hs) 1 = [1] := rfl
theorem hd_bes2 (hs : List (List Nat)) (i : Nat) : hd (besL hs) (i + 2) = shL (hd hs i) := by
  show hd (hs.map shL) i = _
  exact hd_map (f := shL) rfl i
theorem sh_mem {xs : List Nat} {c : Nat} : c + 2 ∈ shL xs ↔ c ∈ xs := by
  unfold shL
  rw [List.mem_map]
  exact ⟨fun ⟨d, hd, e⟩ => by rw [show c = d by omega]; exact hd, fun h => ⟨c, h, rfl⟩⟩
theorem sh_ge {xs : List Nat} {c : Nat} (h : c ∈ shL xs) : 2 ≤ c := by
  unfold shL at h
  obtain ⟨d, _, rfl⟩ := List.mem_map.mp h
  omega
theorem bes_adj2 (hs : List (List Nat)) (i j : Nat) : adjB (besL hs) (i + 2) (j + 2) = adjB hs i j := by
  rw [Bool.eq_iff_iff, adj_iff, adj_iff, hd_bes2, hd_bes2]
  constructor
  · rintro ⟨c, h1, h2⟩
    have := sh_ge h1
    obtain ⟨d, rfl⟩ : ∃ d, c = d + 2 := ⟨c - 2, by omega⟩
    exact ⟨d, sh_mem.mp h1, sh_mem.mp h2⟩
  · rintro ⟨c, h1, h2⟩
    exact ⟨c + 2, sh_mem.mpr h1, sh_mem.mpr h2⟩
theorem bes_low {hs : List (List Nat)} {i c : Nat} (hi : i < 2) (h : c ∈ hd (besL hs) i) : c < 2 := by
  rcases (by omega : i = 0 ∨ i = 1) with e | e <;> subst e
  · rw [hd_bes0] at h
    simp at h
    omega
  · rw [hd_bes1] at h
    simp at h
    omega
theorem bes_adj1 {hs : List (List Nat)} {i j : Nat} (hi : i < 2) (h : adjB (besL hs) i j = true) : j < 2 := by
  obtain ⟨c, h1, h2⟩ := adj_iff.mp h
  rcases Nat.lt_or_ge j 2 with hj | hj
  · exact hj
  · obtain ⟨k, rfl⟩ : ∃ k, j = k + 2 := ⟨j - 2, by omega⟩
    rw [hd_bes2] at h2
    have := sh_ge h2
    have := bes_low hi h1
    omega
theorem bes_con {hs : List (List Nat)} {n i x : Nat} : Con (n + 2) (adjB (besL hs)) (i + 2) x ↔ ∃ j, x = j + 2 ∧ Con n (adjB hs) i j := by
  constructor
  · intro h
    induction h with
    | refl => exact ⟨i, rfl, .refl⟩
    | step h r l ih =>
      obtain ⟨j, rfl, hj⟩ := ih
      rename_i c
      rcases Nat.lt_or_ge c 2 with hc | hc
      · rw [adj_symm] at r
        have := bes_adj1 hc r
        omega
      · obtain ⟨k, rfl⟩ : ∃ k, c = k + 2 := ⟨c - 2, by omega⟩
        rw [bes_adj2] at r
        exact ⟨k, rfl, hj.step r (by omega)⟩
  · rintro ⟨j, rfl, h⟩
    induction h with
    | refl => exact .refl
    | step h r l ih => exact ih.step (by rw [bes_adj2]; exact r) (by omega)
theorem bes_con0 {hs : List (List Nat)} {n x : Nat} : Con (n + 2) (adjB (besL hs)) 0 x ↔ x < 2 := by
  constructor
  · intro h
    induction h with
    | refl => omega
    | step h r l ih => exact bes_adj1 ih r
  · intro h
    rcases (by omega : x = 0 ∨ x = 1) with e | e <;> subst e
    · exact .refl
    · exact Con.step .refl (adj_iff.mpr ⟨1, by rw [hd_bes0]; simp, by rw [hd_bes1]; simp⟩) (by omega)
theorem bes_comp {hs : List (List Nat)} {n i : Nat} (hi : i < n) : comp (n + 2) (adjB (besL hs)) (i + 2) = shL (comp n (adjB hs) i) := by
  refine rise_eq comp_up ?_ fun x => ?_
  · unfold shL
    rw [List.pairwise_map]
    exact comp_up.imp fun h => by omega
  · rw [comp_mem (by omega), bes_con]
    unfold shL
    rw [List.mem_map]
    exact ⟨fun ⟨j, e, h⟩ => ⟨j, (comp_mem hi).mpr h, e.symm⟩, fun ⟨j, h, e⟩ => ⟨j, e.symm, (comp_mem hi).mp h⟩⟩
theorem bes_comp0 {hs : List (List Nat)} {n : Nat} : comp (n + 2) (adjB (besL hs)) 0 = [0, 1] := by
  refine rise_eq comp_up (by simp) fun x => ?_
  rw [comp_mem (by omega), bes_con0]
  simp
  omega
theorem bes_put {hs : List (List Nat)} {n : Nat} : ∀ {ks : List Nat} {acc : List (List Nat)}, (∀ k ∈ ks, k < n) → (ks.map (· + 2)).foldl (putC (comp (n + 2) (adjB (besL hs)))) ([0, 1] :: acc.map shL) = [0, 1] :: (ks.foldl (putC (comp n (adjB hs))) acc).map shL
  | [], acc, _ => rfl
  | k :: ks, acc, h => by
    rw [List.map_cons, List.foldl_cons, List.foldl_cons]
    have e : putC (comp (n + 2) (adjB (besL hs))) ([0, 1] :: acc.map shL) (k + 2) = [0, 1] :: (putC (comp n (adjB hs)) acc k).map shL := by
      unfold putC
      have ea : (([0, 1] :: acc.map shL).any fun p => decide (k + 2 ∈ p)) = acc.any fun p => decide (k ∈ p) := by
        rw [List.any_cons, List.any_map]
        have : decide (k + 2 ∈ [0, 1]) = false := by simp
        rw [this, Bool.false_or]
        refine List.any_congr rfl fun p => ?_
        show decide (k + 2 ∈ shL p) = _
        rw [decide_eq_decide]
        exact sh_mem
      rw [ea]
      split
      · rfl
      · rw [List.map_append, List.map_singleton, bes_comp (h k List.mem_cons_self)]
        rfl
    rw [e]
    exact bes_put fun j hj => h j (List.mem_cons_of_mem _ hj)
theorem bes_pieces (hs : List (List Nat)) : piecesL (besL hs) = [0, 1] :: (piecesL hs).map shL := by
  have hl : (besL hs).length = hs.length + 2 := by unfold besL; simp
  unfold piecesL piecesG
  rw [hl, List.range_succ_eq_map, List.range_succ_eq_map, List.map_cons, List.map_map, List.foldl_cons, List.foldl_cons]
  have e0 : putC (comp (hs.length + 2) (adjB (besL hs))) [] 0 = [[0, 1]] := by
    unfold putC
    rw [bes_comp0]
    rfl
  have e1 : putC (comp (hs.length + 2) (adjB (besL hs))) [[0, 1]] (Nat.succ 0) = [[0, 1]] := by
    unfold putC
    rw [if_pos (by decide)]
  rw [e0, e1]
  exact bes_put (acc := []) fun k hk => List.mem_range.mp hk
theorem bes_having (hs : List (List Nat)) : havingL (besL hs) 1 = [0, 1] ∧ havingL (besL hs) 2 = shL (havingL hs 0) := by
  have hl : (besL hs).length = hs.length + 2 := by unfold besL; simp
  have up : ∀ c, (havingL (besL hs) c).Pairwise (· < ·) := fun c => List.pairwise_lt_range.filter _
  have mem : ∀ c k, k ∈ havingL (besL hs) c ↔ k < hs.length + 2 ∧ c ∈ hd (besL hs) k := fun c k => by
    unfold havingL
    rw [List.mem_filter, List.mem_range, decide_eq_true_iff, hl]
  constructor
  · refine rise_eq (up 1) (by simp) fun k => ?_
    rw [mem]
    rcases Nat.lt_or_ge k 2 with hk | hk
    · rcases (by omega : k = 0 ∨ k = 1) with e | e <;> subst e
      · rw [hd_bes0]; simp
      · rw [hd_bes1]; simp
    · obtain ⟨j, rfl⟩ : ∃ j, k = j + 2 := ⟨k - 2, by omega⟩
      rw [hd_bes2]
      constructor
      · rintro ⟨_, h⟩
        have := sh_ge h
        omega
      · intro h
        simp at h
  · refine rise_eq (up 2) ?_ fun k => ?_
    · unfold shL
      rw [List.pairwise_map]
      exact (List.pairwise_lt_range.filter _).imp fun h => by omega
    · rw [mem]
      rcases Nat.lt_or_ge k 2 with hk | hk
      · constructor
        · rintro ⟨_, h⟩
          have := bes_low hk h
          omega
        · intro h
          have := sh_ge h
          omega
      · obtain ⟨j, rfl⟩ : ∃ j, k = j + 2 := ⟨k - 2, by omega⟩
        rw [hd_bes2, sh_mem, show (2 : Nat) = 0 + 2 from rfl, sh_mem]
        unfold havingL
        rw [List.mem_filter, List.mem_range, decide_eq_true_iff]
        exact ⟨fun ⟨a, b⟩ => ⟨by omega, b⟩, fun ⟨a, b⟩ => ⟨by omega, b⟩⟩
theorem beside_is {m : Nat} {hs : List (List Nat)} (hm : m ≤ 5) (hn : hs.length ≤ 4) : m_beside [.tuple [nD 2, .tuple [.tuple [nD 0, nD 1], .tuple [nD 1]]], layD m hs] = .ok (layD (2 + m) (besL hs)) := by
  have e : pyIx (.tuple [nD 2, .tuple [.tuple [nD 0, nD 1], .tuple [nD 1]]]) (nD 1) = .ok (.tuple [.tuple [nD 0, nD 1], .tuple [nD 1]]) := ix1 _ _ _
  rw [m_beside]
  simp only [okb, int_lit, tN_def, nox_bind, bind_as, noxo, nox_nox, nox_no', R.bind_ok, eqN, neN, ltN, leN, gtN, geN, addN, minN, maxN, truN, truB, asBB, asIntN, partN, nl_okN, nl_bool, lstD_ok, items_l, items_t, items_tN, len_l, len_t, len_tN, tuple_l, tuple_t, list_l, list_t, list_tN, ix0, ix1, ix2, ix0l, ix1l, inLN, inTN, ninLN, ninTN, inLT, inTT, ninLT, ninTT, eqT, neT, eqT0, neT0, eqL0, neL0, unp2_t, unp3_t, sl_to, sl_from, sl_tol, sl_froml, sl_totN, sl_fromtN, sortedN, decide_eq_true_eq, Bool.false_eq_true, if_true, if_false, List.length_map, List.length_range, nl_tN, nf_ok, unp2_pN, ix0p, ix1p, eqP, nf_okP, nf_okT, nl_okP, neL0P, eqL0P, neL0T, eqL0T, inLP, inTP, any_m, all_m, is_none, isnot_none, isNone_n, isNone_N, isNone_T, isNone_t, isNone_l, thenO_nx, thenO_rt, Bool.not_true, Bool.not_false, is_tuple_none, is_tuple_bool, is_tuple_int, is_tuple_str, is_tuple_list, is_tuple_tuple, is_tuple_dict, is_tuple_N, is_tuple_T, is_tuple_P, is_list_none, is_list_bool, is_list_int, is_list_str, is_list_list, is_list_tuple, is_list_dict, is_list_N, is_list_T, is_list_P, is_int_none, is_int_bool, is_int_int, is_int_str, is_int_list, is_int_tuple, is_int_dict, is_int_N, is_int_T, is_int_P, is_bool_none, is_bool_bool, is_bool_int, is_bool_str, is_bool_list, is_bool_tuple, is_bool_dict, is_bool_N, is_bool_T, is_bool_P, is_str_none, is_str_bool, is_str_int, is_str_str, is_str_list, is_str_tuple, is_str_dict, is_str_N, is_str_T, is_str_P, is_seq_none, is_seq_bool, is_seq_int, is_seq_str, is_seq_list, is_seq_tuple, is_seq_dict, is_seq_N, is_seq_T, is_seq_P, zip_ll, zip_tt, zip_lt, zip_tl, upto_N, whole_N, enum_t, enum_l, ix0Lm, ix0Tm, neg1, ix_last, ix_lastT, sortedtN, eqL, neL, rev_tN, isNone_optT, lay0, lay1, e, show ¬ 7 < 2 + m by omega, decide_false, List.length_cons, List.length_nil, show ¬ 6 < 0 + 1 + 1 + hs.length by omega]
  rw [mapR_m (fun h => tN (shL h)) (fun h _ => by
    simp only [okb, int_lit, tN_def, nox_bind, bind_as, noxo, nox_nox, nox_no', R.bind_ok, eqN, neN, ltN, leN, gtN, geN, addN, minN, maxN, truN, truB, asBB, asIntN, partN, nl_okN, nl_bool, lstD_ok, items_l, items_t, items_tN, len_l, len_t, len_tN, tuple_l, tuple_t, list_l, list_t, list_tN, ix0, ix1, ix2, ix0l, ix1l, inLN, inTN, ninLN, ninTN, inLT, inTT, ninLT, ninTT, eqT, neT, eqT0, neT0, eqL0, neL0, unp2_t, unp3_t, sl_to, sl_from, sl_tol, sl_froml, sl_totN, sl_fromtN, sortedN, decide_eq_true_eq, Bool.false_eq_true, if_true, if_false, List.length_map, List.length_range, nl_tN, nf_ok, unp2_pN, ix0p, ix1p, eqP, nf_okP, nf_okT, nl_okP, neL0P, eqL0P, neL0T, eqL0T, inLP, inTP, any_m, all_m, is_none, isnot_none, isNone_n, isNone_N, isNone_T, isNone_t, isNone_l, thenO_nx, thenO_rt, Bool.not_true, Bool.not_false, is_tuple_none, is_tuple_bool, is_tuple_int, is_tuple_str, is_tuple_list, is_tuple_tuple, is_tuple_dict, is_tuple_N, is_tuple_T, is_tuple_P, is_list_none, is_list_bool, is_list_int, is_list_str, is_list_list, is_list_tuple, is_list_dict, is_list_N, is_list_T, is_list_P, is_int_none, is_int_bool, is_int_int, is_int_str, is_int_list, is_int_tuple, is_int_dict, is_int_N, is_int_T, is_int_P, is_bool_none, is_bool_bool, is_bool_int, is_bool_str, is_bool_list, is_bool_tuple, is_bool_dict, is_bool_N, is_bool_T, is_bool_P, is_str_none, is_str_bool, is_str_int, is_str_str, is_str_list, is_str_tuple, is_str_dict, is_str_N, is_str_T, is_str_P, is_seq_none, is_seq_bool, is_seq_int, is_seq_str, is_seq_list, is_seq_tuple, is_seq_dict, is_seq_N, is_seq_T, is_seq_P, zip_ll, zip_tt, zip_lt, zip_tl, upto_N, whole_N, enum_t, enum_l, ix0Lm, ix0Tm, neg1, ix_last, ix_lastT, sortedtN, eqL, neL, rev_tN, isNone_optT]
    rw [mapR_m (fun c => nD (c + 2)) (fun c _ => by simp only [okb, int_lit, tN_def, nox_bind, bind_as, noxo, nox_nox, nox_no', R.bind_ok, eqN, neN, ltN, leN, gtN, geN, addN, minN, maxN, truN, truB, asBB, asIntN, partN, nl_okN, nl_bool, lstD_ok, items_l, items_t, items_tN, len_l, len_t, len_tN, tuple_l, tuple_t, list_l, list_t, list_tN, ix0, ix1, ix2, ix0l, ix1l, inLN, inTN, ninLN, ninTN, inLT, inTT, ninLT, ninTT, eqT, neT, eqT0, neT0, eqL0, neL0, unp2_t, unp3_t, sl_to, sl_from, sl_tol, sl_froml, sl_totN, sl_fromtN, sortedN, decide_eq_true_eq, Bool.false_eq_true, if_true, if_false, List.length_map, List.length_range, nl_tN, nf_ok, unp2_pN, ix0p, ix1p, eqP, nf_okP, nf_okT, nl_okP, neL0P, eqL0P, neL0T, eqL0T, inLP, inTP, any_m, all_m, is_none, isnot_none, isNone_n, isNone_N, isNone_T, isNone_t, isNone_l, thenO_nx, thenO_rt, Bool.not_true, Bool.not_false, is_tuple_none, is_tuple_bool, is_tuple_int, is_tuple_str, is_tuple_list, is_tuple_tuple, is_tuple_dict, is_tuple_N, is_tuple_T, is_tuple_P, is_list_none, is_list_bool, is_list_int, is_list_str, is_list_list, is_list_tuple, is_list_dict, is_list_N, is_list_T, is_list_P, is_int_none, is_int_bool, is_int_int, is_int_str, is_int_list, is_int_tuple, is_int_dict, is_int_N, is_int_T, is_int_P, is_bool_none, is_bool_bool, is_bool_int, is_bool_str, is_bool_list, is_bool_tuple, is_bool_dict, is_bool_N, is_bool_T, is_bool_P, is_str_none, is_str_bool, is_str_int, is_str_str, is_str_list, is_str_tuple, is_str_dict, is_str_N, is_str_T, is_str_P, is_seq_none, is_seq_bool, is_seq_int, is_seq_str, is_seq_list, is_seq_tuple, is_seq_dict, is_seq_N, is_seq_T, is_seq_P, zip_ll, zip_tt, zip_lt, zip_tl, upto_N, whole_N, enum_t, enum_l, ix0Lm, ix0Tm, neg1, ix_last, ix_lastT, sortedtN, eqL, neL, rev_tN, isNone_optT])]
    simp only [okb, int_lit, tN_def, nox_bind, bind_as, noxo, nox_nox, nox_no', R.bind_ok, eqN, neN, ltN, leN, gtN, geN, addN, minN, maxN, truN, truB, asBB, asIntN, partN, nl_okN, nl_bool, lstD_ok, items_l, items_t, items_tN, len_l, len_t, len_tN, tuple_l, tuple_t, list_l, list_t, list_tN, ix0, ix1, ix2, ix0l, ix1l, inLN, inTN, ninLN, ninTN, inLT, inTT, ninLT, ninTT, eqT, neT, eqT0, neT0, eqL0, neL0, unp2_t, unp3_t, sl_to, sl_from, sl_tol, sl_froml, sl_totN, sl_fromtN, sortedN, decide_eq_true_eq, Bool.false_eq_true, if_true, if_false, List.length_map, List.length_range, nl_tN, nf_ok, unp2_pN, ix0p, ix1p, eqP, nf_okP, nf_okT, nl_okP, neL0P, eqL0P, neL0T, eqL0T, inLP, inTP, any_m, all_m, is_none, isnot_none, isNone_n, isNone_N, isNone_T, isNone_t, isNone_l, thenO_nx, thenO_rt, Bool.not_true, Bool.not_false, is_tuple_none, is_tuple_bool, is_tuple_int, is_tuple_str, is_tuple_list, is_tuple_tuple, is_tuple_dict, is_tuple_N, is_tuple_T, is_tuple_P, is_list_none, is_list_bool, is_list_int, is_list_str, is_list_list, is_list_tuple, is_list_dict, is_list_N, is_list_T, is_list_P, is_int_none, is_int_bool, is_int_int, is_int_str, is_int_list, is_int_tuple, is_int_dict, is_int_N, is_int_T, is_int_P, is_bool_none, is_bool_bool, is_bool_int, is_bool_str, is_bool_list, is_bool_tuple, is_bool_dict, is_bool_N, is_bool_T, is_bool_P, is_str_none, is_str_bool, is_str_int, is_str_str, is_str_list, is_str_tuple, is_str_dict, is_str_N, is_str_T, is_str_P, is_seq_none, is_seq_bool, is_seq_int, is_seq_str, is_seq_list, is_seq_tuple, is_seq_dict, is_seq_N, is_seq_T, is_seq_P, zip_ll, zip_tt, zip_lt, zip_tl, upto_N, whole_N, enum_t, enum_l, ix0Lm, ix0Tm, neg1, ix_last, ix_lastT, sortedtN, eqL, neL, rev_tN, isNone_optT]
    unfold shL tN
    rw [List.map_map]
    rfl)]
  simp only [okb, int_lit, tN_def, nox_bind, bind_as, noxo, nox_nox, nox_no', R.bind_ok, eqN, neN, ltN, leN, gtN, geN, addN, minN, maxN, truN, truB, asBB, asIntN, partN, nl_okN, nl_bool, lstD_ok, items_l, items_t, items_tN, len_l, len_t, len_tN, tuple_l, tuple_t, list_l, list_t, list_tN, ix0, ix1, ix2, ix0l, ix1l, inLN, inTN, ninLN, ninTN, inLT, inTT, ninLT, ninTT, eqT, neT, eqT0, neT0, eqL0, neL0, unp2_t, unp3_t, sl_to, sl_from, sl_tol, sl_froml, sl_totN, sl_fromtN, sortedN, decide_eq_true_eq, Bool.false_eq_true, if_true, if_false, List.length_map, List.length_range, nl_tN, nf_ok, unp2_pN, ix0p, ix1p, eqP, nf_okP, nf_okT, nl_okP, neL0P, eqL0P, neL0T, eqL0T, inLP, inTP, any_m, all_m, is_none, isnot_none, isNone_n, isNone_N, isNone_T, isNone_t, isNone_l, thenO_nx, thenO_rt, Bool.not_true, Bool.not_false, is_tuple_none, is_tuple_bool, is_tuple_int, is_tuple_str, is_tuple_list, is_tuple_tuple, is_tuple_dict, is_tuple_N, is_tuple_T, is_tuple_P, is_list_none, is_list_bool, is_list_int, is_list_str, is_list_list, is_list_tuple, is_list_dict, is_list_N, is_list_T, is_list_P, is_int_none, is_int_bool, is_int_int, is_int_str, is_int_list, is_int_tuple, is_int_dict, is_int_N, is_int_T, is_int_P, is_bool_none, is_bool_bool, is_bool_int, is_bool_str, is_bool_list, is_bool_tuple, is_bool_dict, is_bool_N, is_bool_T, is_bool_P, is_str_none, is_str_bool, is_str_int, is_str_str, is_str_list, is_str_tuple, is_str_dict, is_str_N, is_str_T, is_str_P, is_seq_none, is_seq_bool, is_seq_int, is_seq_str, is_seq_list, is_seq_tuple, is_seq_dict, is_seq_N, is_seq_T, is_seq_P, zip_ll, zip_tt, zip_lt, zip_tl, upto_N, whole_N, enum_t, enum_l, ix0Lm, ix0Tm, neg1, ix_last, ix_lastT, sortedtN, eqL, neL, rev_tN, isNone_optT]
  rw [addT (by simp; omega)]
  simp only [okb, int_lit, tN_def, nox_bind, bind_as, noxo, nox_nox, nox_no', R.bind_ok, eqN, neN, ltN, leN, gtN, geN, addN, minN, maxN, truN, truB, asBB, asIntN, partN, nl_okN, nl_bool, lstD_ok, items_l, items_t, items_tN, len_l, len_t, len_tN, tuple_l, tuple_t, list_l, list_t, list_tN, ix0, ix1, ix2, ix0l, ix1l, inLN, inTN, ninLN, ninTN, inLT, inTT, ninLT, ninTT, eqT, neT, eqT0, neT0, eqL0, neL0, unp2_t, unp3_t, sl_to, sl_from, sl_tol, sl_froml, sl_totN, sl_fromtN, sortedN, decide_eq_true_eq, Bool.false_eq_true, if_true, if_false, List.length_map, List.length_range, nl_tN, nf_ok, unp2_pN, ix0p, ix1p, eqP, nf_okP, nf_okT, nl_okP, neL0P, eqL0P, neL0T, eqL0T, inLP, inTP, any_m, all_m, is_none, isnot_none, isNone_n, isNone_N, isNone_T, isNone_t, isNone_l, thenO_nx, thenO_rt, Bool.not_true, Bool.not_false, is_tuple_none, is_tuple_bool, is_tuple_int, is_tuple_str, is_tuple_list, is_tuple_tuple, is_tuple_dict, is_tuple_N, is_tuple_T, is_tuple_P, is_list_none, is_list_bool, is_list_int, is_list_str, is_list_list, is_list_tuple, is_list_dict, is_list_N, is_list_T, is_list_P, is_int_none, is_int_bool, is_int_int, is_int_str, is_int_list, is_int_tuple, is_int_dict, is_int_N, is_int_T, is_int_P, is_bool_none, is_bool_bool, is_bool_int, is_bool_str, is_bool_list, is_bool_tuple, is_bool_dict, is_bool_N, is_bool_T, is_bool_P, is_str_none, is_str_bool, is_str_int, is_str_str, is_str_list, is_str_tuple, is_str_dict, is_str_N, is_str_T, is_str_P, is_seq_none, is_seq_bool, is_seq_int, is_seq_str, is_seq_list, is_seq_tuple, is_seq_dict, is_seq_N, is_seq_T, is_seq_P, zip_ll, zip_tt, zip_lt, zip_tl, upto_N, whole_N, enum_t, enum_l, ix0Lm, ix0Tm, neg1, ix_last, ix_lastT, sortedtN, eqL, neL, rev_tN, isNone_optT]
  unfold layD besL
  rw [List.map_cons, List.map_cons, List.map_map]
  rfl
theorem law_beside_right_is {m : Nat} {hs : List (List Nat)} (v : LayV m hs) : m_law_beside_right [layD m hs] = .ok (.bool true) := by
  have sm := v.sm
  have h1 := v.m1
  rw [m_law_beside_right]
  simp only [okb, int_lit, tN_def, nox_bind, bind_as, noxo, nox_nox, nox_no', R.bind_ok, eqN, neN, ltN, leN, gtN, geN, addN, minN, maxN, truN, truB, asBB, asIntN, partN, nl_okN, nl_bool, lstD_ok, items_l, items_t, items_tN, len_l, len_t, len_tN, tuple_l, tuple_t, list_l, list_t, list_tN, ix0, ix1, ix2, ix0l, ix1l, inLN, inTN, ninLN, ninTN, inLT, inTT, ninLT, ninTT, eqT, neT, eqT0, neT0, eqL0, neL0, unp2_t, unp3_t, sl_to, sl_from, sl_tol, sl_froml, sl_totN, sl_fromtN, sortedN, decide_eq_true_eq, Bool.false_eq_true, if_true, if_false, List.length_map, List.length_range, nl_tN, nf_ok, unp2_pN, ix0p, ix1p, eqP, nf_okP, nf_okT, nl_okP, neL0P, eqL0P, neL0T, eqL0T, inLP, inTP, any_m, all_m, is_none, isnot_none, isNone_n, isNone_N, isNone_T, isNone_t, isNone_l, thenO_nx, thenO_rt, Bool.not_true, Bool.not_false, is_tuple_none, is_tuple_bool, is_tuple_int, is_tuple_str, is_tuple_list, is_tuple_tuple, is_tuple_dict, is_tuple_N, is_tuple_T, is_tuple_P, is_list_none, is_list_bool, is_list_int, is_list_str, is_list_list, is_list_tuple, is_list_dict, is_list_N, is_list_T, is_list_P, is_int_none, is_int_bool, is_int_int, is_int_str, is_int_list, is_int_tuple, is_int_dict, is_int_N, is_int_T, is_int_P, is_bool_none, is_bool_bool, is_bool_int, is_bool_str, is_bool_list, is_bool_tuple, is_bool_dict, is_bool_N, is_bool_T, is_bool_P, is_str_none, is_str_bool, is_str_int, is_str_str, is_str_list, is_str_tuple, is_str_dict, is_str_N, is_str_T, is_str_P, is_seq_none, is_seq_bool, is_seq_int, is_seq_str, is_seq_list, is_seq_tuple, is_seq_dict, is_seq_N, is_seq_T, is_seq_P, zip_ll, zip_tt, zip_lt, zip_tl, upto_N, whole_N, enum_t, enum_l, ix0Lm, ix0Tm, neg1, ix_last, ix_lastT, sortedtN, eqL, neL, rev_tN, isNone_optT, lay0, lay1]
  by_cases hm : 5 < m
  · simp only [hm, decide_true, okb, int_lit, tN_def, nox_bind, bind_as, noxo, nox_nox, nox_no', R.bind_ok, eqN, neN, ltN, leN, gtN, geN, addN, minN, maxN, truN, truB, asBB, asIntN, partN, nl_okN, nl_bool, lstD_ok, items_l, items_t, items_tN, len_l, len_t, len_tN, tuple_l, tuple_t, list_l, list_t, list_tN, ix0, ix1, ix2, ix0l, ix1l, inLN, inTN, ninLN, ninTN, inLT, inTT, ninLT, ninTT, eqT, neT, eqT0, neT0, eqL0, neL0, unp2_t, unp3_t, sl_to, sl_from, sl_tol, sl_froml, sl_totN, sl_fromtN, sortedN, decide_eq_true_eq, Bool.false_eq_true, if_true, if_false, List.length_map, List.length_range, nl_tN, nf_ok, unp2_pN, ix0p, ix1p, eqP, nf_okP, nf_okT, nl_okP, neL0P, eqL0P, neL0T, eqL0T, inLP, inTP, any_m, all_m, is_none, isnot_none, isNone_n, isNone_N, isNone_T, isNone_t, isNone_l, thenO_nx, thenO_rt, Bool.not_true, Bool.not_false, is_tuple_none, is_tuple_bool, is_tuple_int, is_tuple_str, is_tuple_list, is_tuple_tuple, is_tuple_dict, is_tuple_N, is_tuple_T, is_tuple_P, is_list_none, is_list_bool, is_list_int, is_list_str, is_list_list, is_list_tuple, is_list_dict, is_list_N, is_list_T, is_list_P, is_int_none, is_int_bool, is_int_int, is_int_str, is_int_list, is_int_tuple, is_int_dict, is_int_N, is_int_T, is_int_P, is_bool_none, is_bool_bool, is_bool_int, is_bool_str, is_bool_list, is_bool_tuple, is_bool_dict, is_bool_N, is_bool_T, is_bool_P, is_str_none, is_str_bool, is_str_int, is_str_str, is_str_list, is_str_tuple, is_str_dict, is_str_N, is_str_T, is_str_P, is_seq_none, is_seq_bool, is_seq_int, is_seq_str, is_seq_list, is_seq_tuple, is_seq_dict, is_seq_N, is_seq_T, is_seq_P, zip_ll, zip_tt, zip_lt, zip_tl, upto_N, whole_N, enum_t, enum_l, ix0Lm, ix0Tm, neg1, ix_last, ix_lastT, sortedtN, eqL, neL, rev_tN, isNone_optT]
  by_cases hn : 4 < hs.length
  · simp only [hm, hn, decide_true, decide_false, okb, int_lit, tN_def, nox_bind, bind_as, noxo, nox_nox, nox_no', R.bind_ok, eqN, neN, ltN, leN, gtN, geN, addN, minN, maxN, truN, truB, asBB, asIntN, partN, nl_okN, nl_bool, lstD_ok, items_l, items_t, items_tN, len_l, len_t, len_tN, tuple_l, tuple_t, list_l, list_t, list_tN, ix0, ix1, ix2, ix0l, ix1l, inLN, inTN, ninLN, ninTN, inLT, inTT, ninLT, ninTT, eqT, neT, eqT0, neT0, eqL0, neL0, unp2_t, unp3_t, sl_to, sl_from, sl_tol, sl_froml, sl_totN, sl_fromtN, sortedN, decide_eq_true_eq, Bool.false_eq_true, if_true, if_false, List.length_map, List.length_range, nl_tN, nf_ok, unp2_pN, ix0p, ix1p, eqP, nf_okP, nf_okT, nl_okP, neL0P, eqL0P, neL0T, eqL0T, inLP, inTP, any_m, all_m, is_none, isnot_none, isNone_n, isNone_N, isNone_T, isNone_t, isNone_l, thenO_nx, thenO_rt, Bool.not_true, Bool.not_false, is_tuple_none, is_tuple_bool, is_tuple_int, is_tuple_str, is_tuple_list, is_tuple_tuple, is_tuple_dict, is_tuple_N, is_tuple_T, is_tuple_P, is_list_none, is_list_bool, is_list_int, is_list_str, is_list_list, is_list_tuple, is_list_dict, is_list_N, is_list_T, is_list_P, is_int_none, is_int_bool, is_int_int, is_int_str, is_int_list, is_int_tuple, is_int_dict, is_int_N, is_int_T, is_int_P, is_bool_none, is_bool_bool, is_bool_int, is_bool_str, is_bool_list, is_bool_tuple, is_bool_dict, is_bool_N, is_bool_T, is_bool_P, is_str_none, is_str_bool, is_str_int, is_str_str, is_str_list, is_str_tuple, is_str_dict, is_str_N, is_str_T, is_str_P, is_seq_none, is_seq_bool, is_seq_int, is_seq_str, is_seq_list, is_seq_tuple, is_seq_dict, is_seq_N, is_seq_T, is_seq_P, zip_ll, zip_tt, zip_lt, zip_tl, upto_N, whole_N, enum_t, enum_l, ix0Lm, ix0Tm, neg1, ix_last, ix_lastT, sortedtN, eqL, neL, rev_tN, isNone_optT]
  have hl : (besL hs).length = hs.length + 2 := by unfold besL; simp
  have sm2 : Sm (besL hs) := ⟨by omega, fun h hh => by
    unfold besL at hh
    rcases List.mem_cons.mp hh with e | hh
    · rw [e]; decide
    rcases List.mem_cons.mp hh with e | hh
    · rw [e]; decide
    obtain ⟨g, hg, rfl⟩ := List.mem_map.mp hh
    unfold shL
    rw [List.length_map]
    exact sm.h g hg⟩
  have q1 : mapR (fun a28 => (items a28).bind fun a => (mapR (fun x31 => pyAdd x31 (nD 2)) a).bind fun a => R.ok (PyData.tuple a)) ((piecesL hs).map tN) = .ok (((piecesL hs).map shL).map tN) := by
    rw [mapR_m (fun p => tN (shL p)) (fun p _ => by
      simp only [okb, int_lit, tN_def, nox_bind, bind_as, noxo, nox_nox, nox_no', R.bind_ok, eqN, neN, ltN, leN, gtN, geN, addN, minN, maxN, truN, truB, asBB, asIntN, partN, nl_okN, nl_bool, lstD_ok, items_l, items_t, items_tN, len_l, len_t, len_tN, tuple_l, tuple_t, list_l, list_t, list_tN, ix0, ix1, ix2, ix0l, ix1l, inLN, inTN, ninLN, ninTN, inLT, inTT, ninLT, ninTT, eqT, neT, eqT0, neT0, eqL0, neL0, unp2_t, unp3_t, sl_to, sl_from, sl_tol, sl_froml, sl_totN, sl_fromtN, sortedN, decide_eq_true_eq, Bool.false_eq_true, if_true, if_false, List.length_map, List.length_range, nl_tN, nf_ok, unp2_pN, ix0p, ix1p, eqP, nf_okP, nf_okT, nl_okP, neL0P, eqL0P, neL0T, eqL0T, inLP, inTP, any_m, all_m, is_none, isnot_none, isNone_n, isNone_N, isNone_T, isNone_t, isNone_l, thenO_nx, thenO_rt, Bool.not_true, Bool.not_false, is_tuple_none, is_tuple_bool, is_tuple_int, is_tuple_str, is_tuple_list, is_tuple_tuple, is_tuple_dict, is_tuple_N, is_tuple_T, is_tuple_P, is_list_none, is_list_bool, is_list_int, is_list_str, is_list_list, is_list_tuple, is_list_dict, is_list_N, is_list_T, is_list_P, is_int_none, is_int_bool, is_int_int, is_int_str, is_int_list, is_int_tuple, is_int_dict, is_int_N, is_int_T, is_int_P, is_bool_none, is_bool_bool, is_bool_int, is_bool_str, is_bool_list, is_bool_tuple, is_bool_dict, is_bool_N, is_bool_T, is_bool_P, is_str_none, is_str_bool, is_str_int, is_str_str, is_str_list, is_str_tuple, is_str_dict, is_str_N, is_str_T, is_str_P, is_seq_none, is_seq_bool, is_seq_int, is_seq_str, is_seq_list, is_seq_tuple, is_seq_dict, is_seq_N, is_seq_T, is_seq_P, zip_ll, zip_tt, zip_lt, zip_tl, upto_N, whole_N, enum_t, enum_l, ix0Lm, ix0Tm, neg1, ix_last, ix_lastT, sortedtN, eqL, neL, rev_tN, isNone_optT]
      rw [mapR_m (fun c => nD (c + 2)) (fun c _ => by simp only [okb, int_lit, tN_def, nox_bind, bind_as, noxo, nox_nox, nox_no', R.bind_ok, eqN, neN, ltN, leN, gtN, geN, addN, minN, maxN, truN, truB, asBB, asIntN, partN, nl_okN, nl_bool, lstD_ok, items_l, items_t, items_tN, len_l, len_t, len_tN, tuple_l, tuple_t, list_l, list_t, list_tN, ix0, ix1, ix2, ix0l, ix1l, inLN, inTN, ninLN, ninTN, inLT, inTT, ninLT, ninTT, eqT, neT, eqT0, neT0, eqL0, neL0, unp2_t, unp3_t, sl_to, sl_from, sl_tol, sl_froml, sl_totN, sl_fromtN, sortedN, decide_eq_true_eq, Bool.false_eq_true, if_true, if_false, List.length_map, List.length_range, nl_tN, nf_ok, unp2_pN, ix0p, ix1p, eqP, nf_okP, nf_okT, nl_okP, neL0P, eqL0P, neL0T, eqL0T, inLP, inTP, any_m, all_m, is_none, isnot_none, isNone_n, isNone_N, isNone_T, isNone_t, isNone_l, thenO_nx, thenO_rt, Bool.not_true, Bool.not_false, is_tuple_none, is_tuple_bool, is_tuple_int, is_tuple_str, is_tuple_list, is_tuple_tuple, is_tuple_dict, is_tuple_N, is_tuple_T, is_tuple_P, is_list_none, is_list_bool, is_list_int, is_list_str, is_list_list, is_list_tuple, is_list_dict, is_list_N, is_list_T, is_list_P, is_int_none, is_int_bool, is_int_int, is_int_str, is_int_list, is_int_tuple, is_int_dict, is_int_N, is_int_T, is_int_P, is_bool_none, is_bool_bool, is_bool_int, is_bool_str, is_bool_list, is_bool_tuple, is_bool_dict, is_bool_N, is_bool_T, is_bool_P, is_str_none, is_str_bool, is_str_int, is_str_str, is_str_list, is_str_tuple, is_str_dict, is_str_N, is_str_T, is_str_P, is_seq_none, is_seq_bool, is_seq_int, is_seq_str, is_seq_list, is_seq_tuple, is_seq_dict, is_seq_N, is_seq_T, is_seq_P, zip_ll, zip_tt, zip_lt, zip_tl, upto_N, whole_N, enum_t, enum_l, ix0Lm, ix0Tm, neg1, ix_last, ix_lastT, sortedtN, eqL, neL, rev_tN, isNone_optT])]
      simp only [okb, int_lit, tN_def, nox_bind, bind_as, noxo, nox_nox, nox_no', R.bind_ok, eqN, neN, ltN, leN, gtN, geN, addN, minN, maxN, truN, truB, asBB, asIntN, partN, nl_okN, nl_bool, lstD_ok, items_l, items_t, items_tN, len_l, len_t, len_tN, tuple_l, tuple_t, list_l, list_t, list_tN, ix0, ix1, ix2, ix0l, ix1l, inLN, inTN, ninLN, ninTN, inLT, inTT, ninLT, ninTT, eqT, neT, eqT0, neT0, eqL0, neL0, unp2_t, unp3_t, sl_to, sl_from, sl_tol, sl_froml, sl_totN, sl_fromtN, sortedN, decide_eq_true_eq, Bool.false_eq_true, if_true, if_false, List.length_map, List.length_range, nl_tN, nf_ok, unp2_pN, ix0p, ix1p, eqP, nf_okP, nf_okT, nl_okP, neL0P, eqL0P, neL0T, eqL0T, inLP, inTP, any_m, all_m, is_none, isnot_none, isNone_n, isNone_N, isNone_T, isNone_t, isNone_l, thenO_nx, thenO_rt, Bool.not_true, Bool.not_false, is_tuple_none, is_tuple_bool, is_tuple_int, is_tuple_str, is_tuple_list, is_tuple_tuple, is_tuple_dict, is_tuple_N, is_tuple_T, is_tuple_P, is_list_none, is_list_bool, is_list_int, is_list_str, is_list_list, is_list_tuple, is_list_dict, is_list_N, is_list_T, is_list_P, is_int_none, is_int_bool, is_int_int, is_int_str, is_int_list, is_int_tuple, is_int_dict, is_int_N, is_int_T, is_int_P, is_bool_none, is_bool_bool, is_bool_int, is_bool_str, is_bool_list, is_bool_tuple, is_bool_dict, is_bool_N, is_bool_T, is_bool_P, is_str_none, is_str_bool, is_str_int, is_str_str, is_str_list, is_str_tuple, is_str_dict, is_str_N, is_str_T, is_str_P, is_seq_none, is_seq_bool, is_seq_int, is_seq_str, is_seq_list, is_seq_tuple, is_seq_dict, is_seq_N, is_seq_T, is_seq_P, zip_ll, zip_tt, zip_lt, zip_tl, upto_N, whole_N, enum_t, enum_l, ix0Lm, ix0Tm, neg1, ix_last, ix_lastT, sortedtN, eqL, neL, rev_tN, isNone_optT]
      unfold shL tN
      rw [List.map_map]
      rfl), List.map_map]
    rfl
  have pl : (piecesL hs).length ≤ 64 := by
    have := (pieces_inv (n := hs.length) (R := adjB hs) (adj_symm hs) hs.length (Nat.le_refl _)).2.2.2
    have h2 : (piecesL hs).length ≤ hs.length := this
    omega
  have q2 : pyAdd (.list [.tuple [nD 0, nD 1]]) (.list (((piecesL hs).map shL).map tN)) = .ok (.list ((piecesL (besL hs)).map tN)) := by
    rw [addL (by simp; omega), bes_pieces]
    rfl
  have q3 : pyNe (.list ((piecesL (besL hs)).map tN)) (.list ((piecesL (besL hs)).map tN)) = .ok (.bool false) := by
    rw [eqd_tN.lst.ne (by decide)]
    simp
  have q4 : pyNe (tN [0, 1]) (.tuple [nD 0, nD 1]) = .ok (.bool false) := by
    have := neT [0, 1] [0, 1]
    rw [show PyData.tuple [nD 0, nD 1] = tN [0, 1] from rfl, this]
    simp
  have q5 : mapR (fun x31 => pyAdd x31 (nD 2)) ((havingL hs 0).map nD) = .ok ((shL (havingL hs 0)).map nD) := by
    rw [mapR_m (fun c => nD (c + 2)) (fun c _ => by simp only [okb, int_lit, tN_def, nox_bind, bind_as, noxo, nox_nox, nox_no', R.bind_ok, eqN, neN, ltN, leN, gtN, geN, addN, minN, maxN, truN, truB, asBB, asIntN, partN, nl_okN, nl_bool, lstD_ok, items_l, items_t, items_tN, len_l, len_t, len_tN, tuple_l, tuple_t, list_l, list_t, list_tN, ix0, ix1, ix2, ix0l, ix1l, inLN, inTN, ninLN, ninTN, inLT, inTT, ninLT, ninTT, eqT, neT, eqT0, neT0, eqL0, neL0, unp2_t, unp3_t, sl_to, sl_from, sl_tol, sl_froml, sl_totN, sl_fromtN, sortedN, decide_eq_true_eq, Bool.false_eq_true, if_true, if_false, List.length_map, List.length_range, nl_tN, nf_ok, unp2_pN, ix0p, ix1p, eqP, nf_okP, nf_okT, nl_okP, neL0P, eqL0P, neL0T, eqL0T, inLP, inTP, any_m, all_m, is_none, isnot_none, isNone_n, isNone_N, isNone_T, isNone_t, isNone_l, thenO_nx, thenO_rt, Bool.not_true, Bool.not_false, is_tuple_none, is_tuple_bool, is_tuple_int, is_tuple_str, is_tuple_list, is_tuple_tuple, is_tuple_dict, is_tuple_N, is_tuple_T, is_tuple_P, is_list_none, is_list_bool, is_list_int, is_list_str, is_list_list, is_list_tuple, is_list_dict, is_list_N, is_list_T, is_list_P, is_int_none, is_int_bool, is_int_int, is_int_str, is_int_list, is_int_tuple, is_int_dict, is_int_N, is_int_T, is_int_P, is_bool_none, is_bool_bool, is_bool_int, is_bool_str, is_bool_list, is_bool_tuple, is_bool_dict, is_bool_N, is_bool_T, is_bool_P, is_str_none, is_str_bool, is_str_int, is_str_str, is_str_list, is_str_tuple, is_str_dict, is_str_N, is_str_T, is_str_P, is_seq_none, is_seq_bool, is_seq_int, is_seq_str, is_seq_list, is_seq_tuple, is_seq_dict, is_seq_N, is_seq_T, is_seq_P, zip_ll, zip_tt, zip_lt, zip_tl, upto_N, whole_N, enum_t, enum_l, ix0Lm, ix0Tm, neg1, ix_last, ix_lastT, sortedtN, eqL, neL, rev_tN, isNone_optT])]
    unfold shL
    rw [List.map_map]
    rfl
  obtain ⟨b1, b2⟩ := bes_having hs
  have q6 : ∀ xs : List Nat, PyData.tuple (xs.map nD) = tN xs := fun _ => rfl
  simp only [hm, hn, decide_false, okb, int_lit, tN_def, nox_bind, bind_as, noxo, nox_nox, nox_no', R.bind_ok, eqN, neN, ltN, leN, gtN, geN, addN, minN, maxN, truN, truB, asBB, asIntN, partN, nl_okN, nl_bool, lstD_ok, items_l, items_t, items_tN, len_l, len_t, len_tN, tuple_l, tuple_t, list_l, list_t, list_tN, ix0, ix1, ix2, ix0l, ix1l, inLN, inTN, ninLN, ninTN, inLT, inTT, ninLT, ninTT, eqT, neT, eqT0, neT0, eqL0, neL0, unp2_t, unp3_t, sl_to, sl_from, sl_tol, sl_froml, sl_totN, sl_fromtN, sortedN, decide_eq_true_eq, Bool.false_eq_true, if_true, if_false, List.length_map, List.length_range, nl_tN, nf_ok, unp2_pN, ix0p, ix1p, eqP, nf_okP, nf_okT, nl_okP, neL0P, eqL0P, neL0T, eqL0T, inLP, inTP, any_m, all_m, is_none, isnot_none, isNone_n, isNone_N, isNone_T, isNone_t, isNone_l, thenO_nx, thenO_rt, Bool.not_true, Bool.not_false, is_tuple_none, is_tuple_bool, is_tuple_int, is_tuple_str, is_tuple_list, is_tuple_tuple, is_tuple_dict, is_tuple_N, is_tuple_T, is_tuple_P, is_list_none, is_list_bool, is_list_int, is_list_str, is_list_list, is_list_tuple, is_list_dict, is_list_N, is_list_T, is_list_P, is_int_none, is_int_bool, is_int_int, is_int_str, is_int_list, is_int_tuple, is_int_dict, is_int_N, is_int_T, is_int_P, is_bool_none, is_bool_bool, is_bool_int, is_bool_str, is_bool_list, is_bool_tuple, is_bool_dict, is_bool_N, is_bool_T, is_bool_P, is_str_none, is_str_bool, is_str_int, is_str_str, is_str_list, is_str_tuple, is_str_dict, is_str_N, is_str_T, is_str_P, is_seq_none, is_seq_bool, is_seq_int, is_seq_str, is_seq_list, is_seq_tuple, is_seq_dict, is_seq_N, is_seq_T, is_seq_P, zip_ll, zip_tt, zip_lt, zip_tl, upto_N, whole_N, enum_t, enum_l, ix0Lm, ix0Tm, neg1, ix_last, ix_lastT, sortedtN, eqL, neL, rev_tN, isNone_optT, beside_is (show m ≤ 5 by omega) (show hs.length ≤ 4 by omega), pieces_is sm, pieces_is sm2, q1, q2, q3, heads_of_is (m := 2 + m) (hs := besL hs) (c := 1) (by omega), heads_of_is (m := 2 + m) (hs := besL hs) (c := 2) (by omega), heads_of_is (m := m) (hs := hs) (c := 0) (by omega), b1, b2, q4, q5, q6, decide_true]
theorem k04_main (ns : List Int) (h : ns.length ≤ 63) : m_law_k04 [scrD ns] = .ok (.bool true) := by
  rw [m_law_k04]
  simp only [okb, int_lit, tN_def, nox_bind, bind_as, noxo, nox_nox, nox_no', R.bind_ok, eqN, neN, ltN, leN, gtN, geN, addN, minN, maxN, truN, truB, asBB, asIntN, partN, nl_okN, nl_bool, lstD_ok, items_l, items_t, items_tN, len_l, len_t, len_tN, tuple_l, tuple_t, list_l, list_t, list_tN, ix0, ix1, ix2, ix0l, ix1l, inLN, inTN, ninLN, ninTN, inLT, inTT, ninLT, ninTT, eqT, neT, eqT0, neT0, eqL0, neL0, unp2_t, unp3_t, sl_to, sl_from, sl_tol, sl_froml, sl_totN, sl_fromtN, sortedN, decide_eq_true_eq, Bool.false_eq_true, if_true, if_false, List.length_map, List.length_range, nl_tN, nf_ok, unp2_pN, ix0p, ix1p, eqP, nf_okP, nf_okT, nl_okP, neL0P, eqL0P, neL0T, eqL0T, inLP, inTP, any_m, all_m, is_none, isnot_none, isNone_n, isNone_N, isNone_T, isNone_t, isNone_l, thenO_nx, thenO_rt, Bool.not_true, Bool.not_false, is_tuple_none, is_tuple_bool, is_tuple_int, is_tuple_str, is_tuple_list, is_tuple_tuple, is_tuple_dict, is_tuple_N, is_tuple_T, is_tuple_P, is_list_none, is_list_bool, is_list_int, is_list_str, is_list_list, is_list_tuple, is_list_dict, is_list_N, is_list_T, is_list_P, is_int_none, is_int_bool, is_int_int, is_int_str, is_int_list, is_int_tuple, is_int_dict, is_int_N, is_int_T, is_int_P, is_bool_none, is_bool_bool, is_bool_int, is_bool_str, is_bool_list, is_bool_tuple, is_bool_dict, is_bool_N, is_bool_T, is_bool_P, is_str_none, is_str_bool, is_str_int, is_str_str, is_str_list, is_str_tuple, is_str_dict, is_str_N, is_str_T, is_str_P, is_seq_none, is_seq_bool, is_seq_int, is_seq_str, is_seq_list, is_seq_tuple, is_seq_dict, is_seq_N, is_seq_T, is_seq_P, zip_ll, zip_tt, zip_lt, zip_tl, upto_N, whole_N, enum_t, enum_l, ix0Lm, ix0Tm, neg1, ix_last, ix_lastT, sortedtN, eqL, neL, rev_tN, isNone_optT, len_scr, range1 (show max 1 (min ns.length 4) ≤ 16777216 by omega)]
  apply Sat.eq
  refine thenFine (turnsN fun k hk => ?_) ⟨_, rfl, rfl⟩
  refine Sat.bind (box_is ns k (by omega)) fun v12 b12 => ?_
  refine Sat.bind (layout_is b12).nox ?_
  rintro ⟨_, s⟩ ⟨⟨m, hs, rfl, v⟩, bs⟩
  have sm := v.sm
  have hm := v.m7
  have hn := v.n6
  simp only [okb, int_lit, tN_def, nox_bind, bind_as, noxo, nox_nox, nox_no', R.bind_ok, eqN, neN, ltN, leN, gtN, geN, addN, minN, maxN, truN, truB, asBB, asIntN, partN, nl_okN, nl_bool, lstD_ok, items_l, items_t, items_tN, len_l, len_t, len_tN, tuple_l, tuple_t, list_l, list_t, list_tN, ix0, ix1, ix2, ix0l, ix1l, inLN, inTN, ninLN, ninTN, inLT, inTT, ninLT, ninTT, eqT, neT, eqT0, neT0, eqL0, neL0, unp2_t, unp3_t, sl_to, sl_from, sl_tol, sl_froml, sl_totN, sl_fromtN, sortedN, decide_eq_true_eq, Bool.false_eq_true, if_true, if_false, List.length_map, List.length_range, nl_tN, nf_ok, unp2_pN, ix0p, ix1p, eqP, nf_okP, nf_okT, nl_okP, neL0P, eqL0P, neL0T, eqL0T, inLP, inTP, any_m, all_m, is_none, isnot_none, isNone_n, isNone_N, isNone_T, isNone_t, isNone_l, thenO_nx, thenO_rt, Bool.not_true, Bool.not_false, is_tuple_none, is_tuple_bool, is_tuple_int, is_tuple_str, is_tuple_list, is_tuple_tuple, is_tuple_dict, is_tuple_N, is_tuple_T, is_tuple_P, is_list_none, is_list_bool, is_list_int, is_list_str, is_list_list, is_list_tuple, is_list_dict, is_list_N, is_list_T, is_list_P, is_int_none, is_int_bool, is_int_int, is_int_str, is_int_list, is_int_tuple, is_int_dict, is_int_N, is_int_T, is_int_P, is_bool_none, is_bool_bool, is_bool_int, is_bool_str, is_bool_list, is_bool_tuple, is_bool_dict, is_bool_N, is_bool_T, is_bool_P, is_str_none, is_str_bool, is_str_int, is_str_str, is_str_list, is_str_tuple, is_str_dict, is_str_N, is_str_T, is_str_P, is_seq_none, is_seq_bool, is_seq_int, is_seq_str, is_seq_list, is_seq_tuple, is_seq_dict, is_seq_N, is_seq_T, is_seq_P, zip_ll, zip_tt, zip_lt, zip_tl, upto_N, whole_N, enum_t, enum_l, ix0Lm, ix0Tm, neg1, ix_last, ix_lastT, sortedtN, eqL, neL, rev_tN, isNone_optT, law_right_is sm (show m ≤ 64 by omega)]
  refine Sat.bind (law_named_right_is v bs).nox ?_
  rintro ⟨_, s1⟩ ⟨rfl, b1⟩
  simp only [okb, int_lit, tN_def, nox_bind, bind_as, noxo, nox_nox, nox_no', R.bind_ok, eqN, neN, ltN, leN, gtN, geN, addN, minN, maxN, truN, truB, asBB, asIntN, partN, nl_okN, nl_bool, lstD_ok, items_l, items_t, items_tN, len_l, len_t, len_tN, tuple_l, tuple_t, list_l, list_t, list_tN, ix0, ix1, ix2, ix0l, ix1l, inLN, inTN, ninLN, ninTN, inLT, inTT, ninLT, ninTT, eqT, neT, eqT0, neT0, eqL0, neL0, unp2_t, unp3_t, sl_to, sl_from, sl_tol, sl_froml, sl_totN, sl_fromtN, sortedN, decide_eq_true_eq, Bool.false_eq_true, if_true, if_false, List.length_map, List.length_range, nl_tN, nf_ok, unp2_pN, ix0p, ix1p, eqP, nf_okP, nf_okT, nl_okP, neL0P, eqL0P, neL0T, eqL0T, inLP, inTP, any_m, all_m, is_none, isnot_none, isNone_n, isNone_N, isNone_T, isNone_t, isNone_l, thenO_nx, thenO_rt, Bool.not_true, Bool.not_false, is_tuple_none, is_tuple_bool, is_tuple_int, is_tuple_str, is_tuple_list, is_tuple_tuple, is_tuple_dict, is_tuple_N, is_tuple_T, is_tuple_P, is_list_none, is_list_bool, is_list_int, is_list_str, is_list_list, is_list_tuple, is_list_dict, is_list_N, is_list_T, is_list_P, is_int_none, is_int_bool, is_int_int, is_int_str, is_int_list, is_int_tuple, is_int_dict, is_int_N, is_int_T, is_int_P, is_bool_none, is_bool_bool, is_bool_int, is_bool_str, is_bool_list, is_bool_tuple, is_bool_dict, is_bool_N, is_bool_T, is_bool_P, is_str_none, is_str_bool, is_str_int, is_str_str, is_str_list, is_str_tuple, is_str_dict, is_str_N, is_str_T, is_str_P, is_seq_none, is_seq_bool, is_seq_int, is_seq_str, is_seq_list, is_seq_tuple, is_seq_dict, is_seq_N, is_seq_T, is_seq_P, zip_ll, zip_tt, zip_lt, zip_tl, upto_N, whole_N, enum_t, enum_l, ix0Lm, ix0Tm, neg1, ix_last, ix_lastT, sortedtN, eqL, neL, rev_tN, isNone_optT, law_beside_right_is v, lay1]
  refine thenFine ?_ ⟨_, rfl, rfl⟩
  by_cases h2 : 2 < hs.length
  · simp only [h2, decide_true, okb, int_lit, tN_def, nox_bind, bind_as, noxo, nox_nox, nox_no', R.bind_ok, eqN, neN, ltN, leN, gtN, geN, addN, minN, maxN, truN, truB, asBB, asIntN, partN, nl_okN, nl_bool, lstD_ok, items_l, items_t, items_tN, len_l, len_t, len_tN, tuple_l, tuple_t, list_l, list_t, list_tN, ix0, ix1, ix2, ix0l, ix1l, inLN, inTN, ninLN, ninTN, inLT, inTT, ninLT, ninTT, eqT, neT, eqT0, neT0, eqL0, neL0, unp2_t, unp3_t, sl_to, sl_from, sl_tol, sl_froml, sl_totN, sl_fromtN, sortedN, decide_eq_true_eq, Bool.false_eq_true, if_true, if_false, List.length_map, List.length_range, nl_tN, nf_ok, unp2_pN, ix0p, ix1p, eqP, nf_okP, nf_okT, nl_okP, neL0P, eqL0P, neL0T, eqL0T, inLP, inTP, any_m, all_m, is_none, isnot_none, isNone_n, isNone_N, isNone_T, isNone_t, isNone_l, thenO_nx, thenO_rt, Bool.not_true, Bool.not_false, is_tuple_none, is_tuple_bool, is_tuple_int, is_tuple_str, is_tuple_list, is_tuple_tuple, is_tuple_dict, is_tuple_N, is_tuple_T, is_tuple_P, is_list_none, is_list_bool, is_list_int, is_list_str, is_list_list, is_list_tuple, is_list_dict, is_list_N, is_list_T, is_list_P, is_int_none, is_int_bool, is_int_int, is_int_str, is_int_list, is_int_tuple, is_int_dict, is_int_N, is_int_T, is_int_P, is_bool_none, is_bool_bool, is_bool_int, is_bool_str, is_bool_list, is_bool_tuple, is_bool_dict, is_bool_N, is_bool_T, is_bool_P, is_str_none, is_str_bool, is_str_int, is_str_str, is_str_list, is_str_tuple, is_str_dict, is_str_N, is_str_T, is_str_P, is_seq_none, is_seq_bool, is_seq_int, is_seq_str, is_seq_list, is_seq_tuple, is_seq_dict, is_seq_N, is_seq_T, is_seq_P, zip_ll, zip_tt, zip_lt, zip_tl, upto_N, whole_N, enum_t, enum_l, ix0Lm, ix0Tm, neg1, ix_last, ix_lastT, sortedtN, eqL, neL, rev_tN, isNone_optT]
    refine Sat.bind (take_nox b1 (by omega) (by omega)) ?_
    rintro ⟨_, s2⟩ ⟨⟨g, hg, rfl⟩, b2⟩
    have e1 : ∀ k, k + 1 < hs.length → ((pyRange [nD hs.length]).bind fun a => (filR (fun x134 => (pyNe x134 (nD g)).bind asB) (fun d => R.ok d) a).bind fun a => pyIx (PyData.list a) (nD k)) = .ok (nD (if k < g then k else k + 1)) := fun k hk => by
      rw [range1 (show hs.length ≤ 16777216 by omega), okb, filR_m (fun x => decide (x ≠ g)) nD (fun x _ => by simp only [okb, int_lit, tN_def, nox_bind, bind_as, noxo, nox_nox, nox_no', R.bind_ok, eqN, neN, ltN, leN, gtN, geN, addN, minN, maxN, truN, truB, asBB, asIntN, partN, nl_okN, nl_bool, lstD_ok, items_l, items_t, items_tN, len_l, len_t, len_tN, tuple_l, tuple_t, list_l, list_t, list_tN, ix0, ix1, ix2, ix0l, ix1l, inLN, inTN, ninLN, ninTN, inLT, inTT, ninLT, ninTT, eqT, neT, eqT0, neT0, eqL0, neL0, unp2_t, unp3_t, sl_to, sl_from, sl_tol, sl_froml, sl_totN, sl_fromtN, sortedN, decide_eq_true_eq, Bool.false_eq_true, if_true, if_false, List.length_map, List.length_range, nl_tN, nf_ok, unp2_pN, ix0p, ix1p, eqP, nf_okP, nf_okT, nl_okP, neL0P, eqL0P, neL0T, eqL0T, inLP, inTP, any_m, all_m, is_none, isnot_none, isNone_n, isNone_N, isNone_T, isNone_t, isNone_l, thenO_nx, thenO_rt, Bool.not_true, Bool.not_false, is_tuple_none, is_tuple_bool, is_tuple_int, is_tuple_str, is_tuple_list, is_tuple_tuple, is_tuple_dict, is_tuple_N, is_tuple_T, is_tuple_P, is_list_none, is_list_bool, is_list_int, is_list_str, is_list_list, is_list_tuple, is_list_dict, is_list_N, is_list_T, is_list_P, is_int_none, is_int_bool, is_int_int, is_int_str, is_int_list, is_int_tuple, is_int_dict, is_int_N, is_int_T, is_int_P, is_bool_none, is_bool_bool, is_bool_int, is_bool_str, is_bool_list, is_bool_tuple, is_bool_dict, is_bool_N, is_bool_T, is_bool_P, is_str_none, is_str_bool, is_str_int, is_str_str, is_str_list, is_str_tuple, is_str_dict, is_str_N, is_str_T, is_str_P, is_seq_none, is_seq_bool, is_seq_int, is_seq_str, is_seq_list, is_seq_tuple, is_seq_dict, is_seq_N, is_seq_T, is_seq_P, zip_ll, zip_tt, zip_lt, zip_tl, upto_N, whole_N, enum_t, enum_l, ix0Lm, ix0Tm, neg1, ix_last, ix_lastT, sortedtN, eqL, neL, rev_tN, isNone_optT]) (fun _ _ _ => rfl), okb]
      refine pix_list ?_
      rw [List.getElem?_map, but_get hg hk]
      rfl
    have hl : (hs.eraseIdx g).length = hs.length - 1 := List.length_eraseIdx_of_lt hg
    have e2 : mapR (fun a128 => (pyRange [nD hs.length]).bind fun a => (filR (fun x134 => (pyNe x134 (nD g)).bind asB) (fun d => R.ok d) a).bind fun a => pyIx (PyData.list a) a128) [nD 0, nD (hs.length - 2)] = .ok [nD (if 0 < g then 0 else 0 + 1), nD (if hs.length - 2 < g then hs.length - 2 else hs.length - 2 + 1)] := by
      rw [mapR, e1 0 (by omega), nox_ok, okb, mapR, e1 (hs.length - 2) (by omega), nox_ok, okb]
      rfl
    have e3 : ∀ a b : D, unp2l (.list [a, b]) = .ok (a, b) := fun _ _ => rfl
    simp only [without_is hg (by omega) (by omega), okb, int_lit, tN_def, nox_bind, bind_as, noxo, nox_nox, nox_no', R.bind_ok, eqN, neN, ltN, leN, gtN, geN, addN, minN, maxN, truN, truB, asBB, asIntN, partN, nl_okN, nl_bool, lstD_ok, items_l, items_t, items_tN, len_l, len_t, len_tN, tuple_l, tuple_t, list_l, list_t, list_tN, ix0, ix1, ix2, ix0l, ix1l, inLN, inTN, ninLN, ninTN, inLT, inTT, ninLT, ninTT, eqT, neT, eqT0, neT0, eqL0, neL0, unp2_t, unp3_t, sl_to, sl_from, sl_tol, sl_froml, sl_totN, sl_fromtN, sortedN, decide_eq_true_eq, Bool.false_eq_true, if_true, if_false, List.length_map, List.length_range, nl_tN, nf_ok, unp2_pN, ix0p, ix1p, eqP, nf_okP, nf_okT, nl_okP, neL0P, eqL0P, neL0T, eqL0T, inLP, inTP, any_m, all_m, is_none, isnot_none, isNone_n, isNone_N, isNone_T, isNone_t, isNone_l, thenO_nx, thenO_rt, Bool.not_true, Bool.not_false, is_tuple_none, is_tuple_bool, is_tuple_int, is_tuple_str, is_tuple_list, is_tuple_tuple, is_tuple_dict, is_tuple_N, is_tuple_T, is_tuple_P, is_list_none, is_list_bool, is_list_int, is_list_str, is_list_list, is_list_tuple, is_list_dict, is_list_N, is_list_T, is_list_P, is_int_none, is_int_bool, is_int_int, is_int_str, is_int_list, is_int_tuple, is_int_dict, is_int_N, is_int_T, is_int_P, is_bool_none, is_bool_bool, is_bool_int, is_bool_str, is_bool_list, is_bool_tuple, is_bool_dict, is_bool_N, is_bool_T, is_bool_P, is_str_none, is_str_bool, is_str_int, is_str_str, is_str_list, is_str_tuple, is_str_dict, is_str_N, is_str_T, is_str_P, is_seq_none, is_seq_bool, is_seq_int, is_seq_str, is_seq_list, is_seq_tuple, is_seq_dict, is_seq_N, is_seq_T, is_seq_P, zip_ll, zip_tt, zip_lt, zip_tl, upto_N, whole_N, enum_t, enum_l, ix0Lm, ix0Tm, neg1, ix_last, ix_lastT, sortedtN, eqL, neL, rev_tN, isNone_optT, subN (show 2 ≤ hs.length by omega), subN (show 1 ≤ hs.length by omega), e2, e3, lay1, hl]
    rw [common_is (m := m) (hs := hs.eraseIdx g) (i := 0) (j := hs.length - 2) (by omega) (by omega), common_is (m := m) (hs := hs) (by split <;> omega) (by split <;> omega), hd_erase, hd_erase]
    simp only [okb, int_lit, tN_def, nox_bind, bind_as, noxo, nox_nox, nox_no', R.bind_ok, eqN, neN, ltN, leN, gtN, geN, addN, minN, maxN, truN, truB, asBB, asIntN, partN, nl_okN, nl_bool, lstD_ok, items_l, items_t, items_tN, len_l, len_t, len_tN, tuple_l, tuple_t, list_l, list_t, list_tN, ix0, ix1, ix2, ix0l, ix1l, inLN, inTN, ninLN, ninTN, inLT, inTT, ninLT, ninTT, eqT, neT, eqT0, neT0, eqL0, neL0, unp2_t, unp3_t, sl_to, sl_from, sl_tol, sl_froml, sl_totN, sl_fromtN, sortedN, decide_eq_true_eq, Bool.false_eq_true, if_true, if_false, List.length_map, List.length_range, nl_tN, nf_ok, unp2_pN, ix0p, ix1p, eqP, nf_okP, nf_okT, nl_okP, neL0P, eqL0P, neL0T, eqL0T, inLP, inTP, any_m, all_m, is_none, isnot_none, isNone_n, isNone_N, isNone_T, isNone_t, isNone_l, thenO_nx, thenO_rt, Bool.not_true, Bool.not_false, is_tuple_none, is_tuple_bool, is_tuple_int, is_tuple_str, is_tuple_list, is_tuple_tuple, is_tuple_dict, is_tuple_N, is_tuple_T, is_tuple_P, is_list_none, is_list_bool, is_list_int, is_list_str, is_list_list, is_list_tuple, is_list_dict, is_list_N, is_list_T, is_list_P, is_int_none, is_int_bool, is_int_int, is_int_str, is_int_list, is_int_tuple, is_int_dict, is_int_N, is_int_T, is_int_P, is_bool_none, is_bool_bool, is_bool_int, is_bool_str, is_bool_list, is_bool_tuple, is_bool_dict, is_bool_N, is_bool_T, is_bool_P, is_str_none, is_str_bool, is_str_int, is_str_str, is_str_list, is_str_tuple, is_str_dict, is_str_N, is_str_T, is_str_P, is_seq_none, is_seq_bool, is_seq_int, is_seq_str, is_seq_list, is_seq_tuple, is_seq_dict, is_seq_N, is_seq_T, is_seq_P, zip_ll, zip_tt, zip_lt, zip_tl, upto_N, whole_N, enum_t, enum_l, ix0Lm, ix0Tm, neg1, ix_last, ix_lastT, sortedtN, eqL, neL, rev_tN, isNone_optT, ne_eq, not_true, decide_false]
    exact ⟨_, rfl, rfl⟩
  · simp only [h2, decide_false, okb, int_lit, tN_def, nox_bind, bind_as, noxo, nox_nox, nox_no', R.bind_ok, eqN, neN, ltN, leN, gtN, geN, addN, minN, maxN, truN, truB, asBB, asIntN, partN, nl_okN, nl_bool, lstD_ok, items_l, items_t, items_tN, len_l, len_t, len_tN, tuple_l, tuple_t, list_l, list_t, list_tN, ix0, ix1, ix2, ix0l, ix1l, inLN, inTN, ninLN, ninTN, inLT, inTT, ninLT, ninTT, eqT, neT, eqT0, neT0, eqL0, neL0, unp2_t, unp3_t, sl_to, sl_from, sl_tol, sl_froml, sl_totN, sl_fromtN, sortedN, decide_eq_true_eq, Bool.false_eq_true, if_true, if_false, List.length_map, List.length_range, nl_tN, nf_ok, unp2_pN, ix0p, ix1p, eqP, nf_okP, nf_okT, nl_okP, neL0P, eqL0P, neL0T, eqL0T, inLP, inTP, any_m, all_m, is_none, isnot_none, isNone_n, isNone_N, isNone_T, isNone_t, isNone_l, thenO_nx, thenO_rt, Bool.not_true, Bool.not_false, is_tuple_none, is_tuple_bool, is_tuple_int, is_tuple_str, is_tuple_list, is_tuple_tuple, is_tuple_dict, is_tuple_N, is_tuple_T, is_tuple_P, is_list_none, is_list_bool, is_list_int, is_list_str, is_list_list, is_list_tuple, is_list_dict, is_list_N, is_list_T, is_list_P, is_int_none, is_int_bool, is_int_int, is_int_str, is_int_list, is_int_tuple, is_int_dict, is_int_N, is_int_T, is_int_P, is_bool_none, is_bool_bool, is_bool_int, is_bool_str, is_bool_list, is_bool_tuple, is_bool_dict, is_bool_N, is_bool_T, is_bool_P, is_str_none, is_str_bool, is_str_int, is_str_str, is_str_list, is_str_tuple, is_str_dict, is_str_N, is_str_T, is_str_P, is_seq_none, is_seq_bool, is_seq_int, is_seq_str, is_seq_list, is_seq_tuple, is_seq_dict, is_seq_N, is_seq_T, is_seq_P, zip_ll, zip_tt, zip_lt, zip_tl, upto_N, whole_N, enum_t, enum_l, ix0Lm, ix0Tm, neg1, ix_last, ix_lastT, sortedtN, eqL, neL, rev_tN, isNone_optT]
    exact ⟨_, rfl, rfl⟩
end TP
namespace LK04
open PySem PySem.Spec PyProof.Rows L2 TL JT
theorem main (ns : List Int) (h : ns.length ≤ 63) : m_law_k04 [scrD ns] = .ok (.bool true) := TP.k04_main ns h
end LK04
set_option maxRecDepth 100000
namespace LK04
open PySem PySem.Spec PyProof.Rows L2 TL JT
theorem all_mk {l : PySem.W.OpenLaw} {w : World} {K : PySem.W.Frag} {h : Heap} {mg : Str → Option Value} {fa : Addr} (main : ∀ ns : List Int, ns.length ≤ 63 → m_law_k04 [scrD ns] = .ok (.bool true)) (X : K.In h) (G : h.Ns mainGlobals mg) (hfa : mg "law" = some (.ref fa))
    {f0 : Addr} {od0 an0 : Option Addr} {sl0 : Array (Option Value)} {oc0 kV0 dc0 pm0 cd0 ct0 : Value} (a0 : PySem.W.nsIn K mainGlobals "is_whole" = some (some (.ref f0))) (l0 : K.lookup f0 = some ⟨oc0, od0, .func (PySem.W.fnOf "is_whole" "is_whole" (defArgs s_is_whole) (defBody s_is_whole) (defScope s_is_whole) .none kV0 dc0 pm0 an0 cd0 ct0), sl0⟩) (c0 : PySem.W.codeIn K cd0 "is_whole" = true) (k0 : PySem.W.keepIn K (.ref f0) = true)
    {f1 : Addr} {od1 an1 : Option Addr} {sl1 : Array (Option Value)} {oc1 kV1 dc1 pm1 cd1 ct1 : Value} (a1 : PySem.W.nsIn K mainGlobals "is_upto" = some (some (.ref f1))) (l1 : K.lookup f1 = some ⟨oc1, od1, .func (PySem.W.fnOf "is_upto" "is_upto" (defArgs s_is_upto) (defBody s_is_upto) (defScope s_is_upto) .none kV1 dc1 pm1 an1 cd1 ct1), sl1⟩) (c1 : PySem.W.codeIn K cd1 "is_upto" = true) (k1 : PySem.W.keepIn K (.ref f1) = true)
    {f2 : Addr} {od2 an2 : Option Addr} {sl2 : Array (Option Value)} {oc2 kV2 dc2 pm2 cd2 ct2 : Value} (a2 : PySem.W.nsIn K mainGlobals "is_rising" = some (some (.ref f2))) (l2 : K.lookup f2 = some ⟨oc2, od2, .func (PySem.W.fnOf "is_rising" "is_rising" (defArgs s_is_rising) (defBody s_is_rising) (defScope s_is_rising) .none kV2 dc2 pm2 an2 cd2 ct2), sl2⟩) (c2 : PySem.W.codeIn K cd2 "is_rising" = true) (k2 : PySem.W.keepIn K (.ref f2) = true)
    {f3 : Addr} {od3 an3 : Option Addr} {sl3 : Array (Option Value)} {oc3 kV3 dc3 pm3 cd3 ct3 : Value} (a3 : PySem.W.nsIn K mainGlobals "is_head" = some (some (.ref f3))) (l3 : K.lookup f3 = some ⟨oc3, od3, .func (PySem.W.fnOf "is_head" "is_head" (defArgs s_is_head) (defBody s_is_head) (defScope s_is_head) .none kV3 dc3 pm3 an3 cd3 ct3), sl3⟩) (c3 : PySem.W.codeIn K cd3 "is_head" = true) (k3 : PySem.W.keepIn K (.ref f3) = true)
    {f4 : Addr} {od4 an4 : Option Addr} {sl4 : Array (Option Value)} {oc4 kV4 dc4 pm4 cd4 ct4 : Value} (a4 : PySem.W.nsIn K mainGlobals "is_layout" = some (some (.ref f4))) (l4 : K.lookup f4 = some ⟨oc4, od4, .func (PySem.W.fnOf "is_layout" "is_layout" (defArgs s_is_layout) (defBody s_is_layout) (defScope s_is_layout) .none kV4 dc4 pm4 an4 cd4 ct4), sl4⟩) (c4 : PySem.W.codeIn K cd4 "is_layout" = true) (k4 : PySem.W.keepIn K (.ref f4) = true)
    {f5 : Addr} {od5 an5 : Option Addr} {sl5 : Array (Option Value)} {oc5 kV5 dc5 pm5 cd5 ct5 : Value} (a5 : PySem.W.nsIn K mainGlobals "look_at_head" = some (some (.ref f5))) (l5 : K.lookup f5 = some ⟨oc5, od5, .func (PySem.W.fnOf "look_at_head" "look_at_head" (defArgs s_look_at_head) (defBody s_look_at_head) (defScope s_look_at_head) .none kV5 dc5 pm5 an5 cd5 ct5), sl5⟩) (c5 : PySem.W.codeIn K cd5 "look_at_head" = true) (k5 : PySem.W.keepIn K (.ref f5) = true)
    {f6 : Addr} {od6 an6 : Option Addr} {sl6 : Array (Option Value)} {oc6 kV6 dc6 pm6 cd6 ct6 : Value} (a6 : PySem.W.nsIn K mainGlobals "look_at_column" = some (some (.ref f6))) (l6 : K.lookup f6 = some ⟨oc6, od6, .func (PySem.W.fnOf "look_at_column" "look_at_column" (defArgs s_look_at_column) (defBody s_look_at_column) (defScope s_look_at_column) .none kV6 dc6 pm6 an6 cd6 ct6), sl6⟩) (c6 : PySem.W.codeIn K cd6 "look_at_column" = true) (k6 : PySem.W.keepIn K (.ref f6) = true)
    {f7 : Addr} {od7 an7 : Option Addr} {sl7 : Array (Option Value)} {oc7 kV7 dc7 pm7 cd7 ct7 : Value} (a7 : PySem.W.nsIn K mainGlobals "having" = some (some (.ref f7))) (l7 : K.lookup f7 = some ⟨oc7, od7, .func (PySem.W.fnOf "having" "having" (defArgs s_having) (defBody s_having) (defScope s_having) .none kV7 dc7 pm7 an7 cd7 ct7), sl7⟩) (c7 : PySem.W.codeIn K cd7 "having" = true) (k7 : PySem.W.keepIn K (.ref f7) = true)
    {f8 : Addr} {od8 an8 : Option Addr} {sl8 : Array (Option Value)} {oc8 kV8 dc8 pm8 cd8 ct8 : Value} (a8 : PySem.W.nsIn K mainGlobals "heads_of" = some (some (.ref f8))) (l8 : K.lookup f8 = some ⟨oc8, od8, .func (PySem.W.fnOf "heads_of" "heads_of" (defArgs s_heads_of) (defBody s_heads_of) (defScope s_heads_of) .none kV8 dc8 pm8 an8 cd8 ct8), sl8⟩) (c8 : PySem.W.codeIn K cd8 "heads_of" = true) (k8 : PySem.W.keepIn K (.ref f8) = true)
    {f9 : Addr} {od9 an9 : Option Addr} {sl9 : Array (Option Value)} {oc9 kV9 dc9 pm9 cd9 ct9 : Value} (a9 : PySem.W.nsIn K mainGlobals "both" = some (some (.ref f9))) (l9 : K.lookup f9 = some ⟨oc9, od9, .func (PySem.W.fnOf "both" "both" (defArgs s_both) (defBody s_both) (defScope s_both) .none kV9 dc9 pm9 an9 cd9 ct9), sl9⟩) (c9 : PySem.W.codeIn K cd9 "both" = true) (k9 : PySem.W.keepIn K (.ref f9) = true)
    {f10 : Addr} {od10 an10 : Option Addr} {sl10 : Array (Option Value)} {oc10 kV10 dc10 pm10 cd10 ct10 : Value} (a10 : PySem.W.nsIn K mainGlobals "common" = some (some (.ref f10))) (l10 : K.lookup f10 = some ⟨oc10, od10, .func (PySem.W.fnOf "common" "common" (defArgs s_common) (defBody s_common) (defScope s_common) .none kV10 dc10 pm10 an10 cd10 ct10), sl10⟩) (c10 : PySem.W.codeIn K cd10 "common" = true) (k10 : PySem.W.keepIn K (.ref f10) = true)
    {f11 : Addr} {od11 an11 : Option Addr} {sl11 : Array (Option Value)} {oc11 kV11 dc11 pm11 cd11 ct11 : Value} (a11 : PySem.W.nsIn K mainGlobals "come_to" = some (some (.ref f11))) (l11 : K.lookup f11 = some ⟨oc11, od11, .func (PySem.W.fnOf "come_to" "come_to" (defArgs s_come_to) (defBody s_come_to) (defScope s_come_to) .none kV11 dc11 pm11 an11 cd11 ct11), sl11⟩) (c11 : PySem.W.codeIn K cd11 "come_to" = true) (k11 : PySem.W.keepIn K (.ref f11) = true)
    {f12 : Addr} {od12 an12 : Option Addr} {sl12 : Array (Option Value)} {oc12 kV12 dc12 pm12 cd12 ct12 : Value} (a12 : PySem.W.nsIn K mainGlobals "pieces" = some (some (.ref f12))) (l12 : K.lookup f12 = some ⟨oc12, od12, .func (PySem.W.fnOf "pieces" "pieces" (defArgs s_pieces) (defBody s_pieces) (defScope s_pieces) .none kV12 dc12 pm12 an12 cd12 ct12), sl12⟩) (c12 : PySem.W.codeIn K cd12 "pieces" = true) (k12 : PySem.W.keepIn K (.ref f12) = true)
    {f13 : Addr} {od13 an13 : Option Addr} {sl13 : Array (Option Value)} {oc13 kV13 dc13 pm13 cd13 ct13 : Value} (a13 : PySem.W.nsIn K mainGlobals "is_order_of" = some (some (.ref f13))) (l13 : K.lookup f13 = some ⟨oc13, od13, .func (PySem.W.fnOf "is_order_of" "is_order_of" (defArgs s_is_order_of) (defBody s_is_order_of) (defScope s_is_order_of) .none kV13 dc13 pm13 an13 cd13 ct13), sl13⟩) (c13 : PySem.W.codeIn K cd13 "is_order_of" = true) (k13 : PySem.W.keepIn K (.ref f13) = true)
    {f14 : Addr} {od14 an14 : Option Addr} {sl14 : Array (Option Value)} {oc14 kV14 dc14 pm14 cd14 ct14 : Value} (a14 : PySem.W.nsIn K mainGlobals "named" = some (some (.ref f14))) (l14 : K.lookup f14 = some ⟨oc14, od14, .func (PySem.W.fnOf "named" "named" (defArgs s_named) (defBody s_named) (defScope s_named) .none kV14 dc14 pm14 an14 cd14 ct14), sl14⟩) (c14 : PySem.W.codeIn K cd14 "named" = true) (k14 : PySem.W.keepIn K (.ref f14) = true)
    {f15 : Addr} {od15 an15 : Option Addr} {sl15 : Array (Option Value)} {oc15 kV15 dc15 pm15 cd15 ct15 : Value} (a15 : PySem.W.nsIn K mainGlobals "beside" = some (some (.ref f15))) (l15 : K.lookup f15 = some ⟨oc15, od15, .func (PySem.W.fnOf "beside" "beside" (defArgs s_beside) (defBody s_beside) (defScope s_beside) .none kV15 dc15 pm15 an15 cd15 ct15), sl15⟩) (c15 : PySem.W.codeIn K cd15 "beside" = true) (k15 : PySem.W.keepIn K (.ref f15) = true)
    {f16 : Addr} {od16 an16 : Option Addr} {sl16 : Array (Option Value)} {oc16 kV16 dc16 pm16 cd16 ct16 : Value} (a16 : PySem.W.nsIn K mainGlobals "without" = some (some (.ref f16))) (l16 : K.lookup f16 = some ⟨oc16, od16, .func (PySem.W.fnOf "without" "without" (defArgs s_without) (defBody s_without) (defScope s_without) .none kV16 dc16 pm16 an16 cd16 ct16), sl16⟩) (c16 : PySem.W.codeIn K cd16 "without" = true) (k16 : PySem.W.keepIn K (.ref f16) = true)
    {f17 : Addr} {od17 an17 : Option Addr} {sl17 : Array (Option Value)} {oc17 kV17 dc17 pm17 cd17 ct17 : Value} (a17 : PySem.W.nsIn K mainGlobals "_law_cell" = some (some (.ref f17))) (l17 : K.lookup f17 = some ⟨oc17, od17, .func (PySem.W.fnOf "_law_cell" "_law_cell" (defArgs s__law_cell) (defBody s__law_cell) (defScope s__law_cell) .none kV17 dc17 pm17 an17 cd17 ct17), sl17⟩) (c17 : PySem.W.codeIn K cd17 "_law_cell" = true) (k17 : PySem.W.keepIn K (.ref f17) = true)
    {f18 : Addr} {od18 an18 : Option Addr} {sl18 : Array (Option Value)} {oc18 kV18 dc18 pm18 cd18 ct18 : Value} (a18 : PySem.W.nsIn K mainGlobals "_law_box" = some (some (.ref f18))) (l18 : K.lookup f18 = some ⟨oc18, od18, .func (PySem.W.fnOf "_law_box" "_law_box" (defArgs s__law_box) (defBody s__law_box) (defScope s__law_box) .none kV18 dc18 pm18 an18 cd18 ct18), sl18⟩) (c18 : PySem.W.codeIn K cd18 "_law_box" = true) (k18 : PySem.W.keepIn K (.ref f18) = true)
    {f19 : Addr} {od19 an19 : Option Addr} {sl19 : Array (Option Value)} {oc19 kV19 dc19 pm19 cd19 ct19 : Value} (a19 : PySem.W.nsIn K mainGlobals "_law_take" = some (some (.ref f19))) (l19 : K.lookup f19 = some ⟨oc19, od19, .func (PySem.W.fnOf "_law_take" "_law_take" (defArgs s__law_take) (defBody s__law_take) (defScope s__law_take) .none kV19 dc19 pm19 an19 cd19 ct19), sl19⟩) (c19 : PySem.W.codeIn K cd19 "_law_take" = true) (k19 : PySem.W.keepIn K (.ref f19) = true)
    {f20 : Addr} {od20 an20 : Option Addr} {sl20 : Array (Option Value)} {oc20 kV20 dc20 pm20 cd20 ct20 : Value} (a20 : PySem.W.nsIn K mainGlobals "_law_layout" = some (some (.ref f20))) (l20 : K.lookup f20 = some ⟨oc20, od20, .func (PySem.W.fnOf "_law_layout" "_law_layout" (defArgs s__law_layout) (defBody s__law_layout) (defScope s__law_layout) .none kV20 dc20 pm20 an20 cd20 ct20), sl20⟩) (c20 : PySem.W.codeIn K cd20 "_law_layout" = true) (k20 : PySem.W.keepIn K (.ref f20) = true)
    {f21 : Addr} {od21 an21 : Option Addr} {sl21 : Array (Option Value)} {oc21 kV21 dc21 pm21 cd21 ct21 : Value} (a21 : PySem.W.nsIn K mainGlobals "_law_order" = some (some (.ref f21))) (l21 : K.lookup f21 = some ⟨oc21, od21, .func (PySem.W.fnOf "_law_order" "_law_order" (defArgs s__law_order) (defBody s__law_order) (defScope s__law_order) .none kV21 dc21 pm21 an21 cd21 ct21), sl21⟩) (c21 : PySem.W.codeIn K cd21 "_law_order" = true) (k21 : PySem.W.keepIn K (.ref f21) = true)
    {f22 : Addr} {od22 an22 : Option Addr} {sl22 : Array (Option Value)} {oc22 kV22 dc22 pm22 cd22 ct22 : Value} (a22 : PySem.W.nsIn K mainGlobals "_law_right" = some (some (.ref f22))) (l22 : K.lookup f22 = some ⟨oc22, od22, .func (PySem.W.fnOf "_law_right" "_law_right" (defArgs s__law_right) (defBody s__law_right) (defScope s__law_right) .none kV22 dc22 pm22 an22 cd22 ct22), sl22⟩) (c22 : PySem.W.codeIn K cd22 "_law_right" = true) (k22 : PySem.W.keepIn K (.ref f22) = true)
    {f23 : Addr} {od23 an23 : Option Addr} {sl23 : Array (Option Value)} {oc23 kV23 dc23 pm23 cd23 ct23 : Value} (a23 : PySem.W.nsIn K mainGlobals "_law_named_right" = some (some (.ref f23))) (l23 : K.lookup f23 = some ⟨oc23, od23, .func (PySem.W.fnOf "_law_named_right" "_law_named_right" (defArgs s__law_named_right) (defBody s__law_named_right) (defScope s__law_named_right) .none kV23 dc23 pm23 an23 cd23 ct23), sl23⟩) (c23 : PySem.W.codeIn K cd23 "_law_named_right" = true) (k23 : PySem.W.keepIn K (.ref f23) = true)
    {f24 : Addr} {od24 an24 : Option Addr} {sl24 : Array (Option Value)} {oc24 kV24 dc24 pm24 cd24 ct24 : Value} (a24 : PySem.W.nsIn K mainGlobals "_law_beside_right" = some (some (.ref f24))) (l24 : K.lookup f24 = some ⟨oc24, od24, .func (PySem.W.fnOf "_law_beside_right" "_law_beside_right" (defArgs s__law_beside_right) (defBody s__law_beside_right) (defScope s__law_beside_right) .none kV24 dc24 pm24 an24 cd24 ct24), sl24⟩) (c24 : PySem.W.codeIn K cd24 "_law_beside_right" = true) (k24 : PySem.W.keepIn K (.ref f24) = true)
    {f25 : Addr} {od25 an25 : Option Addr} {sl25 : Array (Option Value)} {oc25 kV25 dc25 pm25 cd25 ct25 : Value} (a25 : PySem.W.nsIn K mainGlobals "law" = some (some (.ref f25))) (l25 : K.lookup f25 = some ⟨oc25, od25, .func (PySem.W.fnOf "law" "law" (defArgs s_law) (defBody s_law) (defScope s_law) .none kV25 dc25 pm25 an25 cd25 ct25), sl25⟩) (c25 : PySem.W.codeIn K cd25 "law" = true) (k25 : PySem.W.keepIn K (.ref f25) = true)
    (z_all : PySem.W.nsIn K mainGlobals "all" = some none)
    (z_any : PySem.W.nsIn K mainGlobals "any" = some none)
    (z_bool : PySem.W.nsIn K mainGlobals "bool" = some none)
    (z_enumerate : PySem.W.nsIn K mainGlobals "enumerate" = some none)
    (z_int : PySem.W.nsIn K mainGlobals "int" = some none)
    (z_isinstance : PySem.W.nsIn K mainGlobals "isinstance" = some none)
    (z_len : PySem.W.nsIn K mainGlobals "len" = some none)
    (z_list : PySem.W.nsIn K mainGlobals "list" = some none)
    (z_max : PySem.W.nsIn K mainGlobals "max" = some none)
    (z_min : PySem.W.nsIn K mainGlobals "min" = some none)
    (z_range : PySem.W.nsIn K mainGlobals "range" = some none)
    (z_set : PySem.W.nsIn K mainGlobals "set" = some none)
    (z_sorted : PySem.W.nsIn K mainGlobals "sorted" = some none)
    (z_tuple : PySem.W.nsIn K mainGlobals "tuple" = some none)
    (z_zip : PySem.W.nsIn K mainGlobals "zip" = some none)
    {tk_MOST_COLUMNS : Tok} (g_MOST_COLUMNS : PySem.W.nsIn K mainGlobals "MOST_COLUMNS" = some (some (.int 7 tk_MOST_COLUMNS)))
    {tk_MOST_HEADS : Tok} (g_MOST_HEADS : PySem.W.nsIn K mainGlobals "MOST_HEADS" = some (some (.int 6 tk_MOST_HEADS)))
    {C_NoColumn : Addr} (e_NoColumn : PySem.W.nsIn K mainGlobals "NoColumn" = some (some (.ref C_NoColumn))) (eq_NoColumn : PySem.W.excIn K C_NoColumn [.type "ValueError", .type "Exception", .type "BaseException", .type "object"] "ValueError.__new__" = true) (ek_NoColumn : PySem.W.keepIn K (.ref C_NoColumn) = true) (eb_NoColumn : PySem.W.subIn K (.ref C_NoColumn) (.type "BaseException") = some true) (et_NoColumn : PySem.W.typeIn K (.ref C_NoColumn) = some (.type "type"))
    {C_NoHead : Addr} (e_NoHead : PySem.W.nsIn K mainGlobals "NoHead" = some (some (.ref C_NoHead))) (eq_NoHead : PySem.W.excIn K C_NoHead [.type "ValueError", .type "Exception", .type "BaseException", .type "object"] "ValueError.__new__" = true) (ek_NoHead : PySem.W.keepIn K (.ref C_NoHead) = true) (eb_NoHead : PySem.W.subIn K (.ref C_NoHead) (.type "BaseException") = some true) (et_NoHead : PySem.W.typeIn K (.ref C_NoHead) = some (.type "type"))
    {C_NoOrder : Addr} (e_NoOrder : PySem.W.nsIn K mainGlobals "NoOrder" = some (some (.ref C_NoOrder))) (eq_NoOrder : PySem.W.excIn K C_NoOrder [.type "ValueError", .type "Exception", .type "BaseException", .type "object"] "ValueError.__new__" = true) (ek_NoOrder : PySem.W.keepIn K (.ref C_NoOrder) = true) (eb_NoOrder : PySem.W.subIn K (.ref C_NoOrder) (.type "BaseException") = some true) (et_NoOrder : PySem.W.typeIn K (.ref C_NoOrder) = some (.type "type"))
    {C_TooMany : Addr} (e_TooMany : PySem.W.nsIn K mainGlobals "TooMany" = some (some (.ref C_TooMany))) (eq_TooMany : PySem.W.excIn K C_TooMany [.type "ValueError", .type "Exception", .type "BaseException", .type "object"] "ValueError.__new__" = true) (ek_TooMany : PySem.W.keepIn K (.ref C_TooMany) = true) (eb_TooMany : PySem.W.subIn K (.ref C_TooMany) (.type "BaseException") = some true) (et_TooMany : PySem.W.typeIn K (.ref C_TooMany) = some (.type "type"))
    : ∃ fd : FuncData, (∀ (s : Shared) (v : Value), BindsTo s fd ⟨[v], []⟩ [("_law_script", v)]) ∧ ∀ base : Heap, K.In base → base.Ns mainGlobals mg → FnOk l.prog w K mg base (L2.CX l.prog w) 6 fa fd ["_law_script"] (spT K) := by
  have e := hfa.symm.trans (PySem.W.mg_of X G a25)
  cases e
  have F0 := fun_mk (st := s_is_whole) l0 c0 k0
  have b0 := F0.binds (ps := ["thing"]) fun _ _ _ _ _ _ us hl => match us, hl with | [_], _ => rfl
  have g0 := PySem.W.mg_of X G a0
  have F1 := fun_mk (st := s_is_upto) l1 c1 k1
  have b1 := F1.binds (ps := ["thing", "many"]) fun _ _ _ _ _ _ us hl => match us, hl with | [_, _], _ => rfl
  have g1 := PySem.W.mg_of X G a1
  have F2 := fun_mk (st := s_is_rising) l2 c2 k2
  have b2 := F2.binds (ps := ["things"]) fun _ _ _ _ _ _ us hl => match us, hl with | [_], _ => rfl
  have g2 := PySem.W.mg_of X G a2
  have F3 := fun_mk (st := s_is_head) l3 c3 k3
  have b3 := F3.binds (ps := ["thing", "many"]) fun _ _ _ _ _ _ us hl => match us, hl with | [_, _], _ => rfl
  have g3 := PySem.W.mg_of X G a3
  have F4 := fun_mk (st := s_is_layout) l4 c4 k4
  have b4 := F4.binds (ps := ["thing"]) fun _ _ _ _ _ _ us hl => match us, hl with | [_], _ => rfl
  have g4 := PySem.W.mg_of X G a4
  have F5 := fun_mk (st := s_look_at_head) l5 c5 k5
  have b5 := F5.binds (ps := ["layout", "thing"]) fun _ _ _ _ _ _ us hl => match us, hl with | [_, _], _ => rfl
  have g5 := PySem.W.mg_of X G a5
  have F6 := fun_mk (st := s_look_at_column) l6 c6 k6
  have b6 := F6.binds (ps := ["layout", "thing"]) fun _ _ _ _ _ _ us hl => match us, hl with | [_, _], _ => rfl
  have g6 := PySem.W.mg_of X G a6
  have F7 := fun_mk (st := s_having) l7 c7 k7
  have b7 := F7.binds (ps := ["heads", "column"]) fun _ _ _ _ _ _ us hl => match us, hl with | [_, _], _ => rfl
  have g7 := PySem.W.mg_of X G a7
  have F8 := fun_mk (st := s_heads_of) l8 c8 k8
  have b8 := F8.binds (ps := ["layout", "column"]) fun _ _ _ _ _ _ us hl => match us, hl with | [_, _], _ => rfl
  have g8 := PySem.W.mg_of X G a8
  have F9 := fun_mk (st := s_both) l9 c9 k9
  have b9 := F9.binds (ps := ["one", "other"]) fun _ _ _ _ _ _ us hl => match us, hl with | [_, _], _ => rfl
  have g9 := PySem.W.mg_of X G a9
  have F10 := fun_mk (st := s_common) l10 c10 k10
  have b10 := F10.binds (ps := ["layout", "one", "other"]) fun _ _ _ _ _ _ us hl => match us, hl with | [_, _, _], _ => rfl
  have g10 := PySem.W.mg_of X G a10
  have F11 := fun_mk (st := s_come_to) l11 c11 k11
  have b11 := F11.binds (ps := ["heads", "first"]) fun _ _ _ _ _ _ us hl => match us, hl with | [_, _], _ => rfl
  have g11 := PySem.W.mg_of X G a11
  have F12 := fun_mk (st := s_pieces) l12 c12 k12
  have b12 := F12.binds (ps := ["layout"]) fun _ _ _ _ _ _ us hl => match us, hl with | [_], _ => rfl
  have g12 := PySem.W.mg_of X G a12
  have F13 := fun_mk (st := s_is_order_of) l13 c13 k13
  have b13 := F13.binds (ps := ["thing", "many"]) fun _ _ _ _ _ _ us hl => match us, hl with | [_, _], _ => rfl
  have g13 := PySem.W.mg_of X G a13
  have F14 := fun_mk (st := s_named) l14 c14 k14
  have b14 := F14.binds (ps := ["layout", "order"]) fun _ _ _ _ _ _ us hl => match us, hl with | [_, _], _ => rfl
  have g14 := PySem.W.mg_of X G a14
  have F15 := fun_mk (st := s_beside) l15 c15 k15
  have b15 := F15.binds (ps := ["one", "other"]) fun _ _ _ _ _ _ us hl => match us, hl with | [_, _], _ => rfl
  have g15 := PySem.W.mg_of X G a15
  have F16 := fun_mk (st := s_without) l16 c16 k16
  have b16 := F16.binds (ps := ["layout", "head"]) fun _ _ _ _ _ _ us hl => match us, hl with | [_, _], _ => rfl
  have g16 := PySem.W.mg_of X G a16
  have F17 := fun_mk (st := s__law_cell) l17 c17 k17
  have b17 := F17.binds (ps := ["_law_script", "_law_k"]) fun _ _ _ _ _ _ us hl => match us, hl with | [_, _], _ => rfl
  have g17 := PySem.W.mg_of X G a17
  have F18 := fun_mk (st := s__law_box) l18 c18 k18
  have b18 := F18.binds (ps := ["_law_script", "_law_k"]) fun _ _ _ _ _ _ us hl => match us, hl with | [_, _], _ => rfl
  have g18 := PySem.W.mg_of X G a18
  have F19 := fun_mk (st := s__law_take) l19 c19 k19
  have b19 := F19.binds (ps := ["_law_box_here", "_law_many"]) fun _ _ _ _ _ _ us hl => match us, hl with | [_, _], _ => rfl
  have g19 := PySem.W.mg_of X G a19
  have F20 := fun_mk (st := s__law_layout) l20 c20 k20
  have b20 := F20.binds (ps := ["_law_box_here"]) fun _ _ _ _ _ _ us hl => match us, hl with | [_], _ => rfl
  have g20 := PySem.W.mg_of X G a20
  have F21 := fun_mk (st := s__law_order) l21 c21 k21
  have b21 := F21.binds (ps := ["_law_box_here", "_law_many"]) fun _ _ _ _ _ _ us hl => match us, hl with | [_, _], _ => rfl
  have g21 := PySem.W.mg_of X G a21
  have F22 := fun_mk (st := s__law_right) l22 c22 k22
  have b22 := F22.binds (ps := ["_law_layout_here"]) fun _ _ _ _ _ _ us hl => match us, hl with | [_], _ => rfl
  have g22 := PySem.W.mg_of X G a22
  have F23 := fun_mk (st := s__law_named_right) l23 c23 k23
  have b23 := F23.binds (ps := ["_law_box_here", "_law_layout_here"]) fun _ _ _ _ _ _ us hl => match us, hl with | [_, _], _ => rfl
  have g23 := PySem.W.mg_of X G a23
  have F24 := fun_mk (st := s__law_beside_right) l24 c24 k24
  have b24 := F24.binds (ps := ["_law_layout_here"]) fun _ _ _ _ _ _ us hl => match us, hl with | [_], _ => rfl
  have g24 := PySem.W.mg_of X G a24
  have F25 := fun_mk (st := s_law) l25 c25 k25
  have b25 := F25.binds (ps := ["_law_script"]) fun _ _ _ _ _ _ us hl => match us, hl with | [_], _ => rfl
  have g25 := PySem.W.mg_of X G a25
  have y_all := PySem.W.mg_none_of X G z_all
  have y_any := PySem.W.mg_none_of X G z_any
  have y_bool := PySem.W.mg_none_of X G z_bool
  have y_enumerate := PySem.W.mg_none_of X G z_enumerate
  have y_int := PySem.W.mg_none_of X G z_int
  have y_isinstance := PySem.W.mg_none_of X G z_isinstance
  have y_len := PySem.W.mg_none_of X G z_len
  have y_list := PySem.W.mg_none_of X G z_list
  have y_max := PySem.W.mg_none_of X G z_max
  have y_min := PySem.W.mg_none_of X G z_min
  have y_range := PySem.W.mg_none_of X G z_range
  have y_set := PySem.W.mg_none_of X G z_set
  have y_sorted := PySem.W.mg_none_of X G z_sorted
  have y_tuple := PySem.W.mg_none_of X G z_tuple
  have y_zip := PySem.W.mg_none_of X G z_zip
  have gg_MOST_COLUMNS := PySem.W.mg_of X G g_MOST_COLUMNS
  have gg_MOST_HEADS := PySem.W.mg_of X G g_MOST_HEADS
  have ee_NoColumn := clsX_mk (PySem.W.mg_of X G e_NoColumn) eq_NoColumn ek_NoColumn eb_NoColumn et_NoColumn
  have ee_NoHead := clsX_mk (PySem.W.mg_of X G e_NoHead) eq_NoHead ek_NoHead eb_NoHead et_NoHead
  have ee_NoOrder := clsX_mk (PySem.W.mg_of X G e_NoOrder) eq_NoOrder ek_NoOrder eb_NoOrder et_NoOrder
  have ee_TooMany := clsX_mk (PySem.W.mg_of X G e_TooMany) eq_TooMany ek_TooMany eb_TooMany et_TooMany
  refine ⟨PySem.W.fnOf "law" "law" (defArgs s_law) (defBody s_law) (defScope s_law) .none kV25 dc25 pm25 an25 cd25 ct25, fun s v => .of_eq rfl, fun base _ _ => ?_⟩
  have c__law_cell := k__law_cell (P := l.prog) (w := w) (base := base) F17 b17 g17 y_len 
  have c__law_box := k__law_box (P := l.prog) (w := w) (base := base) F18 b18 g18 y_range c__law_cell
  have c__law_take := k__law_take (P := l.prog) (w := w) (base := base) F19 b19 g19  
  have c__law_layout := k__law_layout (P := l.prog) (w := w) (base := base) F20 b20 g20 y_len y_list y_min y_range y_set y_sorted y_tuple c__law_take
  have c_is_whole := k_is_whole (P := l.prog) (w := w) (base := base) F0 b0 g0 y_bool y_int y_isinstance 
  have c_is_upto := k_is_upto (P := l.prog) (w := w) (base := base) F1 b1 g1  c_is_whole
  have c_look_at_head := k_look_at_head (P := l.prog) (w := w) (base := base) F5 b5 g5 y_len ee_NoHead c_is_upto
  have c_without := k_without (P := l.prog) (w := w) (base := base) F16 b16 g16 y_len ee_NoHead c_look_at_head
  have c_both := k_both (P := l.prog) (w := w) (base := base) F9 b9 g9 y_tuple 
  have c_come_to := k_come_to (P := l.prog) (w := w) (base := base) F11 b11 g11 y_enumerate y_sorted y_tuple c_both
  have c_pieces := k_pieces (P := l.prog) (w := w) (base := base) F12 b12 g12 y_any y_len y_range c_come_to
  have c_look_at_column := k_look_at_column (P := l.prog) (w := w) (base := base) F6 b6 g6 ee_NoColumn c_is_upto
  have c_having := k_having (P := l.prog) (w := w) (base := base) F7 b7 g7 y_enumerate y_tuple 
  have c_heads_of := k_heads_of (P := l.prog) (w := w) (base := base) F8 b8 g8  c_look_at_column c_having
  have c_common := k_common (P := l.prog) (w := w) (base := base) F10 b10 g10  c_look_at_head c_both
  have c__law_right := k__law_right (P := l.prog) (w := w) (base := base) F22 b22 g22 y_len y_list y_range y_sorted c_pieces c_heads_of c_common
  have c__law_order := k__law_order (P := l.prog) (w := w) (base := base) F21 b21 g21 y_len y_list y_range y_tuple c__law_take
  have c_is_order_of := k_is_order_of (P := l.prog) (w := w) (base := base) F13 b13 g13 y_all y_isinstance y_list y_range y_sorted y_tuple c_is_upto
  have c_named := k_named (P := l.prog) (w := w) (base := base) F14 b14 g14 y_sorted y_tuple ee_NoOrder c_is_order_of
  have c_is_rising := k_is_rising (P := l.prog) (w := w) (base := base) F2 b2 g2 y_all y_zip 
  have c_is_head := k_is_head (P := l.prog) (w := w) (base := base) F3 b3 g3 y_all y_isinstance y_tuple c_is_rising c_is_upto
  have c_is_layout := k_is_layout (P := l.prog) (w := w) (base := base) F4 b4 g4 y_all y_isinstance y_len y_tuple gg_MOST_COLUMNS gg_MOST_HEADS c_is_upto c_is_head
  have c__law_named_right := k__law_named_right (P := l.prog) (w := w) (base := base) F23 b23 g23 y_len y_range y_sorted y_tuple c__law_order c_named c__law_take c_pieces c_is_layout c_common
  have c_beside := k_beside (P := l.prog) (w := w) (base := base) F15 b15 g15 y_len y_tuple gg_MOST_COLUMNS gg_MOST_HEADS ee_TooMany 
  have c__law_beside_right := k__law_beside_right (P := l.prog) (w := w) (base := base) F24 b24 g24 y_len y_tuple c_beside c_heads_of c_pieces
  exact law_fn main (k_law F25 b25 g25 y_len y_max y_min y_range c__law_box c__law_layout c__law_take c_without c__law_right c__law_named_right c__law_beside_right c_common)
end LK04
open PySem PySem.W PyProof.Rows
set_option maxHeartbeats 0 in
theorem PySem.Challenge.cw_jointrees_k04_whole_layouts_together_holds : PySem.Challenge.rw_jointrees_k04_whole_layouts_together.Holds := by
  w_on; o_law; k_head; (case hw => w_witness2)
  k_fill
  refine L2.walk_of (l := PySem.Challenge.rw_jointrees_k04_whole_layouts_together) (n := 63) (k := 6) (x := "_law_script") (CX := fun w => L2.CX (PySem.Challenge.rw_jointrees_k04_whole_layouts_together).prog w) (sp := fun w => TL.spT _) rfl (by decide) rfl ⟨rfl, by decide, by decide⟩ (fun w h Y => PySem.W.kIn_of Y) ?F (fun _ _ a ns hl _ hS => ⟨a, ns, rfl, hS, hl, fun _ => rfl⟩) (fun _ _ _ _ _ h => TL.cx_end h)
  case F =>
    intro w mg fa h KX G hmg
    refine' LK04.all_mk LK04.main KX G hmg ?a0 ?l0 ?c0 ?k0 ?a1 ?l1 ?c1 ?k1 ?a2 ?l2 ?c2 ?k2 ?a3 ?l3 ?c3 ?k3 ?a4 ?l4 ?c4 ?k4 ?a5 ?l5 ?c5 ?k5 ?a6 ?l6 ?c6 ?k6 ?a7 ?l7 ?c7 ?k7 ?a8 ?l8 ?c8 ?k8 ?a9 ?l9 ?c9 ?k9 ?a10 ?l10 ?c10 ?k10 ?a11 ?l11 ?c11 ?k11 ?a12 ?l12 ?c12 ?k12 ?a13 ?l13 ?c13 ?k13 ?a14 ?l14 ?c14 ?k14 ?a15 ?l15 ?c15 ?k15 ?a16 ?l16 ?c16 ?k16 ?a17 ?l17 ?c17 ?k17 ?a18 ?l18 ?c18 ?k18 ?a19 ?l19 ?c19 ?k19 ?a20 ?l20 ?c20 ?k20 ?a21 ?l21 ?c21 ?k21 ?a22 ?l22 ?c22 ?k22 ?a23 ?l23 ?c23 ?k23 ?a24 ?l24 ?c24 ?k24 ?a25 ?l25 ?c25 ?k25 ?z_all ?z_any ?z_bool ?z_enumerate ?z_int ?z_isinstance ?z_len ?z_list ?z_max ?z_min ?z_range ?z_set ?z_sorted ?z_tuple ?z_zip ?g_MOST_COLUMNS ?g_MOST_HEADS ?e_NoColumn ?eq_NoColumn ?ek_NoColumn ?eb_NoColumn ?et_NoColumn ?e_NoHead ?eq_NoHead ?ek_NoHead ?eb_NoHead ?et_NoHead ?e_NoOrder ?eq_NoOrder ?ek_NoOrder ?eb_NoOrder ?et_NoOrder ?e_TooMany ?eq_TooMany ?ek_TooMany ?eb_TooMany ?et_TooMany
    (case a0 => k_is); (case l0 => k_is); (case c0 => k_is); (case k0 => k_is); (case a1 => k_is); (case l1 => k_is); (case c1 => k_is); (case k1 => k_is); (case a2 => k_is); (case l2 => k_is); (case c2 => k_is); (case k2 => k_is); (case a3 => k_is); (case l3 => k_is); (case c3 => k_is); (case k3 => k_is); (case a4 => k_is); (case l4 => k_is); (case c4 => k_is); (case k4 => k_is); (case a5 => k_is); (case l5 => k_is); (case c5 => k_is); (case k5 => k_is); (case a6 => k_is); (case l6 => k_is); (case c6 => k_is); (case k6 => k_is); (case a7 => k_is); (case l7 => k_is); (case c7 => k_is); (case k7 => k_is); (case a8 => k_is); (case l8 => k_is); (case c8 => k_is); (case k8 => k_is); (case a9 => k_is); (case l9 => k_is); (case c9 => k_is); (case k9 => k_is); (case a10 => k_is); (case l10 => k_is); (case c10 => k_is); (case k10 => k_is); (case a11 => k_is); (case l11 => k_is); (case c11 => k_is); (case k11 => k_is); (case a12 => k_is); (case l12 => k_is); (case c12 => k_is); (case k12 => k_is); (case a13 => k_is); (case l13 => k_is); (case c13 => k_is); (case k13 => k_is); (case a14 => k_is); (case l14 => k_is); (case c14 => k_is); (case k14 => k_is); (case a15 => k_is); (case l15 => k_is); (case c15 => k_is); (case k15 => k_is); (case a16 => k_is); (case l16 => k_is); (case c16 => k_is); (case k16 => k_is); (case a17 => k_is); (case l17 => k_is); (case c17 => k_is); (case k17 => k_is); (case a18 => k_is); (case l18 => k_is); (case c18 => k_is); (case k18 => k_is); (case a19 => k_is); (case l19 => k_is); (case c19 => k_is); (case k19 => k_is); (case a20 => k_is); (case l20 => k_is); (case c20 => k_is); (case k20 => k_is); (case a21 => k_is); (case l21 => k_is); (case c21 => k_is); (case k21 => k_is); (case a22 => k_is); (case l22 => k_is); (case c22 => k_is); (case k22 => k_is); (case a23 => k_is); (case l23 => k_is); (case c23 => k_is); (case k23 => k_is); (case a24 => k_is); (case l24 => k_is); (case c24 => k_is); (case k24 => k_is); (case a25 => k_is); (case l25 => k_is); (case c25 => k_is); (case k25 => k_is); (case z_all => k_is); (case z_any => k_is); (case z_bool => k_is); (case z_enumerate => k_is); (case z_int => k_is); (case z_isinstance => k_is); (case z_len => k_is); (case z_list => k_is); (case z_max => k_is); (case z_min => k_is); (case z_range => k_is); (case z_set => k_is); (case z_sorted => k_is); (case z_tuple => k_is); (case z_zip => k_is); (case g_MOST_COLUMNS => k_is); (case g_MOST_HEADS => k_is); (case e_NoColumn => k_is); (case eq_NoColumn => k_exc); (case ek_NoColumn => k_is); (case eb_NoColumn => k_is); (case et_NoColumn => k_is); (case e_NoHead => k_is); (case eq_NoHead => k_exc); (case ek_NoHead => k_is); (case eb_NoHead => k_is); (case et_NoHead => k_is); (case e_NoOrder => k_is); (case eq_NoOrder => k_exc); (case ek_NoOrder => k_is); (case eb_NoOrder => k_is); (case et_NoOrder => k_is); (case e_TooMany => k_is); (case eq_TooMany => k_exc); (case ek_TooMany => k_is); (case eb_TooMany => k_is); (case et_TooMany => k_is)
