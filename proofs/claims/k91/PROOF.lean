import PyProof.Rows.All
import Wide.All
import OpenK.AllK
import Wide.FinOn
import HandS.Text
import PyProof.Rows.ChunkLeaf
import PyProof.EqKinds
import PyProof.TupleOfGen
import PyProof.ListNew
import KE.KDictPairs
import PyProof.NeKinds
import KE.KDictZip
import KE.GoesMore
import KE.GoesZip
import HandS.Zip
import HandS.TupMul
import HandS.ForMost
import HandS.ForExc
import HandS.Deep
import HandS.Flow
import HandS.TupAny
import HandS.Conv
import KE.SortKeyHeap
import HandS.EndBits
import PyProof.CallFns
import PyProof.ReprRoads
import HandS.Style
import HandS.Iter
import KE.DataFind
import HandS.HotCalls
import HandS.ExcIs
import HandS.TryOnly
import HandS.ExcOwn
import PyProof.SeqIndex
import HandS.SetFor
import HandS.Strs
import KE.DataMinMax
import HandS.SortInts
import HandS.ExcCtx
import HandS.IsInst
import HandS.Wide
import HandS.WideBits
import KE.SortData
import KE.LtData
import KE.DataEq
import KE.KDictKeyed
import HandS.TupSets
import KE.GoesEnum
import KE.KRevSl
import HandS.Small
import HandS.SetTxt0
import HandS.More
import PyProof.Rows.StrDouble
import PyProof.Rows.StrFin3
import PyProof.Rows.StrItems
import PyProof.ReprLen
import PyProof.FitsInt
import PySem.Challenge.RW_jointrees_k91_layouts_and_tables_written
set_option Elab.async false
set_option linter.all false
set_option maxRecDepth 100000
set_option maxHeartbeats 4000000
set_option maxRecDepth 100000
namespace TL
open PySem PySem.Spec PyProof.Rows L2
def TOb (o : Obj) : Prop := o.dict = none ∧ o.slots = #[]
def TupH (u : HO) (xs : List V) : Prop := ∃ o, TOb o ∧ u = .frz o (.tup xs)
def SqU (K : PySem.W.Frag) (H : Hp) (a : Addr) (xs : List V) : Prop :=
  (∃ u, H a = some u ∧ TupH u xs) ∨
    ∃ (o : Obj) (its : Array Value) (n : Nat), K.lookup a = some o ∧ o.cls = .type "tuple" ∧ o.data = .seq its n ∧ its.size ≤ sizeLine ∧ Vals xs its.toList ∧ TOb o
theorem SqU.t {K : PySem.W.Frag} {H : Hp} {a : Addr} {xs : List V} (h : SqU K H a xs) : SqT K H a xs := by
  rcases h with ⟨u, e, o, _, rfl⟩ | ⟨o, its, n, h1, h2, h3, h4, h5, _⟩
  · exact .inl (.inr ⟨o, e⟩)
  · exact .inr ⟨o, its, n, h1, h2, h3, h4, h5⟩
theorem SqU.of {K : PySem.W.Frag} {H : Hp} {a : Addr} {xs : List V} {u : HO} (h : H a = some u) (t : TupH u xs) : SqU K H a xs := .inl ⟨u, h, t⟩
theorem SqU.same {K : PySem.W.Frag} {H H' : Hp} {a : Addr} {xs : List V} (s : Same H H') (h : SqU K H a xs) : SqU K H' a xs := by
  rcases h with ⟨u, e, t⟩ | h
  · exact .inl ⟨u, s _ _ e, t⟩
  · exact .inr h
theorem okU {P : Program} {w : World} {H : Hp} {h : Heap} {a : Addr} {xs : List V} {its : List Value} {o : Obj} (hz : xs.length ≤ sizeLine) (r : Vals xs its) (e : h.get? a = some o) (hc : o.cls = .type "tuple") {n : Nat} (hd : o.data = .seq its.toArray n) : ObjOk P w H h a (.frz o (.tup xs)) :=
  ⟨e, hz, its, r, o, e, hc, n, hd⟩
section
variable {X : Cx} {es : List Expr} {t : TA} {pos : Pos}
def tTupU (t : TA) : TE := fun σ H Q => t σ H fun xs H1 => xs.length ≤ sizeLine ∧ ∀ p u, H1 p = none → TupH u xs → Q (.ref p) (upd H1 p u)
theorem pe_tupU {x1} (h : PA X es t) : PE X (.Tuple es x1 pos) (tTupU t) := by
  refine ⟨fun pins s σ H Q I hq => ?_⟩
  refine wpAny_Tuple_spliced (thn (h.run pos pins s σ H _ I hq) fun us s1 ⟨xs, H1, I1, r, z, q⟩ => ⟨by rw [← r.length]; exact z, ?_⟩)
  have hf : H1 s1.heap.objs.size = none := I1.hok.fresh (Nat.le_refl _)
  refine ⟨.ref s1.heap.objs.size, upd H1 s1.heap.objs.size (.frz _ (.tup xs)), I1.laid (t' := s1.toks) (fun b u e => Heap.get?_push_of_some _ e) (Nat.le_refl _) (okU z r (Heap.get?_push_size _ rfl) rfl rfl), rfl, q _ _ hf ⟨_, ⟨rfl, rfl⟩, rfl⟩⟩
theorem call_tuple_ofU : CallR X (.type "tuple") (fun xs H Q => ∃ p ys, xs = [.ref p] ∧ ((SqL X.K H p ys ∧ ∀ l u, H l = none → TupH u ys → Q (.ref l) (upd H l u)) ∨ (SqT X.K H p ys ∧ Q (.ref p) H))) := by
  intro pins s σ H xs us Q I r h
  obtain ⟨p, ys, rfl, h⟩ := h
  obtain ⟨u, rfl, rx⟩ := vals1 r
  cases rx
  rcases h with ⟨hq, q⟩ | ⟨hq, q⟩
  · obtain ⟨its, r', pl, hz⟩ := I.list hq
    have hlen := r'.length
    refine call_tuple_list pl.isList (fun h' kp => ?_) (by simp only [List.size_toArray] <;> omega)
    have I1 : Inv X pins σ H { s with heap := h' } := I.kept (t' := s.toks) kp
    have I2 : Inv X pins σ (upd H h'.objs.size (.frz { cls := .type "tuple", data := .seq its.toArray } (.tup ys))) { s with heap := h'.push { cls := .type "tuple", data := .seq its.toArray } } :=
      I1.laid (t' := s.toks) (fun b o e => Heap.get?_push_of_some _ e) (Nat.le_refl _) (okU hz r' (Heap.get?_push_size _ rfl) rfl rfl)
    exact ⟨.ref h'.objs.size, _, I2, rfl, q _ _ (I1.hok.fresh (Nat.le_refl _)) ⟨_, ⟨rfl, rfl⟩, rfl⟩⟩
  · obtain ⟨its, r', pl, hz⟩ := I.tuple hq
    exact call_tuple_same pl ⟨.ref p, H, I, rfl, q⟩
def rCatU (K : PySem.W.Frag) : R2 := fun x y H Q => ∃ a b xs ys, x = .ref a ∧ y = .ref b ∧ SqT K H a xs ∧ SqT K H b ys ∧ xs.length + ys.length ≤ sizeLine ∧
  (xs = [] → Q (.ref b) H) ∧ (xs ≠ [] → ys = [] → Q (.ref a) H) ∧ (xs ≠ [] → ys ≠ [] → ∀ p u, H p = none → TupH u (xs ++ ys) → Q (.ref p) (upd H p u))
theorem op_catU : OpR X (binaryOp .Add) (rCatU X.K) := by
  intro pins s σ H x y v u Q I rx ry h
  obtain ⟨a, b, xs, ys, rfl, rfl, ha, hb, hz, q0, q1, q2⟩ := h
  by_cases hx : xs = []
  · subst hx
    cases rx
    cases ry
    obtain ⟨its, r1, p1, _⟩ := I.tuple ha
    obtain ⟨its2, r2, p2, _⟩ := I.tuple hb
    cases r1
    exact cat_tup0 p1 p2 ⟨.ref b, H, I, rfl, q0 rfl⟩
  · cases rx
    cases ry
    obtain ⟨its, r1, p1, _⟩ := I.tuple ha
    obtain ⟨its2, r2, p2, _⟩ := I.tuple hb
    refine HT.cat_tup p1 p2 (fun z => hx (r1.nil_iff.mp z)) (fun z => ⟨.ref a, H, I, rfl, q1 hx (r2.nil_iff.mp z)⟩) (fun z => ?_) (by rw [← r1.length, ← r2.length]; exact hz)
    refine ⟨.ref s.heap.objs.size, _, I.laid (t' := s.toks) (o := .frz _ (.tup (xs ++ ys))) (fun b ob q => Heap.get?_push_of_some _ q) (Nat.le_refl _) (okU (by rw [List.length_append]; exact hz) (r1.append r2) (Heap.get?_push_size _ rfl) rfl rfl), rfl, q2 hx (fun w => z (r2.nil_iff.mpr w)) _ _ (I.hok.fresh (Nat.le_refl _)) ⟨_, ⟨rfl, rfl⟩, rfl⟩⟩
def rSlU (K : PySem.W.Frag) : V → Option Int → Option Int → Hp → VK → Prop := fun x lo hi H Q => ∃ a xs, x = .ref a ∧ SqT K H a xs ∧
  (HT.sIx xs.length 0 lo = 0 ∧ HT.sIx xs.length xs.length hi = xs.length → Q (.ref a) H) ∧ (¬ (HT.sIx xs.length 0 lo = 0 ∧ HT.sIx xs.length xs.length hi = xs.length) → ∀ p u, H p = none → TupH u (cutV xs lo hi) → Q (.ref p) (upd H p u))
theorem sl_tupU : SlR X (rSlU X.K) := by
  intro pins s σ H x v vl vu lo hi sl Q I rx hs pl pu h
  obtain ⟨a, xs, rfl, hx, q1, q2⟩ := h
  cases rx
  obtain ⟨its, r, ht, hz⟩ := I.tuple hx
  have hlen : its.toArray.size = xs.length := by rw [List.size_toArray]; exact r.length.symm
  refine ⟨"tuple", _, PyProof.Rows.slot_tuple_getitem.lookup, ht.typeIs, ?_⟩
  by_cases hw : HT.sIx xs.length 0 lo = 0 ∧ HT.sIx xs.length xs.length hi = xs.length
  · exact getItem_tuple_whole ht hs pl pu (by rw [hlen]; exact hw) ⟨.ref a, H, I, rfl, q1 hw⟩
  · refine HT.getItem_tuple_cut ht hs pl pu (by rw [hlen]; exact hw) ?_ (by rw [hlen]; exact hz)
    rw [hlen]
    exact ⟨.ref s.heap.objs.size, _, I.laid (t' := s.toks) (o := .frz _ (.tup (cutV xs lo hi))) (fun b ob q => Heap.get?_push_of_some _ q) (Nat.le_refl _)
      (okU (Nat.le_trans (cutV_length xs lo hi) hz) ((r.drop (HT.sIx xs.length 0 lo)).take (HT.sIx xs.length xs.length hi - HT.sIx xs.length 0 lo)) (Heap.get?_push_size _ rfl) rfl rfl), rfl, q2 hw _ _ (I.hok.fresh (Nat.le_refl _)) ⟨_, ⟨rfl, rfl⟩, rfl⟩⟩
theorem call_divmodU : CallR X (.builtin "divmod") (fun xs H Q => ∃ i j, xs = [.int i, .int j] ∧ CDiv i j ∧ ∀ p u, H p = none → TupH u [.int (i / j), .int (i % j)] → Q (.ref p) (upd H p u)) := by
  intro pins s σ H xs us Q I r h
  obtain ⟨i, j, rfl, ⟨h1, h2⟩, q⟩ := h
  obtain ⟨u, w', rfl, ⟨t, rfl⟩, ⟨t', rfl⟩⟩ := vals2 r
  refine divmod_int (by omega) ?_ (.inl (PyProof.noPylong_small (by omega)))
  rw [Int.fdiv_eq_ediv_of_nonneg i (by omega), Int.fmod_eq_emod_of_nonneg i (by omega)]
  have hn : H s.heap.objs.size = none := I.hok.fresh (Nat.le_refl _)
  refine ⟨.ref s.heap.objs.size, _, I.laid (o := .frz _ (.tup [.int (i / j), .int (i % j)])) (fun b o e => Heap.get?_push_of_some _ e) (Nat.le_refl _) (okU (its := [.int (i / j) s.toks, .int (i % j) (s.toks + 1)]) (by simp only [List.length_cons, List.length_nil]; rw [sizeLine_eq]; decide) (.cons ⟨_, rfl⟩ (.cons ⟨_, rfl⟩ .nil)) (Heap.get?_push_size s.heap rfl) rfl rfl), rfl, q _ _ hn ⟨_, ⟨rfl, rfl⟩, rfl⟩⟩
end
def rRepU (K : PySem.W.Frag) : R2 := fun x y H Q => ∃ l k xs, x = .ref l ∧ y = .int k ∧ SqT K H l xs ∧ xs ≠ [] ∧ 2 ≤ k ∧ k ≤ 1000 ∧ xs.length ≤ 1000 ∧ ∀ p u, H p = none → TupH u (List.replicate k.toNat xs).flatten → Q (.ref p) (upd H p u)
section
variable {X : Cx}
theorem op_repU : OpR X (binaryOp .Mult) (rRepU X.K) := by
  intro pins s σ H x y v u Q I rx ry h
  obtain ⟨l, k, xs, rfl, rfl, hT, hne, h1, h2, hz, q⟩ := h
  cases rx
  obtain ⟨t, rfl⟩ := ry
  obtain ⟨its, r, ⟨⟨cls, dd, data, sl⟩, ho, hc, n, hd⟩, hs⟩ := I.tuple hT
  simp only at hc hd
  subst hc hd
  have hle : its.length = xs.length := r.length.symm
  have hn : its ≠ [] := fun e => hne (by
    rw [e] at hle
    exact List.eq_nil_of_length_eq_zero hle.symm)
  have hi : its.toArray.isEmpty = false := by
    cases its with
    | nil => exact absurd rfl hn
    | cons a b => rfl
  have hsz0 : its.toArray.size = xs.length := by rw [List.size_toArray, hle]
  have hm : ((its.toArray.size : Nat) : Int) * k ≤ 1000000 := by
    rw [hsz0]
    have a1 : ((xs.length : Nat) : Int) * k ≤ 1000 * k := Int.mul_le_mul_of_nonneg_right (by omega) (by omega)
    omega
  have flen : (List.replicate k.toNat its).flatten.length ≤ sizeLine := by
    rw [PyProof.Rows.lm_len_rep_flat, hle, sizeLine_eq]
    have a1 : k.toNat * xs.length ≤ 1000 * 1000 := Nat.mul_le_mul (by omega) hz
    omega
  have c0 : (decide (k < -(2 ^ 63)) || decide (k ≥ 2 ^ 63)) = false := by
    rw [decide_eq_false (by omega), decide_eq_false (by omega)] <;> rfl
  have c1 : (its.toArray.isEmpty || k == 1) = false := by
    rw [hi, Bool.false_or]
    exact beq_eq_false_iff_ne.mpr (by omega)
  have c2 : (decide (k ≤ 0) || its.toArray.isEmpty) = false := by
    rw [hi, Bool.or_false]
    exact decide_eq_false (by omega)
  have c4 : Builtin.Tuple.tupleTooMany (((its.toArray.size : Nat) : Int) * k) = false := by
    unfold Builtin.Tuple.tupleTooMany
    rw [sizeLine_eq]
    exact decide_eq_false (by omega)
  refine wpAny_binaryOp_repeat_ref (T := "tuple") (U := "int") (by decide) ⟨_, ho, rfl⟩ (fun s' => typeIs_int s' k t) noFill_tuple_mul F.fills_int_mul F.slot_int_rmul repeat_tuple F.slot_int_index.lookup
    (call_meets F.slot_int_rmul (typeIs_int s k t) F.entry_int_rmul (F.args_int_rmul_2 _ _) (int_rmul_tuple k t l its.toArray n dd sl)
      ⟨ho, rfl, ⟨_, ho, rfl⟩, call_meets F.slot_tuple_mul ⟨_, ho, rfl⟩ F.entry_tuple_mul (F.args_tuple_mul_2 _ _) (tuple_mulW l its.toArray n dd sl k t c0 c1 c2 (by omega) c4 (by rw [size_rep, List.size_toArray]; exact flen)) ⟨ho, ?_⟩⟩)
  rw [size_rep]
  have a1 : k.toNat * xs.length ≤ 1000 * 1000 := Nat.mul_le_mul (by omega) hz
  refine ⟨.ref s.heap.objs.size, _, I.laid (t' := s.toks) (o := .frz _ (.tup (List.replicate k.toNat xs).flatten)) (fun b ob q => Heap.get?_push_of_some _ q) (Nat.le_refl _) (okU (by rw [PyProof.Rows.lm_len_rep_flat, sizeLine_eq]; omega) (r.rep k.toNat) (Heap.get?_push_size _ rfl) rfl rfl), rfl, q _ _ (I.hok.fresh (Nat.le_refl _)) ⟨_, ⟨rfl, rfl⟩, rfl⟩⟩
end
end TL
namespace TL
open PySem PySem.Spec PyProof.Rows L2
inductive Kd where
  | l
  | t
def IsIt : Kd → Heap → Addr → Addr → Nat → Prop
  | .l, h, it, a, i => h.IsListIter it a i
  | .t, h, it, a, i => h.IsTupleIter it a i
def IsSq : Kd → Heap → Addr → Array Value → Prop
  | .l, h, a, xs => h.IsList a xs
  | .t, h, a, xs => h.IsTuple a xs
def SqK : Kd → PySem.W.Frag → Hp → Addr → List V → Prop
  | .l, K, H, a, xs => SqL K H a xs
  | .t, K, H, a, xs => SqT K H a xs
def itOb : Kd → Addr → Obj
  | .l, a => { cls := .type "list_iterator", data := .fields #[.ref a, .int 0 0] }
  | .t, a => { cls := .type "tuple_iterator", data := .fields #[.ref a, .int 0 0] }
theorem itOb_is {k : Kd} {h : Heap} {it a : Addr} (e : h.get? it = some (itOb k a)) : IsIt k h it a 0 := by
  cases k <;> exact ⟨_, e, rfl, rfl⟩
theorem IsIt.obj {k : Kd} {h : Heap} {it a : Addr} {i : Nat} (x : IsIt k h it a i) : ∃ o, h.get? it = some o ∧ ∀ v, o.data ≠ .cell v := by
  cases k <;> (obtain ⟨o, e, _, d⟩ := x; exact ⟨o, e, fun v q => by rw [d] at q; cases q⟩)
theorem IsIt.keep {k : Kd} {h h' : Heap} {it a : Addr} {i : Nat} (x : IsIt k h it a i) (q : ∀ o, h.get? it = some o → h'.get? it = some o) : IsIt k h' it a i := by
  cases k <;> (obtain ⟨o, e, r⟩ := x; exact ⟨o, q _ e, r⟩)
theorem SqK.is {k : Kd} {X : Cx} {pins : List (Addr × Obj)} {σ : L2.St} {H : Hp} {s : Shared} {a : Addr} {xs : List V} (h : SqK k X.K H a xs) (I : Inv X pins σ H s) : ∃ its : List Value, Vals xs its ∧ IsSq k s.heap a its.toArray ∧ xs.length ≤ sizeLine ∧ a < s.heap.objs.size := by
  cases k with
  | l =>
    obtain ⟨its, r, p, z⟩ := I.list h
    exact ⟨its, r, p.isList, z, p.lt⟩
  | t =>
    obtain ⟨its, r, p, z⟩ := I.tuple h
    exact ⟨its, r, p, z, let ⟨_, e, _⟩ := p; Heap.lt_size e⟩
theorem SqK.inj {k : Kd} {X : Cx} {pins : List (Addr × Obj)} {σ : L2.St} {H : Hp} {s : Shared} {a : Addr} {xs ys : List V} (h : SqK k X.K H a xs) (h' : SqK k X.K H a ys) (I : Inv X pins σ H s) : xs = ys := by
  cases k with
  | l => exact I.list_inj h h'
  | t => exact I.tuple_inj h h'
theorem drawsK (k : Kd) {prog : Program} {w : World} {A : Around} (hh : A.handled = none) (it a : Addr) (hne : a ≠ it) (items : Array Value) :
    Draws prog w A it [it, a] items.size (fun i v => items[i]? = some v) (fun i h => IsIt k h it a i ∧ IsSq k h a items) := by
  cases k with
  | l => exact Draws.list hh it a hne items
  | t => exact Draws.tuple hh it a hne items
theorem beginsK (k : Kd) (a : Addr) (items : Array Value) : Begins (.ref a) (itOb k a) fun h => IsSq k h a items := by
  cases k with
  | l => exact begins_list a items
  | t => exact begins_tuple a items
def ItzU (K : PySem.W.Frag) (k1 k2 : Kd) (a b : Addr) : It :=
  ⟨fun i H => ∃ (xs ys : List V) (x y : V), SqK k1 K H a xs ∧ SqK k2 K H b ys ∧ xs[i]? = some x ∧ ys[i]? = some y,
    fun i H v H' => ∃ T x y u, v = .ref T ∧ H T = none ∧ TupH u [x, y] ∧ H' = upd H T u ∧ (∀ xs, SqK k1 K H a xs → xs[i]? = some x) ∧ ∀ ys, SqK k2 K H b ys → ys[i]? = some y,
    fun i H => ∃ xs ys : List V, SqK k1 K H a xs ∧ SqK k2 K H b ys ∧ i ≤ xs.length ∧ i ≤ ys.length ∧ (i = xs.length ∨ i = ys.length)⟩
theorem zipSep (B a b : Nat) (ha : a < B) (hb : b < B) : ZipSep2 (B + 4) (B + 2) (B + 3) B (B + 1) [B, a] [B + 1, b] := by
  have nn : ∀ x y : Nat, x ≠ y → @Ne Addr x y := fun _ _ h => h
  have n2 : ∀ x y z : Nat, x ≠ y → x ≠ z → ¬ @Membership.mem Addr (List Addr) _ [y, z] x := fun x y z h1 h2 hm => by
    rcases List.mem_cons.mp hm with e | e
    · exact h1 e
    · exact h2 (List.mem_singleton.mp e)
  exact ⟨nn _ _ (by omega), nn _ _ (by omega), nn _ _ (by omega), nn _ _ (by omega), List.mem_cons_self, n2 _ _ _ (by omega) (by omega), n2 _ _ _ (by omega) (by omega), nn _ _ (by omega), List.mem_cons_self, n2 _ _ _ (by omega) (by omega), n2 _ _ _ (by omega) (by omega), n2 _ _ _ (by omega) (by omega), n2 _ _ _ (by omega) (by omega)⟩
theorem turn_zipU {P : Program} {w : World} {K : PySem.W.Frag} {elts : List Expr} {kk : Nat} {tpos : Pos} {k1 k2 : Kd} {a b z TI TO i1 i2 : Addr} (D : ZipSep2 z TI TO i1 i2 [i1, a] [i2, b]) :
    Turn P w K (.Tuple elts kk tpos) (ItzU K k1 k2 a b) [z, TI, TO, i1, i2] z (fun i h => IsZip h z TI TO .none ∧ IsTupOf2 h TI (.ref i1) (.ref i2) ∧ (∃ x y, IsTupOf2 h TO x y) ∧ IsIt k1 h i1 a i ∧ IsIt k2 h i2 b i) where
  mem := by simp
  obj := fun i h st c hc => by
    obtain ⟨hz, hTI, ⟨x, y, hTO⟩, h1, h2⟩ := st
    have e' : c = z ∨ c = TI ∨ c = TO ∨ c = i1 ∨ c = i2 := by simpa using hc
    rcases e' with q | q | q | q | q
    · rw [q]; exact ⟨_, hz, fun v q => nomatch q⟩
    · rw [q]; exact ⟨_, hTI, fun v q => nomatch q⟩
    · rw [q]; exact ⟨_, hTO, fun v q => nomatch q⟩
    · rw [q]; exact h1.obj
    · rw [q]; exact h2.obj
  keep := fun i h h' st k => by
    obtain ⟨hz, hTI, ⟨x, y, hTO⟩, h1, h2⟩ := st
    exact ⟨k z (by simp) _ hz, k TI (by simp) _ hTI, ⟨x, y, k TO (by simp) _ hTO⟩, h1.keep fun o q => k i1 (by simp) o q, h2.keep fun o q => k i2 (by simp) o q⟩
  item := by
    intro X hP hw hK hc i pins s σ H E I hf st hg
    subst hP hw hK
    obtain ⟨hz, hTI, ⟨x0, y0, hTO⟩, h1, h2⟩ := st
    obtain ⟨xs, ys, x, y, hqx, hqy, hx, hy⟩ := hg
    obtain ⟨its, rv, p, _, la⟩ := hqx.is I
    obtain ⟨its2, rv2, p2, _, lb⟩ := hqy.is I
    obtain ⟨u, hu, ru⟩ := rv.get hx
    obtain ⟨u2, hu2, ru2⟩ := rv2.get hy
    have hzl : z < s.heap.objs.size := Heap.lt_size hz
    have l1 : i < its.toArray.size := by
      rw [List.size_toArray]
      exact (List.getElem?_eq_some_iff.mp hu).1
    have l2 : i < its2.toArray.size := by
      rw [List.size_toArray]
      exact (List.getElem?_eq_some_iff.mp hu2).1
    have ne1 : a ≠ i1 := fun e => by
      have q := (hf i1 (by simp)).1
      cases k1 with
      | l => exact absurd (show SqL X.K H i1 xs from e ▸ hqx) (fun z => by
          obtain ⟨_, _, pl, _⟩ := I.list z
          obtain ⟨o, e1, c1, _⟩ := h1
          obtain ⟨o2, n2, e2, c2, _⟩ := pl
          rw [e1] at e2
          cases e2
          rw [c1] at c2
          exact absurd c2 (by decide))
      | t => exact absurd (show SqT X.K H i1 xs from e ▸ hqx) (fun z => by
          obtain ⟨_, _, ⟨o2, e2, c2, _⟩, _⟩ := I.tuple z
          obtain ⟨o, e1, c1, _⟩ := h1
          rw [e1] at e2
          cases e2
          rw [c1] at c2
          exact absurd c2 (by decide))
    have ne2 : b ≠ i2 := fun e => by
      cases k2 with
      | l => exact absurd (show SqL X.K H i2 ys from e ▸ hqy) (fun z => by
          obtain ⟨_, _, pl, _⟩ := I.list z
          obtain ⟨o, e1, c1, _⟩ := h2
          obtain ⟨o2, n2, e2, c2, _⟩ := pl
          rw [e1] at e2
          cases e2
          rw [c1] at c2
          exact absurd c2 (by decide))
      | t => exact absurd (show SqT X.K H i2 ys from e ▸ hqy) (fun z => by
          obtain ⟨_, _, ⟨o2, e2, c2, _⟩, _⟩ := I.tuple z
          obtain ⟨o, e1, c1, _⟩ := h2
          rw [e1] at e2
          cases e2
          rw [c1] at c2
          exact absurd c2 (by decide))
    refine wpAny_pyNext_zipD2_item D (drawsK k1 (A := X.A.in1) (I.ok.hd hc) i1 a ne1 its.toArray) (drawsK k2 (A := X.A.in1) (I.ok.hd hc) i2 b ne2 its2.toArray) hz hTI hTO ⟨h1, p⟩ ⟨h2, p2⟩ l1 l2 fun v1 v2 h' tk e1 e2 z' TO' ⟨h1', _⟩ ⟨h2', _⟩ hT hsz hk => ?_
    obtain rfl : v1 = u := by
      have : its[i]? = some v1 := by simpa using e1
      rw [hu] at this
      exact (Option.some.inj this).symm
    obtain rfl : v2 = u2 := by
      have : its2[i]? = some v2 := by simpa using e2
      rw [hu2] at this
      exact (Option.some.inj this).symm
    refine ⟨_, rfl, wpAny_letOwnedTupleGo_zip (s := { s with heap := h', toks := tk }) z' fun h'' z'' sb => ?_⟩
    have hT2 : h''.get? s.heap.objs.size = some { cls := .type "tuple", data := .seq #[v1, v2] } := (sb.2 _ (Nat.ne_of_gt hzl)).trans hT
    have new : ObjOk X.prog X.w (upd H s.heap.objs.size (.frz { cls := .type "tuple", data := .seq #[v1, v2] } (.tup [x, y]))) h'' s.heap.objs.size (.frz { cls := .type "tuple", data := .seq #[v1, v2] } (.tup [x, y])) := okU (its := [v1, v2]) (by show 2 ≤ sizeLine; decide) (.cons ru (.cons ru2 .nil)) hT2 rfl rfl
    have I1 : Inv X pins σ (upd H s.heap.objs.size (.frz { cls := .type "tuple", data := .seq #[v1, v2] } (.tup [x, y]))) { s with heap := h'', toks := tk } :=
      I.turnedNew (ch := [z, TI, TO, i1, i2]) (fun c o hb q => (sb.2 c (fun q' => hb (by simp [q']))).trans (hk c o (fun q' => hb (by simp [q'])) (fun q' => hb (by simp [q'])) (fun q' => hb (by simp [q'])) (fun q' => hb (by simp [q'])) q)) hf (Nat.le_refl _) new
    refine ⟨.ref s.heap.objs.size, _, I1, rfl, ⟨_, x, y, _, rfl, I.hok.fresh (Nat.le_refl _), ⟨_, ⟨rfl, rfl⟩, rfl⟩, rfl, fun l hl => by rw [hl.inj hqx I]; exact hx, fun l hl => by rw [hl.inj hqy I]; exact hy⟩, ⟨z'', ?_, ⟨v1, v2, ?_⟩, ?_, ?_⟩, fun c hcm => ?_⟩
    · exact (sb.2 _ D.TIz).trans (hk _ _ D.TIz D.TITO D.TIi1 D.TIi2 hTI)
    · exact (sb.2 _ D.TOz).trans TO'
    · exact h1'.keep fun o q => (sb.2 _ (Ne.symm D.zi1)).trans q
    · exact h2'.keep fun o q => (sb.2 _ (Ne.symm D.zi2)).trans q
    · have hlt : c < s.heap.objs.size := by
        have e' : c = z ∨ c = TI ∨ c = TO ∨ c = i1 ∨ c = i2 := by simpa using hcm
        rcases e' with q | q | q | q | q
        · rw [q]; exact hzl
        · rw [q]; exact Heap.lt_size hTI
        · rw [q]; exact Heap.lt_size hTO
        · rw [q]; obtain ⟨_, e1, _⟩ := h1.obj; exact Heap.lt_size e1
        · rw [q]; obtain ⟨_, e2, _⟩ := h2.obj; exact Heap.lt_size e2
      rw [upd_ne (Nat.ne_of_lt hlt)]
      exact (hf c hcm).1
  done := by
    intro X hP hw hK hc i pins s σ H E I hf st hg
    subst hP hw hK
    obtain ⟨hz, hTI, ⟨x0, y0, hTO⟩, h1, h2⟩ := st
    obtain ⟨xs, ys, hqx, hqy, g1, g2, hend⟩ := hg
    obtain ⟨its, rv, p, _, la⟩ := hqx.is I
    obtain ⟨its2, rv2, p2, _, lb⟩ := hqy.is I
    have l1 := rv.length
    have l2 := rv2.length
    have ne1 : a ≠ i1 := fun e => by
      cases k1 with
      | l => exact absurd (show SqL X.K H i1 xs from e ▸ hqx) (fun z => by
          obtain ⟨_, _, pl, _⟩ := I.list z
          obtain ⟨o, e1, c1, _⟩ := h1
          obtain ⟨o2, n2, e2, c2, _⟩ := pl
          rw [e1] at e2
          cases e2
          rw [c1] at c2
          exact absurd c2 (by decide))
      | t => exact absurd (show SqT X.K H i1 xs from e ▸ hqx) (fun z => by
          obtain ⟨_, _, ⟨o2, e2, c2, _⟩, _⟩ := I.tuple z
          obtain ⟨o, e1, c1, _⟩ := h1
          rw [e1] at e2
          cases e2
          rw [c1] at c2
          exact absurd c2 (by decide))
    have ne2 : b ≠ i2 := fun e => by
      cases k2 with
      | l => exact absurd (show SqL X.K H i2 ys from e ▸ hqy) (fun z => by
          obtain ⟨_, _, pl, _⟩ := I.list z
          obtain ⟨o, e1, c1, _⟩ := h2
          obtain ⟨o2, n2, e2, c2, _⟩ := pl
          rw [e1] at e2
          cases e2
          rw [c1] at c2
          exact absurd c2 (by decide))
      | t => exact absurd (show SqT X.K H i2 ys from e ▸ hqy) (fun z => by
          obtain ⟨_, _, ⟨o2, e2, c2, _⟩, _⟩ := I.tuple z
          obtain ⟨o, e1, c1, _⟩ := h2
          rw [e1] at e2
          cases e2
          rw [c1] at c2
          exact absurd c2 (by decide))
    exact wpAny_pyNext_zipD2_end D (drawsK k1 (A := X.A.in1) (I.ok.hd hc) i1 a ne1 its.toArray) (drawsK k2 (A := X.A.in1) (I.ok.hd hc) i2 b ne2 its2.toArray) hz hTI hTO ⟨h1, p⟩ ⟨h2, p2⟩ (by rw [List.size_toArray]; omega) (by rw [List.size_toArray]; omega) (by rw [List.size_toArray, List.size_toArray]; omega) fun h' tk hk => ⟨rfl, I.turnedL (t' := tk) (ch := [z, TI, TO, i1, i2]) (fun c o hb q =>
      hk c o (fun q' => hb (by simp [q'])) (fun q' => hb (by simp [q'])) (fun q' => hb (by simp [q'])) (fun q' => hb (by simp [q'])) q) hf⟩
  self := fun A i s Q E st h => wpAny_pyIter_zip st.1 h
def iZipU (K : PySem.W.Frag) (ta : TA) : TI := fun σ H R => ta σ H fun vs H1 => ∃ k1 k2 a b xs ys, vs = [.ref a, .ref b] ∧ SqK k1 K H1 a xs ∧ SqK k2 K H1 b ys ∧ R (ItzU K k1 k2 a b) H1
theorem pi_zipU {X : Cx} {e e2 : Expr} {ta : TA} {p pos tpos : Pos} {elts : List Expr} {kk : Nat} (hg : Gl X "zip") (hm : X.mg "zip" = none) (ha : PA X [e, e2] ta)
    (hs : starEach [e, e2] X.env = (false, eval e X.env) :: starEach [e2] X.env := by rfl) (hpl : (backTo pos (starEach [e2] X.env)).any (·.1) = false := by rfl) :
    PI X (.Tuple elts kk tpos) (.Call (.Name "zip" p) [e, e2] [] pos) (iZipU X.K ta) := by
  refine ⟨fun pins s σ H R I h => ?_⟩
  refine Call_ (ld_blt I hg hm PyProof.Rows.boot_zip (PyProof.Rows.callWith_type1 (thn (ha.run pos pins s σ H _ I h) fun us s1 ⟨vs, H1, I1, r1, q1⟩ => ?_) hs hpl))
  obtain ⟨k1, k2, a, b, xs, ys, ex, hqx, hqy, q⟩ := q1
  subst ex
  cases r1 with
  | cons r rr =>
    cases rr with
    | cons r' rr =>
      cases rr
      cases r
      cases r'
      have fresh5 : ∀ c, c ∈ [s1.heap.objs.size + 4, s1.heap.objs.size + 2, s1.heap.objs.size + 3, s1.heap.objs.size, s1.heap.objs.size + 1] → FpOk X pins H1 c := fun c hcm => by
        have e' : c = s1.heap.objs.size + 4 ∨ c = s1.heap.objs.size + 2 ∨ c = s1.heap.objs.size + 3 ∨ c = s1.heap.objs.size ∨ c = s1.heap.objs.size + 1 := by simpa using hcm
        have hle : s1.heap.objs.size ≤ c := by
          rcases e' with z | z | z | z | z
          · rw [z]; exact Nat.le_add_right _ _
          · rw [z]; exact Nat.le_add_right _ _
          · rw [z]; exact Nat.le_add_right _ _
          · rw [z]; exact Nat.le_refl _
          · rw [z]; exact Nat.le_add_right _ _
        exact I1.fpOk hle (I1.hok.fresh hle)
      obtain ⟨its, rv, p1, _, la⟩ := hqx.is I1
      obtain ⟨its2, rv2, p2, _, lb⟩ := hqy.is I1
      refine zip_begins2 (beginsK k1 a its.toArray) (beginsK k2 b its2.toArray) p1 p2 fun h' hz hTI hTO h1 h2 hsz hk => wpAny_pyIter_zip hz ?_
      have I2 : Inv X pins σ H1 { s1 with heap := h' } := I1.kept (t' := s1.toks) hk
      exact ⟨s1.heap.objs.size + 4, [s1.heap.objs.size + 4, s1.heap.objs.size + 2, s1.heap.objs.size + 3, s1.heap.objs.size, s1.heap.objs.size + 1], _, _, H1, rfl, I2, turn_zipU (zipSep s1.heap.objs.size a b la lb), ⟨hz, hTI, ⟨_, _, hTO⟩, itOb_is h1, itOb_is h2⟩, fresh5, q⟩
end TL
namespace TL
open PySem PySem.Spec PyProof.Rows L2
section
variable {P : Program} {w : World} {A : Around} {E : Value → Shared → Prop} {s : Shared}
abbrev obS (w : World) : Obj :=
  { cls := .type "set", dict := none,
    data := .set #[] 0 (.fresh 0 0 (!w.params.followText "set-order")) }
set_option maxHeartbeats 6400000 in
theorem setOfL {l : Addr} {vs : Array Value} (ks : List Int) {Q : Value → Shared → Prop} (cal : A.handled = none) (isl : s.heap.IsList l vs)
    (iv : IntsAre vs.toList ks) (few : ks.length + 1 < scanBound)
    (fin : ∀ (g : Heap) (tk c : Nat), SetR w g s.heap.objs.size (fun j => decide (j ∈ ks)) c → c ≤ ks.length →
      (∀ b o, s.heap.get? b = some o → g.get? b = some o) → Q (.ref s.heap.objs.size) { s with heap := g, toks := tk }) :
    wpAny (model P w) A (call (.type "set") [.ref l]) Q E s := by
  have szv : vs.size = ks.length := by
    have := IntsAre.length iv
    simpa using this
  obtain ⟨c0, tl0, mro0⟩ := F.called_set.mro
  have mad0 := F.called_set.made
  have sub0 := F.called_set.sub
  refine wpAny_call ?_
  refine codeAny_of_tree ?_
  show wpAny _ _ (callAny (Value.type "set") _) _ _ _
  refine wpAny_pure ?_
  refine ⟨Code.quiet_builtin _ ?_, ?_⟩
  · decide +kernel
  refine codeAny_builtin F.entry_type_call ?_
  rw [Around.under_plain (weight_type_call_type "set" [Value.ref l] []) (by rfl)]
  have nt0 := F.called_set.notType
  have cc0 := F.called_set.canCreate
  have tc0 := F.typeCall_set_1 (.ref l)
  repeat (any_goals (first | assumption | wp_step))
  refine codeAny_mono (code_set_led1 (.ref l) (E := E)
    (Q₁ := fun ob t => ob = .ref s.heap.objs.size ∧ t = { s with heap := s.heap.push (obS w) }) ⟨rfl, rfl⟩) fun rr tt hh => ?_
  match rr, hh with
  | .error e, hh => exact hh
  | .ok .next, hh => exact hh.elim
  | .ok .brk, hh => exact hh.elim
  | .ok .cont, hh => exact hh.elim
  | .ok (.ret ob), hh =>
    obtain ⟨e1, e2⟩ := hh
    subst e1
    subst e2
    have atS : (s.heap.push (obS w)).get? s.heap.objs.size = some (obS w) := Heap.get?_push_size _ rfl
    have tyS : Shared.TypeIs { s with heap := s.heap.push (obS w) } (.ref s.heap.objs.size) "set" := ⟨_, atS, rfl⟩
    have il0 := F.called_set.init.lookup
    have ib0 := F.called_set.init.bind (.ref s.heap.objs.size)
    repeat (any_goals (first | assumption | wp_step))
    refine codeAny_mono (codeAny_call_builtin
      (R := wants (fun r t => r = .none ∧ ∃ g tk c, t = { s with heap := g, toks := tk } ∧ SetR w g s.heap.objs.size (fun j => decide (j ∈ ks)) c ∧ c ≤ ks.length ∧
        (∀ b o, s.heap.get? b = some o → g.get? b = some o)) E) F.called_set.init.plain F.entry_set_init (check_set_init_1 tyS ?_)) fun r2 t2 h2 => ?_
    · obtain ⟨⟨c1, d1, a1, sl1⟩, at1, cl1, n1, da1⟩ := isl
      simp only at cl1 da1
      subst cl1
      subst da1
      have at1' := Heap.get?_push_of_some (obS w) at1
      have subA := F.sub_list_set
      have subB := F.sub_list_frozenset
      have notD : (Value.type "list" == Value.type "dict") = false := by decide
      have isl' : (s.heap.push (obS w)).IsList l vs := ⟨_, at1', rfl, n1, rfl⟩
      unfold Builtin.«set.__init__» noKeywords Builtin.Frozenset.updateFrom
      generalize hIt : pyIter = It0
      wp_walk
      subst hIt
      refine wpAny_pyIter_list isl' ?_
      refine wpAny_bind (wpAny_runValue ?_)
      have ltl : l < s.heap.objs.size := Heap.lt_size at1
      have cal3 : A.in1.in1.in1.handled = none := by simpa using cal
      have szP : (s.heap.push (obS w)).objs.size = s.heap.objs.size + 1 := Heap.size_push _ _
      have neP : l ≠ (s.heap.push (obS w)).objs.size := by
        rw [szP]
        exact Nat.ne_of_lt (Nat.lt_succ_of_lt ltl)
      have notIn : s.heap.objs.size ∉ [(s.heap.push (obS w)).objs.size, l] := by
        rw [szP]
        intro hm
        rcases List.mem_cons.mp hm with z | z
        · exact absurd z (Nat.ne_of_lt (Nat.lt_succ_self _))
        · exact absurd (List.mem_singleton.mp z) (Nat.ne_of_gt ltl)
      have valI : ∀ (i : Nat) (v : Value), vs[i]? = some v → ∃ k t, ks[i]? = some k ∧ v = .int k t := by
        intro i v hv
        have lt : i < ks.length := by
          rw [← szv]
          exact (Array.getElem?_eq_some_iff.mp hv).1
        obtain ⟨t, e⟩ := IntsAre.int_at iv i v (by
          rw [Array.getElem?_toList]
          exact hv)
        refine ⟨ks[i], t, List.getElem?_eq_getElem lt, ?_⟩
        rw [e, List.getD_eq_getElem?_getD, List.getElem?_eq_getElem lt]
        rfl
      refine set_update_ints ((Walks.list cal3 _ l neP vs).toS) s.heap.objs.size notIn ks szv few valI (vs.size - 0) 0 _ (by omega) (Nat.zero_le _)
        ⟨⟨_, Heap.get?_push_size _ rfl, rfl, rfl⟩, isl'.push _⟩ ?start ?done
      case start =>
        exact ⟨0, Nat.le_refl 0, setR_new_at (Heap.get?_push_of_some _ atS)⟩
      case done =>
        intro t c mv lec st
        obtain ⟨g, gg, dd, tk, oo⟩ := t
        obtain rfl : gg = s.gens := mv.gens
        obtain rfl : dd = s.drawn := mv.drawn
        obtain rfl : oo = s.os := mv.os
        show wpAny _ _ _ _ _ _
        refine wpAny_pure ?_
        show wpAny _ _ (ret Value.none) _ _ _
        refine wpAny_pure ⟨rfl, g, tk, c, rfl, st, by rw [← szv]; exact lec, fun b o e => ?_⟩
        have lt := Heap.lt_size e
        refine mv.heap b o (fun hm => ?_) (Heap.get?_push_of_some _ (Heap.get?_push_of_some _ e))
        rw [szP] at hm
        rcases List.mem_cons.mp hm with z | z
        · exact absurd z (Nat.ne_of_lt lt)
        · exact absurd (List.mem_singleton.mp z) (Nat.ne_of_lt (Nat.lt_succ_of_lt lt))
    · match r2, h2 with
      | .error e, h2 => exact h2
      | .ok .next, h2 => exact h2.elim
      | .ok .brk, h2 => exact h2.elim
      | .ok .cont, h2 => exact h2.elim
      | .ok (.ret r), h2 =>
        obtain ⟨e0, g, tk, c, e3, st, lec, kp⟩ := h2
        subst e0
        subst e3
        repeat (any_goals (first | assumption | wp_step))
        exact fin _ _ _ st lec kp
set_option maxHeartbeats 6400000 in
theorem setOfT {l : Addr} {vs : Array Value} (ks : List Int) {Q : Value → Shared → Prop} (cal : A.handled = none) (isl : s.heap.IsTuple l vs)
    (iv : IntsAre vs.toList ks) (few : ks.length + 1 < scanBound)
    (fin : ∀ (g : Heap) (tk c : Nat), SetR w g s.heap.objs.size (fun j => decide (j ∈ ks)) c → c ≤ ks.length →
      (∀ b o, s.heap.get? b = some o → g.get? b = some o) → Q (.ref s.heap.objs.size) { s with heap := g, toks := tk }) :
    wpAny (model P w) A (call (.type "set") [.ref l]) Q E s := by
  have szv : vs.size = ks.length := by
    have := IntsAre.length iv
    simpa using this
  obtain ⟨c0, tl0, mro0⟩ := F.called_set.mro
  have mad0 := F.called_set.made
  have sub0 := F.called_set.sub
  refine wpAny_call ?_
  refine codeAny_of_tree ?_
  show wpAny _ _ (callAny (Value.type "set") _) _ _ _
  refine wpAny_pure ?_
  refine ⟨Code.quiet_builtin _ ?_, ?_⟩
  · decide +kernel
  refine codeAny_builtin F.entry_type_call ?_
  rw [Around.under_plain (weight_type_call_type "set" [Value.ref l] []) (by rfl)]
  have nt0 := F.called_set.notType
  have cc0 := F.called_set.canCreate
  have tc0 := F.typeCall_set_1 (.ref l)
  repeat (any_goals (first | assumption | wp_step))
  refine codeAny_mono (code_set_led1 (.ref l) (E := E)
    (Q₁ := fun ob t => ob = .ref s.heap.objs.size ∧ t = { s with heap := s.heap.push (obS w) }) ⟨rfl, rfl⟩) fun rr tt hh => ?_
  match rr, hh with
  | .error e, hh => exact hh
  | .ok .next, hh => exact hh.elim
  | .ok .brk, hh => exact hh.elim
  | .ok .cont, hh => exact hh.elim
  | .ok (.ret ob), hh =>
    obtain ⟨e1, e2⟩ := hh
    subst e1
    subst e2
    have atS : (s.heap.push (obS w)).get? s.heap.objs.size = some (obS w) := Heap.get?_push_size _ rfl
    have tyS : Shared.TypeIs { s with heap := s.heap.push (obS w) } (.ref s.heap.objs.size) "set" := ⟨_, atS, rfl⟩
    have il0 := F.called_set.init.lookup
    have ib0 := F.called_set.init.bind (.ref s.heap.objs.size)
    repeat (any_goals (first | assumption | wp_step))
    refine codeAny_mono (codeAny_call_builtin
      (R := wants (fun r t => r = .none ∧ ∃ g tk c, t = { s with heap := g, toks := tk } ∧ SetR w g s.heap.objs.size (fun j => decide (j ∈ ks)) c ∧ c ≤ ks.length ∧
        (∀ b o, s.heap.get? b = some o → g.get? b = some o)) E) F.called_set.init.plain F.entry_set_init (check_set_init_1 tyS ?_)) fun r2 t2 h2 => ?_
    · obtain ⟨⟨c1, d1, a1, sl1⟩, at1, cl1, n1, da1⟩ := isl
      simp only at cl1 da1
      subst cl1
      subst da1
      have at1' := Heap.get?_push_of_some (obS w) at1
      have subA := F.sub_tuple_set
      have subB := F.sub_tuple_frozenset
      have notD : (Value.type "tuple" == Value.type "dict") = false := by decide
      have isl' : (s.heap.push (obS w)).IsTuple l vs := ⟨_, at1', rfl, n1, rfl⟩
      unfold Builtin.«set.__init__» noKeywords Builtin.Frozenset.updateFrom
      generalize hIt : pyIter = It0
      wp_walk
      subst hIt
      refine wpAny_pyIter_tuple isl' ?_
      refine wpAny_bind (wpAny_runValue ?_)
      have ltl : l < s.heap.objs.size := Heap.lt_size at1
      have cal3 : A.in1.in1.in1.handled = none := by simpa using cal
      have szP : (s.heap.push (obS w)).objs.size = s.heap.objs.size + 1 := Heap.size_push _ _
      have neP : l ≠ (s.heap.push (obS w)).objs.size := by
        rw [szP]
        exact Nat.ne_of_lt (Nat.lt_succ_of_lt ltl)
      have notIn : s.heap.objs.size ∉ [(s.heap.push (obS w)).objs.size, l] := by
        rw [szP]
        intro hm
        rcases List.mem_cons.mp hm with z | z
        · exact absurd z (Nat.ne_of_lt (Nat.lt_succ_self _))
        · exact absurd (List.mem_singleton.mp z) (Nat.ne_of_gt ltl)
      have valI : ∀ (i : Nat) (v : Value), vs[i]? = some v → ∃ k t, ks[i]? = some k ∧ v = .int k t := by
        intro i v hv
        have lt : i < ks.length := by
          rw [← szv]
          exact (Array.getElem?_eq_some_iff.mp hv).1
        obtain ⟨t, e⟩ := IntsAre.int_at iv i v (by
          rw [Array.getElem?_toList]
          exact hv)
        refine ⟨ks[i], t, List.getElem?_eq_getElem lt, ?_⟩
        rw [e, List.getD_eq_getElem?_getD, List.getElem?_eq_getElem lt]
        rfl
      refine set_update_ints ((Walks.tuple cal3 _ l neP vs).toS) s.heap.objs.size notIn ks szv few valI (vs.size - 0) 0 _ (by omega) (Nat.zero_le _)
        ⟨⟨_, Heap.get?_push_size _ rfl, rfl, rfl⟩, isl'.push _⟩ ?start ?done
      case start =>
        exact ⟨0, Nat.le_refl 0, setR_new_at (Heap.get?_push_of_some _ atS)⟩
      case done =>
        intro t c mv lec st
        obtain ⟨g, gg, dd, tk, oo⟩ := t
        obtain rfl : gg = s.gens := mv.gens
        obtain rfl : dd = s.drawn := mv.drawn
        obtain rfl : oo = s.os := mv.os
        show wpAny _ _ _ _ _ _
        refine wpAny_pure ?_
        show wpAny _ _ (ret Value.none) _ _ _
        refine wpAny_pure ⟨rfl, g, tk, c, rfl, st, by rw [← szv]; exact lec, fun b o e => ?_⟩
        have lt := Heap.lt_size e
        refine mv.heap b o (fun hm => ?_) (Heap.get?_push_of_some _ (Heap.get?_push_of_some _ e))
        rw [szP] at hm
        rcases List.mem_cons.mp hm with z | z
        · exact absurd z (Nat.ne_of_lt lt)
        · exact absurd (List.mem_singleton.mp z) (Nat.ne_of_lt (Nat.lt_succ_of_lt lt))
    · match r2, h2 with
      | .error e, h2 => exact h2
      | .ok .next, h2 => exact h2.elim
      | .ok .brk, h2 => exact h2.elim
      | .ok .cont, h2 => exact h2.elim
      | .ok (.ret r), h2 =>
        obtain ⟨e0, g, tk, c, e3, st, lec, kp⟩ := h2
        subst e0
        subst e3
        repeat (any_goals (first | assumption | wp_step))
        exact fin _ _ _ st lec kp
end
end TL
namespace TL
open PySem PySem.Spec PyProof.Rows L2
abbrev D := PyData
inductive R (α : Type) where
  | no
  | ex (c : Str)
  | ok (a : α)
namespace R
def bind {α β : Type} : R α → (α → R β) → R β
  | .no, _ => .no
  | .ex c, _ => .ex c
  | .ok a, f => f a
@[simp] theorem ok_bind {α β : Type} (a : α) (f : α → R β) : bind (.ok a) f = f a := rfl
@[simp] theorem no_bind {α β : Type} (f : α → R β) : bind (.no : R α) f = .no := rfl
@[simp] theorem ex_bind {α β : Type} (c : Str) (f : α → R β) : bind (.ex c : R α) f = .ex c := rfl
theorem bind_assoc {α β γ : Type} (m : R α) (f : α → R β) (g : β → R γ) : bind (bind m f) g = bind m fun a => bind (f a) g := by cases m <;> rfl
@[simp] theorem bind_ok {α : Type} (m : R α) : bind m (fun a => .ok a) = m := by cases m <;> rfl
end R
abbrev En := List (Option D)
def getN {α : Type} : List (Option α) → Nat → Option α
  | [], _ => none
  | x :: _, 0 => x
  | _ :: xs, n + 1 => getN xs n
def setN {α : Type} : List (Option α) → Nat → Option α → List (Option α)
  | [], _, _ => []
  | _ :: xs, 0, v => v :: xs
  | x :: xs, n + 1, v => x :: setN xs n v
theorem getN_setN_same {α : Type} {v w : Option α} : ∀ {xs : List (Option α)} {i : Nat} {t : α}, getN (setN xs i v) i = some t → v = some t
  | [], _, _, h => by cases h
  | _ :: _, 0, _, h => h
  | _ :: xs, n + 1, _, h => getN_setN_same (w := w) (xs := xs) (i := n) h
theorem getN_setN_ne {α : Type} {v : Option α} : ∀ {xs : List (Option α)} {i j : Nat}, j ≠ i → getN (setN xs i v) j = getN xs j
  | [], _, _, _ => rfl
  | _ :: _, 0, 0, h => absurd rfl h
  | _ :: _, 0, _ + 1, _ => rfl
  | _ :: _, _ + 1, 0, _ => rfl
  | _ :: xs, i + 1, j + 1, h => getN_setN_ne (xs := xs) fun e => h (by rw [e])
theorem getN_lt {α : Type} : ∀ {xs : List (Option α)} {i : Nat} {t : α}, getN xs i = some t → i < xs.length
  | [], _, _, h => by cases h
  | _ :: _, 0, _, _ => Nat.succ_pos _
  | _ :: xs, n + 1, _, h => Nat.succ_lt_succ (getN_lt (xs := xs) (i := n) h)
def keyD : Key → D
  | .inl i => .int i
  | .inr x => .str x
def entI (x : List Int × Addr × Value) : DictEntry := ⟨reduceHash (Builtin.Tuple.tupleHashOf (x.1.map hashInt)), .ref x.2.1, x.2.2⟩
def RelE (p : List Int × Addr × V) (q : List Int × Addr × Value) : Prop := p.1 = q.1 ∧ p.2.1 = q.2.1 ∧ RelV p.2.2 q.2.2
def DTraw (a : Addr) (kvs : List (List Int × Addr × V)) (h : Heap) : Prop := kvs.length ≤ sizeLine ∧ (a == sysModules) = false ∧ ∃ xs, Paired RelE kvs xs ∧
  ∃ o es ep, h.get? a = some o ∧ o.ExactDict ∧ o.data = .dict es ep ∧ es.toList = xs.map entI ∧ (xs.map (·.1)).Nodup
def DTO (a : Addr) (kvs : List (List Int × Addr × V)) : HO := .ext (DTraw a kvs)
def seenT (xs : List (List Int × Addr × V)) : List (List Key × V) := xs.map fun x => (x.1.map Sum.inl, x.2.2)
def DTAt (K : PySem.W.Frag) (H G : Hp) (a : Addr) (kvs : List (List Key × V)) : Prop := ∃ xs, H a = some (DTO a xs) ∧ kvs = seenT xs ∧ xs ≠ [] ∧ ∀ x ∈ xs, SqU K G x.2.1 (x.1.map V.int)
theorem DTAt.mono {K : PySem.W.Frag} {H H' G G' : Hp} {a : Addr} {kvs : List (List Key × V)} (h : DTAt K H G a kvs) (s : Same G G') (e : H' a = H a) : DTAt K H' G' a kvs := by
  obtain ⟨xs, h1, h2, h3, h4⟩ := h
  exact ⟨xs, e.trans h1, h2, h3, fun x hx => (h4 x hx).same s⟩
theorem DTAt.some {K : PySem.W.Frag} {H G : Hp} {a : Addr} {kvs : List (List Key × V)} (h : DTAt K H G a kvs) : ∃ xs, H a = some (DTO a xs) := by
  obtain ⟨xs, h1, _⟩ := h
  exact ⟨xs, h1⟩
mutual
inductive Rep (K : PySem.W.Frag) (G : Hp) : V → D → Prop
  | non : Rep K G .non .none
  | bl (b : Bool) : Rep K G (.bl b) (.bool b)
  | int (i : Int) : Rep K G (.int i) (.int i)
  | str (x : Str) : Rep K G (.str x) (.str x)
  | lst {a : Addr} {xs : List V} {ds : List D} : G a = some (.lst xs) → RepAll K G xs ds → Rep K G (.ref a) (.list ds)
  | tup {a : Addr} {xs : List V} {ds : List D} : SqU K G a xs → RepAll K G xs ds → Rep K G (.ref a) (.tuple ds)
  | dK {a : Addr} {kvs : List (Key × V)} {es : List (D × D)} : Rd G a (.dK kvs) → es.map (·.1) = kvs.map (fun p => keyD p.1) → RepAll K G (kvs.map (·.2)) (es.map (·.2)) → Rep K G (.ref a) (.dict es)
  | dT {a : Addr} {kvs : List (List Key × V)} {es : List (D × D)} : DTAt K G G a kvs → es.map (·.1) = kvs.map (fun p => .tuple (p.1.map keyD)) → RepAll K G (kvs.map (·.2)) (es.map (·.2)) → Rep K G (.ref a) (.dict es)
  | scr {a : Addr} {ns : List Int} : SqL K G a (ns.map V.int) → Rep K G (.ref a) (.dict [(.none, .list (ns.map .int))])
  | exc {a : Addr} {c : Str} : Rep K G (.ref a) (.dict [(.none, .tuple [.str c, .int (a : Nat)])])
inductive RepAll (K : PySem.W.Frag) (G : Hp) : List V → List D → Prop
  | nil : RepAll K G [] []
  | cons {v : V} {vs : List V} {d : D} {ds : List D} : Rep K G v d → RepAll K G vs ds → RepAll K G (v :: vs) (d :: ds)
end
theorem RepAll.length {K : PySem.W.Frag} {G : Hp} : ∀ {vs : List V} {ds : List D}, RepAll K G vs ds → vs.length = ds.length
  | _, _, .nil => rfl
  | _, _, .cons _ t => congrArg (· + 1) (RepAll.length t)
theorem RepAll.get {K : PySem.W.Frag} {G : Hp} : ∀ {vs : List V} {ds : List D} {i : Nat} {d : D}, RepAll K G vs ds → ds[i]? = some d → ∃ v, vs[i]? = some v ∧ Rep K G v d
  | _, _, _, _, .nil, h => by simp at h
  | _, _, 0, _, .cons r _, h => by
    simp at h
    subst h
    exact ⟨_, rfl, r⟩
  | _, _, i + 1, d, .cons _ t, h => by
    obtain ⟨v, e, r⟩ := RepAll.get (i := i) (d := d) t (by simpa using h)
    exact ⟨v, by simpa using e, r⟩
theorem RepAll.append {K : PySem.W.Frag} {G : Hp} : ∀ {vs ws : List V} {ds es : List D}, RepAll K G vs ds → RepAll K G ws es → RepAll K G (vs ++ ws) (ds ++ es)
  | _, _, _, _, .nil, s => s
  | _, _, _, _, .cons r t, s => .cons r (RepAll.append t s)
theorem RepAll.take {K : PySem.W.Frag} {G : Hp} : ∀ {vs : List V} {ds : List D} (n : Nat), RepAll K G vs ds → RepAll K G (vs.take n) (ds.take n)
  | _, _, 0, _ => .nil
  | _, _, _ + 1, .nil => .nil
  | _, _, n + 1, .cons r t => .cons r (RepAll.take n t)
theorem RepAll.drop {K : PySem.W.Frag} {G : Hp} : ∀ {vs : List V} {ds : List D} (n : Nat), RepAll K G vs ds → RepAll K G (vs.drop n) (ds.drop n)
  | _, _, 0, r => r
  | _, _, _ + 1, .nil => .nil
  | _, _, n + 1, .cons _ t => RepAll.drop n t
theorem RepAll.set {K : PySem.W.Frag} {G : Hp} {v : V} {d : D} (q : Rep K G v d) : ∀ {vs : List V} {ds : List D} (i : Nat), RepAll K G vs ds → RepAll K G (vs.set i v) (ds.set i d)
  | _, _, _, .nil => .nil
  | _, _, 0, .cons _ t => .cons q t
  | _, _, i + 1, .cons r t => .cons r (RepAll.set q i t)
theorem same_lst {K : PySem.W.Frag} {H H' : Hp} (s : Same H H') {a : Addr} {xs : List V} (h : H a = some (.lst xs)) : SqL K H' a xs := .of (s _ _ h)
theorem same_rd {H H' : Hp} (s : Same H H') {a : Addr} {u : HO} (h : Rd H a u) : Rd H' a u := by
  rcases h with h | ⟨o, h⟩
  · exact .inl (s _ _ h)
  · exact .inr ⟨o, s _ _ h⟩
theorem same_seqT {K : PySem.W.Frag} {H H' : Hp} {a : Addr} {xs : List V} (e : Same H H') (h : SqU K H a xs) : SqT K H' a xs := (h.same e).t
theorem same_sqT {K : PySem.W.Frag} {H H' : Hp} {a : Addr} {xs : List V} (e : Same H H') (h : SqT K H a xs) : SqT K H' a xs := by
  rcases h with h | h
  · exact .inl (same_rd e h)
  · exact .inr h
mutual
theorem Rep.mono {K : PySem.W.Frag} {G G' : Hp} (s : Same G G') : ∀ {v : V} {d : D}, Rep K G v d → Rep K G' v d
  | _, _, .non => .non
  | _, _, .bl b => .bl b
  | _, _, .int i => .int i
  | _, _, .str x => .str x
  | _, _, .lst h r => .lst (s _ _ h) (RepAll.mono s r)
  | _, _, .tup h r => .tup (h.same s) (RepAll.mono s r)
  | _, _, .dK h e r => .dK (same_rd s h) e (RepAll.mono s r)
  | _, _, .dT h e r => .dT (h.mono s (by obtain ⟨xs, e⟩ := h.some; rw [e, s _ _ e])) e (RepAll.mono s r)
  | _, _, .scr h => .scr (s.seq h)
  | _, _, .exc => .exc
theorem RepAll.mono {K : PySem.W.Frag} {G G' : Hp} (s : Same G G') : ∀ {vs : List V} {ds : List D}, RepAll K G vs ds → RepAll K G' vs ds
  | _, _, .nil => .nil
  | _, _, .cons r t => .cons (Rep.mono s r) (RepAll.mono s t)
end
mutual
def flat : D → Bool
  | .list xs => flatAll xs
  | .tuple xs => flatAll xs
  | .dict _ => false
  | _ => true
def flatAll : List D → Bool
  | [] => true
  | x :: xs => flat x && flatAll xs
end
mutual
theorem Rep.dp {K : PySem.W.Frag} {G : Hp} : ∀ {v : V} {d : D}, Rep K G v d → flat d = true → Dp K G v d
  | _, _, .non, _ => .non
  | _, _, .bl b, _ => .bl b
  | _, _, .int i, _ => .int i
  | _, _, .str x, _ => .str x
  | _, _, .lst h r, f => .lst (.of h) (RepAll.dp r (by simpa [flat] using f))
  | _, _, .tup h r, f => .tup h.t (RepAll.dp r (by simpa [flat] using f))
  | _, _, .dK _ _ _, f => by simp [flat] at f
  | _, _, .dT _ _ _, f => by simp [flat] at f
  | _, _, .scr _, f => by simp [flat] at f
  | _, _, .exc, f => by simp [flat] at f
theorem RepAll.dp {K : PySem.W.Frag} {G : Hp} : ∀ {vs : List V} {ds : List D}, RepAll K G vs ds → flatAll ds = true → DpAll K G vs ds
  | _, _, .nil, _ => .nil
  | _, _, .cons (d := d) (ds := ds) r t, f => by
    have f' : flat d = true ∧ flatAll ds = true := by simpa [flatAll] using f
    exact .cons (Rep.dp r f'.1) (RepAll.dp t f'.2)
end
mutual
def noL : D → Bool
  | .list _ => false
  | .tuple xs => noLAll xs
  | .dict _ => false
  | _ => true
def noLAll : List D → Bool
  | [] => true
  | x :: xs => noL x && noLAll xs
end
def cutH (G : Hp) (p : Addr → Prop) [DecidablePred p] : Hp := fun b => if p b then none else G b
theorem cutH_same (G : Hp) (p : Addr → Prop) [DecidablePred p] : Same (cutH G p) G := fun b o h => by
  unfold cutH at h
  split at h
  · cases h
  · exact h
theorem cutH_of {G : Hp} {p : Addr → Prop} [DecidablePred p] {b : Addr} {o : HO} (h : G b = some o) (n : ¬ p b) : cutH G p b = some o := by
  unfold cutH
  rw [if_neg n]
  exact h
theorem cutH_none {G : Hp} {p : Addr → Prop} [DecidablePred p] {b : Addr} (n : p b) : cutH G p b = none := by
  unfold cutH
  rw [if_pos n]
theorem cutH_free {G : Hp} {p : Addr → Prop} [DecidablePred p] {b : Addr} (h : G b = none) : cutH G p b = none := by
  unfold cutH
  split
  · rfl
  · exact h
def NotTup : Option HO → Prop
  | some (.tup _) => False
  | some (.frz _ (.tup _)) => False
  | _ => True
mutual
theorem Rep.cut {K : PySem.W.Frag} {G : Hp} {p : Addr → Prop} [DecidablePred p] (np : ∀ b, p b → NotTup (G b)) : ∀ {v : V} {d : D}, Rep K G v d → noL d = true → Rep K (cutH G p) v d
  | _, _, .non, _ => .non
  | _, _, .bl b, _ => .bl b
  | _, _, .int i, _ => .int i
  | _, _, .str x, _ => .str x
  | _, _, .lst h r, f => by simp [noL] at f
  | _, _, .tup (a := a) h r, f => by
    refine .tup ?_ (RepAll.cut np r (by simpa [noL] using f))
    rcases h with ⟨u, h, o, t, rfl⟩ | h
    · exact .inl ⟨_, cutH_of h fun q => by
        have := np a q
        rw [h] at this
        exact this, o, t, rfl⟩
    · exact .inr h
  | _, _, .dK _ _ _, f => by simp [noL] at f
  | _, _, .dT _ _ _, f => by simp [noL] at f
  | _, _, .scr _, f => by simp [noL] at f
theorem RepAll.cut {K : PySem.W.Frag} {G : Hp} {p : Addr → Prop} [DecidablePred p] (np : ∀ b, p b → NotTup (G b)) : ∀ {vs : List V} {ds : List D}, RepAll K G vs ds → noLAll ds = true → RepAll K (cutH G p) vs ds
  | _, _, .nil, _ => .nil
  | _, _, .cons (d := d) (ds := ds) r t, f => by
    have f' : noL d = true ∧ noLAll ds = true := by simpa [noLAll] using f
    exact .cons (Rep.cut np r f'.1) (RepAll.cut np t f'.2)
end
end TL
namespace TL
open PySem PySem.Spec PyProof.Rows L2
structure Ep (K : PySem.W.Frag) (G : Hp) (ρ : En) (σ : L2.St) : Prop where
  len : ρ.length = σ.length
  at_ : ∀ i t, getN ρ i = some t → ∃ v, σ[i]? = some (some v) ∧ Rep K G v t
theorem Ep.mono {K : PySem.W.Frag} {G G' : Hp} {ρ : En} {σ : L2.St} (s : Same G G') (h : Ep K G ρ σ) : Ep K G' ρ σ := ⟨h.len, fun i t e => by
  obtain ⟨v, q, r⟩ := h.at_ i t e
  exact ⟨v, q, r.mono s⟩⟩
theorem setN_length {α : Type} {v : Option α} : ∀ {xs : List (Option α)} {i : Nat}, (setN xs i v).length = xs.length
  | [], _ => rfl
  | _ :: _, 0 => rfl
  | _ :: xs, i + 1 => congrArg (· + 1) (setN_length (xs := xs) (i := i))
theorem Ep.put {K : PySem.W.Frag} {G : Hp} {ρ : En} {σ : L2.St} (h : Ep K G ρ σ) {i : Nat} {v : V} {d : D} (r : Rep K G v d) : Ep K G (setN ρ i (some d)) (σ.set i (some v)) := by
  refine ⟨by rw [setN_length, List.length_set]; exact h.len, fun j t e => ?_⟩
  by_cases hj : j = i
  · subst hj
    have hlt : j < σ.length := by
      have := getN_lt e
      rw [setN_length, h.len] at this
      exact this
    have e2 := getN_setN_same (w := some d) e
    cases e2
    exact ⟨v, by rw [List.getElem?_set_self hlt], r⟩
  · rw [getN_setN_ne hj] at e
    obtain ⟨w, q, r2⟩ := h.at_ j t e
    exact ⟨w, by rw [List.getElem?_set_ne (Ne.symm hj)]; exact q, r2⟩
theorem Ep.drop {K : PySem.W.Frag} {G : Hp} {ρ : En} {σ : L2.St} (h : Ep K G ρ σ) {i : Nat} {o : Option V} : Ep K G (setN ρ i none) (σ.set i o) := by
  refine ⟨by rw [setN_length, List.length_set]; exact h.len, fun j t e => ?_⟩
  by_cases hj : j = i
  · subst hj
    have e2 := getN_setN_same (w := none) e
    cases e2
  · rw [getN_setN_ne hj] at e
    obtain ⟨w, q, r2⟩ := h.at_ j t e
    exact ⟨w, by rw [List.getElem?_set_ne (Ne.symm hj)]; exact q, r2⟩
structure Fr (G H G' H' : Hp) : Prop where
  gg : Same G G'
  gh : Same G' H'
  hh : Same H H'
  nw : ∀ b, G b = none → H b ≠ none → G' b = none
theorem Fr.refl {G H : Hp} (s : Same G H) : Fr G H G H := ⟨Same.refl _, s, Same.refl _, fun _ h _ => h⟩
theorem Fr.trans {G H G1 H1 G2 H2 : Hp} (a : Fr G H G1 H1) (b : Fr G1 H1 G2 H2) : Fr G H G2 H2 :=
  ⟨a.gg.trans b.gg, b.gh, a.hh.trans b.hh, fun c h1 h2 => b.nw c (a.nw c h1 h2) (by
    cases q : H c with
    | none => exact absurd q h2
    | some o => rw [a.hh _ _ q]; exact fun z => by cases z)⟩
theorem Fr.new {G H : Hp} (s : Same G H) {p : Addr} {o : HO} (h : H p = none) : Fr G H (upd G p o) (upd H p o) := by
  have hg : G p = none := s.free h
  refine ⟨fun b x e => ?_, fun b x e => ?_, fun b x e => ?_, fun b h1 h2 => ?_⟩
  · rw [upd_ne (ne_of_none e hg)]; exact e
  · by_cases hb : b = p
    · subst hb
      rw [upd_same] at e ⊢
      exact e
    · rw [upd_ne hb] at e ⊢
      exact s _ _ e
  · rw [upd_ne (ne_of_none e h)]; exact e
  · by_cases hb : b = p
    · subst hb
      exact absurd h h2
    · rw [upd_ne hb]; exact h1
def cls (mg : Str → Option Value) (c : Str) : Value := (mg c).getD .none
def PostP {α β : Type} (Rp : PySem.W.Frag → Hp → β → α → Prop) (K : PySem.W.Frag) (mg : Str → Option Value) (E : XK) (G H : Hp) (m : R α) (Q : β → Hp → Prop) : Prop :=
  match m with
  | .no => False
  | .ex c => ∀ H', Same H H' → E (cls mg c) none H'
  | .ok t => ∀ v G' H', Fr G H G' H' → Rp K G' v t → Q v H'
theorem PostP.mono {α β : Type} {Rp : PySem.W.Frag → Hp → β → α → Prop} {K : PySem.W.Frag} {mg : Str → Option Value} {E : XK} {G H : Hp} {m : R α} {Q Q' : β → Hp → Prop} (h : PostP Rp K mg E G H m Q) (f : ∀ v H, Q v H → Q' v H) : PostP Rp K mg E G H m Q' := by
  cases m with
  | no => exact h
  | ex c => exact h
  | ok t => exact fun v G' H' a b => f _ _ (h v G' H' a b)
theorem PostP.bind {α β γ δ : Type} {Rp : PySem.W.Frag → Hp → β → α → Prop} {Rq : PySem.W.Frag → Hp → δ → γ → Prop} {K : PySem.W.Frag} {mg : Str → Option Value} {E : XK} {G H : Hp} {m : R α} {f : α → R γ} {Q : δ → Hp → Prop}
    (h : PostP Rq K mg E G H (m.bind f) Q) : PostP Rp K mg E G H m fun v H1 => ∃ G1 t, Fr G H G1 H1 ∧ Rp K G1 v t ∧ m = .ok t ∧ PostP Rq K mg E G1 H1 (f t) Q := by
  cases m with
  | no => exact h
  | ex c => exact h
  | ok t =>
    intro v G1 H1 fr r
    refine ⟨G1, t, fr, r, rfl, ?_⟩
    have h' : PostP Rq K mg E G H (f t) Q := h
    cases e : f t with
    | no => rw [e] at h'; exact h'
    | ex c => rw [e] at h'; exact fun H' s => h' H' (fr.hh.trans s)
    | ok u => rw [e] at h'; exact fun w G2 H2 fr2 r2 => h' w G2 H2 (fr.trans fr2) r2
def rdP (K : PySem.W.Frag) (mg : Str → Option Value) (E : XK) (ρ : En) (m : R D) : TE := fun σ H Q => ∃ G, Same G H ∧ Ep K G ρ σ ∧ PostP Rep K mg E G H m Q
def rdA (K : PySem.W.Frag) (mg : Str → Option Value) (E : XK) (ρ : En) (m : R (List D)) : TA := fun σ H Q => ∃ G, Same G H ∧ Ep K G ρ σ ∧ PostP RepAll K mg E G H m Q
def RepB (_ : PySem.W.Frag) (_ : Hp) (b : Bool) (c : Bool) : Prop := b = c
def rdB (K : PySem.W.Frag) (mg : Str → Option Value) (E : XK) (ρ : En) (m : R Bool) : TT := fun σ H Q => ∃ G, Same G H ∧ Ep K G ρ σ ∧ PostP RepB K mg E G H m Q
abbrev XP (X : Cx) (E : XK) (ρ : En) (e : Expr) (m : R D) : Prop := PE X e (rdP X.K X.mg E ρ m)
abbrev XB (X : Cx) (E : XK) (ρ : En) (e : Expr) (m : R Bool) : Prop := PT X e (rdB X.K X.mg E ρ m)
abbrev XW (X : Cx) (E : XK) (ρ : En) (e : Expr) (m : R Bool) : Prop := PW X e (rdB X.K X.mg E ρ m)
abbrev XA (X : Cx) (E : XK) (ρ : En) (es : List Expr) (m : R (List D)) : Prop := PA X es (rdA X.K X.mg E ρ m)
theorem pe_weak {X : Cx} {e : Expr} {t t' : TE} (h : PE X e t) (f : ∀ σ H Q, t' σ H Q → t σ H Q) : PE X e t' := ⟨fun pins s σ H Q I q => h.run pins s σ H Q I (f _ _ _ q)⟩
theorem pt_weak {X : Cx} {e : Expr} {t t' : TT} (h : PT X e t) (f : ∀ σ H Q, t' σ H Q → t σ H Q) : PT X e t' := ⟨fun pins s σ H Q I q => h.run pins s σ H Q I (f _ _ _ q)⟩
theorem pw_weak {X : Cx} {e : Expr} {t t' : TT} (h : PW X e t) (f : ∀ σ H Q, t' σ H Q → t σ H Q) : PW X e t' := ⟨fun wh pins s σ H Q I q => h.run wh pins s σ H Q I (f _ _ _ q)⟩
theorem pa_weak {X : Cx} {es : List Expr} {t t' : TA} (h : PA X es t) (f : ∀ σ H Q, t' σ H Q → t σ H Q) : PA X es t' := ⟨fun pos pins s σ H Q I q => h.run pos pins s σ H Q I (f _ _ _ q)⟩
section
variable {X : Cx} {E : XK} {ρ : En} {a b c : Expr} {ma mb mc : R D} {pos : Pos}
theorem ep_var {x : Str} (i : Nat) {d : D} (hρ : getN ρ i = some d := by rfl) (hN : X.N[i]? = some x := by rfl) (hv : Vis X.env.scope x := by first | exact Or.inl rfl | exact Or.inr (Or.inl rfl) | exact Or.inr (Or.inr rfl)) (hd : (x == ("__debug__" : Str)) = false := by decide)
    (hcd : (x == ("__classdict__" : Str)) = false := by decide) : XP X E ρ (.Name x pos) (.ok d) :=
  pe_weak (pe_var hN hv hd hcd) fun σ H Q ⟨G, s, h, q⟩ => by
    obtain ⟨v, e, r⟩ := h.at_ i d hρ
    exact ⟨v, e, q v G H (Fr.refl s) r⟩
theorem ep_int {i j pos} : XP X E ρ (.Constant (.int i) j pos) (.ok (.int i)) := pe_weak pe_int fun σ H Q ⟨G, s, h, q⟩ => q _ G H (Fr.refl s) (.int i)
theorem ep_bool {i j pos} : XP X E ρ (.Constant (.bool i) j pos) (.ok (.bool i)) := pe_weak pe_bl fun σ H Q ⟨G, s, h, q⟩ => q _ G H (Fr.refl s) (.bl i)
theorem ep_none {j pos} : XP X E ρ (.Constant .none j pos) (.ok .none) := pe_weak pe_non fun σ H Q ⟨G, s, h, q⟩ => q _ G H (Fr.refl s) .non
theorem ep_str {i j pos} : XP X E ρ (.Constant (.str i) j pos) (.ok (.str i)) := pe_weak pe_str fun σ H Q ⟨G, s, h, q⟩ => q _ G H (Fr.refl s) (.str i)
def r2 (K : PySem.W.Frag) (mg : Str → Option Value) (E : XK) (f : D → D → R D) : R2 := fun x y H Q => ∃ G tx ty, Same G H ∧ Rep K G x tx ∧ Rep K G y ty ∧ PostP Rep K mg E G H (f tx ty) Q
def r1t (K : PySem.W.Frag) (mg : Str → Option Value) (E : XK) (f : D → R D) : V → Hp → VK → Prop := fun x H Q => ∃ G tx, Same G H ∧ Rep K G x tx ∧ PostP Rep K mg E G H (f tx) Q
def rLt (K : PySem.W.Frag) (mg : Str → Option Value) (E : XK) (f : List D → R D) : List V → Hp → VK → Prop := fun xs H Q => ∃ G ts, Same G H ∧ RepAll K G xs ts ∧ PostP Rep K mg E G H (f ts) Q
abbrev OpD (X : Cx) (E : XK) (op : Value → Value → Sem Value) (f : D → D → R D) : Prop := OpR X op (r2 X.K X.mg E f)
abbrev UnD (X : Cx) (E : XK) (op : Value → Sem Value) (f : D → R D) : Prop := UnR X op (r1t X.K X.mg E f)
abbrev CallD (X : Cx) (E : XK) (g : Value) (f : List D → R D) : Prop := CallR X g (rLt X.K X.mg E f)
theorem two {σ : L2.St} {H : Hp} {Q : VK} {f : D → D → R D} (h : rdP X.K X.mg E ρ (ma.bind fun x => mb.bind fun y => f x y) σ H Q) :
    rdP X.K X.mg E ρ ma σ H fun x H1 => rdP X.K X.mg E ρ mb σ H1 fun y H2 => r2 X.K X.mg E f x y H2 Q := by
  obtain ⟨G, s, e, q⟩ := h
  refine ⟨G, s, e, (PostP.bind (Rp := Rep) q).mono fun x H1 ⟨G1, t, fr, r, _, q1⟩ => ?_⟩
  refine ⟨G1, fr.gh, e.mono fr.gg, (PostP.bind (Rp := Rep) q1).mono fun y H2 ⟨G2, u, fr2, r2, _, q2⟩ => ?_⟩
  exact ⟨G2, t, u, fr2.gh, r.mono fr2.gg, r2, q2⟩
theorem ep_bin {op : Operator} {f : D → D → R D} (ho : OpD X E (binaryOp op) f) (ha : XP X E ρ a ma) (hb : XP X E ρ b mb) : XP X E ρ (.BinOp a op b pos) (ma.bind fun x => mb.bind fun y => f x y) :=
  pe_weak (pe_op ho ha hb) fun _ _ _ h => two h
theorem ep_un {op : UnaryOp} {f : D → R D} (ho : UnD X E (unaryOp op) f) (ha : XP X E ρ a ma) : XP X E ρ (.UnaryOp op a pos) (ma.bind f) :=
  pe_weak (pe_un ho ha) fun σ H Q h => by
    obtain ⟨G, s, e, q⟩ := h
    exact ⟨G, s, e, (PostP.bind (Rp := Rep) q).mono fun x H1 ⟨G1, t, fr, r, _, q1⟩ => ⟨G1, t, fr.gh, r, q1⟩⟩
theorem ep_cmp {op : CmpOp} {f : D → D → R D} (ho : OpD X E (compareOp op) f) (ha : XP X E ρ a ma) (hb : XP X E ρ b mb) (hm : behindInMarks op b = false := by first | exact nomark _ | rfl | with_unfolding_all rfl) :
    XP X E ρ (.Compare a [op] [b] pos) (ma.bind fun x => mb.bind fun y => f x y) := pe_weak (pe_cmpR ho ha hb hm) fun _ _ _ h => two h
def asB : D → R Bool
  | .bool b => .ok b
  | _ => .no
theorem eb_cmp {op : CmpOp} {f : D → D → R D} (ho : OpD X E (compareOp op) f) (ha : XP X E ρ a ma) (hb : XP X E ρ b mb) (hm : behindInMarks op b = false := by first | exact nomark _ | rfl | with_unfolding_all rfl) :
    XB X E ρ (.Compare a [op] [b] pos) (ma.bind fun x => mb.bind fun y => (f x y).bind asB) :=
  pt_weak (pt_cmpR ho ha hb hm) fun σ H Q h => by
    obtain ⟨G, s, e, q⟩ := h
    refine ⟨G, s, e, (PostP.bind (Rp := Rep) q).mono fun x H1 ⟨G1, t, fr, r, _, q1⟩ => ?_⟩
    refine ⟨G1, fr.gh, e.mono fr.gg, (PostP.bind (Rp := Rep) q1).mono fun y H2 ⟨G2, u, fr2, r2, _, q2⟩ => ?_⟩
    refine ⟨G2, t, u, fr2.gh, r.mono fr2.gg, r2, (PostP.bind (Rp := Rep) q2).mono fun z H3 ⟨G3, w, fr3, r3, _, q3⟩ => ?_⟩
    cases r3 with
    | bl k => exact ⟨k, rfl, q3 k G3 H3 (Fr.refl fr3.gh) rfl⟩
    | _ => exact q3.elim
def tru : D → R Bool
  | .none => .ok false
  | .bool b => .ok b
  | .int i => .ok (i != 0)
  | .str s => if s.length ≤ sizeLine then .ok ((s.length : Int) != 0) else .no
  | .list xs => .ok (!xs.isEmpty)
  | .tuple xs => .ok (!xs.isEmpty)
  | .dict _ => .no
theorem RepAll.isEmpty {K : PySem.W.Frag} {G : Hp} : ∀ {vs : List V} {ds : List D}, RepAll K G vs ds → vs.isEmpty = ds.isEmpty
  | _, _, .nil => rfl
  | _, _, .cons _ _ => rfl
theorem truV_of {K : PySem.W.Frag} {G H : Hp} {x : V} {t : D} (s : Same G H) (r : Rep K G x t) {k : Bool} (e : tru t = .ok k) : TruV K x H k := by
  cases r with
  | non => cases e; rfl
  | bl b => cases e; rfl
  | int i => cases e; rfl
  | str z =>
    simp only [tru] at e
    split at e
    · rename_i h
      cases e
      exact ⟨h, rfl⟩
    · cases e
  | lst h a =>
    cases e
    exact .inl ⟨_, same_lst s h, by rw [a.isEmpty]⟩
  | tup h a =>
    cases e
    exact .inr (.inl ⟨_, same_seqT s h, by rw [a.isEmpty]⟩)
  | dK _ _ _ => cases e
  | dT _ _ _ => cases e
  | scr _ => cases e
  | exc => cases e
theorem tru_post {K : PySem.W.Frag} {mg : Str → Option Value} {G H : Hp} {x : V} {t : D} {Q : Bool → Hp → Prop} (s : Same G H) (r : Rep K G x t) (q : PostP RepB K mg E G H (tru t) Q) : ∃ k, TruV K x H k ∧ Q k H := by
  cases e : tru t with
  | no => rw [e] at q; exact q.elim
  | ex c =>
    cases t with
    | str z =>
      simp only [tru] at e
      split at e <;> cases e
    | _ => cases e
  | ok k =>
    rw [e] at q
    exact ⟨k, truV_of s r e, q k G H (Fr.refl s) rfl⟩
theorem eb_val (ha : XP X E ρ a ma) (he : ∀ whole, isTrue a X.env whole = (do let v ← whole; standAt a.pos; holding [v] (truthy v)) := by intro _; rfl) : XB X E ρ a (ma.bind tru) :=
  pt_weak (pt_truth ha he) fun σ H Q h => by
    obtain ⟨G, s, e, q⟩ := h
    refine ⟨G, s, e, (PostP.bind (Rp := Rep) q).mono fun x H1 ⟨G1, t, fr, r, _, q1⟩ => tru_post fr.gh r q1⟩
theorem eb_not {m : R Bool} (ha : XB X E ρ a m) : XB X E ρ (.UnaryOp .Not a pos) (m.bind fun k => .ok (!k)) :=
  pt_weak (pt_not ha) fun σ H Q h => by
    obtain ⟨G, s, e, q⟩ := h
    refine ⟨G, s, e, (PostP.bind (Rp := RepB) q).mono fun x H1 ⟨G1, t, fr, r, _, q1⟩ => ?_⟩
    cases r
    exact q1 _ G1 H1 (Fr.refl fr.gh) rfl
theorem ew_and1 {m : R Bool} (ha : XB X E ρ a m) : XW X E ρ (.BoolOp .And [a] pos) m := pw_and1 ha
theorem ew_or1 {m : R Bool} (ha : XB X E ρ a m) : XW X E ρ (.BoolOp .Or [a] pos) m := pw_or1 ha
theorem ew_and {rest : List Expr} {m n : R Bool} (ha : XB X E ρ a m) (hb : XW X E ρ (.BoolOp .And (b :: rest) pos) n) : XW X E ρ (.BoolOp .And (a :: b :: rest) pos) (m.bind fun k => if k = true then n else .ok false) :=
  pw_weak (pw_and ha hb) fun σ H Q h => by
    obtain ⟨G, s, e, q⟩ := h
    refine ⟨G, s, e, (PostP.bind (Rp := RepB) q).mono fun x H1 ⟨G1, t, fr, r, _, q1⟩ => ?_⟩
    cases r
    cases x with
    | true =>
      rw [if_pos rfl]
      exact ⟨G1, fr.gh, e.mono fr.gg, q1⟩
    | false =>
      rw [if_neg Bool.false_ne_true]
      exact q1 _ G1 H1 (Fr.refl fr.gh) rfl
theorem ew_or {rest : List Expr} {m n : R Bool} (ha : XB X E ρ a m) (hb : XW X E ρ (.BoolOp .Or (b :: rest) pos) n) : XW X E ρ (.BoolOp .Or (a :: b :: rest) pos) (m.bind fun k => if k = true then .ok true else n) :=
  pw_weak (pw_or ha hb) fun σ H Q h => by
    obtain ⟨G, s, e, q⟩ := h
    refine ⟨G, s, e, (PostP.bind (Rp := RepB) q).mono fun x H1 ⟨G1, t, fr, r, _, q1⟩ => ?_⟩
    cases r
    cases x with
    | true =>
      rw [if_pos rfl]
      exact q1 _ G1 H1 (Fr.refl fr.gh) rfl
    | false =>
      rw [if_neg Bool.false_ne_true]
      exact ⟨G1, fr.gh, e.mono fr.gg, q1⟩
theorem eb_w {m : R Bool} (h : XW X E ρ a m) : XB X E ρ a m := PW.pt h
theorem ep_one {op : BoolOp} (ha : XP X E ρ a ma) : XP X E ρ (.BoolOp op [a] pos) ma := pe_one ha
theorem ep_and {rest : List Expr} (ha : XP X E ρ a ma) (hb : XP X E ρ (.BoolOp .And (b :: rest) pos) mb) : XP X E ρ (.BoolOp .And (a :: b :: rest) pos) (ma.bind fun x => (tru x).bind fun k => if k = true then mb else .ok x) :=
  pe_weak (pe_andT ha hb) fun σ H Q h => by
    obtain ⟨G, s, e, q⟩ := h
    refine ⟨G, s, e, (PostP.bind (Rp := Rep) q).mono fun x H1 ⟨G1, t, fr, r, _, q1⟩ => ?_⟩
    obtain ⟨k, tk, q2⟩ := tru_post (E := E) fr.gh r (PostP.bind (Rp := RepB) q1)
    obtain ⟨G2, t2, fr2, rb, _, q3⟩ := q2
    cases rb
    refine ⟨k, tk, ?_⟩
    cases k with
    | true =>
      rw [if_pos rfl]
      exact ⟨G2, fr2.gh, (e.mono fr.gg).mono fr2.gg, q3⟩
    | false =>
      rw [if_neg Bool.false_ne_true]
      exact q3 _ G2 H1 (Fr.refl fr2.gh) (r.mono fr2.gg)
theorem ep_or {rest : List Expr} (ha : XP X E ρ a ma) (hb : XP X E ρ (.BoolOp .Or (b :: rest) pos) mb) : XP X E ρ (.BoolOp .Or (a :: b :: rest) pos) (ma.bind fun x => (tru x).bind fun k => if k = true then .ok x else mb) :=
  pe_weak (pe_orT ha hb) fun σ H Q h => by
    obtain ⟨G, s, e, q⟩ := h
    refine ⟨G, s, e, (PostP.bind (Rp := Rep) q).mono fun x H1 ⟨G1, t, fr, r, _, q1⟩ => ?_⟩
    obtain ⟨k, tk, q2⟩ := tru_post (E := E) fr.gh r (PostP.bind (Rp := RepB) q1)
    obtain ⟨G2, t2, fr2, rb, _, q3⟩ := q2
    cases rb
    refine ⟨k, tk, ?_⟩
    cases k with
    | true =>
      rw [if_pos rfl]
      exact q3 _ G2 H1 (Fr.refl fr2.gh) (r.mono fr2.gg)
    | false =>
      rw [if_neg Bool.false_ne_true]
      exact ⟨G2, fr2.gh, (e.mono fr.gg).mono fr2.gg, q3⟩
theorem ep_not (ha : XP X E ρ a ma) : XP X E ρ (.UnaryOp .Not a pos) (ma.bind fun x => (tru x).bind fun k => .ok (.bool (!k))) :=
  pe_weak (pe_notT ha) fun σ H Q h => by
    obtain ⟨G, s, e, q⟩ := h
    refine ⟨G, s, e, (PostP.bind (Rp := Rep) q).mono fun x H1 ⟨G1, t, fr, r, _, q1⟩ => ?_⟩
    obtain ⟨k, tk, q2⟩ := tru_post (E := E) fr.gh r (PostP.bind (Rp := RepB) q1)
    obtain ⟨G2, t2, fr2, rb, _, q3⟩ := q2
    cases rb
    exact ⟨k, tk, q3 _ G2 H1 (Fr.refl fr2.gh) (.bl _)⟩
theorem ep_chain {op op' : CmpOp} {f g : D → D → R D} (ho : OpD X E (compareOp op) f) (ho' : OpD X E (compareOp op') g) (ha : XP X E ρ a ma) (hb : XP X E ρ b mb) (hc : XP X E ρ c mc) (hm : lastMarks [op, op'] [b, c] = false := by with_unfolding_all rfl) :
    XP X E ρ (.Compare a [op, op'] [b, c] pos) (ma.bind fun x => mb.bind fun y => (f x y).bind fun z => (asB z).bind fun k => if k = true then mc.bind fun u => g y u else .ok (.bool false)) :=
  pe_weak (pe_chain ho ho' ha hb hc hm) fun σ H Q h => by
    obtain ⟨G, s, e, q⟩ := h
    refine ⟨G, s, e, (PostP.bind (Rp := Rep) q).mono fun x H1 ⟨G1, t, fr, r, _, q1⟩ => ?_⟩
    have e1 := e.mono fr.gg
    refine ⟨G1, fr.gh, e1, (PostP.bind (Rp := Rep) q1).mono fun y H2 ⟨G2, u, fr2, r2, _, q2⟩ => ?_⟩
    have e2 := e1.mono fr2.gg
    refine ⟨G2, t, u, fr2.gh, r.mono fr2.gg, r2, (PostP.bind (Rp := Rep) q2).mono fun z H3 ⟨G3, w, fr3, r3, _, q3⟩ => ?_⟩
    have e3 := e2.mono fr3.gg
    cases r3 with
    | bl k =>
      refine ⟨k, rfl, ?_⟩
      cases k with
      | true =>
        rw [if_pos rfl]
        have q3' : PostP Rep X.K X.mg E G3 H3 (mc.bind fun u' => g u u') Q := q3
        refine ⟨G3, fr3.gh, e3, (PostP.bind (Rp := Rep) q3').mono fun w' H4 ⟨G4, u4, fr4, r4, _, q4⟩ => ?_⟩
        exact ⟨G4, u, u4, fr4.gh, (r2.mono fr3.gg).mono fr4.gg, r4, q4⟩
      | false =>
        rw [if_neg Bool.false_ne_true]
        exact q3 _ G3 H3 (Fr.refl fr3.gh) (.bl _)
    | _ => exact q3.elim
theorem eb_chain {op op' : CmpOp} {f g : D → D → R D} (ho : OpD X E (compareOp op) f) (ho' : OpD X E (compareOp op') g) (ha : XP X E ρ a ma) (hb : XP X E ρ b mb) (hc : XP X E ρ c mc) (hm : lastMarks [op, op'] [b, c] = false := by with_unfolding_all rfl) :
    XB X E ρ (.Compare a [op, op'] [b, c] pos) (ma.bind fun x => mb.bind fun y => (f x y).bind fun z => (asB z).bind fun k => if k = true then mc.bind fun u => (g y u).bind asB else .ok false) :=
  pt_weak (pt_chain ho ho' ha hb hc hm) fun σ H Q h => by
    obtain ⟨G, s, e, q⟩ := h
    refine ⟨G, s, e, (PostP.bind (Rp := Rep) q).mono fun x H1 ⟨G1, t, fr, r, _, q1⟩ => ?_⟩
    have e1 := e.mono fr.gg
    refine ⟨G1, fr.gh, e1, (PostP.bind (Rp := Rep) q1).mono fun y H2 ⟨G2, u, fr2, r2, _, q2⟩ => ?_⟩
    have e2 := e1.mono fr2.gg
    refine ⟨G2, t, u, fr2.gh, r.mono fr2.gg, r2, (PostP.bind (Rp := Rep) q2).mono fun z H3 ⟨G3, w, fr3, r3, _, q3⟩ => ?_⟩
    have e3 := e2.mono fr3.gg
    cases r3 with
    | bl k =>
      refine ⟨k, rfl, ?_⟩
      cases k with
      | true =>
        rw [if_pos rfl]
        have q3' : PostP RepB X.K X.mg E G3 H3 (mc.bind fun u' => (g u u').bind asB) Q := q3
        refine ⟨G3, fr3.gh, e3, (PostP.bind (Rp := Rep) q3').mono fun w' H4 ⟨G4, u4, fr4, r4, _, q4⟩ => ?_⟩
        refine ⟨G4, u, u4, fr4.gh, (r2.mono fr3.gg).mono fr4.gg, r4, (PostP.bind (Rp := Rep) q4).mono fun z5 H5 ⟨G5, u5, fr5, r5, _, q5⟩ => ?_⟩
        cases r5 with
        | bl k5 => exact ⟨k5, rfl, q5 k5 G5 H5 (Fr.refl fr5.gh) rfl⟩
        | _ => exact q5.elim
      | false =>
        rw [if_neg Bool.false_ne_true]
        exact ⟨false, rfl, q3 _ G3 H3 (Fr.refl fr3.gh) rfl⟩
    | _ => exact q3.elim
abbrev CP := (β : Type) → (List D → R β) → R β
def XAk (X : Cx) (E : XK) (ρ : En) (es : List Expr) (mk : CP) : Prop := ∃ m : R (List D), (∀ (β : Type) (k : List D → R β), mk β k = m.bind k) ∧ (∀ ts, m = .ok ts → ts.length = es.length) ∧ XA X E ρ es m
theorem ea_nil : XAk X E ρ [] (fun β k => k []) := ⟨.ok [], fun _ _ => rfl, fun _ h => by cases h; rfl, pa_weak pa_nil fun σ H Q h => by
  obtain ⟨G, s, e, q⟩ := h
  exact q [] G H (Fr.refl s) .nil⟩
theorem ea_cons {es : List Expr} {mk : CP} (ha : XP X E ρ a ma) (hr : XAk X E ρ es mk) (hs : starEach (a :: es) X.env = (false, eval a X.env) :: starEach es X.env := by rfl) : XAk X E ρ (a :: es) (fun β k => ma.bind fun x => mk β fun xs => k (x :: xs)) := by
  obtain ⟨m, e, hl, h⟩ := hr
  refine ⟨ma.bind fun x => m.bind fun xs => .ok (x :: xs), fun β k => ?_, fun ts he => ?_, pa_weak (pa_cons ha h hs) fun σ H Q hq => ?_⟩
  · show (ma.bind fun x => mk β fun xs => k (x :: xs)) = _
    rw [R.bind_assoc]
    congr 1
    funext x
    rw [e, R.bind_assoc]
    rfl
  · cases ma with
    | ok x =>
      cases m with
      | ok xs =>
        cases he
        exact congrArg (· + 1) (hl xs rfl)
      | _ => cases he
    | _ => cases he
  · obtain ⟨G, s, ep, q⟩ := hq
    refine ⟨G, s, ep, (PostP.bind (Rp := Rep) q).mono fun x H1 ⟨G1, t, fr, r, _, q1⟩ => ?_⟩
    refine ⟨G1, fr.gh, ep.mono fr.gg, (PostP.bind (Rp := RepAll) q1).mono fun xs H2 ⟨G2, ts, fr2, r2, _, q2⟩ => ?_⟩
    exact q2 _ G2 H2 (Fr.refl fr2.gh) (.cons (r.mono fr2.gg) r2)
theorem upd_seqT {K : PySem.W.Frag} {G : Hp} {p : Addr} {xs : List V} {u : HO} (t : TupH u xs) : SqU K (upd G p u) p xs := .of upd_same t
theorem same_new {G : Hp} {p : Addr} {o : HO} (h : G p = none) : Same G (upd G p o) := fun b x e => by
  rw [upd_ne (ne_of_none e h)]; exact e
theorem rep_newT {K : PySem.W.Frag} {G H : Hp} {p : Addr} {vs : List V} {ts : List D} {u : HO} (s : Same G H) (h : H p = none) (t : TupH u vs) (r : RepAll K G vs ts) : Rep K (upd G p u) (.ref p) (.tuple ts) := .tup (upd_seqT t) (r.mono (same_new (s.free h)))
theorem rep_newL {K : PySem.W.Frag} {G H : Hp} {p : Addr} {vs : List V} {ts : List D} (s : Same G H) (h : H p = none) (r : RepAll K G vs ts) : Rep K (upd G p (.lst vs)) (.ref p) (.list ts) := .lst upd_same (r.mono (same_new (s.free h)))
theorem ep_tup {es : List Expr} {mk : CP} {x1} (h : XAk X E ρ es mk) (hl : es.length ≤ 1000 := by decide) : XP X E ρ (.Tuple es x1 pos) (mk D fun ts => .ok (.tuple ts)) := by
  obtain ⟨m, e, hl', h⟩ := h
  rw [e]
  refine pe_weak (pe_tupU h) fun σ H Q hq => ?_
  obtain ⟨G, s, ep, q⟩ := hq
  refine ⟨G, s, ep, (PostP.bind (Rp := RepAll) q).mono fun vs H1 ⟨G1, ts, fr, r, em, q1⟩ => ?_⟩
  · have hz : ts.length ≤ sizeLine := by
      rw [hl' ts em, sizeLine_eq]
      omega
    refine ⟨by rw [r.length]; exact hz, fun p u np tu => q1 _ _ _ (Fr.new fr.gh np) (rep_newT fr.gh np tu r)⟩
theorem ep_lst {es : List Expr} {mk : CP} (h : XAk X E ρ es mk) (hl : es.length ≤ 1000 := by decide) : XP X E ρ (.List es pos) (mk D fun ts => .ok (.list ts)) := by
  obtain ⟨m, e, hl', h⟩ := h
  rw [e]
  refine pe_weak (pe_lst h) fun σ H Q hq => ?_
  obtain ⟨G, s, ep, q⟩ := hq
  refine ⟨G, s, ep, (PostP.bind (Rp := RepAll) q).mono fun vs H1 ⟨G1, ts, fr, r, em, q1⟩ => ?_⟩
  · have hz : ts.length ≤ sizeLine := by
      rw [hl' ts em, sizeLine_eq]
      omega
    refine ⟨by rw [r.length]; exact hz, fun p np => q1 _ _ _ (Fr.new fr.gh np) (rep_newL fr.gh np r)⟩
theorem ep_callB {x : Str} {p : Pos} {id : String} {es : List Expr} {mk : CP} {f : List D → R D} (hc : CallD X E (.builtin id) f) (hm : X.mg x = none) (ha : XAk X E ρ (a :: es) mk) (hv : bootBuiltins x = some (.builtin id) := by decide +kernel) (hg : Gl X x := by rfl) (hn : x ≠ "__name__" := by decide)
    (hdb : (x == ("__debug__" : Str)) = false := by decide) (he : starEach (a :: es) X.env = (false, eval a X.env) :: starEach es X.env := by rfl) (hpl : (backTo pos (starEach es X.env)).any (·.1) = false := by rfl) : XP X E ρ (.Call (.Name x p) (a :: es) [] pos) (mk D f) := by
  obtain ⟨m, e, _, h⟩ := ha
  rw [e]
  refine pe_weak (pe_callB hc hg hm hv h hn hdb he hpl) fun σ H Q hq => ?_
  obtain ⟨G, s, ep, q⟩ := hq
  exact ⟨G, s, ep, (PostP.bind (Rp := RepAll) q).mono fun vs H1 ⟨G1, ts, fr, r, _, q1⟩ => ⟨G1, ts, fr.gh, r, q1⟩⟩
theorem ep_callT {x : Str} {p : Pos} {T : String} {es : List Expr} {mk : CP} {f : List D → R D} (hc : CallD X E (.type T) f) (hm : X.mg x = none) (ha : XAk X E ρ (a :: es) mk) (hv : bootBuiltins x = some (.type T) := by decide +kernel) (hg : Gl X x := by rfl) (hn : x ≠ "__name__" := by decide)
    (hdb : (x == ("__debug__" : Str)) = false := by decide) (he : starEach (a :: es) X.env = (false, eval a X.env) :: starEach es X.env := by rfl) (hpl : (backTo pos (starEach es X.env)).any (·.1) = false := by rfl) : XP X E ρ (.Call (.Name x p) (a :: es) [] pos) (mk D f) := by
  obtain ⟨m, e, _, h⟩ := ha
  rw [e]
  refine pe_weak (pe_callTy hc hg hm hv h hn hdb he hpl) fun σ H Q hq => ?_
  obtain ⟨G, s, ep, q⟩ := hq
  exact ⟨G, s, ep, (PostP.bind (Rp := RepAll) q).mono fun vs H1 ⟨G1, ts, fr, r, _, q1⟩ => ⟨G1, ts, fr.gh, r, q1⟩⟩
abbrev IxD (X : Cx) (E : XK) (f : D → D → R D) : Prop := IxR X (r2 X.K X.mg E f)
theorem ep_ix {f : D → D → R D} (hr : IxD X E f) (ha : XP X E ρ a ma) (hb : XP X E ρ b mb) (hs : PlainIx b := by exact fun _ _ => rfl) : XP X E ρ (.Subscript a b pos) (ma.bind fun x => mb.bind fun y => f x y) :=
  pe_weak (pe_ix hr ha hb hs) fun _ _ _ h => two h
end
end TL
namespace TL
open PySem PySem.Spec PyProof.Rows L2
section
variable {K : PySem.W.Frag} {mg : Str → Option Value} {E : XK} {G H : Hp} {Q : VK}
theorem PostP.now {t : D} {v : V} (s : Same G H) (r : Rep K G v t) (q : PostP Rep K mg E G H (.ok t) Q) : Q v H := q v G H (Fr.refl s) r
theorem PostP.newT {vs : List V} {ts : List D} (s : Same G H) (r : RepAll K G vs ts) (q : PostP Rep K mg E G H (.ok (.tuple ts)) Q) : ∀ p u, H p = none → TupH u vs → Q (.ref p) (upd H p u) := fun p u np tu => q _ _ _ (Fr.new s np) (rep_newT s np tu r)
theorem PostP.newL {vs : List V} {ts : List D} (s : Same G H) (r : RepAll K G vs ts) (q : PostP Rep K mg E G H (.ok (.list ts)) Q) : ∀ p, H p = none → Q (.ref p) (upd H p (.lst vs)) := fun p np => q _ _ _ (Fr.new s np) (rep_newL s np r)
theorem dp_of {v : V} {d : D} (s : Same G H) (r : Rep K G v d) (f : flat d = true) : Dp K H v d := (r.mono s).dp f
end
mutual
theorem flat_plain : ∀ d : D, flat d = PyData.plain d
  | .none => rfl
  | .bool _ => rfl
  | .int _ => rfl
  | .str _ => rfl
  | .list xs => by rw [flat, PyData.plain, flat_plainAll xs]
  | .tuple xs => by rw [flat, PyData.plain, flat_plainAll xs]
  | .dict _ => rfl
theorem flat_plainAll : ∀ ds : List D, flatAll ds = PyData.plainAll ds
  | [] => rfl
  | x :: xs => by rw [flatAll, PyData.plainAll, flat_plain x, flat_plainAll xs]
end
def fit (d : D) : Bool := flat d && decide (d.depth ≤ 60)
theorem fit_flat {d : D} (h : fit d = true) : flat d = true := by
  unfold fit at h
  rw [Bool.and_eq_true] at h
  exact h.1
theorem fit_depth {d : D} (h : fit d = true) : d.depth ≤ 60 := by
  unfold fit at h
  rw [Bool.and_eq_true] at h
  exact of_decide_eq_true h.2
def eqE : D → D → R D
  | .tuple (_ :: _), .tuple [] => .ok (.bool false)
  | .list (_ :: _), .list [] => .ok (.bool false)
  | _, _ => .no
def pyEq (x y : D) : R D := if fit x = true ∧ fit y = true then .ok (.bool (PyData.eqv x y)) else eqE x y
def pyNe (x y : D) : R D := if fit x = true ∧ fit y = true then .ok (.bool (!PyData.eqv x y)) else .no
def pyAdd : D → D → R D
  | .int i, .int j => .ok (.int (i + j))
  | .list xs, .list ys => if xs.length + ys.length ≤ sizeLine then .ok (.list (xs ++ ys)) else .no
  | .tuple xs, .tuple ys => if xs.length + ys.length ≤ sizeLine then .ok (.tuple (xs ++ ys)) else .no
  | .str a, .str b => if a.length + b.length ≤ sizeLine then .ok (.str (a ++ b)) else .no
  | _, _ => .no
def pySub : D → D → R D
  | .int i, .int j => .ok (.int (i - j))
  | _, _ => .no
instance (i j : Int) : Decidable (CMulX i j) := by unfold CMulX; exact inferInstance
def pyMul : D → D → R D
  | .int i, .int j => if CMulX i j then .ok (.int (i * j)) else .no
  | .tuple xs, .int k => if xs ≠ [] ∧ 2 ≤ k ∧ k ≤ 1000 ∧ xs.length ≤ 1000 then .ok (.tuple (List.replicate k.toNat xs).flatten) else .no
  | .list xs, .int k => if -(2 ^ 63) ≤ k ∧ k < 2 ^ 63 ∧ xs.length * k.toNat ≤ sizeLine then .ok (.list (List.replicate k.toNat xs).flatten) else .no
  | _, _ => .no
def pyDiv : D → D → R D
  | .int i, .int j => if 0 < j ∧ j < 1073741824 then .ok (.int (i / j)) else .no
  | _, _ => .no
def pyMod : D → D → R D
  | .int i, .int j => if 0 < j then .ok (.int (i % j)) else .no
  | _, _ => .no
def pyNeg : D → R D
  | .int i => .ok (.int (-i))
  | _ => .no
def pyLt (x y : D) : R D := match x, y with
  | .int i, .int j => .ok (.bool (decide (i < j)))
  | .tuple xs, .tuple ys => if PySem.W.alike (.tuple xs) (.tuple ys) = true ∧ fit (.tuple xs) = true ∧ fit (.tuple ys) = true then .ok (.bool (PySem.W.dataLt (.tuple xs) (.tuple ys))) else .no
  | _, _ => .no
def pyLe : D → D → R D
  | .int i, .int j => .ok (.bool (decide (i ≤ j)))
  | _, _ => .no
def pyGt : D → D → R D
  | .int i, .int j => .ok (.bool (decide (j < i)))
  | _, _ => .no
def pyGe : D → D → R D
  | .int i, .int j => .ok (.bool (decide (j ≤ i)))
  | _, _ => .no
def isIn (x : D) (ys : List D) : Bool := ys.any fun z => PyData.eqv z x
def pyIn (x y : D) : R D := match y with
  | .list ys => if fit x = true ∧ fit (.list ys) = true then .ok (.bool (isIn x ys)) else .no
  | .tuple ys => if fit x = true ∧ fit (.tuple ys) = true then .ok (.bool (isIn x ys)) else .no
  | .str t => match x with
    | .str s => .ok (.bool (!(Builtin.Str.occurrences t s 0 t.length 1).isEmpty))
    | _ => .no
  | _ => .no
def pyNotIn (x y : D) : R D := match y with
  | .list ys => if fit x = true ∧ fit (.list ys) = true then .ok (.bool (!isIn x ys)) else .no
  | .tuple ys => if fit x = true ∧ fit (.tuple ys) = true then .ok (.bool (!isIn x ys)) else .no
  | .str t => match x with
    | .str s => .ok (.bool (!(!(Builtin.Str.occurrences t s 0 t.length 1).isEmpty)))
    | _ => .no
  | _ => .no
def isNone : D → Bool
  | .none => true
  | _ => false
def pyIs (x y : D) : R D := match y with
  | .none => .ok (.bool (isNone x))
  | _ => .no
def pyIsNot (x y : D) : R D := match y with
  | .none => .ok (.bool (!isNone x))
  | _ => .no
def pyIx (x y : D) : R D := match x, y with
  | .list xs, .int i => match atI xs i with
    | some d => .ok d
    | none => .no
  | .tuple xs, .int i => match atI xs i with
    | some d => .ok d
    | none => .no
  | .dict [(.none, .list xs)], .int i => match atI xs i with
    | some d => .ok d
    | none => .no
  | .str z, .int i => if z.length ≤ sizeLine then (match atI z.cps.toList i with
      | some c => .ok (.str ⟨#[c]⟩)
      | none => .no) else .no
  | _, _ => .no
section
variable {X : Cx} {E : XK}
theorem reads_of {pins : List (Addr × Obj)} {σ : L2.St} {G H : Hp} {s : Shared} (I : Inv X pins σ H s) (sa : Same G H) {v : V} {u : Value} {d : D} (r : Rep X.K G v d) (rv : RelV v u) (f : flat d = true) : ∃ as, Reads s.heap u d as := Dp.reads I d v u (dp_of sa r f) rv
theorem od_eq (hu : X.A.units + 66 < cLine) : OpD X E (compareOp .Eq) pyEq := by
  intro pins s σ H x y v u Q I rx ry ⟨G, tx, ty, sa, r1, r2, q⟩
  unfold pyEq at q
  split at q
  · rename_i hf
    obtain ⟨as, q1⟩ := reads_of I sa r1 rx (fit_flat hf.1)
    obtain ⟨bs, q2⟩ := reads_of I sa r2 ry (fit_flat hf.2)
    have h1 := fit_depth hf.1
    have h2 := fit_flat hf.1
    have h3 := fit_flat hf.2
    rw [flat_plain] at h2 h3
    exact PySem.SeqAt.eq_plain q1 q2 h2 h3 (by omega) ⟨.bl _, H, I, rfl, q.now sa (.bl _)⟩
  · unfold eqE at q
    split at q
    · rename_i d ds _
      cases r1 with
      | tup h ra =>
        cases r2 with
        | tup h2 ra2 =>
          cases ra2
          cases rx
          cases ry
          obtain ⟨its, rv, ht, _⟩ := I.tuple (same_seqT sa h)
          obtain ⟨its2, rv2, ht2, _⟩ := I.tuple (same_seqT sa h2)
          cases rv2
          have hl : its.length ≠ 0 := by
            rw [← rv.length, ra.length]
            simp
          refine PySem.SeqAt.eq_tupleAt (e := fun _ => true) (by obtain ⟨o, h1, h2, n, h3⟩ := ht; exact ⟨o, h1, h2, n, h3⟩) (by obtain ⟨o, h1, h2, n, h3⟩ := ht2; exact ⟨o, h1, h2, n, h3⟩) (by omega) (fun j h1 h2 => by simp at h2) ?_
          have e : (((List.range (min its.toArray.size ([] : List Value).toArray.size)).all fun _ => true) && its.toArray.size == ([] : List Value).toArray.size) = false := by simpa using hl
          rw [e]
          exact ⟨.bl _, H, I, rfl, q.now sa (.bl _)⟩
    · rename_i d ds _
      cases r1 with
      | lst h ra =>
        cases r2 with
        | lst h2 ra2 =>
          cases ra2
          cases rx
          cases ry
          obtain ⟨its, rv, pl, _⟩ := I.list (same_lst (K := X.K) sa h)
          obtain ⟨its2, rv2, pl2, _⟩ := I.list (same_lst (K := X.K) sa h2)
          cases rv2
          have hl : its.length ≠ 0 := by
            rw [← rv.length, ra.length]
            simp
          exact PySem.SeqAt.eq_list_lengthsAt pl.isList pl2.isList (by simpa using hl) (by omega) ⟨.bl _, H, I, rfl, q.now sa (.bl _)⟩
    · exact q.elim
theorem od_ne (hu : X.A.units + 66 < cLine) : OpD X E (compareOp .NotEq) pyNe := by
  intro pins s σ H x y v u Q I rx ry ⟨G, tx, ty, sa, r1, r2, q⟩
  unfold pyNe at q
  split at q
  · rename_i hf
    obtain ⟨as, q1⟩ := reads_of I sa r1 rx (fit_flat hf.1)
    obtain ⟨bs, q2⟩ := reads_of I sa r2 ry (fit_flat hf.2)
    have h1 := fit_depth hf.1
    have h2 := fit_flat hf.1
    have h3 := fit_flat hf.2
    rw [flat_plain] at h2 h3
    exact PySem.SeqAt.ne_plain q1 q2 h2 h3 (by omega) ⟨.bl _, H, I, rfl, q.now sa (.bl _)⟩
  · exact q.elim
theorem op_catL2 {pins : List (Addr × Obj)} {σ : L2.St} {H : Hp} {s : Shared} {a b : Addr} {xs ys : List V} {Q : VK} (I : Inv X pins σ H s) (ha : SqL X.K H a xs) (hb : SqL X.K H b ys) (hz : xs.length + ys.length ≤ sizeLine) (q : ∀ p, H p = none → Q (.ref p) (upd H p (.lst (xs ++ ys)))) :
    wpAny (model X.prog X.w) X.A (binaryOp .Add (.ref a) (.ref b)) (L2.EP X pins σ Q) X.xe s := by
  obtain ⟨vs, rv, pl, _⟩ := I.list ha
  obtain ⟨ws, rw', pl2, _⟩ := I.list hb
  obtain ⟨⟨cls, dd, data, sl⟩, ho, hc, n, hd⟩ := pl.isList
  obtain ⟨⟨cls2, dd2, data2, sl2⟩, ho2, hc2, n2, hd2⟩ := pl2.isList
  simp only at hc hd hc2 hd2
  subst hc hd hc2 hd2
  have e : vs.toArray ++ ws.toArray = (vs ++ ws).toArray := by simp
  refine concat_meets ⟨_, ho, rfl⟩ ⟨_, ho2, rfl⟩ noFill_list_add seq_list_add PySem.F.slot_list_add PySem.F.entry_list_add (PySem.F.args_list_add_2 _ _) (list_addW a b vs.toArray ws.toArray n n2 dd dd2 sl sl2 (by
    have := rv.length
    have := rw'.length
    simp only [List.size_toArray]
    omega)) ⟨ho, ho2, ?_⟩
  rw [e]
  exact ⟨.ref _, _, I.lnew (t' := s.toks) (rv.append rw') (by rw [List.length_append]; exact hz), rfl, q _ I.fresh⟩
theorem od_add : OpD X E (binaryOp .Add) pyAdd := by
  intro pins s σ H x y v u Q I rx ry ⟨G, tx, ty, sa, r1, r2, q⟩
  cases r1 with
  | int i => cases r2 with
    | int j => exact op_add pins s σ H _ _ v u Q I rx ry ⟨i, j, rfl, rfl, q.now sa (.int _)⟩
    | _ => exact q.elim
  | str a => cases r2 with
    | str b =>
      simp only [pyAdd] at q
      split at q
      · rename_i hz
        exact op_add_str pins s σ H _ _ v u Q I rx ry ⟨a, b, rfl, rfl, hz, q.now sa (.str _)⟩
      · exact q.elim
    | _ => exact q.elim
  | lst h1 a1 => cases r2 with
    | lst h2 a2 =>
      simp only [pyAdd] at q
      split at q
      · rename_i hz
        cases rx
        cases ry
        exact op_catL2 I (same_lst sa h1) (same_lst sa h2) (by rw [a1.length, a2.length]; exact hz) (q.newL sa (a1.append a2))
      · exact q.elim
    | _ => exact q.elim
  | tup h1 a1 => cases r2 with
    | tup h2 a2 =>
      simp only [pyAdd] at q
      split at q
      · rename_i xs ys hz
        refine op_catU pins s σ H _ _ v u Q I rx ry ⟨_, _, _, _, rfl, rfl, same_seqT sa h1, same_seqT sa h2, by rw [a1.length, a2.length]; exact hz, fun e => ?_, fun e1 e2 => ?_, fun _ _ => q.newT sa (a1.append a2)⟩
        · subst e
          cases a1
          exact q.now sa (.tup h2 a2)
        · subst e2
          cases a2
          rw [List.append_nil] at q
          exact q.now sa (.tup h1 a1)
      · exact q.elim
    | _ => exact q.elim
  | _ => exact q.elim
theorem od_sub : OpD X E (binaryOp .Sub) pySub := by
  intro pins s σ H x y v u Q I rx ry ⟨G, tx, ty, sa, r1, r2, q⟩
  cases r1 with
  | int i => cases r2 with
    | int j => exact op_sub pins s σ H _ _ v u Q I rx ry ⟨i, j, rfl, rfl, q.now sa (.int _)⟩
    | _ => exact q.elim
  | _ => exact q.elim
theorem repAll_rep {K : PySem.W.Frag} {G : Hp} {vs : List V} {ds : List D} (r : RepAll K G vs ds) : ∀ n : Nat, RepAll K G (List.replicate n vs).flatten (List.replicate n ds).flatten
  | 0 => .nil
  | n + 1 => by
    rw [List.replicate_succ, List.replicate_succ, List.flatten_cons, List.flatten_cons]
    exact r.append (repAll_rep r n)
theorem od_mul : OpD X E (binaryOp .Mult) pyMul := by
  intro pins s σ H x y v u Q I rx ry ⟨G, tx, ty, sa, r1, r2, q⟩
  cases r1 with
  | int i => cases r2 with
    | int j =>
      simp only [pyMul] at q
      split at q
      · rename_i hc
        exact op_mulX pins s σ H _ _ v u Q I rx ry ⟨i, j, rfl, rfl, hc, q.now sa (.int _)⟩
      · exact q.elim
    | _ => exact q.elim
  | tup h a => cases r2 with
    | int k =>
      simp only [pyMul] at q
      split at q
      · rename_i hc
        obtain ⟨h1, h2, h3, h4⟩ := hc
        exact op_repU pins s σ H _ _ v u Q I rx ry ⟨_, k, _, rfl, rfl, same_seqT sa h, fun z => h1 (by
          have := a.length
          rw [z] at this
          exact List.length_eq_zero_iff.mp this.symm), h2, h3, by rw [a.length]; exact h4, q.newT sa (repAll_rep a k.toNat)⟩
      · exact q.elim
    | _ => exact q.elim
  | lst h a => cases r2 with
    | int k =>
      simp only [pyMul] at q
      split at q
      · rename_i hc
        obtain ⟨h1, h2, h3⟩ := hc
        exact op_rep pins s σ H _ _ v u Q I rx ry ⟨_, k, _, rfl, rfl, sa _ _ h, h1, h2, by rw [a.length]; exact h3, q.newL sa (repAll_rep a k.toNat)⟩
      · exact q.elim
    | _ => exact q.elim
  | _ => exact q.elim
theorem od_div : OpD X E (binaryOp .FloorDiv) pyDiv := by
  intro pins s σ H x y v u Q I rx ry ⟨G, tx, ty, sa, r1, r2, q⟩
  cases r1 with
  | int i => cases r2 with
    | int j =>
      simp only [pyDiv] at q
      split at q
      · rename_i hc
        exact op_fdiv pins s σ H _ _ v u Q I rx ry ⟨i, j, rfl, rfl, hc, q.now sa (.int _)⟩
      · exact q.elim
    | _ => exact q.elim
  | _ => exact q.elim
theorem od_mod : OpD X E (binaryOp .Mod) pyMod := by
  intro pins s σ H x y v u Q I rx ry ⟨G, tx, ty, sa, r1, r2, q⟩
  cases r1 with
  | int i => cases r2 with
    | int j =>
      simp only [pyMod] at q
      split at q
      · rename_i hc
        exact op_mod pins s σ H _ _ v u Q I rx ry ⟨i, j, rfl, rfl, hc, q.now sa (.int _)⟩
      · exact q.elim
    | _ => exact q.elim
  | _ => exact q.elim
theorem ud_neg : UnD X E (unaryOp .USub) pyNeg := by
  intro pins s σ H x v Q I rx ⟨G, tx, sa, r1, q⟩
  cases r1 with
  | int i => exact un_neg pins s σ H _ v Q I rx ⟨i, rfl, q.now sa (.int _)⟩
  | _ => exact q.elim
theorem od_lt (hu : X.A.units + 66 < cLine) : OpD X E (compareOp .Lt) pyLt := by
  intro pins s σ H x y v u Q I rx ry ⟨G, tx, ty, sa, r1, r2, q⟩
  cases r1 with
  | int i => cases r2 with
    | int j => exact op_lt pins s σ H _ _ v u Q I rx ry ⟨i, j, rfl, rfl, q.now sa (.bl _)⟩
    | _ => exact q.elim
  | tup h1 a1 => cases r2 with
    | tup h2 a2 =>
      rename_i a xs dx b ys dy
      simp only [pyLt] at q
      split at q
      · rename_i hc
        obtain ⟨as, q1⟩ := reads_of I sa (.tup h1 a1) rx (fit_flat hc.2.1)
        obtain ⟨bs, q2⟩ := reads_of I sa (.tup h2 a2) ry (fit_flat hc.2.2)
        have hd := fit_depth hc.2.1
        exact PySem.W.rcLt_alike _ _ X.A s v u as bs q1 q2 hc.1 (fun z => by cases z) (by omega) _ _ _ _ ⟨.bl _, H, I, rfl, q.now sa (.bl _)⟩
      · exact q.elim
    | _ => exact q.elim
  | _ => exact q.elim
theorem od_le : OpD X E (compareOp .LtE) pyLe := by
  intro pins s σ H x y v u Q I rx ry ⟨G, tx, ty, sa, r1, r2, q⟩
  cases r1 with
  | int i => cases r2 with
    | int j => exact op_le pins s σ H _ _ v u Q I rx ry ⟨i, j, rfl, rfl, q.now sa (.bl _)⟩
    | _ => exact q.elim
  | _ => exact q.elim
theorem od_gt : OpD X E (compareOp .Gt) pyGt := by
  intro pins s σ H x y v u Q I rx ry ⟨G, tx, ty, sa, r1, r2, q⟩
  cases r1 with
  | int i => cases r2 with
    | int j => exact op_gt pins s σ H _ _ v u Q I rx ry ⟨i, j, rfl, rfl, q.now sa (.bl _)⟩
    | _ => exact q.elim
  | _ => exact q.elim
theorem od_in (hu : X.A.units + 66 < cLine) : OpD X E (compareOp .In) pyIn := by
  intro pins s σ H x y v u Q I rx ry ⟨G, tx, ty, sa, r1, r2, q⟩
  cases r2 with
  | lst h2 a2 =>
    simp only [pyIn] at q
    split at q
    · rename_i hf
      obtain ⟨as, q1⟩ := reads_of I sa r1 rx (fit_flat hf.1)
      obtain ⟨bs, q2⟩ := reads_of I sa (.lst h2 a2) ry (fit_flat hf.2)
      have h1 := fit_depth hf.1
      have h2 := fit_flat hf.1
      have h3 := fit_flat hf.2
      rw [flat_plain] at h2 h3
      exact PySem.SeqAt.in_list_data q2 q1 (by simpa [PyData.plain] using h3) h2 (by omega) ⟨.bl _, H, I, rfl, q.now sa (.bl _)⟩
    · exact q.elim
  | tup h2 a2 =>
    simp only [pyIn] at q
    split at q
    · rename_i hf
      obtain ⟨as, q1⟩ := reads_of I sa r1 rx (fit_flat hf.1)
      obtain ⟨bs, q2⟩ := reads_of I sa (.tup h2 a2) ry (fit_flat hf.2)
      have h1 := fit_depth hf.1
      have h2 := fit_flat hf.1
      have h3 := fit_flat hf.2
      rw [flat_plain] at h2 h3
      exact PySem.SeqAt.in_tuple_data q2 q1 (by simpa [PyData.plain] using h3) h2 (by omega) ⟨.bl _, H, I, rfl, q.now sa (.bl _)⟩
    · exact q.elim
  | str t => cases r1 with
    | str z => exact op_in_str pins s σ H _ _ v u Q I rx ry ⟨z, t, rfl, rfl, q.now sa (.bl _)⟩
    | _ => exact q.elim
  | _ => exact q.elim
theorem od_notin (hu : X.A.units + 66 < cLine) : OpD X E (compareOp .NotIn) pyNotIn := by
  intro pins s σ H x y v u Q I rx ry ⟨G, tx, ty, sa, r1, r2, q⟩
  cases r2 with
  | lst h2 a2 =>
    simp only [pyNotIn] at q
    split at q
    · rename_i hf
      obtain ⟨as, q1⟩ := reads_of I sa r1 rx (fit_flat hf.1)
      obtain ⟨bs, q2⟩ := reads_of I sa (.lst h2 a2) ry (fit_flat hf.2)
      have h1 := fit_depth hf.1
      have h2 := fit_flat hf.1
      have h3 := fit_flat hf.2
      rw [flat_plain] at h2 h3
      exact PySem.SeqAt.notIn_list_data q2 q1 (by simpa [PyData.plain] using h3) h2 (by omega) ⟨.bl _, H, I, rfl, q.now sa (.bl _)⟩
    · exact q.elim
  | tup h2 a2 =>
    simp only [pyNotIn] at q
    split at q
    · rename_i hf
      obtain ⟨as, q1⟩ := reads_of I sa r1 rx (fit_flat hf.1)
      obtain ⟨bs, q2⟩ := reads_of I sa (.tup h2 a2) ry (fit_flat hf.2)
      have h1 := fit_depth hf.1
      have h2 := fit_flat hf.1
      have h3 := fit_flat hf.2
      rw [flat_plain] at h2 h3
      exact PySem.SeqAt.notIn_tuple_data q2 q1 (by simpa [PyData.plain] using h3) h2 (by omega) ⟨.bl _, H, I, rfl, q.now sa (.bl _)⟩
    · exact q.elim
  | str t => cases r1 with
    | str z => exact op_notin_str pins s σ H _ _ v u Q I rx ry ⟨z, t, rfl, rfl, q.now sa (.bl _)⟩
    | _ => exact q.elim
  | _ => exact q.elim
theorem RepAll.atI {K : PySem.W.Frag} {G : Hp} {vs : List V} {ds : List D} {i : Int} {d : D} (r : RepAll K G vs ds) (h : L2.atI ds i = some d) : ∃ v, L2.atI vs i = some v ∧ Rep K G v d := by
  unfold L2.atI at h ⊢
  rw [r.length]
  cases e : ixN ds.length i with
  | none => rw [e] at h; cases h
  | some j =>
    rw [e] at h
    exact r.get h
abbrev D0int (i : Int) : D := .int i
theorem nums_rep {K : PySem.W.Frag} {G : Hp} : ∀ bs : List Int, RepAll K G (bs.map V.int) (bs.map D0int)
  | [] => .nil
  | b :: bs => .cons (.int b) (nums_rep bs)
theorem ix_dict {es : List (D × D)} {y : D} (h : ∀ xs, es ≠ [(.none, .list xs)]) : pyIx (.dict es) y = .no := by
  cases es with
  | nil => cases y <;> rfl
  | cons p es =>
    obtain ⟨k, v⟩ := p
    cases es with
    | nil => cases k <;> cases v <;> cases y <;> first | rfl | exact absurd rfl (h _)
    | cons q es => cases k <;> cases v <;> cases y <;> rfl
theorem not_scrK {kvs : List (Key × V)} {es : List (D × D)} (ek : es.map (·.1) = kvs.map (fun p => keyD p.1)) (xs : List D) : es ≠ [(.none, .list xs)] := by
  rintro rfl
  cases kvs with
  | nil => cases ek
  | cons k kvs => obtain ⟨k1 | k1, v⟩ := k <;> simp [keyD] at ek
theorem not_scrT {kvs : List (List Key × V)} {es : List (D × D)} (ek : es.map (·.1) = kvs.map (fun p => PyData.tuple (p.1.map keyD))) (xs : List D) : es ≠ [(.none, .list xs)] := by
  rintro rfl
  cases kvs with
  | nil => cases ek
  | cons k kvs => simp at ek
theorem ix_nonint {x y : D} (h : ∀ i, y ≠ .int i) : pyIx x y = .no := by
  cases y with
  | int i => exact absurd rfl (h i)
  | _ =>
    cases x with
    | dict es =>
      cases es with
      | nil => rfl
      | cons p es =>
        obtain ⟨k, v⟩ := p
        cases es with
        | nil => cases k <;> cases v <;> rfl
        | cons q es => cases k <;> cases v <;> rfl
    | _ => rfl
theorem id_ix : IxD X E pyIx := by
  intro value slice pins s σ H x y v u Q I rx ry ⟨G, tx, ty, sa, r1, r2, q⟩ hs
  cases r2 with
  | int i => cases r1 with
    | lst h1 a1 =>
      simp only [pyIx] at q
      split at q
      · rename_i d e
        obtain ⟨w, e2, r⟩ := a1.atI e
        exact ix_list value slice pins s σ H _ _ v u Q I rx ry ⟨_, _, i, w, rfl, rfl, same_lst sa h1, e2, q.now sa r⟩ hs
      · exact q.elim
    | tup h1 a1 =>
      simp only [pyIx] at q
      split at q
      · rename_i d e
        obtain ⟨w, e2, r⟩ := a1.atI e
        exact ix_tup value slice pins s σ H _ _ v u Q I rx ry ⟨_, _, i, w, rfl, rfl, same_seqT sa h1, e2, q.now sa r⟩ hs
      · exact q.elim
    | str z =>
      simp only [pyIx] at q
      split at q
      · rename_i hz
        split at q
        · rename_i c e
          exact ix_str value slice pins s σ H _ _ v u Q I rx ry ⟨z, i, c, rfl, rfl, hz, e, q.now sa (.str _)⟩ hs
        · exact q.elim
      · exact q.elim
    | scr h =>
      rename_i a ns
      have q' : PostP Rep X.K X.mg E G H (match atI (ns.map D0int) i with
        | some d => .ok d
        | none => .no) Q := q
      cases e : atI (ns.map D0int) i with
      | none => rw [e] at q'; exact q'.elim
      | some d =>
        rw [e] at q'
        obtain ⟨w, e2, r⟩ := (nums_rep ns).atI e
        exact ix_list value slice pins s σ H _ _ v u Q I rx ry ⟨_, _, i, w, rfl, rfl, sa.seq h, e2, q'.now sa r⟩ hs
    | dK h ek r =>
      rw [ix_dict (not_scrK ek)] at q
      exact q.elim
    | dT h ek r =>
      rw [ix_dict (not_scrT ek)] at q
      exact q.elim
    | exc => exact q.elim
    | _ => exact q.elim
  | _ =>
    rw [ix_nonint (by intro i z; cases z)] at q
    exact q.elim
end
end TL
namespace PySem.W
open PySem PySem.SeqAt PyProof.Rows
section
variable {prog : Program} {w : World} {A : Around} {E : Value → Shared → Prop} {s : Shared} {β : Type} {vs : List Value} {bs : List β} {enc : β → PyData} {R : Value → β → Prop} {κ : PyProof.Rows.KeyKind}
theorem collect_tupT {l : Addr} {vs : List Value} {Q : List Value → Shared → Prop} (hl : IsTup s.heap l vs.toArray)
    (h : Q vs { s with heap := (s.heap.push (seqObj "list" #[] 0)).update s.heap.objs.size (Obj.mapSeq (· ++ vs.toArray)) }) (hsz : vs.length ≤ sizeLine) :
    wpAny (model prog w) A (collect (.ref l)) Q E s := by
  obtain ⟨o, ho, hc, n, hd⟩ := id hl
  unfold collect
  refine wpAny_bind (wpAny_runValue (codeAny_builtin entry_proto_collect' ?_))
  show wpAny _ _ (do again (.builtin "list.__iadd__" ⟨[← newList [], .ref l], []⟩)) _ _ s
  refine wpAny_bind (wpAny_newList (wpAny_pure ⟨Code.quiet_builtin _ (by decide +kernel), codeAny_builtin entry_list_iadd' ?_⟩))
  show wpAny _ _ (Builtin.List.listExtendWith (.ref s.heap.objs.size) (.ref l) (.ref s.heap.objs.size)) _ _ { s with heap := s.heap.push (seqObj "list" #[] 0) }
  unfold Builtin.List.listExtendWith
  have ho' : (s.heap.push (seqObj "list" #[] 0)).get? l = some o := Heap.get?_push_of_some _ ho
  refine wpAny_bind (wpAny_typeOf (T := "tuple") ⟨o, ho', hc⟩ ?_)
  have ht : (Value.type "tuple" == Value.type "tuple") = true := by rfl
  rw [if_pos (by rw [ht]; simp)]
  refine wpAny_bind (listItems_at ho' hd ?_)
  refine wpAny_bind (listItems_at (xs := #[]) (n := 0) (Heap.get?_push_size _ rfl) rfl ?_)
  rw [if_neg (by simp)]
  refine wpAny_bind (listUpdate_at (xs := #[]) (n := 0) (Heap.get?_push_size _ rfl) rfl ?_ (Nat.zero_le _) (by show (#[] ++ vs.toArray).size ≤ sizeLine + 1; simp only [Array.size_append, List.size_toArray, List.length_nil]; omega))
  refine wpAny_pure ?_
  show wpAny (model prog w) A (do
      let o ← load s.heap.objs.size
      match o.data with
      | .seq xs _ => pure xs.toList
      | _ => unsupported "internal:collect") Q E { s with heap := (s.heap.push (seqObj "list" #[] 0)).update s.heap.objs.size (Obj.mapSeq (· ++ vs.toArray)) }
  refine wpAny_bind (wpAny_load (get?_update_seq (Heap.get?_push_size _ rfl) _) ?_)
  show wpAny _ _ (pure ((#[] : Array Value) ++ vs.toArray).toList) Q E _
  rw [show ((#[] : Array Value) ++ vs.toArray).toList = vs by simp]
  exact wpAny_pure h
theorem sortedT_of_sort {l : Addr} {vs : List Value} {Q : Value → Shared → Prop} (hl : IsTup s.heap l vs.toArray) (hL : vs.length ≤ sizeLine)
    (body : ∀ E' : Value → Shared → Prop, wpAny (model prog w) A.in1.in1 (Builtin.«list.sort» ⟨[.ref (s.heap.objs.size + 1)], []⟩) (fun f s' => f = .done (.ret .none) ∧ Q (.ref (s.heap.objs.size + 1)) s') E' { s with heap := copyHeap s.heap vs }) :
    wpAny (model prog w) A (call (.builtin "sorted") [.ref l]) Q E s := by
  refine call_function_entry_kw kind_sorted plain_sorted entry_sorted (args_sorted1 _) ?_
  unfold Builtin.«sorted»
  refine wpAny_bind (m := checkCount "sorted" 1 1 _) (wpAny_pure ?_)
  refine wpAny_bind (collect_tupT hl ?_ hL)
  refine wpAny_bind (wpAny_newList ?_ hL)
  have hsz : ((s.heap.push (seqObj "list" #[] 0)).update s.heap.objs.size (Obj.mapSeq (· ++ vs.toArray))).objs.size = s.heap.objs.size + 1 := by
    rw [Heap.size_update, size_push']
  show wpAny _ _ _ _ _ { s with heap := copyHeap s.heap vs }
  rw [hsz]
  refine wpAny_bind (wpAny_holding (wpAny_call_entry_kw slot_list_sort ⟨_, copyHeap_at s.heap vs, rfl⟩ entry_list_sort ?body (args_list_sort _)))
  case body =>
    show wpAny (model prog w) A.in1.in1 (Builtin.«list.sort» ⟨[.ref (s.heap.objs.size + 1)], []⟩) _ _ _
    refine wpAny_mono (body _) (fun f s' hf => ?_) fun _ _ e => e
    obtain ⟨rfl, hq⟩ := hf
    exact ⟨_, rfl, wpAny_pure ⟨_, rfl, hq⟩⟩
theorem sortedT_vals {l : Addr} {vs : List Value} {Q : Value → Shared → Prop} (hl : IsTup s.heap l vs.toArray) (S : SortsAt prog w A.in1.in1 { s with heap := sortingHeap (copyHeap s.heap vs) (s.heap.objs.size + 1) vs } κ vs) (hL : vs.length ≤ sizeLine)
    (h : Q (.ref (s.heap.objs.size + 1)) { s with heap := sortedAll s.heap vs (sortVals κ false vs vs).toArray }) : wpAny (model prog w) A (call (.builtin "sorted") [.ref l]) Q E s :=
  sortedT_of_sort hl hL fun _ => list_sort_vals (s := { s with heap := copyHeap s.heap vs }) (copyHeap_at s.heap vs) S hL ⟨rfl, h⟩
theorem sortedT_data {l : Addr} {Q : Value → Shared → Prop} (hl : IsTup s.heap l vs.toArray) (e : EachIs R vs bs) (er : EachIs (fun v b => ∃ as, Reads s.heap v (enc b) as) vs bs) (hal : AllAlike (bs.map enc)) (hk : Sortable (bs.map enc)) (hL : bs.length ≤ sizeLine)
    (hu : ∀ b, b ∈ bs → A.units + 2 + (enc b).depth < cLine) (h : ∀ out, out.length = bs.length → EachIs R out (bs.mergeSort (dataLe false enc)) → Q (.ref (s.heap.objs.size + 1)) { s with heap := sortedAll s.heap vs (List.toArray out) }) :
    wpAny (model prog w) A (call (.builtin "sorted") [.ref l]) Q E s := by
  have er' : EachIs (fun v b => ∃ as, Reads (sortingHeap (copyHeap s.heap vs) (s.heap.objs.size + 1) vs) v (enc b) as) vs bs := er.mono fun _ _ ⟨as, r⟩ => ⟨as, PyProof.Rows.Reads.keeps (fun _ _ => sorting_copy_old) r⟩
  exact sortedT_vals hl (SortsAt.data (s := { s with heap := sortingHeap (copyHeap s.heap vs) (s.heap.objs.size + 1) vs }) (each_map (R := fun v d => ∃ as, Reads (sortingHeap (copyHeap s.heap vs) (s.heap.objs.size + 1) vs) v d as) enc er') hal hk (bound_map hu)) (by rw [e.length]; exact hL)
    (h _ (by rw [sortVals_length false rfl]; exact e.length) (sortVals_data false e er' hal))
end
end PySem.W
namespace TL
open PySem PySem.Spec PyProof.Rows L2
def pyLen : List D → R D
  | [.list xs] => .ok (.int xs.length)
  | [.tuple xs] => .ok (.int xs.length)
  | [.str s] => if s.length ≤ sizeLine then .ok (.int s.length) else .no
  | [.dict [(.none, .list xs)]] => .ok (.int xs.length)
  | _ => .no
def pyList : List D → R D
  | [.list xs] => .ok (.list xs)
  | [.tuple xs] => .ok (.list xs)
  | _ => .no
def pyTuple : List D → R D
  | [.list xs] => .ok (.tuple xs)
  | [.tuple xs] => .ok (.tuple xs)
  | _ => .no
def bools : List D → Option (List Bool)
  | [] => some []
  | .bool b :: xs => (bools xs).map (b :: ·)
  | _ => none
def nums : List D → Option (List Int)
  | [] => some []
  | .int b :: xs => (nums xs).map (b :: ·)
  | _ => none
theorem bools_eq : ∀ {xs : List D} {bs : List Bool}, bools xs = some bs → xs = bs.map .bool
  | [], bs, h => by cases h; rfl
  | x :: xs, bs, h => by
    cases x with
    | bool b =>
      simp only [bools] at h
      cases e : bools xs with
      | none => rw [e] at h; cases h
      | some cs => rw [e] at h; cases h; rw [bools_eq e]; rfl
    | _ => cases h
theorem nums_eq : ∀ {xs : List D} {bs : List Int}, nums xs = some bs → xs = bs.map .int
  | [], bs, h => by cases h; rfl
  | x :: xs, bs, h => by
    cases x with
    | int b =>
      simp only [nums] at h
      cases e : nums xs with
      | none => rw [e] at h; cases h
      | some cs => rw [e] at h; cases h; rw [nums_eq e]; rfl
    | _ => cases h
@[simp] theorem bools_map : ∀ bs : List Bool, bools (bs.map .bool) = some bs
  | [] => rfl
  | b :: bs => by
    show (bools (bs.map .bool)).map (b :: ·) = _
    rw [bools_map bs]
    rfl
@[simp] theorem nums_map : ∀ bs : List Int, nums (bs.map .int) = some bs
  | [] => rfl
  | b :: bs => by
    show (nums (bs.map .int)).map (b :: ·) = _
    rw [nums_map bs]
    rfl
def pyAll : List D → R D
  | [.list xs] => match bools xs with
    | some bs => .ok (.bool (bs.all id))
    | none => .no
  | _ => .no
def pyAny : List D → R D
  | [.list xs] => match bools xs with
    | some bs => .ok (.bool (bs.any id))
    | none => .no
  | _ => .no
def lmax : List Int → Int
  | [] => 0
  | x :: xs => xs.foldl (fun a b => if b > a then b else a) x
def lmin : List Int → Int
  | [] => 0
  | x :: xs => xs.foldl (fun a b => if b < a then b else a) x
theorem foldmax : ∀ (xs : List Int) (a : Int), (xs.foldl (fun a b => if b > a then b else a) a = a ∨ xs.foldl (fun a b => if b > a then b else a) a ∈ xs) ∧ a ≤ xs.foldl (fun a b => if b > a then b else a) a ∧
    ∀ y ∈ xs, y ≤ xs.foldl (fun a b => if b > a then b else a) a
  | [], a => ⟨.inl rfl, Int.le_refl _, fun _ h => nomatch h⟩
  | x :: xs, a => by
    obtain ⟨h1, h2, h3⟩ := foldmax xs (if x > a then x else a)
    simp only [List.foldl_cons, List.mem_cons]
    generalize xs.foldl (fun a b => if b > a then b else a) (if x > a then x else a) = m at h1 h2 h3
    refine ⟨?_, ?_, ?_⟩
    · rcases h1 with h1 | h1
      · split at h1
        · exact .inr (.inl h1)
        · exact .inl h1
      · exact .inr (.inr h1)
    · split at h2 <;> omega
    · rintro y (rfl | hy)
      · split at h2 <;> omega
      · exact h3 y hy
theorem foldmin : ∀ (xs : List Int) (a : Int), (xs.foldl (fun a b => if b < a then b else a) a = a ∨ xs.foldl (fun a b => if b < a then b else a) a ∈ xs) ∧ xs.foldl (fun a b => if b < a then b else a) a ≤ a ∧
    ∀ y ∈ xs, xs.foldl (fun a b => if b < a then b else a) a ≤ y
  | [], a => ⟨.inl rfl, Int.le_refl _, fun _ h => nomatch h⟩
  | x :: xs, a => by
    obtain ⟨h1, h2, h3⟩ := foldmin xs (if x < a then x else a)
    simp only [List.foldl_cons, List.mem_cons]
    generalize xs.foldl (fun a b => if b < a then b else a) (if x < a then x else a) = m at h1 h2 h3
    refine ⟨?_, ?_, ?_⟩
    · rcases h1 with h1 | h1
      · split at h1
        · exact .inr (.inl h1)
        · exact .inl h1
      · exact .inr (.inr h1)
    · split at h2 <;> omega
    · rintro y (rfl | hy)
      · split at h2 <;> omega
      · exact h3 y hy
theorem lmax_spec {xs : List Int} (h : xs ≠ []) : lmax xs ∈ xs ∧ ∀ y ∈ xs, y ≤ lmax xs := by
  cases xs with
  | nil => exact absurd rfl h
  | cons x xs =>
    obtain ⟨h1, h2, h3⟩ := foldmax xs x
    refine ⟨?_, fun y hy => ?_⟩
    · rcases h1 with h1 | h1
      · exact List.mem_cons.mpr (.inl h1)
      · exact List.mem_cons_of_mem _ h1
    · rcases List.mem_cons.mp hy with rfl | hy
      · exact h2
      · exact h3 y hy
theorem lmin_spec {xs : List Int} (h : xs ≠ []) : lmin xs ∈ xs ∧ ∀ y ∈ xs, lmin xs ≤ y := by
  cases xs with
  | nil => exact absurd rfl h
  | cons x xs =>
    obtain ⟨h1, h2, h3⟩ := foldmin xs x
    refine ⟨?_, fun y hy => ?_⟩
    · rcases h1 with h1 | h1
      · exact List.mem_cons.mpr (.inl h1)
      · exact List.mem_cons_of_mem _ h1
    · rcases List.mem_cons.mp hy with rfl | hy
      · exact h2
      · exact h3 y hy
def pyMax : List D → R D
  | [.int i, .int j] => .ok (.int (if j > i then j else i))
  | [.list xs] => match nums xs with
    | some ns => if ns = [] then .no else .ok (.int (lmax ns))
    | none => .no
  | [.tuple xs] => match nums xs with
    | some ns => if ns = [] then .no else .ok (.int (lmax ns))
    | none => .no
  | _ => .no
def pyMin : List D → R D
  | [.int i, .int j] => .ok (.int (if j < i then j else i))
  | [.list xs] => match nums xs with
    | some ns => if ns = [] then .no else .ok (.int (lmin ns))
    | none => .no
  | [.tuple xs] => match nums xs with
    | some ns => if ns = [] then .no else .ok (.int (lmin ns))
    | none => .no
  | _ => .no
def pyInt : List D → R D
  | [.int i] => .ok (.int i)
  | [.bool k] => .ok (.int (if k then 1 else 0))
  | _ => .no
def pyDivmod : List D → R D
  | [.int i, .int j] => if 0 < j ∧ j < 1073741824 then .ok (.tuple [.int (i / j), .int (i % j)]) else .no
  | _ => .no
def sortable (xs : List D) : Bool := (xs.all fun d => xs.all fun e => PySem.W.alike d e) && xs.all fit && ((xs.all fun d => match d with
  | .tuple (_ :: _) => true
  | _ => false) || xs.all fun d => match d with
  | .none => false
  | .tuple _ => false
  | _ => true)
def sortD (xs : List D) : List D := xs.mergeSort (PySem.W.dataLe false fun d => d)
def pySorted : List D → R D
  | [.list xs] => if sortable xs = true then .ok (.list (sortD xs)) else .no
  | [.tuple xs] => if sortable xs = true then .ok (.list (sortD xs)) else .no
  | _ => .no
section
variable {X : Cx} {E : XK}
theorem repAll1 {K : PySem.W.Frag} {G : Hp} {vs : List V} {d : D} (h : RepAll K G vs [d]) : ∃ v, vs = [v] ∧ Rep K G v d := by
  cases h with
  | cons r t => cases t; exact ⟨_, rfl, r⟩
theorem repAll2 {K : PySem.W.Frag} {G : Hp} {vs : List V} {d e : D} (h : RepAll K G vs [d, e]) : ∃ v w, vs = [v, w] ∧ Rep K G v d ∧ Rep K G w e := by
  cases h with
  | cons r t =>
    cases t with
    | cons r2 t2 => cases t2; exact ⟨_, _, rfl, r, r2⟩
theorem repAll_bools {K : PySem.W.Frag} {G : Hp} : ∀ {vs : List V} {bs : List Bool}, RepAll K G vs (bs.map .bool) → vs = bs.map V.bl
  | _, [], .nil => rfl
  | _, b :: bs, .cons r t => by
    cases r
    rw [repAll_bools t]
    rfl
theorem repAll_nums {K : PySem.W.Frag} {G : Hp} : ∀ {vs : List V} {bs : List Int}, RepAll K G vs (bs.map .int) → vs = bs.map V.int
  | _, [], .nil => rfl
  | _, b :: bs, .cons r t => by
    cases r
    rw [repAll_nums t]
    rfl
theorem nums_repAll {K : PySem.W.Frag} {G : Hp} : ∀ bs : List Int, RepAll K G (bs.map V.int) (bs.map .int)
  | [] => .nil
  | b :: bs => .cons (.int b) (nums_repAll bs)
theorem len_dict {es : List (D × D)} (h : ∀ xs, es ≠ [(.none, .list xs)]) : pyLen [.dict es] = .no := by
  cases es with
  | nil => rfl
  | cons p es =>
    obtain ⟨k, v⟩ := p
    cases es with
    | nil => cases k <;> cases v <;> first | rfl | exact absurd rfl (h _)
    | cons q es => cases k <;> cases v <;> rfl
theorem cd_len : CallD X E (.builtin "len") pyLen := by
  intro pins s σ H vs us Q I r ⟨G, ts, sa, ra, q⟩
  match ts, q with
  | [.list xs], q =>
    obtain ⟨v, rfl, r1⟩ := repAll1 ra
    cases r1 with
    | lst h a => exact call_len_seq pins s σ H _ us Q I r ⟨_, _, rfl, .inl (same_lst sa h), q.now sa (by rw [a.length]; exact .int _)⟩
  | [.tuple xs], q =>
    obtain ⟨v, rfl, r1⟩ := repAll1 ra
    cases r1 with
    | tup h a => exact call_len_seq pins s σ H _ us Q I r ⟨_, _, rfl, .inr (same_seqT sa h), q.now sa (by rw [a.length]; exact .int _)⟩
  | [.str z], q =>
    obtain ⟨v, rfl, r1⟩ := repAll1 ra
    cases r1
    simp only [pyLen] at q
    split at q
    · rename_i hz
      exact call_len_str pins s σ H _ us Q I r ⟨z, rfl, hz, q.now sa (.int _)⟩
    · exact q.elim
  | [.dict es], q =>
    obtain ⟨v, rfl, r1⟩ := repAll1 ra
    cases r1 with
    | scr h =>
      rename_i ns
      exact call_len_seq pins s σ H _ us Q I r ⟨_, _, rfl, .inl (sa.seq h), q.now sa (by rw [List.length_map, List.length_map]; exact .int _)⟩
    | dK h ek r =>
      rw [len_dict (not_scrK ek)] at q
      exact q.elim
    | dT h ek r =>
      rw [len_dict (not_scrT ek)] at q
      exact q.elim
    | exc => exact q.elim
  | [.none], q | [.bool _], q | [.int _], q | [], q => exact q.elim
  | _ :: _ :: _, q => simp only [pyLen] at q; exact q.elim
theorem cd_tuple : CallD X E (.type "tuple") pyTuple := by
  intro pins s σ H vs us Q I r ⟨G, ts, sa, ra, q⟩
  match ts, q with
  | [.list xs], q =>
    obtain ⟨v, rfl, r1⟩ := repAll1 ra
    cases r1 with
    | lst h a => exact call_tuple_ofU pins s σ H _ us Q I r ⟨_, _, rfl, .inl ⟨same_lst sa h, q.newT sa a⟩⟩
  | [.tuple xs], q =>
    obtain ⟨v, rfl, r1⟩ := repAll1 ra
    cases r1 with
    | tup h a => exact call_tuple_ofU pins s σ H _ us Q I r ⟨_, _, rfl, .inr ⟨same_seqT sa h, q.now sa (.tup h a)⟩⟩
  | [.none], q | [.bool _], q | [.int _], q | [.dict _], q | [.str _], q | [], q => exact q.elim
  | _ :: _ :: _, q => simp only [pyTuple] at q; exact q.elim
theorem cd_all (hc : X.calm = true) : CallD X E (.builtin "all") pyAll := by
  intro pins s σ H vs us Q I r ⟨G, ts, sa, ra, q⟩
  match ts, q with
  | [.list xs], q =>
    obtain ⟨v, rfl, r1⟩ := repAll1 ra
    simp only [pyAll] at q
    cases e : bools xs with
    | none => rw [e] at q; exact q.elim
    | some bs =>
      rw [e] at q
      cases r1 with
      | lst h a =>
        rw [bools_eq e] at a
        rw [repAll_bools a] at h
        exact cr_all hc pins s σ H _ us Q I r ⟨_, bs, rfl, same_lst sa h, q.now sa (.bl _)⟩
  | [.none], q | [.bool _], q | [.int _], q | [.dict _], q | [.str _], q | [.tuple _], q | [], q => exact q.elim
  | _ :: _ :: _, q => simp only [pyAll] at q; exact q.elim
theorem reads_ints {h : Heap} : ∀ {ns : List Int} {us : List Value}, Vals (ns.map V.int) us → ReadsAll h us (ns.map .int) []
  | [], _, .nil => .nil
  | n :: ns, _, .cons r t => by
    obtain ⟨k, rfl⟩ := r
    exact .cons (as := []) (.int n k) (reads_ints t)
theorem depth_ints : ∀ ns : List Int, PyData.depthAll (ns.map .int) = 0
  | [] => rfl
  | n :: ns => by
    rw [List.map_cons, PyData.depthAll, depth_ints ns]
    rfl
theorem alike_ints (ns : List Int) : PySem.W.AlikeAll (ns.map PyData.int) := ⟨fun d hd e he => by
  obtain ⟨i, _, rfl⟩ := List.mem_map.mp hd
  obtain ⟨j, _, rfl⟩ := List.mem_map.mp he
  first | rfl | simp [PySem.W.alike], fun d hd => by
  obtain ⟨i, _, rfl⟩ := List.mem_map.mp hd
  exact fun z => nomatch z⟩
theorem fold_max (n : Int) (ns : List Int) : ns.foldl max n = lmax (n :: ns) := by
  show _ = ns.foldl (fun a b => if b > a then b else a) n
  congr 1
  funext a b
  split <;> omega
theorem cd_max (hu : X.A.units + 66 < cLine) (hc : X.calm = true) : CallD X E (.builtin "max") pyMax := by
  intro pins s σ H vs us Q I r ⟨G, ts, sa, ra, q⟩
  match ts, q with
  | [.int i, .int j], q =>
    obtain ⟨v, w, rfl, r1, r2⟩ := repAll2 ra
    cases r1
    cases r2
    exact call_max2 hc pins s σ H _ us Q I r ⟨i, j, rfl, q.now sa (.int _)⟩
  | [.list xs], q =>
    obtain ⟨v, rfl, r1⟩ := repAll1 ra
    simp only [pyMax] at q
    cases e : nums xs with
    | none => rw [e] at q; exact q.elim
    | some bs =>
      rw [e] at q
      by_cases hn : bs = []
      · simp only [if_pos hn] at q
        exact q.elim
      · simp only [if_neg hn] at q
        cases r1 with
        | lst h a =>
          rw [nums_eq e] at a
          rw [repAll_nums a] at h
          obtain ⟨m1, m2⟩ := lmax_spec hn
          refine cr_max hc pins s σ H _ us Q I r ⟨_, bs, rfl, same_lst sa h, List.length_pos_iff.mpr hn, fun m hm hmx => ?_⟩
          have em : m = lmax bs := Int.le_antisymm (m2 m hm) (hmx _ m1)
          subst em
          exact q.now sa (.int _)
  | [.tuple xs], q =>
    obtain ⟨v, rfl, r1⟩ := repAll1 ra
    simp only [pyMax] at q
    cases e : nums xs with
    | none => rw [e] at q; exact q.elim
    | some bs =>
      rw [e] at q
      cases bs with
      | nil => exact q.elim
      | cons n ns =>
        cases r1 with
        | tup h a =>
          rw [nums_eq e] at a
          rw [repAll_nums a] at h
          obtain ⟨its, rv, pl, hz⟩ := I.tuple (same_seqT sa h)
          rw [Vals.ref1 r]
          refine PySem.W.max_tuple_data (x := .int n) (xs := ns.map .int) (I.ok.hd hc) pl (by rw [List.toList_toArray]; exact reads_ints rv) (alike_ints (n :: ns)) (by
            have := depth_ints (n :: ns)
            have e : PyData.depthAll (PyData.int n :: ns.map .int) = 0 := this
            rw [e]
            omega) fun i v' h' tk bs hv rd hk => ?_
          rw [PySem.W.maxD_ints, fold_max] at rd
          cases rd
          exact ⟨.int (lmax (n :: ns)), H, I.kept hk, ⟨_, rfl⟩, q.now sa (.int _)⟩
  | [.none], q | [.bool _], q | [.int _], q | [.dict _], q | [.str _], q | [], q => exact q.elim
  | a :: b :: c :: l, q => simp only [pyMax] at q; exact q.elim
  | [.none, _], q | [.bool _, _], q | [.dict _, _], q | [.str _, _], q | [.tuple _, _], q | [.list _, _], q => simp only [pyMax] at q; exact q.elim
  | [.int _, .none], q | [.int _, .bool _], q | [.int _, .dict _], q | [.int _, .str _], q | [.int _, .tuple _], q | [.int _, .list _], q => simp only [pyMax] at q; exact q.elim
theorem fold_min (n : Int) (ns : List Int) : ns.foldl min n = lmin (n :: ns) := by
  show _ = ns.foldl (fun a b => if b < a then b else a) n
  congr 1
  funext a b
  split <;> omega
theorem cd_min (hu : X.A.units + 66 < cLine) (hc : X.calm = true) : CallD X E (.builtin "min") pyMin := by
  intro pins s σ H vs us Q I r ⟨G, ts, sa, ra, q⟩
  match ts, q with
  | [.int i, .int j], q =>
    obtain ⟨v, w, rfl, r1, r2⟩ := repAll2 ra
    cases r1
    cases r2
    exact call_min2 hc pins s σ H _ us Q I r ⟨i, j, rfl, q.now sa (.int _)⟩
  | [.list xs], q =>
    obtain ⟨v, rfl, r1⟩ := repAll1 ra
    simp only [pyMin] at q
    cases e : nums xs with
    | none => rw [e] at q; exact q.elim
    | some bs =>
      rw [e] at q
      by_cases hn : bs = []
      · simp only [if_pos hn] at q
        exact q.elim
      · simp only [if_neg hn] at q
        cases r1 with
        | lst h a =>
          rw [nums_eq e] at a
          rw [repAll_nums a] at h
          obtain ⟨m1, m2⟩ := lmin_spec hn
          refine cr_min hc pins s σ H _ us Q I r ⟨_, bs, rfl, same_lst sa h, List.length_pos_iff.mpr hn, fun m hm hmx => ?_⟩
          have em : m = lmin bs := Int.le_antisymm (hmx _ m1) (m2 m hm)
          subst em
          exact q.now sa (.int _)
  | [.tuple xs], q =>
    obtain ⟨v, rfl, r1⟩ := repAll1 ra
    simp only [pyMin] at q
    cases e : nums xs with
    | none => rw [e] at q; exact q.elim
    | some bs =>
      rw [e] at q
      cases bs with
      | nil => exact q.elim
      | cons n ns =>
        cases r1 with
        | tup h a =>
          rw [nums_eq e] at a
          rw [repAll_nums a] at h
          obtain ⟨its, rv, pl, hz⟩ := I.tuple (same_seqT sa h)
          rw [Vals.ref1 r]
          refine PySem.W.min_tuple_data (x := .int n) (xs := ns.map .int) (I.ok.hd hc) pl (by rw [List.toList_toArray]; exact reads_ints rv) (alike_ints (n :: ns)) (by
            have := depth_ints (n :: ns)
            have e : PyData.depthAll (PyData.int n :: ns.map .int) = 0 := this
            rw [e]
            omega) fun i v' h' tk bs hv rd hk => ?_
          rw [PySem.W.minD_ints, fold_min] at rd
          cases rd
          exact ⟨.int (lmin (n :: ns)), H, I.kept hk, ⟨_, rfl⟩, q.now sa (.int _)⟩
  | [.none], q | [.bool _], q | [.int _], q | [.dict _], q | [.str _], q | [], q => exact q.elim
  | a :: b :: c :: l, q => simp only [pyMin] at q; exact q.elim
  | [.none, _], q | [.bool _, _], q | [.dict _, _], q | [.str _, _], q | [.tuple _, _], q | [.list _, _], q => simp only [pyMin] at q; exact q.elim
  | [.int _, .none], q | [.int _, .bool _], q | [.int _, .dict _], q | [.int _, .str _], q | [.int _, .tuple _], q | [.int _, .list _], q => simp only [pyMin] at q; exact q.elim
theorem cd_int : CallD X E (.type "int") pyInt := by
  intro pins s σ H vs us Q I r ⟨G, ts, sa, ra, q⟩
  match ts, q with
  | [.int i], q =>
    obtain ⟨v, rfl, r1⟩ := repAll1 ra
    cases r1
    exact call_int1 pins s σ H _ us Q I r (.inl ⟨i, rfl, q.now sa (.int _)⟩)
  | [.bool i], q =>
    obtain ⟨v, rfl, r1⟩ := repAll1 ra
    cases r1
    exact call_int1 pins s σ H _ us Q I r (.inr ⟨i, rfl, q.now sa (.int _)⟩)
  | [.none], q | [.list _], q | [.dict _], q | [.str _], q | [.tuple _], q | [], q => exact q.elim
  | _ :: _ :: _, q => simp only [pyInt] at q; exact q.elim
theorem cd_divmod : CallD X E (.builtin "divmod") pyDivmod := by
  intro pins s σ H vs us Q I r ⟨G, ts, sa, ra, q⟩
  match ts, q with
  | [.int i, .int j], q =>
    obtain ⟨v, w, rfl, r1, r2⟩ := repAll2 ra
    cases r1
    cases r2
    simp only [pyDivmod] at q
    split at q
    · rename_i hc
      exact call_divmodU pins s σ H _ us Q I r ⟨i, j, rfl, hc, q.newT (vs := [.int (i / j), .int (i % j)]) sa (.cons (.int _) (.cons (.int _) .nil))⟩
    · exact q.elim
  | [.none], q | [.bool _], q | [.int _], q | [.dict _], q | [.str _], q | [.tuple _], q | [.list _], q | [], q => exact q.elim
  | a :: b :: c :: l, q => simp only [pyDivmod] at q; exact q.elim
  | [.none, _], q | [.bool _, _], q | [.dict _, _], q | [.str _, _], q | [.tuple _, _], q | [.list _, _], q => simp only [pyDivmod] at q; exact q.elim
  | [.int _, .none], q | [.int _, .bool _], q | [.int _, .dict _], q | [.int _, .str _], q | [.int _, .tuple _], q | [.int _, .list _], q => simp only [pyDivmod] at q; exact q.elim
theorem reads_all {pins : List (Addr × Obj)} {σ : L2.St} {G H : Hp} {s : Shared} (I : Inv X pins σ H s) (sa : Same G H) : ∀ {vs : List V} {us : List Value} {ds : List D}, RepAll X.K G vs ds → Vals vs us → ds.all fit = true →
    PySem.W.EachIs (fun (u : Value) (b : V × D) => RelV b.1 u ∧ Rep X.K G b.1 b.2) us (vs.zip ds) ∧ PySem.W.EachIs (fun (u : Value) (b : V × D) => ∃ as, Reads s.heap u b.2 as) us (vs.zip ds)
  | _, _, _, .nil, .nil, _ => ⟨.nil, .nil⟩
  | _, _, _, .cons (d := d) (ds := ds) r t, .cons rv tv, f => by
    have f' : fit d = true ∧ ds.all fit = true := by simpa using f
    obtain ⟨h1, h2⟩ := reads_all I sa t tv f'.2
    obtain ⟨as, q⟩ := reads_of I sa r rv (fit_flat f'.1)
    exact ⟨.cons ⟨rv, r⟩ h1, .cons ⟨as, q⟩ h2⟩
theorem each_vals {K : PySem.W.Frag} {G : Hp} : ∀ {us : List Value} {bs : List (V × D)}, PySem.W.EachIs (fun (u : Value) (b : V × D) => RelV b.1 u ∧ Rep K G b.1 b.2) us bs → Vals (bs.map (·.1)) us ∧ RepAll K G (bs.map (·.1)) (bs.map (·.2))
  | _, _, .nil => ⟨.nil, .nil⟩
  | _, _, .cons h t => by
    obtain ⟨h1, h2⟩ := each_vals t
    exact ⟨.cons h.1 h1, .cons h.2 h2⟩
theorem sortable_spec {xs : List D} (h : sortable xs = true) : PySem.W.AllAlike xs ∧ PySem.W.Sortable xs ∧ xs.all fit = true := by
  unfold sortable at h
  rw [Bool.and_eq_true, Bool.and_eq_true, Bool.or_eq_true] at h
  obtain ⟨⟨h1, h2⟩, h3⟩ := h
  refine ⟨fun d hd e he => ?_, ?_, h2⟩
  · exact List.all_eq_true.mp (List.all_eq_true.mp h1 d hd) e he
  · rcases h3 with h3 | h3
    · refine .inl fun d hd => ?_
      have := List.all_eq_true.mp h3 d hd
      match d, this with
      | .tuple (x :: r), _ => exact ⟨x, r, rfl⟩
    · refine .inr fun d hd => ?_
      have := List.all_eq_true.mp h3 d hd
      constructor
      · rintro rfl
        cases this
      · rintro xs rfl
        cases this
theorem zip_snd {α β : Type} : ∀ {xs : List α} {ys : List β}, xs.length = ys.length → (xs.zip ys).map (·.2) = ys
  | [], [], _ => rfl
  | x :: xs, y :: ys, h => by
    show y :: (xs.zip ys).map (·.2) = _
    rw [zip_snd (Nat.succ.inj h)]
end
end TL
namespace TL
open PySem PySem.Spec PyProof.Rows L2
def OwnAt (K : PySem.W.Frag) (G H : Hp) (a : Addr) (t : D) : Prop := G a = none ∧
  ((∃ xs ts, t = .list ts ∧ H a = some (.lst xs) ∧ RepAll K G xs ts) ∨
   (∃ (kvs : List (Key × V)) (es : List (D × D)), t = .dict es ∧ H a = some (.dK kvs) ∧ es.map (·.1) = kvs.map (fun p => keyD p.1) ∧ RepAll K G (kvs.map (·.2)) (es.map (·.2))) ∨
   (∃ (kvs : List (List Key × V)) (es : List (D × D)), t = .dict es ∧ DTAt K H G a kvs ∧ es.map (·.1) = kvs.map (fun p => .tuple (p.1.map keyD)) ∧ RepAll K G (kvs.map (·.2)) (es.map (·.2))))
theorem OwnAt.some_of {K : PySem.W.Frag} {G H : Hp} {a : Addr} {t : D} (h : OwnAt K G H a t) : ∃ o, H a = some o ∧ NotTup (some o) := by
  obtain ⟨_, ⟨_, _, _, e, _⟩ | ⟨_, _, _, e, _⟩ | ⟨_, _, _, e, _⟩⟩ := h
  · exact ⟨_, e, trivial⟩
  · exact ⟨_, e, trivial⟩
  · obtain ⟨xs, e⟩ := e.some
    exact ⟨_, e, trivial⟩
theorem OwnAt.ne {K : PySem.W.Frag} {G H : Hp} {a : Addr} {t : D} (h : OwnAt K G H a t) : H a ≠ none := by
  obtain ⟨o, e, _⟩ := h.some_of
  rw [e]
  exact fun z => nomatch z
theorem OwnAt.rep {K : PySem.W.Frag} {G G' H : Hp} {a : Addr} {t : D} (h : OwnAt K G H a t) (s : Same G G') (e : G' a = H a) : Rep K G' (.ref a) t := by
  obtain ⟨_, ⟨xs, ts, rfl, eh, r⟩ | ⟨kvs, es, rfl, eh, ek, r⟩ | ⟨kvs, es, rfl, eh, ek, r⟩⟩ := h
  · exact .lst (e.trans eh) (r.mono s)
  · exact .dK (.inl (e.trans eh)) ek (r.mono s)
  · exact .dT (eh.mono s e) ek (r.mono s)
theorem OwnAt.keep {K : PySem.W.Frag} {G G' H H' : Hp} {a : Addr} {t : D} (h : OwnAt K G H a t) (s : Same G G') (g : G' a = none) (e : H' a = H a) : OwnAt K G' H' a t := by
  obtain ⟨_, ⟨xs, ts, rfl, eh, r⟩ | ⟨kvs, es, rfl, eh, ek, r⟩ | ⟨kvs, es, rfl, eh, ek, r⟩⟩ := h
  · exact ⟨g, .inl ⟨_, _, rfl, e.trans eh, r.mono s⟩⟩
  · exact ⟨g, .inr (.inl ⟨_, _, rfl, e.trans eh, ek, r.mono s⟩)⟩
  · exact ⟨g, .inr (.inr ⟨_, _, rfl, eh.mono s e, ek, r.mono s⟩)⟩
def PostF (K : PySem.W.Frag) (mg : Str → Option Value) (E : XK) (G H : Hp) (m : R D) (Q : VK) : Prop :=
  match m with
  | .no => False
  | .ex c => ∀ H', Same H H' → E (cls mg c) none H'
  | .ok t => ∀ p G' H', Fr G H G' H' → H p = none → OwnAt K G' H' p t → Q (.ref p) H'
def rdF (K : PySem.W.Frag) (mg : Str → Option Value) (E : XK) (ρ : En) (m : R D) : TE := fun σ H Q => ∃ G, Same G H ∧ Ep K G ρ σ ∧ PostF K mg E G H m Q
structure ItOk (K : PySem.W.Frag) (J : It) (G : Hp) (items : List D) : Prop where
  go : ∀ i H, i < items.length → Same G H → J.go i H
  stop : ∀ H, Same G H → J.stop items.length H
  yld : ∀ i x G2 H H' d, items[i]? = some d → Same G G2 → Same G2 H → J.yld i H x H' → ∃ G3, Fr G2 H G3 H' ∧ Rep K G3 x d
def rdI (K : PySem.W.Frag) (mg : Str → Option Value) (E : XK) (ρ : En) (m : R (List D)) : TI := fun σ H Rr => ∃ G, Same G H ∧ Ep K G ρ σ ∧ match m with
  | .no => False
  | .ex c => ∀ H', Same H H' → E (cls mg c) none H'
  | .ok items => ∀ J G' H', Fr G H G' H' → items.length ≤ sizeLine → ItOk K J G' items → Rr J H'
abbrev XI (X : Cx) (E : XK) (ρ : En) (tg iter : Expr) (m : R (List D)) : Prop := PI X tg iter (rdI X.K X.mg E ρ m)
def LenOk (K : PySem.W.Frag) (v : V) (H : Hp) : Prop := ∀ a xs, v = .ref a → (SqL K H a xs ∨ SqT K H a xs) → xs.length ≤ sizeLine
theorem Inv.lenOk {X : Cx} {pins : List (Addr × Obj)} {σ : L2.St} {H : Hp} {s : Shared} (I : Inv X pins σ H s) (v : V) : LenOk X.K v H := fun a xs _ h => by
  rcases h with h | h
  · obtain ⟨_, _, _, z⟩ := I.list h
    exact z
  · obtain ⟨_, _, _, z⟩ := I.tuple h
    exact z
theorem pe_len {X : Cx} {e : Expr} {t : TE} (h : PE X e t) : PE X e (fun σ H Q => t σ H fun v H' => LenOk X.K v H' → Q v H') := ⟨fun pins s σ H Q I q =>
  thn (h.run pins s σ H _ I q) fun u s' ⟨v, H', I', r, q'⟩ => ⟨v, H', I', r, q' (Inv.lenOk I' v)⟩⟩
theorem pa_len {X : Cx} {es : List Expr} {t : TA} (h : PA X es t) : PA X es (fun σ H Q => t σ H fun vs H' => (∀ v ∈ vs, LenOk X.K v H') → Q vs H') := ⟨fun pos pins s σ H Q I q =>
  thn (h.run pos pins s σ H _ I q) fun u s' ⟨v, H', I', r, q'⟩ => ⟨v, H', I', r, q' fun w _ => Inv.lenOk I' w⟩⟩
def items : D → R (List D)
  | .list xs => .ok xs
  | .tuple xs => .ok xs
  | _ => .no
section
variable {X : Cx} {E : XK} {ρ : En}
theorem itOk_list {K : PySem.W.Frag} {G : Hp} {a : Addr} {vs : List V} {ds : List D} (h : SqL K G a vs) (r : RepAll K G vs ds) : ItOk K (Itl K a) G ds where
  go := fun i H hi s => by
    have hv : i < vs.length := by rw [r.length]; exact hi
    exact ⟨vs, vs[i], s.seq h, List.getElem?_eq_getElem hv⟩
  stop := fun H s => ⟨vs, s.seq h, by rw [r.length]; exact Nat.le_refl _⟩
  yld := fun i x G2 H H' d e s s2 y => by
    obtain ⟨rfl, y⟩ := y
    obtain ⟨v, e2, r2⟩ := r.get e
    have := (y vs ((s.trans s2).seq h)).symm.trans e2
    cases this
    exact ⟨G2, Fr.refl s2, r2.mono s⟩
theorem itOk_tup {K : PySem.W.Frag} {G : Hp} {a : Addr} {vs : List V} {ds : List D} (h : SqT K G a vs) (r : RepAll K G vs ds) : ItOk K (Itt K a) G ds where
  go := fun i H hi s => by
    have hv : i < vs.length := by rw [r.length]; exact hi
    exact ⟨vs, vs[i], same_sqT s h, List.getElem?_eq_getElem hv⟩
  stop := fun H s => ⟨vs, same_sqT s h, by rw [r.length]; exact Nat.le_refl _⟩
  yld := fun i x G2 H H' d e s s2 y => by
    obtain ⟨rfl, y⟩ := y
    obtain ⟨v, e2, r2⟩ := r.get e
    have := (y vs (same_sqT (s.trans s2) h)).symm.trans e2
    cases this
    exact ⟨G2, Fr.refl s2, r2.mono s⟩
theorem xi_val {tg l : Expr} {m : R D} (hl : XP X E ρ l m) : XI X E ρ tg l (m.bind items) := by
  refine ⟨fun pins s σ H Rr I h => ?_⟩
  obtain ⟨G, sa, e, q⟩ := h
  cases m with
  | no => exact q.elim
  | ex c => exact (pi_list hl).run pins s σ H Rr I ⟨G, sa, e, q⟩
  | ok t =>
    cases t with
    | list ds =>
      refine (pi_list (pe_len hl)).run pins s σ H Rr I ⟨G, sa, e, fun v G' H' fr r lo => ?_⟩
      cases r with
      | lst h a => exact ⟨_, rfl, ⟨_, same_lst fr.gh h⟩, q _ G' H' fr (by rw [← a.length]; exact lo _ _ rfl (.inl (same_lst fr.gh h))) (itOk_list (.of h) a)⟩
    | tuple ds =>
      refine (pi_tup (pe_len hl)).run pins s σ H Rr I ⟨G, sa, e, fun v G' H' fr r lo => ?_⟩
      cases r with
      | tup h a => exact ⟨_, rfl, ⟨_, same_seqT fr.gh h⟩, q _ G' H' fr (by rw [← a.length]; exact lo _ _ rfl (.inr (same_seqT fr.gh h))) (itOk_tup h.t a)⟩
    | _ => exact q.elim
def upto (lo : Int) (n : Nat) : List D := (List.range n).map fun k : Nat => .int (lo + k)
theorem upto_length {lo : Int} {n : Nat} : (upto lo n).length = n := by
  unfold upto
  rw [List.length_map, List.length_range]
theorem itOk_range {K : PySem.W.Frag} {G : Hp} {lo : Int} {n : Nat} : ItOk K (Itr lo n) G (upto lo n) where
  go := fun i H hi s => by
    rw [upto_length] at hi
    exact hi
  stop := fun H s => by
    rw [upto_length]
    exact Nat.le_refl n
  yld := fun i x G2 H H' d e s s2 y => by
    obtain ⟨e1, e2⟩ := y
    subst e1
    subst e2
    unfold upto at e
    rw [List.getElem?_map] at e
    by_cases hi : i < n
    · rw [List.getElem?_range hi] at e
      cases e
      exact ⟨G2, Fr.refl s2, .int _⟩
    · rw [List.getElem?_eq_none (by rw [List.length_range]; omega)] at e
      cases e
def pyRange : List D → R (List D)
  | [.int j] => if -(2 ^ 62) ≤ j ∧ j ≤ 16777216 then .ok (upto 0 j.toNat) else .no
  | [.int i, .int j] => if 0 ≤ i ∧ i ≤ 16777216 ∧ -(2 ^ 62) ≤ j ∧ j ≤ 16777216 then .ok (upto i (j - i).toNat) else .no
  | _ => .no
theorem xi_range1 {tg a : Expr} {p pos : Pos} {mk : CP} (hm : X.mg "range" = none) (ha : XAk X E ρ [a] mk) (hg : Gl X "range" := by rfl) (hs : starEach [a] X.env = [(false, eval a X.env)] := by rfl) : XI X E ρ tg (.Call (.Name "range" p) [a] [] pos) (mk (List D) pyRange) := by
  obtain ⟨m, e, hl, h⟩ := ha
  rw [e]
  refine ⟨fun pins s σ H Rr I hq => (pi_range1 hg hm h hs).run pins s σ H Rr I ?_⟩
  obtain ⟨G, sa, ep, q⟩ := hq
  refine ⟨G, sa, ep, ?_⟩
  cases m with
  | no => exact q.elim
  | ex c => exact q
  | ok ts =>
    have hl1 := hl ts rfl
    intro vs G1 H1 fr ra
    match ts, hl1, q with
    | [.int j], _, q =>
      obtain ⟨v, rfl, r1⟩ := repAll1 ra
      cases r1
      simp only [R.bind, pyRange] at q
      by_cases hc : -(2 ^ 62) ≤ j ∧ j ≤ 16777216
      · simp only [if_pos hc] at q
        exact ⟨j, rfl, hc.1, by omega, q _ G1 H1 fr (by rw [upto_length, sizeLine_eq]; omega) itOk_range⟩
      · simp only [if_neg hc] at q
    | [.none], _, q | [.bool _], _, q | [.str _], _, q | [.list _], _, q | [.tuple _], _, q | [.dict _], _, q => exact q.elim
def pairs (xs ys : List D) : List D := xs.zipWith (fun a b => .tuple [a, b]) ys
theorem pairs_length {xs ys : List D} : (pairs xs ys).length = min xs.length ys.length := by
  unfold pairs
  rw [List.length_zipWith]
theorem pairs_get {xs ys : List D} {i : Nat} {d : D} (h : (pairs xs ys)[i]? = some d) : ∃ a b, xs[i]? = some a ∧ ys[i]? = some b ∧ d = .tuple [a, b] := by
  unfold pairs at h
  rw [List.getElem?_zipWith] at h
  cases e1 : xs[i]? with
  | none => rw [e1] at h; cases h
  | some a =>
    cases e2 : ys[i]? with
    | none => rw [e1, e2] at h; cases h
    | some b => rw [e1, e2] at h; cases h; exact ⟨a, b, rfl, rfl, rfl⟩
theorem yld_pair {K : PySem.W.Frag} {G2 H : Hp} {T : Addr} {u : HO} {x y : V} {a b : D} (s2 : Same G2 H) (nT : H T = none) (tu : TupH u [x, y]) (r1 : Rep K G2 x a) (r2 : Rep K G2 y b) : ∃ G3, Fr G2 H G3 (upd H T u) ∧ Rep K G3 (.ref T) (.tuple [a, b]) :=
  ⟨_, Fr.new s2 nT, rep_newT s2 nT tu (.cons r1 (.cons r2 .nil))⟩
theorem itOk_zipU {K : PySem.W.Frag} {G : Hp} {k1 k2 : Kd} {a b : Addr} {vs ws : List V} {ds es : List D} (h : ∀ H, Same G H → SqK k1 K H a vs) (r : RepAll K G vs ds) (h2 : ∀ H, Same G H → SqK k2 K H b ws) (r2 : RepAll K G ws es) : ItOk K (ItzU K k1 k2 a b) G (pairs ds es) where
  go := fun i H hi s => by
    rw [pairs_length] at hi
    have hv : i < vs.length := by rw [r.length]; omega
    have hw : i < ws.length := by rw [r2.length]; omega
    exact ⟨vs, ws, vs[i], ws[i], h H s, h2 H s, List.getElem?_eq_getElem hv, List.getElem?_eq_getElem hw⟩
  stop := fun H s => ⟨vs, ws, h H s, h2 H s, by rw [pairs_length, r.length, r2.length]; omega⟩
  yld := fun i x G2 H H' d e s s2 y => by
    obtain ⟨T, x1, x2, u, rfl, nT, tu, rfl, f1, f2⟩ := y
    obtain ⟨da, db, e1, e2, rfl⟩ := pairs_get e
    obtain ⟨v, ev, rv⟩ := r.get e1
    obtain ⟨w, ew, rw'⟩ := r2.get e2
    have := (f1 vs (h _ (s.trans s2))).symm.trans ev
    cases this
    have := (f2 ws (h2 _ (s.trans s2))).symm.trans ew
    cases this
    exact yld_pair s2 nT tu (rv.mono s) (rw'.mono s)
def sq : D → Option (List D)
  | .list xs => some xs
  | .tuple xs => some xs
  | _ => none
theorem sq_rep {K : PySem.W.Frag} {G : Hp} {v : V} {d : D} {ds : List D} (r : Rep K G v d) (e : sq d = some ds) : ∃ (k : Kd) (a : Addr) (vs : List V), v = .ref a ∧ RepAll K G vs ds ∧ (∀ H, Same G H → SqK k K H a vs) ∧ ∀ H, Same G H → SqL K H a vs ∨ SqT K H a vs := by
  cases r with
  | lst h a => cases e; exact ⟨.l, _, _, rfl, a, fun H s => same_lst s h, fun H s => .inl (same_lst s h)⟩
  | tup h a => cases e; exact ⟨.t, _, _, rfl, a, fun H s => same_seqT s h, fun H s => .inr (same_seqT s h)⟩
  | _ => cases e
def pyZip : List D → R (List D)
  | [a, b] => match sq a, sq b with
    | some xs, some ys => .ok (pairs xs ys)
    | _, _ => .no
  | _ => .no
theorem xi_zip {a b : Expr} {elts : List Expr} {kk : Nat} {tpos p pos : Pos} {mk : CP} (hm : X.mg "zip" = none) (ha : XAk X E ρ [a, b] mk) (hg : Gl X "zip" := by rfl)
    (hs : starEach [a, b] X.env = (false, eval a X.env) :: starEach [b] X.env := by rfl) (hpl : (backTo pos (starEach [b] X.env)).any (·.1) = false := by rfl) : XI X E ρ (.Tuple elts kk tpos) (.Call (.Name "zip" p) [a, b] [] pos) (mk (List D) pyZip) := by
  obtain ⟨m, e, hl, h⟩ := ha
  rw [e]
  refine ⟨fun pins s σ H Rr I hq => (pi_zipU hg hm (pa_len h) hs hpl).run pins s σ H Rr I ?_⟩
  obtain ⟨G, sa, ep, q⟩ := hq
  refine ⟨G, sa, ep, ?_⟩
  cases m with
  | no => exact q.elim
  | ex c => exact q
  | ok ts =>
    have hl1 := hl ts rfl
    intro vs G1 H1 fr ra lo
    match ts, hl1, q with
    | [x, y], _, q =>
      simp only [R.ok_bind, pyZip] at q
      cases ex : sq x with
      | none => rw [ex] at q; exact q.elim
      | some xs =>
        cases ey : sq y with
        | none => rw [ex, ey] at q; exact q.elim
        | some ys =>
          rw [ex, ey] at q
          obtain ⟨v, w, rfl, r1, r2⟩ := repAll2 ra
          obtain ⟨k1, a1, vs1, rfl, ra1, h1, l1⟩ := sq_rep r1 ex
          obtain ⟨k2, a2, vs2, rfl, ra2, h2, l2⟩ := sq_rep r2 ey
          exact ⟨k1, k2, _, _, _, _, rfl, h1 _ fr.gh, h2 _ fr.gh, q _ G1 H1 fr (by
            rw [pairs_length, ← ra1.length]
            exact Nat.le_trans (Nat.min_le_left _ _) (lo _ List.mem_cons_self _ _ rfl (l1 _ fr.gh))) (itOk_zipU h1 ra1 h2 ra2)⟩
def Only (sl : List Nat) (σ σ' : L2.St) : Prop := σ'.length = σ.length ∧ ∀ i, i ∉ sl → σ'[i]? = σ[i]?
theorem wipe_only : ∀ {sl : List Nat} {σ σ' : L2.St}, Only sl σ σ' → wipe σ' sl = wipe σ sl := by
  have key : ∀ (sl : List Nat) (σ : L2.St) (i : Nat), (wipe σ sl)[i]? = if i ∈ sl ∧ i < σ.length then some none else σ[i]? := by
    intro sl
    induction sl with
    | nil => intro σ i; simp [wipe]
    | cons v vs ih =>
      intro σ i
      show ((wipe σ vs).set v none)[i]? = _
      by_cases hi : v = i
      · subst hi
        by_cases hl : v < σ.length
        · rw [List.getElem?_set_self (by rw [wipe_length]; exact hl)]
          simp [hl]
        · rw [List.getElem?_eq_none (by rw [List.length_set, wipe_length]; omega)]
          simp [hl]
      · rw [List.getElem?_set_ne hi, ih]
        have : ¬ i = v := fun z => hi z.symm
        simp [this]
  intro sl σ σ' h
  refine List.ext_getElem? fun i => ?_
  rw [key, key, h.1]
  split
  · rfl
  · rename_i hn
    by_cases hi : i ∈ sl
    · have h1 : ¬ i < σ.length := fun z => hn ⟨hi, z⟩
      have h2 := h.1
      rw [List.getElem?_eq_none (l := σ) (by omega), List.getElem?_eq_none (l := σ') (by omega)]
    · exact h.2 i hi
def putsS : List (Nat × V × D) → L2.St → L2.St
  | [], σ => σ
  | p :: ps, σ => putsS ps (σ.set p.1 (some p.2.1))
def putsE : List (Nat × V × D) → En → En
  | [], ρ => ρ
  | p :: ps, ρ => putsE ps (setN ρ p.1 (some p.2.2))
structure PutOk (K : PySem.W.Frag) (G : Hp) (sl : List Nat) (f : En → En) (ps : List (Nat × V × D)) : Prop where
  sub : ∀ p ∈ ps, p.1 ∈ sl
  rep : ∀ p ∈ ps, Rep K G p.2.1 p.2.2
  eq : ∀ ρ, f ρ = putsE ps ρ
theorem only_set {σ σ' : L2.St} {sl : List Nat} {i : Nat} {o : Option V} (h : Only sl σ σ') (hi : i ∈ sl) : Only sl σ (σ'.set i o) :=
  ⟨by rw [List.length_set]; exact h.1, fun j hj => by
    rw [List.getElem?_set_ne (fun z : i = j => hj (by rw [← z]; exact hi))]
    exact h.2 j hj⟩
theorem only_refl {σ : L2.St} {sl : List Nat} : Only sl σ σ := ⟨rfl, fun _ _ => rfl⟩
theorem puts_only {sl : List Nat} : ∀ {ps : List (Nat × V × D)} {σ σ0 : L2.St}, (∀ p ∈ ps, p.1 ∈ sl) → Only sl σ0 σ → Only sl σ0 (putsS ps σ)
  | [], _, _, _, h => h
  | p :: ps, _, _, hs, h => puts_only (ps := ps) (fun q hq => hs q (List.mem_cons_of_mem _ hq)) (only_set h (hs p List.mem_cons_self))
theorem puts_ep {K : PySem.W.Frag} {G : Hp} : ∀ {ps : List (Nat × V × D)} {σ : L2.St} {ρ : En}, (∀ p ∈ ps, Rep K G p.2.1 p.2.2) → Ep K G ρ σ → Ep K G (putsE ps ρ) (putsS ps σ)
  | [], _, _, _, h => h
  | p :: ps, _, _, hs, h => puts_ep (ps := ps) (fun q hq => hs q (List.mem_cons_of_mem _ hq)) (h.put (hs p List.mem_cons_self))
def rdG (K : PySem.W.Frag) {α : Type} (sl : List Nat) (u : D → R α) (put : α → En → En) : TG := fun v σ H Q => ∃ G d a, Same G H ∧ Rep K G v d ∧ u d = .ok a ∧
  ∀ ps, PutOk K G sl (put a) ps → Q (putsS ps σ) H
abbrev XG (X : Cx) {α : Type} (tg : Expr) (sl : List Nat) (u : D → R α) (put : α → En → En) : Prop := PG X tg (rdG X.K sl u put)
theorem pg_weak {tg : Expr} {t t' : TG} (h : PG X tg t) (f : ∀ v σ H Q, t' v σ H Q → t v σ H Q) : PG X tg t' := ⟨fun pins s σ H v u Q I r q => h.run pins s σ H v u Q I r (f _ _ _ _ q)⟩
theorem xg_name {x : Str} {pos : Pos} (i : Nat) (hN : X.N.Nodup) (hi : X.N[i]? = some x := by rfl) (hx : Loc X.env.scope x := by first | exact .inl rfl | exact .inr rfl) (hf : X.fn x = true ∨ X.env.scope.names.lookup x = some .local := by first | exact .inl rfl | exact .inr rfl) :
    XG X (.Name x pos) [i] (fun d => R.ok d) (fun d ρ => setN ρ i (some d)) :=
  pg_weak (pg_name hN hi hx hf) fun v σ H Q ⟨G, d, a, s, r, e, q⟩ => by
    cases e
    exact q [(i, v, d)] ⟨by simp, by simpa using r, fun _ => rfl⟩
def unp2 : D → R (D × D)
  | .tuple [a, b] => .ok (a, b)
  | _ => .no
def unp3 : D → R (D × D × D)
  | .tuple [a, b, c] => .ok (a, b, c)
  | _ => .no
theorem xg_pair {x y : Str} {px py pos : Pos} {kk : Nat} (i j : Nat) (hN : X.N.Nodup) (hc : X.calm = true := by rfl) (hi : X.N[i]? = some x := by rfl) (hj : X.N[j]? = some y := by rfl) (hx : Loc X.env.scope x := by first | exact .inl rfl | exact .inr rfl) (hy : Loc X.env.scope y := by first | exact .inl rfl | exact .inr rfl)
    (hfx : X.fn x = true ∨ X.env.scope.names.lookup x = some .local := by first | exact .inl rfl | exact .inr rfl) (hfy : X.fn y = true ∨ X.env.scope.names.lookup y = some .local := by first | exact .inl rfl | exact .inr rfl) :
    XG X (.Tuple [.Name x px, .Name y py] kk pos) [i, j] unp2 (fun p ρ => setN (setN ρ i (some p.1)) j (some p.2)) :=
  pg_weak (pg_tup (n := 2) hc (pgs_cons (pg_name hN hi hx hfx) (pgs_cons (pg_name hN hj hy hfy) pgs_nil))) fun v σ H Q ⟨G, d, p, s, r, e, q⟩ => by
    match d, e with
    | .tuple [a, b], e =>
      cases e
      cases r with
      | tup h ra =>
        obtain ⟨v1, v2, rfl, r1, r2⟩ := repAll2 ra
        exact ⟨_, _, rfl, same_seqT s h, rfl, v1, _, rfl, v2, [], rfl, rfl, q [(i, v1, a), (j, v2, b)] ⟨by simp, by simpa using ⟨r1, r2⟩, fun _ => rfl⟩⟩
    | .tuple [], e | .tuple [_], e | .tuple (_ :: _ :: _ :: _), e => cases e
    | .none, e | .bool _, e | .int _, e | .str _, e | .list _, e | .dict _, e => cases e
def nox {α : Type} : R α → R α
  | .ex _ => .no
  | m => m
@[simp] theorem nox_ok {α : Type} (a : α) : nox (.ok a) = .ok a := rfl
@[simp] theorem nox_no {α : Type} : nox (.no : R α) = .no := rfl
def mapR (f : D → R D) : List D → R (List D)
  | [] => .ok []
  | d :: ds => (nox (f d)).bind fun t => (mapR f ds).bind fun ts => .ok (t :: ts)
def filR (p : D → R Bool) (f : D → R D) : List D → R (List D)
  | [] => .ok []
  | d :: ds => (nox (p d)).bind fun b => if b = true then (nox (f d)).bind fun t => (filR p f ds).bind fun ts => .ok (t :: ts) else filR p f ds
def wipeE (ρ : En) : List Nat → En
  | [] => ρ
  | v :: vs => setN (wipeE ρ vs) v none
theorem Ep.wipe {K : PySem.W.Frag} {G : Hp} {ρ : En} {σ : L2.St} (h : Ep K G ρ σ) : ∀ {vs : List Nat}, Ep K G (wipeE ρ vs) (L2.wipe σ vs)
  | [] => h
  | _ :: vs => (Ep.wipe h (vs := vs)).drop
structure LcAt (K : PySem.W.Frag) (G1 H1 : Hp) (D0 : Addr) (F : List D → R (List D)) (its rs : List D) (i : Nat) (H : Hp) (G : Hp) (acc : List V) (ad rr : List D) : Prop where
  fr : Fr G1 H1 G H
  at_ : H D0 = some (.lst acc)
  un : G D0 = none
  rep : RepAll K G acc ad
  rest : F (its.drop i) = .ok rr
  all : rs = ad ++ rr
  few : acc.length ≤ i
theorem LcAt.fin {K : PySem.W.Frag} {G1 H1 : Hp} {D0 : Addr} {F : List D → R (List D)} {its rs : List D} {H G : Hp} {acc : List V} {ad rr : List D} (h : LcAt K G1 H1 D0 F its rs its.length H G acc ad rr) (hF : F [] = .ok []) : OwnAt K G H D0 (.list rs) := by
  have e := h.rest
  rw [List.drop_length, hF] at e
  cases e
  have ea : rs = ad := by rw [h.all, List.append_nil]
  subst ea
  exact ⟨h.un, .inl ⟨acc, rs, rfl, h.at_, h.rep⟩⟩
theorem LcAt.mid {K : PySem.W.Frag} {G1 H1 G H G' H' : Hp} {D0 : Addr} {F : List D → R (List D)} {its rs : List D} {i : Nat} {acc : List V} {ad rr : List D} (h : LcAt K G1 H1 D0 F its rs i H G acc ad rr) (fr : Fr G H G' H') :
    Fr G1 H1 G' H' ∧ H' D0 = some (.lst acc) ∧ G' D0 = none ∧ RepAll K G' acc ad :=
  ⟨h.fr.trans fr, fr.hh _ _ h.at_, fr.nw _ h.un (by rw [h.at_]; exact fun z => nomatch z), h.rep.mono fr.gg⟩
theorem LcAt.more {K : PySem.W.Frag} {G1 H1 G H G' H' : Hp} {D0 : Addr} {F : List D → R (List D)} {its rs : List D} {i : Nat} {acc : List V} {ad ts : List D} {v : V} {t : D} (h : LcAt K G1 H1 D0 F its rs i H G acc ad (t :: ts)) (nD : H1 D0 = none) (fr : Fr G H G' H') (r : Rep K G' v t)
    (e : F (its.drop (i + 1)) = .ok ts) : LcAt K G1 H1 D0 F its rs (i + 1) (upd H' D0 (.lst (acc ++ [v]))) G' (acc ++ [v]) (ad ++ [t]) ts := by
  obtain ⟨f, a, u, rp⟩ := h.mid fr
  refine ⟨⟨f.gg, fun b o eb => ?_, fun b o eb => ?_, f.nw⟩, upd_same, u, rp.append (.cons r .nil), e, by rw [h.all, List.append_assoc]; rfl, by
    rw [List.length_append]
    have := h.few
    simp only [List.length_cons, List.length_nil]
    omega⟩
  · rw [upd_ne (ne_of_none eb u)]
    exact f.gh _ _ eb
  · rw [upd_ne (ne_of_none eb nD)]
    exact f.hh _ _ eb
theorem LcAt.skip {K : PySem.W.Frag} {G1 H1 G H G' H' : Hp} {D0 : Addr} {F : List D → R (List D)} {its rs : List D} {i : Nat} {acc : List V} {ad rr : List D} (h : LcAt K G1 H1 D0 F its rs i H G acc ad rr) (fr : Fr G H G' H')
    (e : F (its.drop (i + 1)) = .ok rr) : LcAt K G1 H1 D0 F its rs (i + 1) H' G' acc ad rr := by
  obtain ⟨f, a, u, rp⟩ := h.mid fr
  exact ⟨f, a, u, rp, e, h.all, Nat.le_succ_of_le h.few⟩
theorem filR_ex {p : D → R Bool} {f : D → R D} : ∀ {ds : List D} {c : Str}, filR p f ds ≠ .ex c
  | [], _, h => nomatch h
  | d :: ds, c, h => by
    unfold filR at h
    cases e1 : nox (p d) with
    | no => rw [e1] at h; exact nomatch h
    | ex c' => cases e2 : p d <;> rw [e2] at e1 <;> exact nomatch e1
    | ok b =>
      rw [e1] at h
      cases b with
      | false => exact filR_ex (ds := ds) (c := c) (by simpa using h)
      | true =>
        cases e3 : nox (f d) with
        | no => rw [e3] at h; exact nomatch h
        | ex c' => cases e2 : f d <;> rw [e2] at e3 <;> exact nomatch e3
        | ok t =>
          rw [e3] at h
          cases e4 : filR p f ds with
          | no => rw [e4] at h; exact nomatch h
          | ex c' => exact filR_ex e4
          | ok ts => rw [e4] at h; exact nomatch h
theorem mapR_fil {α : Type} {u : D → R α} {me : α → R D} : ∀ ds : List D, mapR (fun d => (u d).bind me) ds = filR (fun d => (u d).bind fun _ => .ok true) (fun d => (u d).bind me) ds
  | [] => rfl
  | d :: ds => by
    unfold mapR filR
    rw [mapR_fil ds]
    cases u d <;> rfl
theorem filR_cons {p : D → R Bool} {f : D → R D} {d : D} {ds ts : List D} (h : filR p f (d :: ds) = .ok ts) : ∃ b, p d = .ok b ∧ (b = false → filR p f ds = .ok ts) ∧ (b = true → ∃ t ts', f d = .ok t ∧ filR p f ds = .ok ts' ∧ ts = t :: ts') := by
  unfold filR at h
  cases e1 : p d with
  | no => rw [e1] at h; exact nomatch h
  | ex c => rw [e1] at h; exact nomatch h
  | ok b =>
    rw [e1] at h
    refine ⟨b, rfl, fun hb => ?_, fun hb => ?_⟩
    · subst hb
      simpa using h
    · subst hb
      cases e2 : f d with
      | no => rw [e2] at h; exact nomatch h
      | ex c => rw [e2] at h; exact nomatch h
      | ok t =>
        rw [e2] at h
        cases e3 : filR p f ds with
        | no => rw [e3] at h; exact nomatch h
        | ex c => rw [e3] at h; exact nomatch h
        | ok ts' =>
          rw [e3] at h
          cases h
          exact ⟨t, ts', rfl, rfl, rfl⟩
theorem lc_read {K : PySem.W.Frag} {mg : Str → Option Value} {α : Type} {wi : R (List D)} {sl vs : List Nat} {u : D → R α} {put : α → En → En} {cond : α → R Bool} {me : α → R D} {tt : TT} {σ : L2.St} {H : Hp} {Q : VK} (hsub : ∀ i ∈ sl, i ∈ vs)
    (ht : ∀ (a : α) (b : Bool) (σ2 : L2.St) (H2 G2 : Hp) (Qb : Bool → Hp → Prop), cond a = .ok b → Same G2 H2 → Ep K G2 (put a (wipeE ρ vs)) σ2 → (∀ G3 H3, Fr G2 H2 G3 H3 → Qb b H3) → tt σ2 H2 Qb)
    (h : rdF K mg E ρ (wi.bind fun its => (filR (fun d => (u d).bind cond) (fun d => (u d).bind me) its).bind fun rs => .ok (.list rs)) σ H Q) :
    ∀ te : TE, (∀ (a : α) (t : D) (σ2 : L2.St) (H2 G2 : Hp) (Qe : VK), me a = .ok t → Same G2 H2 → Ep K G2 (put a (wipeE ρ vs)) σ2 → (∀ v G3 H3, Fr G2 H2 G3 H3 → Rep K G3 v t → Qe v H3) → te σ2 H2 Qe) →
    tLc (rdI K mg E ρ wi) (rdG K sl u put) tt te vs σ H Q := by
  intro te hte
  obtain ⟨G, sa, ep, q⟩ := h
  refine ⟨G, sa, ep, ?_⟩
  cases wi with
  | no => exact q.elim
  | ex c => exact q
  | ok its =>
    intro J G1 H1 fr hz io D0 nD
    have q' : PostF K mg E G H ((filR (fun d => (u d).bind cond) (fun d => (u d).bind me) its).bind fun rs => .ok (.list rs)) Q := q
    cases eF : filR (fun d => (u d).bind cond) (fun d => (u d).bind me) its with
    | no => rw [eF] at q'; exact q'.elim
    | ex c => exact absurd eF filR_ex
    | ok rs =>
      rw [eF] at q'
      · have hD : H D0 = none := by
          cases z : H D0 with
          | none => rfl
          | some o => rw [fr.hh _ _ z] at nD; cases nD
        refine ⟨fun i m H => m = its.length - i ∧ i ≤ its.length ∧ ∃ G acc ad rr, LcAt K G1 H1 D0 (filR (fun d => (u d).bind cond) (fun d => (u d).bind me)) its rs i H G acc ad rr, ⟨its.length, by simp, Nat.zero_le _, G1, [], [], rs, ?_⟩, ?_⟩
        · refine ⟨⟨Same.refl _, fun b o eb => ?_, fun b o eb => ?_, fun _ h _ => h⟩, upd_same, (fr.gh.free nD), .nil, eF, rfl, Nat.le_refl _⟩
          · rw [upd_ne (ne_of_none (fr.gh _ _ eb) nD)]
            exact fr.gh _ _ eb
          · rw [upd_ne (ne_of_none eb nD)]
            exact eb
        · rintro i m H2 ⟨rfl, hi, G2, acc, ad, rr, hL⟩
          by_cases hlt : i < its.length
          · right
            have hget := List.getElem?_eq_getElem hlt
            have hdrop : its.drop i = its[i] :: its.drop (i + 1) := List.drop_eq_getElem_cons hlt
            refine ⟨io.go i H2 hlt (hL.fr.gg.trans hL.fr.gh), fun H' => ∃ G acc ad rr, LcAt K G1 H1 D0 (filR (fun d => (u d).bind cond) (fun d => (u d).bind me)) its rs (i + 1) H' G acc ad rr, fun H' hN => ⟨its.length - (i + 1), by omega, rfl, hlt, hN⟩, fun x H' hy => ?_⟩
            obtain ⟨G3, fr3, r3⟩ := io.yld i x G2 H2 H' its[i] hget hL.fr.gg hL.fr.gh hy
            have er := hL.rest
            rw [hdrop] at er
            obtain ⟨b, eb, h0, h1⟩ := filR_cons er
            cases eu : u its[i] with
            | no => rw [eu] at eb; exact nomatch eb
            | ex c => rw [eu] at eb; exact nomatch eb
            | ok a =>
              rw [eu] at eb
              refine ⟨G3, its[i], a, fr3.gh, r3, eu, fun ps hp => ?_⟩
              have ho : Only sl (wipe σ vs) (putsS ps (wipe σ vs)) := puts_only hp.sub only_refl
              have epA : Ep K G3 (put a (wipeE ρ vs)) (putsS ps (wipe σ vs)) := by
                rw [hp.eq]
                exact puts_ep hp.rep ((((ep.mono fr.gg).mono hL.fr.gg).mono fr3.gg).wipe)
              generalize putsS ps (wipe σ vs) = σ2 at ho epA ⊢
              have hw : wipe σ2 vs = wipe σ vs := by
                have h1 : Only vs (wipe σ vs) σ2 := ⟨ho.1, fun j hj => ho.2 j fun hm => hj (hsub j hm)⟩
                rw [wipe_only h1]
                exact wipe_only ⟨by rw [wipe_length], fun j hj => by
                  cases e : (wipe σ vs)[j]? with
                  | none =>
                    have : σ.length ≤ j := by
                      have := List.getElem?_eq_none_iff.mp e
                      rw [wipe_length] at this
                      exact this
                    exact (List.getElem?_eq_none this).symm
                  | some o =>
                    have key : ∀ (l : List Nat) (j : Nat), j ∉ l → (wipe σ l)[j]? = σ[j]? := by
                      intro l
                      induction l with
                      | nil => intro j _; rfl
                      | cons v l ih =>
                        intro j hj
                        show ((wipe σ l).set v none)[j]? = _
                        rw [List.getElem?_set_ne (fun z : v = j => hj (by rw [z]; exact List.mem_cons_self))]
                        exact ih j fun hm => hj (List.mem_cons_of_mem _ hm)
                    rw [← e, key vs j hj]⟩
              refine ⟨hw, ht a b σ2 H' G3 _ eb fr3.gh epA fun G4 H4 fr4 => ?_⟩
              cases b with
              | false =>
                rw [if_neg Bool.false_ne_true]
                exact ⟨G4, acc, ad, rr, hL.skip (fr3.trans fr4) (h0 rfl)⟩
              | true =>
                rw [if_pos rfl]
                obtain ⟨t, ts', ef, er', rfl⟩ := h1 rfl
                simp only [eu, R.ok_bind] at ef
                refine hte a t σ2 H4 G4 _ ef fr4.gh (epA.mono fr4.gg) fun v G5 H5 fr5 r5 => ?_
                have frA := (fr3.trans fr4).trans fr5
                obtain ⟨_, a5, _, _⟩ := hL.mid frA
                exact ⟨acc, a5, by have := hL.few; omega, G5, _, _, _, hL.more nD frA r5 er'⟩
          · left
            have e : i = its.length := by omega
            subst e
            exact ⟨io.stop H2 (hL.fr.gg.trans hL.fr.gh), q' D0 G2 H2 (fr.trans hL.fr) hD (hL.fin rfl)⟩
end
end TL
namespace TL
open PySem PySem.Spec PyProof.Rows L2
structure Er (K : PySem.W.Frag) (own : List Nat) (ρ : En) (ad : Nat → Addr) (σ : L2.St) (G H : Hp) : Prop where
  len : ρ.length = σ.length
  gh : Same G H
  fz : ∀ i t, getN ρ i = some t → i ∉ own → ∃ v, σ[i]? = some (some v) ∧ Rep K G v t
  ow : ∀ i ∈ own, ∃ t, getN ρ i = some t ∧ σ[i]? = some (some (.ref (ad i))) ∧ OwnAt K G H (ad i) t
  inj : ∀ i ∈ own, ∀ j ∈ own, ad i = ad j → i = j
structure FrO (own : List Nat) (ad : Nat → Addr) (G H G' H' : Hp) : Prop where
  gg : Same G G'
  hh : ∀ b o, H b = some o → (∀ i ∈ own, b ≠ ad i) → H' b = some o
  nw : ∀ b, G b = none → H b ≠ none → G' b = none
theorem FrO.refl {own : List Nat} {ad : Nat → Addr} {G H : Hp} : FrO own ad G H G H := ⟨Same.refl _, fun _ _ e _ => e, fun _ h _ => h⟩
theorem FrO.trans {K : PySem.W.Frag} {own : List Nat} {ρ : En} {σ : L2.St} {ad : Nat → Addr} {G H G1 H1 G2 H2 : Hp} (a : FrO own ad G H G1 H1) (b : FrO own ad G1 H1 G2 H2) (er : Er K own ρ ad σ G2 H2) : FrO own ad G H G2 H2 :=
  ⟨a.gg.trans b.gg, fun c o e h => b.hh c o (a.hh c o e h) h, fun c h1 h2 => by
    by_cases hc : ∃ i ∈ own, c = ad i
    · obtain ⟨i, hi, rfl⟩ := hc
      obtain ⟨t, _, _, o⟩ := er.ow i hi
      exact o.1
    · refine b.nw c (a.nw c h1 h2) ?_
      cases q : H c with
      | none => exact absurd q h2
      | some o =>
        rw [a.hh c o q fun i hi z => hc ⟨i, hi, z⟩]
        exact fun z => nomatch z⟩
def hideE (own : List Nat) (ρ : En) : En := wipeE ρ own
theorem getN_wipe {ρ : En} {i : Nat} {t : D} : ∀ {own : List Nat}, getN (wipeE ρ own) i = some t → getN ρ i = some t ∧ i ∉ own
  | [], h => ⟨h, List.not_mem_nil⟩
  | v :: vs, h => by
    unfold wipeE at h
    by_cases hi : i = v
    · subst hi
      have := getN_setN_same (w := none) h
      cases this
    · rw [getN_setN_ne hi] at h
      obtain ⟨h1, h2⟩ := getN_wipe h
      exact ⟨h1, fun z => by
        rcases List.mem_cons.mp z with z | z
        · exact hi z
        · exact h2 z⟩
theorem wipeE_length {ρ : En} : ∀ {own : List Nat}, (wipeE ρ own).length = ρ.length
  | [] => rfl
  | _ :: vs => (setN_length).trans (wipeE_length (own := vs))
def Bor (own : List Nat) (ρ ρe : En) (m : R D) : Prop := ρe = hideE own ρ ∨ (ρe = ρ ∧ ∀ t, m = .ok t → noL t = true)
theorem bor_hide {own : List Nat} {ρ : En} {m : R D} : Bor own ρ (hideE own ρ) m := .inl rfl
theorem bor_nil {ρ : En} {m : R D} : Bor [] ρ ρ m := .inl rfl
theorem bor_flat {own : List Nat} {ρ : En} {m : R D} (h : ∀ t, m = .ok t → noL t = true) : Bor own ρ ρ m := .inr ⟨rfl, h⟩
def nl (m : R D) : R D := m.bind fun t => if noL t = true then .ok t else .no
theorem nl_nl {m : R D} : ∀ t, nl m = .ok t → noL t = true := fun t h => by
  cases m with
  | no => exact nomatch h
  | ex c => exact nomatch h
  | ok a =>
    simp only [nl, R.ok_bind] at h
    split at h
    · rename_i e
      cases h
      exact e
    · exact nomatch h
noncomputable def allG (own : List Nat) (ad : Nat → Addr) (G H : Hp) : Hp := fun b => open Classical in if ∃ i ∈ own, b = ad i then H b else G b
theorem allG_in {own : List Nat} {ad : Nat → Addr} {G H : Hp} {i : Nat} (hi : i ∈ own) : allG own ad G H (ad i) = H (ad i) := by
  unfold allG
  rw [if_pos ⟨i, hi, rfl⟩]
theorem allG_out {own : List Nat} {ad : Nat → Addr} {G H : Hp} {b : Addr} (h : ¬ ∃ i ∈ own, b = ad i) : allG own ad G H b = G b := by
  unfold allG
  rw [if_neg h]
section
variable {K : PySem.W.Frag} {own : List Nat} {ρ : En} {ad : Nat → Addr} {σ : L2.St} {G H : Hp}
theorem Er.g_none (er : Er K own ρ ad σ G H) {i : Nat} (hi : i ∈ own) : G (ad i) = none := by
  obtain ⟨_, _, _, o⟩ := er.ow i hi
  exact o.1
theorem Er.same_all (er : Er K own ρ ad σ G H) : Same G (allG own ad G H) := fun b o e => by
  by_cases hb : ∃ i ∈ own, b = ad i
  · obtain ⟨i, hi, rfl⟩ := hb
    rw [er.g_none hi] at e
    cases e
  · rw [allG_out hb]
    exact e
theorem Er.all_same (er : Er K own ρ ad σ G H) : Same (allG own ad G H) H := fun b o e => by
  by_cases hb : ∃ i ∈ own, b = ad i
  · obtain ⟨i, hi, rfl⟩ := hb
    rw [allG_in hi] at e
    exact e
  · rw [allG_out hb] at e
    exact er.gh _ _ e
theorem Er.ep_all (er : Er K own ρ ad σ G H) : Ep K (allG own ad G H) ρ σ := ⟨er.len, fun i t e => by
  by_cases hi : i ∈ own
  · obtain ⟨t', e', es, o⟩ := er.ow i hi
    rw [e] at e'
    cases e'
    exact ⟨_, es, o.rep er.same_all (allG_in hi)⟩
  · obtain ⟨v, es, r⟩ := er.fz i t e hi
    exact ⟨v, es, r.mono er.same_all⟩⟩
theorem Er.ep_hide (er : Er K own ρ ad σ G H) : Ep K G (hideE own ρ) σ := ⟨wipeE_length.trans er.len, fun i t e => by
  obtain ⟨e1, hi⟩ := getN_wipe e
  exact er.fz i t e1 hi⟩
theorem Er.after (er : Er K own ρ ad σ G H) {G' H' : Hp} (gg : Same G G') (gh : Same G' H') (hh : Same H H') (no : ∀ i ∈ own, G' (ad i) = none) : Er K own ρ ad σ G' H' where
  len := er.len
  gh := gh
  fz := fun i t e hi => by
    obtain ⟨v, es, r⟩ := er.fz i t e hi
    exact ⟨v, es, r.mono gg⟩
  ow := fun i hi => by
    obtain ⟨t, e, es, o⟩ := er.ow i hi
    refine ⟨t, e, es, o.keep gg (no i hi) ?_⟩
    obtain ⟨u, eu, _⟩ := o.some_of
    rw [hh _ _ eu, eu]
  inj := er.inj
theorem Er.bor {α : Type} {Rp : PySem.W.Frag → Hp → V → α → Prop} {m : R α} {mg : Str → Option Value} {E : XK} {ρe : En} {Q : V → Hp → Prop} (er : Er K own ρ ad σ G H)
    (hb : ρe = hideE own ρ ∨ (ρe = ρ ∧ ∀ t, m = .ok t → ∀ (G1 : Hp) (p : Addr → Prop) [DecidablePred p] v, (∀ b, p b → NotTup (G1 b)) → Rp K G1 v t → Rp K (cutH G1 p) v t))
    (hno : m ≠ .no) (hex : ∀ c, m = .ex c → ∀ H', Same H H' → E (cls mg c) none H')
    (hok : ∀ t v G' H', m = .ok t → Er K own ρ ad σ G' H' → Fr G H G' H' → Rp K G' v t → Q v H') : ∃ G1, Same G1 H ∧ Ep K G1 ρe σ ∧ PostP Rp K mg E G1 H m Q := by
  rcases hb with rfl | ⟨rfl, hcut⟩
  · refine ⟨G, er.gh, er.ep_hide, ?_⟩
    cases m with
    | no => exact absurd rfl hno
    | ex c => exact hex c rfl
    | ok t =>
      intro v G' H' fr r
      refine hok t v G' H' rfl (er.after fr.gg fr.gh fr.hh fun i hi => ?_) fr r
      obtain ⟨_, _, _, o⟩ := er.ow i hi
      exact fr.nw _ o.1 o.ne
  · refine ⟨allG own ad G H, er.all_same, er.ep_all, ?_⟩
    cases m with
    | no => exact absurd rfl hno
    | ex c => exact hex c rfl
    | ok t =>
      intro v G' H' fr r
      let p : Addr → Prop := fun b => ∃ i ∈ own, b = ad i
      haveI : DecidablePred p := fun b => Classical.propDecidable _
      have np : ∀ b, p b → NotTup (G' b) := fun b ⟨i, hi, e⟩ => by
        subst e
        obtain ⟨_, _, _, o⟩ := er.ow i hi
        obtain ⟨u, eu, nt⟩ := o.some_of
        rw [fr.gg _ _ ((allG_in hi).trans eu)]
        exact nt
      have g1 : Same G (cutH G' p) := fun b o e => cutH_of (fr.gg _ _ (er.same_all _ _ e)) fun ⟨i, hi, z⟩ => by
        subst z
        rw [er.g_none hi] at e
        cases e
      have g2 : Same (cutH G' p) H' := (cutH_same G' p).trans fr.gh
      have no : ∀ i ∈ own, cutH G' p (ad i) = none := fun i hi => cutH_none ⟨i, hi, rfl⟩
      refine hok t v (cutH G' p) H' rfl (er.after g1 g2 fr.hh no) ⟨g1, g2, fr.hh, fun b h1 h2 => ?_⟩ (hcut t rfl G' p v np r)
      by_cases hp : p b
      · exact cutH_none hp
      · exact cutH_free (fr.nw b (by rw [allG_out hp]; exact h1) h2)
theorem Fr.toO {G' H' : Hp} (fr : Fr G H G' H') : FrO own ad G H G' H' := ⟨fr.gg, fun b o e _ => fr.hh b o e, fr.nw⟩
end
section
variable {X : Cx} {own : List Nat} {S : Type} {emb : S → En}
def PostJ {α β : Type} (Rp : PySem.W.Frag → Hp → β → α → Prop) (K : PySem.W.Frag) (own : List Nat) (emb : S → En) (ad : Nat → Addr) (σ : L2.St) (G H : Hp) (m : R (α × S)) (Q : β → Hp → Prop) : Prop :=
  ∃ t s, m = .ok (t, s) ∧ ∀ v G' H', Er K own (emb s) ad σ G' H' → FrO own ad G H G' H' → Rp K G' v t → Q v H'
theorem PostJ.mono {α β : Type} {Rp : PySem.W.Frag → Hp → β → α → Prop} {K : PySem.W.Frag} {ad : Nat → Addr} {σ : L2.St} {G H : Hp} {m : R (α × S)} {Q Q' : β → Hp → Prop} (h : PostJ Rp K own emb ad σ G H m Q) (f : ∀ v H, Q v H → Q' v H) : PostJ Rp K own emb ad σ G H m Q' := by
  obtain ⟨t, s, e, q⟩ := h
  exact ⟨t, s, e, fun v G' H' a b c => f _ _ (q v G' H' a b c)⟩
def rdJ (K : PySem.W.Frag) (own : List Nat) (emb : S → En) (m : S → R (D × S)) : TE := fun σ H Q => ∃ s ad G, Er K own (emb s) ad σ G H ∧ PostJ Rep K own emb ad σ G H (m s) Q
def rdJA (K : PySem.W.Frag) (own : List Nat) (emb : S → En) (m : S → R (List D × S)) : TA := fun σ H Q => ∃ s ad G, Er K own (emb s) ad σ G H ∧ PostJ RepAll K own emb ad σ G H (m s) Q
def rdJB (K : PySem.W.Frag) (own : List Nat) (emb : S → En) (m : S → R (Bool × S)) : TT := fun σ H Q => ∃ s ad G, Er K own (emb s) ad σ G H ∧ PostJ RepB K own emb ad σ G H (m s) Q
abbrev JP (X : Cx) (own : List Nat) (emb : S → En) (e : Expr) (m : S → R (D × S)) : Prop := PE X e (rdJ X.K own emb m)
abbrev JB (X : Cx) (own : List Nat) (emb : S → En) (e : Expr) (m : S → R (Bool × S)) : Prop := PT X e (rdJB X.K own emb m)
abbrev JW (X : Cx) (own : List Nat) (emb : S → En) (e : Expr) (m : S → R (Bool × S)) : Prop := PW X e (rdJB X.K own emb m)
theorem PostJ.bind {α β γ δ : Type} {Rp : PySem.W.Frag → Hp → β → α → Prop} {Rq : PySem.W.Frag → Hp → δ → γ → Prop} {K : PySem.W.Frag} {ad : Nat → Addr} {σ : L2.St} {G H : Hp} {m : R (α × S)} {f : α × S → R (γ × S)} {Q : δ → Hp → Prop}
    (h : PostJ Rq K own emb ad σ G H (m.bind f) Q) : PostJ Rp K own emb ad σ G H m fun v H1 => ∃ G1 t s, Er K own (emb s) ad σ G1 H1 ∧ Rp K G1 v t ∧ FrO own ad G H G1 H1 ∧ PostJ Rq K own emb ad σ G1 H1 (f (t, s)) Q := by
  obtain ⟨u, s2, e, q⟩ := h
  cases m with
  | no => exact nomatch e
  | ex c => exact nomatch e
  | ok p =>
    obtain ⟨t, s⟩ := p
    refine ⟨t, s, rfl, fun v G1 H1 er fr r => ⟨G1, t, s, er, r, fr, u, s2, e, fun w G2 H2 er2 fr2 r2 => q w G2 H2 er2 (fr.trans fr2 er2) r2⟩⟩
theorem PostJ.pure {γ δ : Type} {Rq : PySem.W.Frag → Hp → δ → γ → Prop} {K : PySem.W.Frag} {ad : Nat → Addr} {σ : L2.St} {G H : Hp} {m : R γ} {s : S} {Q : δ → Hp → Prop} {mg : Str → Option Value} (er : Er K own (emb s) ad σ G H)
    (h : PostJ Rq K own emb ad σ G H (m.bind fun z => .ok (z, s)) Q) : PostP Rq K mg E0 G H m Q := by
  obtain ⟨u, s2, e, q⟩ := h
  cases m with
  | no => exact nomatch e
  | ex c => exact nomatch e
  | ok z =>
    cases e
    intro v G' H' fr r
    refine q v G' H' (er.after fr.gg fr.gh fr.hh fun i hi => ?_) fr.toO r
    obtain ⟨_, _, _, o⟩ := er.ow i hi
    exact fr.nw _ o.1 o.ne
variable {a b c : Expr} {pos : Pos}
theorem jp_of {ρe : S → En} {m : S → R D} (h : ∀ s, XP X E0 (ρe s) a (m s)) (hb : ∀ s, Bor own (emb s) (ρe s) (m s)) : JP X own emb a (fun s => (m s).bind fun t => .ok (t, s)) := by
  refine ⟨fun pins st σ H Q I hq => ?_⟩
  obtain ⟨s, ad, G, er, t, s', e, q⟩ := hq
  dsimp only at e
  cases em : m s with
  | no => rw [em] at e; exact nomatch e
  | ex c => rw [em] at e; exact nomatch e
  | ok t0 =>
    rw [em] at e
    cases e
    refine (h s).run pins st σ H Q I (er.bor (m := m s) ?_ (by rw [em]; exact fun z => nomatch z) (fun c z => by rw [em] at z; exact nomatch z) fun t' v G' H' e' er' fr r => ?_)
    · rcases hb s with z | ⟨z1, z2⟩
      · exact .inl z
      · exact .inr ⟨z1, fun t e' G1 p _ v np r => Rep.cut np r (z2 t e')⟩
    · rw [em] at e'
      cases e'
      exact q v G' H' er' fr.toO r
theorem two_j {σ : L2.St} {H : Hp} {Q : VK} {f : D → D → R D} {ma mb : S → R (D × S)} (h : rdJ X.K own emb (fun s => (ma s).bind fun p => (mb p.2).bind fun q => (f p.1 q.1).bind fun z => .ok (z, q.2)) σ H Q) :
    rdJ X.K own emb ma σ H fun x H1 => rdJ X.K own emb mb σ H1 fun y H2 => r2 X.K X.mg E0 f x y H2 Q := by
  obtain ⟨s, ad, G, er, q⟩ := h
  refine ⟨s, ad, G, er, (PostJ.bind (Rp := Rep) q).mono fun x H1 ⟨G1, t, s1, er1, r1, fr1, q1⟩ => ?_⟩
  refine ⟨s1, ad, G1, er1, ?_⟩
  obtain ⟨u, s2, e2, q2⟩ := PostJ.bind (Rp := Rep) q1
  refine ⟨u, s2, e2, fun y G2 H2 er2 fr2 r2 => ?_⟩
  obtain ⟨G2', u', s2', er2', r2', fr2', q3⟩ := q2 y G2 H2 er2 fr2 r2
  exact ⟨G2', t, u', er2'.gh, r1.mono fr2'.gg, r2', PostJ.pure er2' q3⟩
theorem jp_bin {op : Operator} {f : D → D → R D} {ma mb : S → R (D × S)} (ho : OpD X E0 (binaryOp op) f) (ha : JP X own emb a ma) (hb : JP X own emb b mb) : JP X own emb (.BinOp a op b pos) (fun s => (ma s).bind fun p => (mb p.2).bind fun q => (f p.1 q.1).bind fun z => .ok (z, q.2)) :=
  pe_weak (pe_op ho ha hb) fun _ _ _ h => two_j h
theorem jp_ix {f : D → D → R D} {ma mb : S → R (D × S)} (hr : IxD X E0 f) (ha : JP X own emb a ma) (hb : JP X own emb b mb) (hs : PlainIx b := by exact fun _ _ => rfl) : JP X own emb (.Subscript a b pos) (fun s => (ma s).bind fun p => (mb p.2).bind fun q => (f p.1 q.1).bind fun z => .ok (z, q.2)) :=
  pe_weak (pe_ix hr ha hb hs) fun _ _ _ h => two_j h
theorem jb_cmp {op : CmpOp} {f : D → D → R D} {ma mb : S → R (D × S)} (ho : OpD X E0 (compareOp op) f) (ha : JP X own emb a ma) (hb : JP X own emb b mb) (hm : behindInMarks op b = false := by first | exact nomark _ | rfl | with_unfolding_all rfl) :
    JB X own emb (.Compare a [op] [b] pos) (fun s => (ma s).bind fun p => (mb p.2).bind fun q => ((f p.1 q.1).bind asB).bind fun z => .ok (z, q.2)) :=
  pt_weak (pt_cmpR ho ha hb hm) fun σ H Q h => by
    obtain ⟨s, ad, G, er, q⟩ := h
    refine ⟨s, ad, G, er, (PostJ.bind (Rp := Rep) q).mono fun x H1 ⟨G1, t, s1, er1, r1, fr1, q1⟩ => ?_⟩
    refine ⟨s1, ad, G1, er1, (PostJ.bind (Rp := Rep) q1).mono fun y H2 ⟨G2, u, s2, er2, r2, fr2, q2⟩ => ?_⟩
    refine ⟨G2, t, u, er2.gh, r1.mono fr2.gg, r2, ((PostJ.pure (mg := X.mg) er2 q2).bind (Rp := Rep)).mono fun z H3 ⟨G3, w, fr3, r3, _, q3⟩ => ?_⟩
    cases r3 with
    | bl k => exact ⟨k, rfl, q3 k G3 H3 (Fr.refl fr3.gh) rfl⟩
    | _ => exact q3.elim
theorem jb_of {ρe : S → En} {m : S → R Bool} (h : ∀ s, XB X E0 (ρe s) a (m s)) (hb : ∀ s, ρe s = hideE own (emb s) ∨ ρe s = emb s) : JB X own emb a (fun s => (m s).bind fun t => .ok (t, s)) := by
  refine ⟨fun pins st σ H Q I hq => ?_⟩
  obtain ⟨s, ad, G, er, t, s', e, q⟩ := hq
  dsimp only at e
  cases em : m s with
  | no => rw [em] at e; exact nomatch e
  | ex c => rw [em] at e; exact nomatch e
  | ok t0 =>
    rw [em] at e
    cases e
    obtain ⟨G1, h1, h2, h3⟩ := er.bor (m := m s) (Rp := fun _ _ (v : V) (b : Bool) => v = .bl b) (mg := X.mg) (E := E0) (Q := fun v H' => ∀ b, v = .bl b → Q b H') (ρe := ρe s) ((hb s).imp id fun z => ⟨z, fun _ _ _ _ _ _ _ r => r⟩) (by rw [em]; exact fun z => nomatch z) (fun c z => by rw [em] at z; exact nomatch z) (fun t' v G' H' e' er' fr r b hv => by
      rw [em] at e'
      cases e'
      subst r
      cases hv
      exact q _ G' H' er' fr.toO rfl)
    refine (h s).run pins st σ H Q I ⟨G1, h1, h2, ?_⟩
    rw [em] at h3 ⊢
    intro v G' H' fr r
    have r' : v = t := r
    subst r'
    exact h3 (.bl v) G' H' fr rfl v rfl
theorem jw_and1 {m : S → R (Bool × S)} (ha : JB X own emb a m) : JW X own emb (.BoolOp .And [a] pos) m := pw_and1 ha
theorem jw_or1 {m : S → R (Bool × S)} (ha : JB X own emb a m) : JW X own emb (.BoolOp .Or [a] pos) m := pw_or1 ha
theorem jw_and {rest : List Expr} {m n : S → R (Bool × S)} (ha : JB X own emb a m) (hb : JW X own emb (.BoolOp .And (b :: rest) pos) n) : JW X own emb (.BoolOp .And (a :: b :: rest) pos) (fun s => (m s).bind fun p => if p.1 = true then n p.2 else .ok (false, p.2)) :=
  pw_weak (pw_and ha hb) fun σ H Q h => by
    obtain ⟨s, ad, G, er, q⟩ := h
    refine ⟨s, ad, G, er, (PostJ.bind (Rp := RepB) q).mono fun x H1 ⟨G1, t, s1, er1, r1, fr1, q1⟩ => ?_⟩
    cases r1
    cases x with
    | true =>
      rw [if_pos rfl]
      exact ⟨s1, ad, G1, er1, q1⟩
    | false =>
      rw [if_neg Bool.false_ne_true]
      obtain ⟨u, s2, e, q1⟩ := q1
      cases e
      exact q1 _ G1 H1 er1 FrO.refl rfl
theorem jw_or {rest : List Expr} {m n : S → R (Bool × S)} (ha : JB X own emb a m) (hb : JW X own emb (.BoolOp .Or (b :: rest) pos) n) : JW X own emb (.BoolOp .Or (a :: b :: rest) pos) (fun s => (m s).bind fun p => if p.1 = true then .ok (true, p.2) else n p.2) :=
  pw_weak (pw_or ha hb) fun σ H Q h => by
    obtain ⟨s, ad, G, er, q⟩ := h
    refine ⟨s, ad, G, er, (PostJ.bind (Rp := RepB) q).mono fun x H1 ⟨G1, t, s1, er1, r1, fr1, q1⟩ => ?_⟩
    cases r1
    cases x with
    | true =>
      rw [if_pos rfl]
      obtain ⟨u, s2, e, q1⟩ := q1
      cases e
      exact q1 _ G1 H1 er1 FrO.refl rfl
    | false =>
      rw [if_neg Bool.false_ne_true]
      exact ⟨s1, ad, G1, er1, q1⟩
theorem jb_w {m : S → R (Bool × S)} (h : JW X own emb a m) : JB X own emb a m := PW.pt h
abbrev CJ (S : Type) := (β : Type) → S → (List D → S → R β) → R β
def JAk (X : Cx) (own : List Nat) (emb : S → En) (es : List Expr) (mk : CJ S) : Prop := ∃ m : S → R (List D × S), (∀ (β : Type) (s : S) (k : List D → S → R β), mk β s k = (m s).bind fun p => k p.1 p.2) ∧ (∀ s p, m s = .ok p → p.1.length = es.length) ∧ PA X es (rdJA X.K own emb m)
theorem ja_nil : JAk X own emb [] (fun β s k => k [] s) := ⟨fun s => .ok ([], s), fun _ _ _ => rfl, fun _ p h => by cases h; rfl, pa_weak pa_nil fun σ H Q h => by
  obtain ⟨s, ad, G, er, t, s', e, q⟩ := h
  cases e
  exact q [] G H er FrO.refl .nil⟩
theorem ja_cons {es : List Expr} {ma : S → R (D × S)} {mk : CJ S} (ha : JP X own emb a ma) (hr : JAk X own emb es mk) (hs : starEach (a :: es) X.env = (false, eval a X.env) :: starEach es X.env := by rfl) :
    JAk X own emb (a :: es) (fun β s k => (ma s).bind fun p => mk β p.2 fun xs s' => k (p.1 :: xs) s') := by
  obtain ⟨m, e, hl, h⟩ := hr
  refine ⟨fun s => (ma s).bind fun p => (m p.2).bind fun q => .ok (p.1 :: q.1, q.2), fun β s k => ?_, fun s p he => ?_, pa_weak (pa_cons ha h hs) fun σ H Q hq => ?_⟩
  · show ((ma s).bind fun p => mk β p.2 fun xs s' => k (p.1 :: xs) s') = _
    rw [R.bind_assoc]
    congr 1
    funext p
    rw [e, R.bind_assoc]
    rfl
  · cases h1 : ma s with
    | ok p1 =>
      simp only [h1, R.ok_bind] at he
      cases h2 : m p1.2 with
      | ok p2 =>
        simp only [h2, R.ok_bind] at he
        cases he
        exact congrArg (· + 1) (hl _ _ h2)
      | no => simp only [h2] at he; exact nomatch he
      | ex c => simp only [h2] at he; exact nomatch he
    | no => simp only [h1] at he; exact nomatch he
    | ex c => simp only [h1] at he; exact nomatch he
  · obtain ⟨s, ad, G, er, q⟩ := hq
    refine ⟨s, ad, G, er, (PostJ.bind (Rp := Rep) q).mono fun x H1 ⟨G1, t, s1, er1, r1, fr1, q1⟩ => ?_⟩
    refine ⟨s1, ad, G1, er1, (PostJ.bind (Rp := RepAll) q1).mono fun xs H2 ⟨G2, ts, s2, er2, r2, fr2, u, s3, e3, q2⟩ => ?_⟩
    cases e3
    exact q2 _ G2 H2 er2 FrO.refl (.cons (r1.mono fr2.gg) r2)
theorem jp_tup {es : List Expr} {mk : CJ S} {x1} (h : JAk X own emb es mk) (hl : es.length ≤ 1000 := by decide) : JP X own emb (.Tuple es x1 pos) (fun s => mk (D × S) s fun ts s' => .ok (.tuple ts, s')) := by
  obtain ⟨m, e, hl', h⟩ := h
  rw [show (fun s => mk (D × S) s fun ts s' => R.ok (.tuple ts, s')) = fun s => (m s).bind fun p => .ok (.tuple p.1, p.2) from funext fun s => e _ _ _]
  refine pe_weak (pe_tupU h) fun σ H Q hq => ?_
  obtain ⟨s, ad, G, er, q⟩ := hq
  refine ⟨s, ad, G, er, ?_⟩
  obtain ⟨u, s2, e2, q2⟩ := q
  cases em : m s with
  | no => simp only [em] at e2; exact nomatch e2
  | ex c => simp only [em] at e2; exact nomatch e2
  | ok p =>
    simp only [em, R.ok_bind] at e2
    cases e2
    refine ⟨p.1, p.2, rfl, fun vs G1 H1 er1 fr1 r1 => ⟨?_, fun a u np tu => ?_⟩⟩
    · rw [r1.length, hl' s p em, sizeLine_eq]
      omega
    · have fr2 := Fr.new (o := u) er1.gh np
      refine q2 _ _ _ (er1.after fr2.gg fr2.gh fr2.hh fun i hi => ?_) (fr1.trans (K := X.K) (ρ := emb p.2) (σ := σ) fr2.toO (er1.after fr2.gg fr2.gh fr2.hh fun i hi => ?_)) (rep_newT er1.gh np tu r1)
      all_goals
        obtain ⟨_, _, _, o⟩ := er1.ow i hi
        exact fr2.nw _ o.1 o.ne
theorem jp_lst {es : List Expr} {mk : CJ S} (h : JAk X own emb es mk) (hl : es.length ≤ 1000 := by decide) : JP X own emb (.List es pos) (fun s => mk (D × S) s fun ts s' => .ok (.list ts, s')) := by
  obtain ⟨m, e, hl', h⟩ := h
  rw [show (fun s => mk (D × S) s fun ts s' => R.ok (.list ts, s')) = fun s => (m s).bind fun p => .ok (.list p.1, p.2) from funext fun s => e _ _ _]
  refine pe_weak (pe_lst h) fun σ H Q hq => ?_
  obtain ⟨s, ad, G, er, q⟩ := hq
  refine ⟨s, ad, G, er, ?_⟩
  obtain ⟨u, s2, e2, q2⟩ := q
  cases em : m s with
  | no => simp only [em] at e2; exact nomatch e2
  | ex c => simp only [em] at e2; exact nomatch e2
  | ok p =>
    simp only [em, R.ok_bind] at e2
    cases e2
    refine ⟨p.1, p.2, rfl, fun vs G1 H1 er1 fr1 r1 => ⟨?_, fun a np => ?_⟩⟩
    · rw [r1.length, hl' s p em, sizeLine_eq]
      omega
    · have fr2 := Fr.new (o := .lst vs) er1.gh np
      refine q2 _ _ _ (er1.after fr2.gg fr2.gh fr2.hh fun i hi => ?_) (fr1.trans (K := X.K) (ρ := emb p.2) (σ := σ) fr2.toO (er1.after fr2.gg fr2.gh fr2.hh fun i hi => ?_)) (rep_newL er1.gh np r1)
      all_goals
        obtain ⟨_, _, _, o⟩ := er1.ow i hi
        exact fr2.nw _ o.1 o.ne
theorem jp_callT {x : Str} {p : Pos} {T : String} {es : List Expr} {mk : CJ S} {f : List D → R D} (hc : CallD X E0 (.type T) f) (hm : X.mg x = none) (ha : JAk X own emb (a :: es) mk) (hv : bootBuiltins x = some (.type T) := by decide +kernel) (hg : Gl X x := by rfl) (hn : x ≠ "__name__" := by decide)
    (hdb : (x == ("__debug__" : Str)) = false := by decide) (he : starEach (a :: es) X.env = (false, eval a X.env) :: starEach es X.env := by rfl) (hpl : (backTo pos (starEach es X.env)).any (·.1) = false := by rfl) : JP X own emb (.Call (.Name x p) (a :: es) [] pos) (fun s => mk (D × S) s fun ts s' => (f ts).bind fun z => .ok (z, s')) := by
  obtain ⟨m, e, _, h⟩ := ha
  rw [show (fun s => mk (D × S) s fun ts s' => (f ts).bind fun z => R.ok (z, s')) = fun s => (m s).bind fun p => (f p.1).bind fun z => .ok (z, p.2) from funext fun s => e _ _ _]
  refine pe_weak (pe_callTy hc hg hm hv h hn hdb he hpl) fun σ H Q hq => ?_
  obtain ⟨s, ad, G, er, q⟩ := hq
  exact ⟨s, ad, G, er, (PostJ.bind (Rp := RepAll) q).mono fun vs H1 ⟨G1, ts, s1, er1, r1, fr1, q1⟩ => ⟨G1, ts, er1.gh, r1, PostJ.pure er1 q1⟩⟩
end
end TL
namespace TL
open PySem PySem.Spec PyProof.Rows L2
inductive Md where
  | fz
  | nw
  | my
def notList : D → Bool
  | .list _ => false
  | .dict _ => false
  | _ => true
def Ans (K : PySem.W.Frag) (fr : Md) (H G' H' : Hp) (v : V) (t : D) : Prop :=
  match fr with
  | .fz => Rep K G' v t
  | .nw => ∃ p, v = .ref p ∧ H p = none ∧ OwnAt K G' H' p t
  | .my => (∃ p, v = .ref p ∧ H p = none ∧ OwnAt K G' H' p t) ∨ (notList t = true ∧ Rep K G' v t)
def spP (K : PySem.W.Frag) (mg : Str → Option Value) (np : Nat) (fr : Md) (mf : List D → R D) : Sp := fun vs H Q E => vs.length = np ∧ ∃ G ts, Same G H ∧ RepAll K G vs ts ∧ match mf ts with
  | .no => False
  | .ex c => ∀ H', Same H H' → E (cls mg c) none H'
  | .ok t => ∀ v G' H', Fr G H G' H' → Ans K fr H G' H' v t → Q v H'
def spB (K : PySem.W.Frag) (np : Nat) (fr : Md) (mf : D → List D → R (D × D)) : Sp := fun vs H Q E => vs.length = np ∧ ∃ G a ws b ts, vs = .ref a :: ws ∧ Same G H ∧ OwnAt K G H a b ∧ RepAll K G ws ts ∧ ∃ t b', mf b ts = .ok (t, b') ∧
  ∀ v G' H', Same G G' → Same G' H' → (∀ c o, H c = some o → c ≠ a → H' c = some o) → (∀ c, G c = none → H c ≠ none → G' c = none) → OwnAt K G' H' a b' → Ans K fr H G' H' v t → Q v H'
theorem okN {P : Program} {w : World} {K : PySem.W.Frag} {mg : Str → Option Value} {base : Heap} {x qual : Str} {st : Stmt} {f : Addr} {fd : FuncData} {N ps : List Str} {k : Nat} {sp : Sp} (F : Fun K x qual st f fd) (S : FnScope N ps (defScope st)) (len : ∀ vs H Q E, sp vs H Q E → vs.length = ps.length)
    (hbody : ∀ (cdv : Value) (A : Around) (outer : List Env) (s : Shared) (H : Hp) (vs : List V) (Q : VK) (E : XK), Room k (A.deeper (envOfC qual (defScope st) s.heap.objs.size f cdv)) → sp vs H Q E →
      ∃ t, PSs (cxOf (L2N.CX P w) P w K mg base N qual (defScope st) f cdv A outer s H E) (defBody st) t ∧ t { nx := fun _ H' => Q .non H', rt := Q } (start N vs) H) : FnOk P w K mg base (L2N.CX P w) (k + 1) f fd ps sp := by
  obtain ⟨oc, od, kV, doc, pm, an, cdv, ct, osl, rfl, lk, hcd⟩ := F.ex
  exact fn_of lk hcd S len fun A outer s H vs Q E hr hsp => hbody cdv A outer s H vs Q E hr hsp
def CalOk (P : Program) (w : World) (K : PySem.W.Frag) (mg : Str → Option Value) (base : Heap) (k : Nat) (x : Str) (sp : Sp) : Prop :=
  ∃ f fd ps, FnOk P w K mg base (L2N.CX P w) k f fd ps sp ∧ mg x = some (.ref f) ∧ PySem.W.keepIn K (.ref f) = true ∧ Binds K fd ps []
section
variable {X : Cx} {E : XK} {ρ : En} {a : Expr} {pos : Pos}
theorem Fr.freeze {K : PySem.W.Frag} {G H G' H' : Hp} {p : Addr} {t : D} (fr : Fr G H G' H') (np : H p = none) (o : OwnAt K G' H' p t) : ∃ G2, Fr G H G2 H' ∧ Rep K G2 (.ref p) t := by
  obtain ⟨u, eu, _⟩ := o.some_of
  have gn := o.1
  refine ⟨upd G' p u, ⟨fun b x e => ?_, fun b x e => ?_, fr.hh, fun b h1 h2 => ?_⟩, o.rep (same_new gn) (by rw [upd_same, eu])⟩
  · rw [upd_ne (ne_of_none (fr.gg _ _ e) gn)]
    exact fr.gg _ _ e
  · by_cases hb : b = p
    · subst hb
      rw [upd_same] at e
      rw [eu, e]
    · rw [upd_ne hb] at e
      exact fr.gh _ _ e
  · have : b ≠ p := fun z => h2 (by rw [z]; exact np)
    rw [upd_ne this]
    exact fr.nw b h1 h2
theorem xp_call {x : Str} {p : Pos} {k j np : Nat} {fr : Md} {es : List Expr} {mk : CP} {mf : List D → R D} (C : CalOk X.prog X.w X.K X.mg X.base j x (spP X.K X.mg np fr mf)) (hr : Room k X.A) (hjk : j ≤ k) (hx : Passes (L2N.CX X.prog X.w) X E) (ha : XAk X E ρ (a :: es) mk)
    (hnp : (a :: es).length = np := by rfl) (hg : Gl X x := by rfl) (hdb : (x == ("__debug__" : Str)) = false := by decide) (he : starEach (a :: es) X.env = (false, eval a X.env) :: starEach es X.env := by rfl) (hpl : (backTo pos (starEach es X.env)).any (·.1) = false := by rfl) :
    XP X E ρ (.Call (.Name x p) (a :: es) [] pos) (mk D mf) := by
  obtain ⟨f, fd, ps, F, hm, hk, hb⟩ := C
  obtain ⟨m, e, hl, h⟩ := ha
  rw [e]
  refine pe_weak (pe_call F (hr.mono hjk) hg hm hk hb .nil hx h hdb he hpl) fun σ H Q hq => ?_
  obtain ⟨G, sa, ep, q⟩ := hq
  refine ⟨G, sa, ep, ?_⟩
  cases em : m with
  | no => rw [em] at q; exact q.elim
  | ex c => rw [em] at q; exact q
  | ok ts =>
    rw [em] at q
    intro vs G1 H1 fr1 ra
    have q' : PostP Rep X.K X.mg E G H (mf ts) Q := q
    rw [List.append_nil]
    refine ⟨by rw [ra.length, hl ts em]; exact hnp, G1, ts, fr1.gh, ra, ?_⟩
    cases e2 : mf ts with
    | no => rw [e2] at q'; exact q'.elim
    | ex c => rw [e2] at q'; exact fun H' s => q' H' (fr1.hh.trans s)
    | ok t =>
      rw [e2] at q'
      intro v G2 H2 fr2 an
      cases fr with
      | fz => exact q' v G2 H2 (fr1.trans fr2) an
      | nw =>
        obtain ⟨p, rfl, np, o⟩ := an
        obtain ⟨G3, fr3, r3⟩ := fr2.freeze np o
        exact q' _ G3 H2 (fr1.trans fr3) r3
      | my =>
        rcases an with ⟨p, rfl, np, o⟩ | ⟨_, an⟩
        · obtain ⟨G3, fr3, r3⟩ := fr2.freeze np o
          exact q' _ G3 H2 (fr1.trans fr3) r3
        · exact q' v G2 H2 (fr1.trans fr2) an
abbrev XF (X : Cx) (E : XK) (ρ : En) (e : Expr) (m : R D) : Prop := PE X e (rdF X.K X.mg E ρ m)
theorem xp_of_xf {m : R D} (h : XF X E ρ a m) : XP X E ρ a m := pe_weak h fun σ H Q ⟨G, s, ep, q⟩ => ⟨G, s, ep, by
  cases m with
  | no => exact q
  | ex c => exact q
  | ok t =>
    intro p G' H' fr np o
    obtain ⟨G3, fr3, r3⟩ := fr.freeze np o
    exact q _ G3 H' fr3 r3⟩
theorem own_new {K : PySem.W.Frag} {G H : Hp} {p : Addr} {vs : List V} {ts : List D} (s : Same G H) (np : H p = none) (r : RepAll K G vs ts) : OwnAt K G (upd H p (.lst vs)) p (.list ts) := ⟨s.free np, .inl ⟨vs, ts, rfl, upd_same, r⟩⟩
theorem Fr.newU {G H : Hp} (s : Same G H) {p : Addr} {o : HO} (h : H p = none) : Fr G H G (upd H p o) :=
  ⟨Same.refl _, fun b x e => by rw [upd_ne (ne_of_none (s _ _ e) h)]; exact s _ _ e, fun b x e => by rw [upd_ne (ne_of_none e h)]; exact e, fun _ h _ => h⟩
theorem xf_lst {es : List Expr} {mk : CP} (h : XAk X E ρ es mk) (hl : es.length ≤ 1000 := by decide) : XF X E ρ (.List es pos) (mk D fun ts => .ok (.list ts)) := by
  obtain ⟨m, e, hl', h⟩ := h
  rw [e]
  refine pe_weak (pe_lst h) fun σ H Q hq => ?_
  obtain ⟨G, s, ep, q⟩ := hq
  refine ⟨G, s, ep, ?_⟩
  cases em : m with
  | no => rw [em] at q; exact q.elim
  | ex c => rw [em] at q; exact q
  | ok ts =>
    rw [em] at q
    intro vs G1 H1 fr r
    refine ⟨?_, fun p np => ?_⟩
    · rw [r.length, hl' ts em, sizeLine_eq]
      omega
    · have hp : H p = none := by
        cases z : H p with
        | none => rfl
        | some o => rw [fr.hh _ _ z] at np; cases np
      exact q p G1 _ (fr.trans (Fr.newU fr.gh np)) hp (own_new fr.gh np r)
theorem xf_call {x : Str} {p : Pos} {k j np : Nat} {es : List Expr} {mk : CP} {mf : List D → R D} (C : CalOk X.prog X.w X.K X.mg X.base j x (spP X.K X.mg np .nw mf)) (hr : Room k X.A) (hjk : j ≤ k) (hx : Passes (L2N.CX X.prog X.w) X E) (ha : XAk X E ρ (a :: es) mk)
    (hnp : (a :: es).length = np := by rfl) (hg : Gl X x := by rfl) (hdb : (x == ("__debug__" : Str)) = false := by decide) (he : starEach (a :: es) X.env = (false, eval a X.env) :: starEach es X.env := by rfl) (hpl : (backTo pos (starEach es X.env)).any (·.1) = false := by rfl) :
    XF X E ρ (.Call (.Name x p) (a :: es) [] pos) (mk D mf) := by
  obtain ⟨f, fd, ps, F, hm, hk, hb⟩ := C
  obtain ⟨m, e, hl, h⟩ := ha
  rw [e]
  refine pe_weak (pe_call F (hr.mono hjk) hg hm hk hb .nil hx h hdb he hpl) fun σ H Q hq => ?_
  obtain ⟨G, sa, ep, q⟩ := hq
  refine ⟨G, sa, ep, ?_⟩
  cases em : m with
  | no => rw [em] at q; exact q.elim
  | ex c => rw [em] at q; exact q
  | ok ts =>
    rw [em] at q
    intro vs G1 H1 fr1 ra
    rw [List.append_nil]
    refine ⟨by rw [ra.length, hl ts em]; exact hnp, G1, ts, fr1.gh, ra, ?_⟩
    have q' : PostF X.K X.mg E G H (mf ts) Q := q
    cases e2 : mf ts with
    | no => rw [e2] at q'; exact q'.elim
    | ex c =>
      rw [e2] at q'
      exact fun H' s => q' H' (fr1.hh.trans s)
    | ok t =>
      rw [e2] at q'
      intro v G2 H2 fr2 an
      obtain ⟨p, rfl, np, o⟩ := an
      have hp : H p = none := by
        cases z : H p with
        | none => rfl
        | some o => rw [fr1.hh _ _ z] at np; cases np
      exact q' p G2 H2 (fr1.trans fr2) hp o
section
variable {α : Type} {tg iter elt : Expr} {scope : Scope} {own : List (Str × Nat)} {sl : List Nat} {u : D → R α} {put : α → En → En} {wi : R (List D)} {me : α → R D} {cond : α → R Bool} {c : Expr}
def anyE (K : PySem.W.Frag) (mg : Str → Option Value) (f : α → En) (m : α → R D) : TE := fun σ H Q => ∃ a, rdP K mg E0 (f a) (m a) σ H Q
def anyB (K : PySem.W.Frag) (mg : Str → Option Value) (f : α → En) (m : α → R Bool) : TT := fun σ H Q => ∃ a, rdB K mg E0 (f a) (m a) σ H Q
structure LCx (X : Cx) (elt tg iter : Expr) (ifs : List Expr) (scope : Scope) (t : TE) : Prop where
  pe : ∀ pos, PE X (.ListComp elt [⟨tg, iter, ifs, 0⟩] scope pos) t
  ps : ∀ (i : Nat) (y : Str) (py pos spos : Pos), X.N[i]? = some y → X.env.scope.names.lookup y = some .local → swapsWith (.ListComp elt [⟨tg, iter, ifs, 0⟩] scope pos) (some (.Name y py)) spos.line X.env = pure true → PS X (.Assign [.Name y py] (.ListComp elt [⟨tg, iter, ifs, 0⟩] scope pos) spos) (tAsg t (gName i))
theorem LCx.map {X : Cx} {elt tg iter : Expr} {ifs : List Expr} {scope : Scope} {t t' : TE} (h : LCx X elt tg iter ifs scope t) (f : ∀ σ H Q, t' σ H Q → t σ H Q) : LCx X elt tg iter ifs scope t' :=
  ⟨fun pos => pe_weak (h.pe pos) f, fun i y py pos spos h1 h2 h3 => ⟨fun pins s σ H Dn I q => (h.ps i y py pos spos h1 h2 h3).run pins s σ H Dn I (f _ _ _ q)⟩⟩
theorem lcx_of {X : Cx} {elt tg iter : Expr} {ifs : List Expr} {scope : Scope} {own : List (Str × Nat)} {wi : TI} {g : TG} {tt : TT} {te t : TE} (hc : X.calm = true) (hN : X.N.Nodup) (hi : PI X tg iter wi) (ok : BlkOk X.N X.env.scope scope own)
    (hg : ∀ (s : Shared) (H : Hp) (C : Addr) (cl : List (Str × Addr)) (fp : List Addr), PG (X.blk s H scope (compEnvC scope cl C X.env) fp) tg g) (ht : ∀ (s : Shared) (H : Hp) (C : Addr) (cl : List (Str × Addr)) (fp : List Addr), PTs (X.blk s H scope (compEnvC scope cl C X.env) fp) ifs tt)
    (he : ∀ (s : Shared) (H : Hp) (C : Addr) (cl : List (Str × Addr)) (fp : List Addr), PE (X.blk s H scope (compEnvC scope cl C X.env) fp) elt te) (hs : ∀ x, foldedSetIterable iter X.env x = pure x) (hq : ∀ σ H Q, t σ H Q → tLc wi g tt te (own.map (·.2)) σ H Q) : LCx X elt tg iter ifs scope t :=
  ⟨fun pos => pe_weak (pe_lc hc hN hi ok hg ht he hs) hq, fun i y py pos spos h1 h2 h3 => ⟨fun pins s σ H Dn I q => (ps_setLc hc hN h1 h2 h3 hi ok hg ht he hs).run pins s σ H Dn I (hq _ _ _ q)⟩⟩
theorem lcx_lcf (hN : X.N.Nodup) (hi : XI X E ρ tg iter wi) (hg : ∀ (s : Shared) (H : Hp) (C : Addr) (cl : List (Str × Addr)) (fp : List Addr), XG (X.blk s H scope (compEnvC scope cl C X.env) fp) tg sl u put)
    (ht : ∀ (s : Shared) (H : Hp) (C : Addr) (cl : List (Str × Addr)) (fp : List Addr) (x : α), XB (X.blk s H scope (compEnvC scope cl C X.env) fp) E0 (put x (wipeE ρ (own.map (·.2)))) c (cond x))
    (he : ∀ (s : Shared) (H : Hp) (C : Addr) (cl : List (Str × Addr)) (fp : List Addr) (x : α), XP (X.blk s H scope (compEnvC scope cl C X.env) fp) E0 (put x (wipeE ρ (own.map (·.2)))) elt (me x))
    (ok : BlkOk X.N X.env.scope scope own) (hsub : ∀ i ∈ sl, i ∈ own.map (·.2) := by decide) (hc : X.calm = true := by rfl) (hs : ∀ x, foldedSetIterable iter X.env x = pure x := by intro _; rfl) :
    LCx X elt tg iter [c] scope (rdF X.K X.mg E ρ (wi.bind fun its => (filR (fun d => (u d).bind cond) (fun d => (u d).bind me) its).bind fun rs => .ok (.list rs))) := by
  refine lcx_of (own := own) (g := rdG X.K sl u put) hc hN hi ok hg (fun s H C cl fp => pts_one (t := anyB X.K X.mg (fun x => put x (wipeE ρ (own.map (·.2)))) cond) ⟨fun pins s' σ H' Q I ⟨x, q⟩ => (ht s H C cl fp x).run pins s' σ H' Q I q⟩)
    (fun s H C cl fp => (⟨fun pins s' σ H' Q I ⟨x, q⟩ => (he s H C cl fp x).run pins s' σ H' Q I q⟩ : PE _ elt (anyE X.K X.mg (fun x => put x (wipeE ρ (own.map (·.2)))) me))) hs fun σ H Q hq => ?_
  refine lc_read (me := me) (cond := cond) hsub (fun x b σ2 H2 G2 Qb ec s2 ep2 k => ⟨x, G2, s2, ep2, by
    rw [ec]
    intro v G3 H3 fr r
    cases r
    exact k G3 H3 fr⟩) hq _ fun x t σ2 H2 G2 Qe em s2 ep2 k => ⟨x, G2, s2, ep2, by
    rw [em]
    exact fun v G3 H3 fr r => k v G3 H3 fr r⟩
theorem lcx_lc (hN : X.N.Nodup) (hi : XI X E ρ tg iter wi) (hg : ∀ (s : Shared) (H : Hp) (C : Addr) (cl : List (Str × Addr)) (fp : List Addr), XG (X.blk s H scope (compEnvC scope cl C X.env) fp) tg sl u put)
    (he : ∀ (s : Shared) (H : Hp) (C : Addr) (cl : List (Str × Addr)) (fp : List Addr) (x : α), XP (X.blk s H scope (compEnvC scope cl C X.env) fp) E0 (put x (wipeE ρ (own.map (·.2)))) elt (me x))
    (ok : BlkOk X.N X.env.scope scope own) (hsub : ∀ i ∈ sl, i ∈ own.map (·.2) := by decide) (hc : X.calm = true := by rfl) (hs : ∀ x, foldedSetIterable iter X.env x = pure x := by intro _; rfl) :
    LCx X elt tg iter [] scope (rdF X.K X.mg E ρ (wi.bind fun its => (mapR (fun d => (u d).bind me) its).bind fun rs => .ok (.list rs))) := by
  refine lcx_of (own := own) (g := rdG X.K sl u put) hc hN hi ok hg (fun s H C cl fp => pts_nil)
    (fun s H C cl fp => (⟨fun pins s' σ H' Q I ⟨x, q⟩ => (he s H C cl fp x).run pins s' σ H' Q I q⟩ : PE _ elt (anyE X.K X.mg (fun x => put x (wipeE ρ (own.map (·.2)))) me))) hs fun σ H Q hq => ?_
  refine lc_read (me := me) (cond := fun _ => .ok true) hsub (fun x b σ2 H2 G2 Qb ec s2 ep2 k => by
    cases ec
    exact k G2 H2 (Fr.refl s2)) ?_ _ fun x t σ2 H2 G2 Qe em s2 ep2 k => ⟨x, G2, s2, ep2, by
    rw [em]
    exact fun v G3 H3 fr r => k v G3 H3 fr r⟩
  · have e : (fun its => (mapR (fun d => (u d).bind me) its).bind fun rs => R.ok (PyData.list rs)) = fun its => (filR (fun d => (u d).bind fun _ => .ok true) (fun d => (u d).bind me) its).bind fun rs => .ok (PyData.list rs) := funext fun its => by rw [mapR_fil]
    rw [e] at hq
    exact hq
theorem xf_lc {ifs : List Expr} {m : R D} (h : LCx X elt tg iter ifs scope (rdF X.K X.mg E ρ m)) : XF X E ρ (.ListComp elt [⟨tg, iter, ifs, 0⟩] scope pos) m := h.pe pos
end
end
end TL
namespace TL
open PySem PySem.Spec PyProof.Rows L2
section
variable {K : PySem.W.Frag} {own : List Nat} {ρ : En} {ad : Nat → Addr} {σ σ' : L2.St} {G H : Hp}
theorem Er.setO (er : Er K own ρ ad σ G H) {i : Nat} {v : V} {d : D} (hi : i ∉ own) (r : Rep K G v d) : Er K own (setN ρ i (some d)) ad (σ.set i (some v)) G H where
  len := by rw [setN_length, List.length_set]; exact er.len
  gh := er.gh
  fz := fun j t e hj => by
    by_cases hji : j = i
    · subst hji
      have hlt : j < σ.length := by
        have := getN_lt e
        rw [setN_length, er.len] at this
        exact this
      have e2 := getN_setN_same (w := some d) e
      cases e2
      exact ⟨v, by rw [List.getElem?_set_self hlt], r⟩
    · rw [getN_setN_ne hji] at e
      obtain ⟨w, q, r2⟩ := er.fz j t e hj
      exact ⟨w, by rw [List.getElem?_set_ne (Ne.symm hji)]; exact q, r2⟩
  ow := fun j hj => by
    have hji : j ≠ i := fun z => hi (by rw [← z]; exact hj)
    obtain ⟨t, e, q, o⟩ := er.ow j hj
    exact ⟨t, by rw [getN_setN_ne hji]; exact e, by rw [List.getElem?_set_ne (Ne.symm hji)]; exact q, o⟩
  inj := er.inj
theorem Er.dropO (er : Er K own ρ ad σ G H) {i : Nat} {o : Option V} (hi : i ∉ own) : Er K own (setN ρ i none) ad (σ.set i o) G H where
  len := by rw [setN_length, List.length_set]; exact er.len
  gh := er.gh
  fz := fun j t e hj => by
    by_cases hji : j = i
    · subst hji
      have e2 := getN_setN_same (w := none) e
      cases e2
    · rw [getN_setN_ne hji] at e
      obtain ⟨w, q, r2⟩ := er.fz j t e hj
      exact ⟨w, by rw [List.getElem?_set_ne (Ne.symm hji)]; exact q, r2⟩
  ow := fun j hj => by
    have hji : j ≠ i := fun z => hi (by rw [← z]; exact hj)
    obtain ⟨t, e, q, o⟩ := er.ow j hj
    exact ⟨t, by rw [getN_setN_ne hji]; exact e, by rw [List.getElem?_set_ne (Ne.symm hji)]; exact q, o⟩
  inj := er.inj
theorem Er.wipeO (er : Er K own ρ ad σ G H) : ∀ {vs : List Nat}, (∀ i ∈ vs, i ∉ own) → Er K own (wipeE ρ vs) ad (L2.wipe σ vs) G H
  | [], _ => er
  | v :: vs, h => (Er.wipeO er (vs := vs) fun i hi => h i (List.mem_cons_of_mem _ hi)).dropO (h v List.mem_cons_self)
theorem puts_er : ∀ {ps : List (Nat × V × D)} {σ : L2.St} {ρ : En}, (∀ p ∈ ps, Rep K G p.2.1 p.2.2) → (∀ p ∈ ps, p.1 ∉ own) → Er K own ρ ad σ G H → Er K own (putsE ps ρ) ad (putsS ps σ) G H
  | [], _, _, _, _, h => h
  | p :: ps, _, _, hs, ho, h => puts_er (ps := ps) (fun q hq => hs q (List.mem_cons_of_mem _ hq)) (fun q hq => ho q (List.mem_cons_of_mem _ hq)) (h.setO (ho p List.mem_cons_self) (hs p List.mem_cons_self))
theorem puts_get {i : Nat} : ∀ {ps : List (Nat × V × D)} {ρ : En}, (∀ p ∈ ps, p.1 ≠ i) → getN (putsE ps ρ) i = getN ρ i
  | [], _, _ => rfl
  | p :: ps, ρ, h => (puts_get (ps := ps) (ρ := setN ρ p.1 (some p.2.2)) fun q hq => h q (List.mem_cons_of_mem _ hq)).trans (getN_setN_ne (Ne.symm (h p List.mem_cons_self)))
theorem Er.back {ρ' : En} (er : Er K own ρ' ad σ' G H) (hl : ρ.length = σ.length) (hfz : ∀ i t, getN ρ i = some t → i ∉ own → ∃ v, σ[i]? = some (some v) ∧ Rep K G v t) (how : ∀ i ∈ own, getN ρ i = getN ρ' i ∧ σ[i]? = σ'[i]?) : Er K own ρ ad σ G H where
  len := hl
  gh := er.gh
  fz := hfz
  ow := fun i hi => by
    obtain ⟨t, e, q, o⟩ := er.ow i hi
    obtain ⟨h1, h2⟩ := how i hi
    exact ⟨t, h1.trans e, h2.trans q, o⟩
  inj := er.inj
end
section
variable {X : Cx} {own : List Nat} {S : Type} {emb : S → En}
def rdIJ (K : PySem.W.Frag) (own : List Nat) (emb : S → En) (m : S → R (List D × S)) : TI := fun σ H Rr => ∃ s ad G, Er K own (emb s) ad σ G H ∧ ∃ its s', m s = .ok (its, s') ∧
  ∀ J G' H', Er K own (emb s') ad σ G' H' → FrO own ad G H G' H' → its.length ≤ sizeLine → ItOk K J G' its → Rr J H'
abbrev JI (X : Cx) (own : List Nat) (emb : S → En) (tg iter : Expr) (m : S → R (List D × S)) : Prop := PI X tg iter (rdIJ X.K own emb m)
theorem ji_of {tg iter : Expr} {m : S → R (List D)} (h : ∀ s, XI X E0 (hideE own (emb s)) tg iter (m s)) : JI X own emb tg iter (fun s => (m s).bind fun its => .ok (its, s)) := by
  refine ⟨fun pins st σ H Rr I hq => ?_⟩
  obtain ⟨s, ad, G, er, its, s', e, q⟩ := hq
  dsimp only at e
  cases em : m s with
  | no => rw [em] at e; exact nomatch e
  | ex c => rw [em] at e; exact nomatch e
  | ok its0 =>
    rw [em] at e
    cases e
    refine (h s).run pins st σ H Rr I ⟨G, er.gh, er.ep_hide, ?_⟩
    rw [em]
    intro J G' H' fr hz io
    refine q J G' H' (er.after fr.gg fr.gh fr.hh fun i hi => ?_) fr.toO hz io
    obtain ⟨_, _, _, o⟩ := er.ow i hi
    exact fr.nw _ o.1 o.ne
theorem ji_val {tg iter : Expr} {m : S → R (D × S)} (h : JP X own emb iter m) : JI X own emb tg iter (fun s => (m s).bind fun p => (items p.1).bind fun its => .ok (its, p.2)) := by
  refine ⟨fun pins st σ H Rr I hq => ?_⟩
  obtain ⟨s, ad, G, er, its, s', e, q⟩ := hq
  dsimp only at e
  cases em : m s with
  | no => rw [em] at e; exact nomatch e
  | ex c => rw [em] at e; exact nomatch e
  | ok p =>
    obtain ⟨t, s1⟩ := p
    rw [em] at e
    simp only [R.ok_bind] at e
    cases t with
    | list ds =>
      cases e
      refine (pi_list (pe_len h)).run pins st σ H Rr I ⟨s, ad, G, er, .list its, s', em, fun v G' H' er' fr r lo => ?_⟩
      cases r with
      | lst h1 a => exact ⟨_, rfl, ⟨_, same_lst er'.gh h1⟩, q _ G' H' er' fr (by rw [← a.length]; exact lo _ _ rfl (.inl (same_lst er'.gh h1))) (itOk_list (.of h1) a)⟩
    | tuple ds =>
      cases e
      refine (pi_tup (pe_len h)).run pins st σ H Rr I ⟨s, ad, G, er, .tuple its, s', em, fun v G' H' er' fr r lo => ?_⟩
      cases r with
      | tup h1 a => exact ⟨_, rfl, ⟨_, same_seqT er'.gh h1⟩, q _ G' H' er' fr (by rw [← a.length]; exact lo _ _ rfl (.inr (same_seqT er'.gh h1))) (itOk_tup h1.t a)⟩
    | none | bool _ | int _ | str _ | dict _ => exact nomatch e
theorem ji_range1 {tg a : Expr} {p pos : Pos} {mk : CJ S} (hm : X.mg "range" = none) (ha : JAk X own emb [a] mk) (hg : Gl X "range" := by rfl) (hs : starEach [a] X.env = [(false, eval a X.env)] := by rfl) :
    JI X own emb tg (.Call (.Name "range" p) [a] [] pos) (fun s => mk (List D × S) s fun ts s' => (pyRange ts).bind fun its => .ok (its, s')) := by
  obtain ⟨m, e, hl, h⟩ := ha
  rw [show (fun s => mk (List D × S) s fun ts s' => (pyRange ts).bind fun its => R.ok (its, s')) = fun s => (m s).bind fun p => (pyRange p.1).bind fun its => .ok (its, p.2) from funext fun s => e _ _ _]
  refine ⟨fun pins st σ H Rr I hq => (pi_range1 hg hm h hs).run pins st σ H Rr I ?_⟩
  obtain ⟨s, ad, G, er, its, s', e2, q⟩ := hq
  dsimp only at e2
  cases em : m s with
  | no => rw [em] at e2; exact nomatch e2
  | ex c => rw [em] at e2; exact nomatch e2
  | ok p =>
    have hl1 := hl s p em
    refine ⟨s, ad, G, er, p.1, p.2, em, fun vs G1 H1 er1 fr ra => ?_⟩
    simp only [em, R.ok_bind] at e2
    obtain ⟨ts, s1⟩ := p
    match ts, hl1 with
    | [.int j], _ =>
      obtain ⟨v, rfl, r1⟩ := repAll1 ra
      cases r1
      simp only [pyRange] at e2
      by_cases hc : -(2 ^ 62) ≤ j ∧ j ≤ 16777216
      · simp only [if_pos hc, R.ok_bind] at e2
        cases e2
        exact ⟨j, rfl, hc.1, by omega, q _ G1 H1 er1 fr (by rw [upto_length, sizeLine_eq]; omega) itOk_range⟩
      · simp only [if_neg hc] at e2
        exact nomatch e2
    | [.none], _ | [.bool _], _ | [.str _], _ | [.list _], _ | [.tuple _], _ | [.dict _], _ => exact nomatch e2
def rdJF (K : PySem.W.Frag) (own : List Nat) (emb : S → En) (m : S → R (D × S)) : TE := fun σ H Q => ∃ s ad G, Er K own (emb s) ad σ G H ∧ ∃ t s', m s = .ok (t, s') ∧
  ∀ p G' H', Er K own (emb s') ad σ G' H' → FrO own ad G H G' H' → H p = none → OwnAt K G' H' p t → Q (.ref p) H'
abbrev JF (X : Cx) (own : List Nat) (emb : S → En) (e : Expr) (m : S → R (D × S)) : Prop := PE X e (rdJF X.K own emb m)
theorem Er.freezeO {K : PySem.W.Frag} {ρ : En} {ad : Nat → Addr} {σ : L2.St} {G H G1 H1 : Hp} (er : Er K own ρ ad σ G1 H1) (fr : FrO own ad G H G1 H1) {p : Addr} {t : D} (np : H p = none) (hno : ∀ i ∈ own, p ≠ ad i) (o : OwnAt K G1 H1 p t) :
    ∃ G2, Er K own ρ ad σ G2 H1 ∧ FrO own ad G H G2 H1 ∧ Rep K G2 (.ref p) t := by
  obtain ⟨u, eu, _⟩ := o.some_of
  have gn := o.1
  refine ⟨upd G1 p u, er.after (same_new gn) (fun b x e => ?_) (Same.refl _) (fun i hi => ?_), ⟨fr.gg.trans (same_new gn), fr.hh, fun b h1 h2 => ?_⟩, o.rep (same_new gn) (by rw [upd_same, eu])⟩
  · by_cases hb : b = p
    · subst hb
      rw [upd_same] at e
      rw [eu, e]
    · rw [upd_ne hb] at e
      exact er.gh _ _ e
  · rw [upd_ne (Ne.symm (hno i hi))]
    exact er.g_none hi
  · have : b ≠ p := fun z => h2 (by rw [z]; exact np)
    rw [upd_ne this]
    exact fr.nw b h1 h2
theorem Er.new_ne {K : PySem.W.Frag} {ρ : En} {ad : Nat → Addr} {σ : L2.St} {G H : Hp} (er : Er K own ρ ad σ G H) {p : Addr} (np : H p = none) : ∀ i ∈ own, p ≠ ad i := fun i hi z => by
  obtain ⟨_, _, _, o⟩ := er.ow i hi
  exact o.ne (by rw [← z]; exact np)
theorem jp_of_jf {a : Expr} {m : S → R (D × S)} (h : JF X own emb a m) : JP X own emb a m := pe_weak h fun σ H Q hq => by
  obtain ⟨s, ad, G, er, t, s', e, q⟩ := hq
  refine ⟨s, ad, G, er, t, s', e, fun p G' H' er' fr np o => ?_⟩
  obtain ⟨G2, er2, fr2, r2⟩ := er'.freezeO fr np (er.new_ne np) o
  exact q _ G2 H' er2 fr2 r2
theorem jf_lst {es : List Expr} {mk : CJ S} {pos : Pos} (h : JAk X own emb es mk) (hl : es.length ≤ 1000 := by decide) : JF X own emb (.List es pos) (fun s => mk (D × S) s fun ts s' => .ok (.list ts, s')) := by
  obtain ⟨m, e, hl', h⟩ := h
  rw [show (fun s => mk (D × S) s fun ts s' => R.ok (PyData.list ts, s')) = fun s => (m s).bind fun p => .ok (PyData.list p.1, p.2) from funext fun s => e _ _ _]
  refine pe_weak (pe_lst h) fun σ H Q hq => ?_
  obtain ⟨s, ad, G, er, u, s2, e2, q2⟩ := hq
  refine ⟨s, ad, G, er, ?_⟩
  cases em : m s with
  | no => simp only [em] at e2; exact nomatch e2
  | ex c => simp only [em] at e2; exact nomatch e2
  | ok p =>
    simp only [em, R.ok_bind] at e2
    cases e2
    refine ⟨p.1, p.2, rfl, fun vs G1 H1 er1 fr1 r1 => ⟨?_, fun a np => ?_⟩⟩
    · rw [r1.length, hl' s p em, sizeLine_eq]
      omega
    · have fr2 := Fr.newU (o := .lst vs) er1.gh np
      have er2 := er1.after fr2.gg fr2.gh fr2.hh fun i hi => er1.g_none hi
      have hp : H a = none := by
        cases z : H a with
        | none => rfl
        | some o =>
          rw [fr1.hh _ _ z (er1.new_ne np)] at np
          cases np
      exact q2 a G1 _ er2 (fr1.trans fr2.toO er2) hp (own_new er1.gh np r1)
def mapJ (f : D → S → R (D × S)) : List D → S → R (List D × S)
  | [], s => .ok ([], s)
  | d :: ds, s => (f d s).bind fun p => (mapJ f ds p.2).bind fun q => .ok (p.1 :: q.1, q.2)
def filJ (p : D → S → R (Bool × S)) (f : D → S → R (D × S)) : List D → S → R (List D × S)
  | [], s => .ok ([], s)
  | d :: ds, s => (p d s).bind fun b => if b.1 = true then (f d b.2).bind fun q => (filJ p f ds q.2).bind fun r => .ok (q.1 :: r.1, r.2) else filJ p f ds b.2
theorem filJ_cons {p : D → S → R (Bool × S)} {f : D → S → R (D × S)} {d : D} {ds ts : List D} {s s' : S} (h : filJ p f (d :: ds) s = .ok (ts, s')) :
    ∃ b s1, p d s = .ok (b, s1) ∧ (b = false → filJ p f ds s1 = .ok (ts, s')) ∧ (b = true → ∃ t s2 ts', f d s1 = .ok (t, s2) ∧ filJ p f ds s2 = .ok (ts', s') ∧ ts = t :: ts') := by
  unfold filJ at h
  cases e1 : p d s with
  | no => rw [e1] at h; exact nomatch h
  | ex c => rw [e1] at h; exact nomatch h
  | ok b =>
    obtain ⟨b, s1⟩ := b
    rw [e1] at h
    refine ⟨b, s1, rfl, fun hb => ?_, fun hb => ?_⟩
    · subst hb
      simpa using h
    · subst hb
      simp only [R.ok_bind, if_pos] at h
      cases e2 : f d s1 with
      | no => rw [e2] at h; exact nomatch h
      | ex c => rw [e2] at h; exact nomatch h
      | ok t =>
        obtain ⟨t, s2⟩ := t
        rw [e2] at h
        simp only [R.ok_bind] at h
        cases e3 : filJ p f ds s2 with
        | no => rw [e3] at h; exact nomatch h
        | ex c => rw [e3] at h; exact nomatch h
        | ok r =>
          obtain ⟨ts', s3⟩ := r
          rw [e3] at h
          cases h
          exact ⟨t, s2, ts', rfl, e3, rfl⟩
theorem mapJ_fil {α : Type} {u : D → R α} {me : α → S → R (D × S)} : ∀ (ds : List D) (s : S), mapJ (fun d s => (u d).bind fun a => me a s) ds s = filJ (fun d s => (u d).bind fun _ => .ok (true, s)) (fun d s => (u d).bind fun a => me a s) ds s
  | [], _ => rfl
  | d :: ds, s => by
    unfold mapJ filJ
    cases e : u d with
    | no => rfl
    | ex c => rfl
    | ok a =>
      simp only [R.ok_bind, if_pos]
      congr 1
      funext p
      rw [mapJ_fil ds]
theorem lcj_read {K : PySem.W.Frag} {α : Type} {wi : S → R (List D × S)} {sl vs : List Nat} {u : D → R α} {put : α → En → En} {cond : α → S → R (Bool × S)} {me : α → S → R (D × S)} {tt : TT} {te : TE} {σ : L2.St} {H : Hp} {Q : VK} (hsub : ∀ i ∈ sl, i ∈ vs) (hdis : ∀ i ∈ vs, i ∉ own)
    (hfix : ∀ s s' i, i ∉ own → getN (emb s) i = getN (emb s') i) (hlen : ∀ s s', (emb s).length = (emb s').length)
    (ht : ∀ (a : α) (b : Bool) (s s' : S) ad (σ2 : L2.St) (H2 G2 : Hp) (Qb : Bool → Hp → Prop), cond a s = .ok (b, s') → Er K own (put a (wipeE (emb s) vs)) ad σ2 G2 H2 → (∀ G3 H3, Er K own (put a (wipeE (emb s') vs)) ad σ2 G3 H3 → FrO own ad G2 H2 G3 H3 → Qb b H3) → tt σ2 H2 Qb)
    (hte : ∀ (a : α) (t : D) (s s' : S) ad (σ2 : L2.St) (H2 G2 : Hp) (Qe : VK), me a s = .ok (t, s') → Er K own (put a (wipeE (emb s) vs)) ad σ2 G2 H2 → (∀ v G3 H3, Er K own (put a (wipeE (emb s') vs)) ad σ2 G3 H3 → FrO own ad G2 H2 G3 H3 → Rep K G3 v t → Qe v H3) → te σ2 H2 Qe)
    (h : rdJF K own emb (fun s => (wi s).bind fun p => (filJ (fun d s => (u d).bind fun a => cond a s) (fun d s => (u d).bind fun a => me a s) p.1 p.2).bind fun r => .ok (.list r.1, r.2)) σ H Q) :
    tLc (rdIJ K own emb wi) (rdG K sl u put) tt te vs σ H Q := by
  obtain ⟨s, ad, G, er, t0, sf', e0, q⟩ := h
  refine ⟨s, ad, G, er, ?_⟩
  dsimp only at e0
  cases ew : wi s with
  | no => rw [ew] at e0; exact nomatch e0
  | ex c => rw [ew] at e0; exact nomatch e0
  | ok pw =>
    obtain ⟨its, s0⟩ := pw
    rw [ew] at e0
    simp only [R.ok_bind] at e0
    cases eF : filJ (fun d s => (u d).bind fun a => cond a s) (fun d s => (u d).bind fun a => me a s) its s0 with
    | no => rw [eF] at e0; exact nomatch e0
    | ex c => rw [eF] at e0; exact nomatch e0
    | ok pr =>
      obtain ⟨rs, sf'⟩ := pr
      rw [eF] at e0
      cases e0
      refine ⟨its, s0, rfl, fun J G1 H1 er1 fr1 hz io D0 nD => ?_⟩
      -- behind i turns
      refine ⟨fun i m H2 => m = its.length - i ∧ i ≤ its.length ∧ ∃ s2 G2 acc ds rr, Er K own (emb s2) ad σ G2 H2 ∧ FrO own ad G1 H1 G2 H2 ∧ H2 D0 = some (.lst acc) ∧ G2 D0 = none ∧ RepAll K G2 acc ds ∧
          filJ (fun d s => (u d).bind fun a => cond a s) (fun d s => (u d).bind fun a => me a s) (its.drop i) s2 = .ok (rr, sf') ∧ rs = ds ++ rr ∧ acc.length ≤ i, ⟨its.length, by simp, Nat.zero_le _, s0, G1, [], [], rs, ?_⟩, ?_⟩
      · have fr2 := Fr.newU (o := .lst []) er1.gh nD
        refine ⟨er1.after fr2.gg fr2.gh fr2.hh fun i hi => er1.g_none hi, fr2.toO, upd_same, er1.gh.free nD, .nil, eF, rfl, Nat.le_refl _⟩
      · rintro i m H2 ⟨rfl, hi, s2, G2, acc, ds, rr, er2, fr2, at2, un2, rp2, ef2, al2, few2⟩
        have neD : ∀ j ∈ own, D0 ≠ ad j := fun j hj z => by
          obtain ⟨t, _, _, o⟩ := er1.ow j hj
          exact o.ne (by rw [← z]; exact nD)
        by_cases hlt : i < its.length
        · right
          have hget := List.getElem?_eq_getElem hlt
          have hdrop : its.drop i = its[i] :: its.drop (i + 1) := List.drop_eq_getElem_cons hlt
          refine ⟨io.go i H2 hlt (fr2.gg.trans er2.gh), fun H' => ∃ s2 G2 acc ds rr, Er K own (emb s2) ad σ G2 H' ∧ FrO own ad G1 H1 G2 H' ∧ H' D0 = some (.lst acc) ∧ G2 D0 = none ∧ RepAll K G2 acc ds ∧
            filJ (fun d s => (u d).bind fun a => cond a s) (fun d s => (u d).bind fun a => me a s) (its.drop (i + 1)) s2 = .ok (rr, sf') ∧ rs = ds ++ rr ∧ acc.length ≤ i + 1, fun H' hN => ⟨its.length - (i + 1), by omega, rfl, hlt, hN⟩, fun x H' hy => ?_⟩
          obtain ⟨G3, fr3, r3⟩ := io.yld i x G2 H2 H' its[i] hget fr2.gg er2.gh hy
          have er3 : Er K own (emb s2) ad σ G3 H' := er2.after fr3.gg fr3.gh fr3.hh fun j hj => fr3.nw _ (er2.g_none hj) (by
            obtain ⟨_, _, _, o⟩ := er2.ow j hj
            exact o.ne)
          rw [hdrop] at ef2
          obtain ⟨b, s3, eb, hb0, hb1⟩ := filJ_cons ef2
          cases eu : u its[i] with
          | no => rw [eu] at eb; exact nomatch eb
          | ex c => rw [eu] at eb; exact nomatch eb
          | ok a =>
            simp only [eu, R.ok_bind] at eb hb1
            have erw : Er K own (wipeE (emb s2) vs) ad (L2.wipe σ vs) G3 H' := er3.wipeO hdis
            refine ⟨G3, its[i], a, er3.gh, r3, eu, fun ps hp => ?_⟩
            have ho : Only sl (L2.wipe σ vs) (putsS ps (L2.wipe σ vs)) := puts_only hp.sub only_refl
            have erA : Er K own (put a (wipeE (emb s2) vs)) ad (putsS ps (L2.wipe σ vs)) G3 H' := by
              rw [hp.eq]
              exact puts_er hp.rep (fun p hq => hdis _ (hsub _ (hp.sub p hq))) erw
            have hput : ∀ ρ i, i ∉ sl → getN (put a ρ) i = getN ρ i := fun ρ i hi => by
              rw [hp.eq]
              exact puts_get fun p hq z => hi (by rw [← z]; exact hp.sub p hq)
            generalize putsS ps (L2.wipe σ vs) = σ2 at ho erA ⊢
            have key : ∀ (l : List Nat) (j : Nat), j ∉ l → (L2.wipe σ l)[j]? = σ[j]? := by
              intro l
              induction l with
              | nil => intro j _; rfl
              | cons v l ih =>
                intro j hj
                show ((L2.wipe σ l).set v none)[j]? = _
                rw [List.getElem?_set_ne (fun z : v = j => hj (by rw [z]; exact List.mem_cons_self))]
                exact ih j fun hm => hj (List.mem_cons_of_mem _ hm)
            have onlyV : Only vs σ σ2 := ⟨by rw [ho.1, wipe_length], fun j hj => by rw [ho.2 j fun hm => hj (hsub j hm), key vs j hj]⟩
            have hw : L2.wipe σ2 vs = L2.wipe σ vs := wipe_only onlyV
            -- out of the block again
            have out : ∀ (s' : S) (G4 H4 : Hp), Same G3 G4 → Er K own (put a (wipeE (emb s') vs)) ad σ2 G4 H4 → Er K own (emb s') ad σ G4 H4 := fun s' G4 H4 sg er4 => by
              have kw : ∀ (l : List Nat) (j : Nat), j ∉ l → getN (wipeE (emb s') l) j = getN (emb s') j := by
                intro l
                induction l with
                | nil => intro j _; rfl
                | cons v l ih =>
                  intro j hj
                  show getN (setN (wipeE (emb s') l) v none) j = _
                  rw [getN_setN_ne (fun z : j = v => hj (by rw [z]; exact List.mem_cons_self))]
                  exact ih j fun hm => hj (List.mem_cons_of_mem _ hm)
              refine er4.back ((hlen s' s2).trans er3.len) (fun j t e hj => ?_) fun j hj => ⟨?_, ?_⟩
              · rw [hfix s' s2 j hj] at e
                obtain ⟨v, e1, r1⟩ := er3.fz j t e hj
                exact ⟨v, e1, r1.mono sg⟩
              · have nv : j ∉ vs := fun hm => hdis j hm hj
                rw [hput _ j fun hm => nv (hsub j hm), kw vs j nv]
              · have nv : j ∉ vs := fun hm => hdis j hm hj
                exact (onlyV.2 j nv).symm
            have frA : FrO own ad G1 H1 G3 H' := fr2.trans fr3.toO er3
            have at3 : H' D0 = some (.lst acc) := fr3.hh _ _ at2
            have un3 : G3 D0 = none := fr3.nw _ un2 (by rw [at2]; exact fun z => nomatch z)
            refine ⟨hw, ht a b s2 s3 ad σ2 H' G3 _ eb erA fun G4 H4 er4 fr4 => ?_⟩
            have at4 : H4 D0 = some (.lst acc) := fr4.hh _ _ at3 neD
            have un4 : G4 D0 = none := fr4.nw _ un3 (by rw [at3]; exact fun z => nomatch z)
            have er4' := out s3 G4 H4 fr4.gg er4
            cases b with
            | false =>
              rw [if_neg Bool.false_ne_true]
              exact ⟨s3, G4, acc, ds, rr, er4', frA.trans fr4 er4', at4, un4, (rp2.mono fr3.gg).mono fr4.gg, hb0 rfl, al2, Nat.le_succ_of_le few2⟩
            | true =>
              rw [if_pos rfl]
              obtain ⟨t, s4, ts', ef, er', rfl⟩ := hb1 rfl
              refine hte a t s3 s4 ad σ2 H4 G4 _ ef er4 fun v G5 H5 er5 fr5 r5 => ?_
              have at5 : H5 D0 = some (.lst acc) := fr5.hh _ _ at4 neD
              have un5 : G5 D0 = none := fr5.nw _ un4 (by rw [at4]; exact fun z => nomatch z)
              have er5' := out s4 G5 H5 (fr4.gg.trans fr5.gg) er5
              have fr5' : FrO own ad G1 H1 G5 H5 := (frA.trans fr4 er4').trans fr5 er5'
              refine ⟨acc, at5, by omega, s4, G5, acc ++ [v], ds ++ [t], ts', ?_, ⟨fr5'.gg, fun b o e hne => ?_, fr5'.nw⟩, upd_same, un5, (((rp2.mono fr3.gg).mono fr4.gg).mono fr5.gg).append (.cons r5 .nil), er', by rw [al2, List.append_assoc]; rfl, by
                rw [List.length_append]
                simp only [List.length_cons, List.length_nil]
                omega⟩
              · refine ⟨er5'.len, fun b o e => ?_, er5'.fz, fun j hj => ?_, er5'.inj⟩
                · rw [upd_ne (ne_of_none e un5)]
                  exact er5'.gh _ _ e
                · obtain ⟨t, e, q, o⟩ := er5'.ow j hj
                  exact ⟨t, e, q, o.keep (Same.refl _) o.1 (upd_ne (Ne.symm (neD j hj)))⟩
              · rw [upd_ne (ne_of_none e nD)]
                exact fr5'.hh b o e hne
        · left
          have e : i = its.length := by omega
          subst e
          rw [List.drop_length] at ef2
          cases ef2
          rw [List.append_nil] at al2
          subst al2
          refine ⟨io.stop H2 (fr2.gg.trans er2.gh), ?_⟩
          have own2 : OwnAt K G2 H2 D0 (.list rs) := ⟨un2, .inl ⟨acc, rs, rfl, at2, rp2⟩⟩
          have hD : H D0 = none := by
            cases z : H D0 with
            | none => rfl
            | some o =>
              rw [fr1.hh _ _ z (er1.new_ne nD)] at nD
              cases nD
          exact q D0 G2 H2 er2 (fr1.trans fr2 er2) hD own2
end
end TL
namespace TL
open PySem PySem.Spec PyProof.Rows L2
structure EmbOk {S : Type} (own : List Nat) (emb : S → En) : Prop where
  fix : ∀ s s' i, i ∉ own → getN (emb s) i = getN (emb s') i
  len : ∀ s s', (emb s).length = (emb s').length
structure SlotOf {S : Type} (emb : S → En) (i : Nat) (get : S → D) (put : S → D → S) : Prop where
  g : ∀ s, getN (emb s) i = some (get s)
  p : ∀ s d, emb (put s d) = setN (emb s) i (some d)
def lstD : D → R Unit
  | .list _ => .ok ()
  | _ => .no
def popD : D → R (D × D)
  | .list ts => match ts[ts.length - 1]? with
    | some t => .ok (t, .list ts.dropLast)
    | none => .no
  | _ => .no
def popAtD : D → D → R (D × D)
  | .list ts, .int i => if -(2 ^ 63) ≤ i ∧ i < 2 ^ 63 then (match seqIndex? i ts.length with
      | some k => (match ts[k]? with
        | some t => .ok (t, .list (ts.eraseIdx k))
        | none => .no)
      | none => .no) else .no
  | _, _ => .no
def appD : D → D → R D
  | .list ts, t => if ts.length < sizeLine then .ok (.list (ts ++ [t])) else .no
  | _, _ => .no
section
variable {K : PySem.W.Frag} {own : List Nat} {ρ : En} {ad : Nat → Addr} {σ : L2.St} {G H : Hp}
theorem Er.write (er : Er K own ρ ad σ G H) {i : Nat} (hi : i ∈ own) {o : HO} {t : D} (hn : OwnAt K G (upd H (ad i) o) (ad i) t) : Er K own (setN ρ i (some t)) ad σ G (upd H (ad i) o) ∧ FrO own ad G H G (upd H (ad i) o) := by
  have gn := er.g_none hi
  refine ⟨⟨setN_length.trans er.len, fun b x e => ?_, fun j u e hj => ?_, fun j hj => ?_, er.inj⟩, Same.refl _, fun b x e hne => ?_, fun _ h _ => h⟩
  · rw [upd_ne (ne_of_none e gn)]
    exact er.gh _ _ e
  · have hji : j ≠ i := fun z => hj (by rw [z]; exact hi)
    rw [getN_setN_ne hji] at e
    exact er.fz j u e hj
  · by_cases hji : j = i
    · subst hji
      obtain ⟨u, e, q, _⟩ := er.ow j hj
      refine ⟨t, ?_, q, hn⟩
      have key : ∀ (l : En) (k : Nat), k < l.length → getN (setN l k (some t)) k = some t := by
        intro l
        induction l with
        | nil => intro k hk; exact absurd hk (Nat.not_lt_zero _)
        | cons x l ih =>
          intro k hk
          cases k with
          | zero => rfl
          | succ k => exact ih k (Nat.lt_of_succ_lt_succ hk)
      exact key ρ j (getN_lt e)
    · obtain ⟨u, e, q, o2⟩ := er.ow j hj
      refine ⟨u, by rw [getN_setN_ne hji]; exact e, q, o2.keep (Same.refl _) o2.1 (upd_ne fun z => hji (er.inj j hj i hi z))⟩
  · rw [upd_ne (hne i hi)]
    exact e
theorem Er.ownL (er : Er K own ρ ad σ G H) {i : Nat} (hi : i ∈ own) {ts : List D} (e : getN ρ i = some (.list ts)) : ∃ xs, σ[i]? = some (some (.ref (ad i))) ∧ H (ad i) = some (.lst xs) ∧ RepAll K G xs ts := by
  obtain ⟨t, e', q, _, ⟨xs, ts', rfl, eh, r⟩ | ⟨_, _, rfl, _⟩ | ⟨_, _, rfl, _⟩⟩ := er.ow i hi
  · rw [e] at e'
    cases e'
    exact ⟨xs, q, eh, r⟩
  · rw [e] at e'
    cases e'
  · rw [e] at e'
    cases e'
end
theorem RepAll.eraseIdx {K : PySem.W.Frag} {G : Hp} : ∀ {vs : List V} {ds : List D} (k : Nat), RepAll K G vs ds → RepAll K G (vs.eraseIdx k) (ds.eraseIdx k)
  | _, _, _, .nil => .nil
  | _, _, 0, .cons _ t => t
  | _, _, k + 1, .cons r t => .cons r (RepAll.eraseIdx k t)
theorem own_at {K : PySem.W.Frag} {G H : Hp} {a : Addr} {xs : List V} {ts : List D} (g : G a = none) (r : RepAll K G xs ts) : OwnAt K G (upd H a (.lst xs)) a (.list ts) := ⟨g, .inl ⟨xs, ts, rfl, upd_same, r⟩⟩
section
variable {X : Cx} {own : List Nat} {S : Type} {emb : S → En} {i : Nat} {get : S → D} {put : S → D → S} {x : Str} {p apos pos : Pos} {a : Expr}
theorem jp_popAt (i : Nat) {ma : S → R (D × S)} (so : SlotOf emb i get put) (ha : JP X own emb a ma) (hi : i ∈ own := by decide) (hN : X.N[i]? = some x := by rfl) (hv : Vis X.env.scope x := by first | exact Or.inl rfl | exact Or.inr (Or.inl rfl) | exact Or.inr (Or.inr rfl)) (hd : (x == ("__debug__" : Str)) = false := by decide)
    (hcd : (x == ("__classdict__" : Str)) = false := by decide) (hbase : attributeBase (.Name x p) "pop" X.env (eval (.Name x p) X.env) = eval (.Name x p) X.env := by rfl)
    (hfew : ((backTo pos (starEach [a] X.env)).all (fun x => !x.1) && (backToKw pos (keywordEach [] X.env)).all (fun x => x.1.isSome) && decide ([a].length + ([] : List Keyword).length + (if ([] : List Keyword).isEmpty then 0 else 1) < 30)) = true := by rfl)
    (hline : (apos.endLine == pos.line) = true := by rfl) (hs : starEach [a] X.env = (false, eval a X.env) :: starEach [] X.env := by rfl) (hplain : (backTo pos (starEach [] X.env)).any (·.1) = false := by rfl) :
    JP X own emb (.Call (.Attribute (.Name x p) "pop" apos) [a] [] pos) (fun s => (lstD (get s)).bind fun _ => (ma s).bind fun r => (popAtD (get r.2) r.1).bind fun q => .ok (q.1, put r.2 q.2)) :=
  pe_weak (pe_bm PySem.F.plainAttrs_list PySem.F.slot_list_pop PySem.F.type_list_pop mt_popAt (pe_var hN hv hd hcd) (pa_cons ha pa_nil hs) hbase hfew hline hs hplain) fun σ H Q h => by
    obtain ⟨s, ad, G, er, q⟩ := h
    obtain ⟨t0, e0, es0, o0⟩ := er.ow i hi
    have ei0 := so.g s
    rw [e0] at ei0
    cases ei0
    have ty : tyV X.K "list" (.ref (ad i)) H := by
      obtain ⟨t, s', e, _⟩ := q
      dsimp only at e
      obtain ⟨_, ⟨xs, ts, eg, eh, _⟩ | ⟨_, _, eg, eh, _⟩ | ⟨_, _, eg, eh, _⟩⟩ := o0
      · exact .inl ⟨rfl, _, SqL.of eh⟩
      · rw [eg] at e
        exact nomatch e
      · rw [eg] at e
        exact nomatch e
    have q : PostJ Rep X.K own emb ad σ G H ((ma s).bind fun r => (popAtD (get r.2) r.1).bind fun q => .ok (q.1, put r.2 q.2)) Q := by
      obtain ⟨t, s', e, q⟩ := q
      dsimp only at e
      cases eg : get s with
      | list ts =>
        rw [eg] at e
        exact ⟨t, s', e, q⟩
      | none | bool _ | int _ | str _ | tuple _ | dict _ => rw [eg] at e; exact nomatch e
    refine ⟨_, es0, ty, s, ad, G, er, (PostJ.bind (Rp := Rep) q).mono fun w H1 ⟨G1, t1, s1, er1, r1, fr1, t, s', e, q1⟩ => ?_⟩
    cases eg : get s1 with
    | list ts =>
      have ei := so.g s1
      rw [eg] at ei
      simp only [eg] at e
      obtain ⟨xs, es, eh, r⟩ := er1.ownL hi ei
      cases r1 with
      | int j =>
        simp only [popAtD] at e
        split at e
        · rename_i hj
          cases ek : seqIndex? j ts.length with
          | none => simp only [ek] at e; exact nomatch e
          | some k =>
            simp only [ek] at e
            cases el : ts[k]? with
            | none => simp only [el] at e; exact nomatch e
            | some u =>
              simp only [el] at e
              cases e
              obtain ⟨v, ev, rv⟩ := r.get el
              have on := own_at (H := H1) (er1.g_none hi) (r.eraseIdx k)
              obtain ⟨er2, fr2⟩ := er1.write hi on
              exact ⟨_, xs, j, k, v, rfl, rfl, eh, hj.1, hj.2, by rw [r.length]; exact ek, ev, q1 v G1 _ (by rw [so.p]; exact er2) fr2 rv⟩
        · exact nomatch e
      | _ => exact nomatch e
    | none | bool _ | int _ | str _ | tuple _ | dict _ => simp only [eg, popAtD] at e; exact nomatch e
theorem jp_box {es : List Expr} {k j np : Nat} {fr : Md} {mk : CJ S} {mf : D → List D → R (D × D)} {f : Str} {pf : Pos} (i : Nat) (so : SlotOf emb i get put) (C : CalOk X.prog X.w X.K X.mg X.base j f (spB X.K np fr mf)) (hr : Room k X.A) (hjk : j ≤ k) (hx : Passes (L2N.CX X.prog X.w) X E0)
    (ha : JAk X own emb es mk) (hi : i ∈ own := by decide) (hnp : es.length + 1 = np := by rfl) (hN : X.N[i]? = some x := by rfl) (hv : Vis X.env.scope x := by first | exact Or.inl rfl | exact Or.inr (Or.inl rfl) | exact Or.inr (Or.inr rfl)) (hg : Gl X f := by rfl) (hd : (x == ("__debug__" : Str)) = false := by decide) (hcd : (x == ("__classdict__" : Str)) = false := by decide)
    (hdb : (f == ("__debug__" : Str)) = false := by decide) (he : starEach (Expr.Name x p :: es) X.env = (false, eval (.Name x p) X.env) :: starEach es X.env := by rfl) (hpl : (backTo pos (starEach es X.env)).any (·.1) = false := by rfl) :
    JP X own emb (.Call (.Name f pf) (.Name x p :: es) [] pos) (fun s => mk (D × S) s fun ts s' => (mf (get s') ts).bind fun q => .ok (q.1, put s' q.2)) := by
  obtain ⟨fa, fd, ps, F, hm, hk, hb⟩ := C
  obtain ⟨m, e, hl, h⟩ := ha
  rw [show (fun s => mk (D × S) s fun ts s' => (mf (get s') ts).bind fun q => R.ok (q.1, put s' q.2)) = fun s => (m s).bind fun r => (mf (get r.2) r.1).bind fun q => .ok (q.1, put r.2 q.2) from funext fun s => e _ _ _]
  refine pe_weak (pe_call F (hr.mono hjk) hg hm hk hb .nil hx (pa_cons (pe_var hN hv hd hcd) h he) hdb he hpl) fun σ H Q hq => ?_
  obtain ⟨s, ad, G, er, q⟩ := hq
  obtain ⟨t0, e0, es0, o0⟩ := er.ow i hi
  refine ⟨_, es0, s, ad, G, er, ?_⟩
  obtain ⟨u, sf, e2, q⟩ := q
  dsimp only at e2
  cases em : m s with
  | no => rw [em] at e2; exact nomatch e2
  | ex c => rw [em] at e2; exact nomatch e2
  | ok r =>
    obtain ⟨ts, s1⟩ := r
    rw [em] at e2
    simp only [R.ok_bind] at e2
    refine ⟨ts, s1, rfl, fun vs G1 H1 er1 fr1 ra => ?_⟩
    cases ef : mf (get s1) ts with
    | no => rw [ef] at e2; exact nomatch e2
    | ex c => rw [ef] at e2; exact nomatch e2
    | ok r =>
      obtain ⟨t, b'⟩ := r
      rw [ef] at e2
      cases e2
      obtain ⟨t1, e1, es1, o1⟩ := er1.ow i hi
      rw [so.g] at e1
      cases e1
      rw [List.append_nil]
      refine ⟨by rw [List.length_cons, ra.length, hl s _ em]; exact hnp, G1, ad i, vs, get s1, ts, rfl, er1.gh, o1, ra, t, b', ef, fun v G2 H2 gg gh hh nw ob an => ?_⟩
      have fin : ∀ G3, Same G2 G3 → Same G3 H2 → (∀ c, G1 c = none → H1 c ≠ none → G3 c = none) → Rep X.K G3 v t → Q v H2 := fun G3 g23 g3h nw3 r3 => by
        have no3 : ∀ j ∈ own, G3 (ad j) = none := fun j hj => nw3 _ (er1.g_none hj) (by
          obtain ⟨_, _, _, o⟩ := er1.ow j hj
          exact o.ne)
        have erF : Er X.K own (emb (put s1 b')) ad σ G3 H2 := by
          rw [so.p]
          refine ⟨setN_length.trans er1.len, g3h, fun j w ej hj => ?_, fun j hj => ?_, er1.inj⟩
          · have hji : j ≠ i := fun z => hj (by rw [z]; exact hi)
            rw [getN_setN_ne hji] at ej
            obtain ⟨v', q', r'⟩ := er1.fz j w ej hj
            exact ⟨v', q', (r'.mono gg).mono g23⟩
          · by_cases hji : j = i
            · subst hji
              refine ⟨b', ?_, es1, ob.keep g23 (no3 j hj) rfl⟩
              have := so.g (put s1 b')
              rw [so.p] at this
              have key : ∀ (l : En) (k : Nat) (w : D), k < l.length → getN (setN l k (some w)) k = some w := by
                intro l
                induction l with
                | nil => intro k w hk; exact absurd hk (Nat.not_lt_zero _)
                | cons x l ih =>
                  intro k w hk
                  cases k with
                  | zero => rfl
                  | succ k => exact ih k w (Nat.lt_of_succ_lt_succ hk)
              exact key _ _ _ (getN_lt (so.g s1))
            · obtain ⟨w, ej, qj, oj⟩ := er1.ow j hj
              refine ⟨w, by rw [getN_setN_ne hji]; exact ej, qj, oj.keep (gg.trans g23) (no3 j hj) ?_⟩
              obtain ⟨z, ez, _⟩ := oj.some_of
              rw [ez, hh _ _ ez fun y => hji (er1.inj j hj i hi y)]
        refine q v G3 H2 erF (fr1.trans (K := X.K) (ρ := emb (put s1 b')) (σ := σ) ⟨gg.trans g23, fun b o eb hne => hh b o eb (hne i hi), nw3⟩ erF) r3
      cases fr with
      | fz => exact fin G2 (Same.refl _) gh nw an
      | nw =>
        obtain ⟨pp, rfl, np, o⟩ := an
        obtain ⟨w, ew, _⟩ := o.some_of
        have gn := o.1
        refine fin (upd G2 pp w) (same_new gn) (fun b z ez => ?_) (fun b h1 h2 => ?_) (o.rep (same_new gn) (by rw [upd_same, ew]))
        · by_cases hb : b = pp
          · subst hb
            rw [upd_same] at ez
            rw [ew, ez]
          · rw [upd_ne hb] at ez
            exact gh _ _ ez
        · have : b ≠ pp := fun z => h2 (by rw [z]; exact np)
          rw [upd_ne this]
          exact nw b h1 h2
      | my =>
        rcases an with an | ⟨_, an⟩
        · obtain ⟨pp, rfl, np, o⟩ := an
          obtain ⟨w, ew, _⟩ := o.some_of
          have gn := o.1
          refine fin (upd G2 pp w) (same_new gn) (fun b z ez => ?_) (fun b h1 h2 => ?_) (o.rep (same_new gn) (by rw [upd_same, ew]))
          · by_cases hb : b = pp
            · subst hb
              rw [upd_same] at ez
              rw [ew, ez]
            · rw [upd_ne hb] at ez
              exact gh _ _ ez
          · have : b ≠ pp := fun z => h2 (by rw [z]; exact np)
            rw [upd_ne this]
            exact nw b h1 h2
        · exact fin G2 (Same.refl _) gh nw an
end
section
variable {X : Cx} {own : List Nat} {S : Type} {emb : S → En} {α : Type} {tg iter elt : Expr} {scope : Scope} {ow : List (Str × Nat)} {sl : List Nat} {u : D → R α} {put : α → En → En} {wi : S → R (List D × S)} {me : α → S → R (D × S)} {cond : α → S → R (Bool × S)} {c : Expr} {pos : Pos}
def anyJ (K : PySem.W.Frag) (own : List Nat) (f : α → S → En) (m : α → S → R (D × S)) : TE := fun σ H Q => ∃ a, rdJ K own (f a) (m a) σ H Q
def anyJB (K : PySem.W.Frag) (own : List Nat) (f : α → S → En) (m : α → S → R (Bool × S)) : TT := fun σ H Q => ∃ a, rdJB K own (f a) (m a) σ H Q
theorem jlcx_lcf (hN : X.N.Nodup) (eo : EmbOk own emb) (hi : JI X own emb tg iter wi) (hg : ∀ (s : Shared) (H : Hp) (C : Addr) (cl : List (Str × Addr)) (fp : List Addr), XG (X.blk s H scope (compEnvC scope cl C X.env) fp) tg sl u put)
    (ht : ∀ (s : Shared) (H : Hp) (C : Addr) (cl : List (Str × Addr)) (fp : List Addr) (x : α), JB (X.blk s H scope (compEnvC scope cl C X.env) fp) own (fun s => put x (wipeE (emb s) (ow.map (·.2)))) c (cond x))
    (he : ∀ (s : Shared) (H : Hp) (C : Addr) (cl : List (Str × Addr)) (fp : List Addr) (x : α), JP (X.blk s H scope (compEnvC scope cl C X.env) fp) own (fun s => put x (wipeE (emb s) (ow.map (·.2)))) elt (me x))
    (ok : BlkOk X.N X.env.scope scope ow) (hsub : ∀ i ∈ sl, i ∈ ow.map (·.2) := by decide) (hdis : ∀ i ∈ ow.map (·.2), i ∉ own := by decide) (hc : X.calm = true := by rfl) (hs : ∀ x, foldedSetIterable iter X.env x = pure x := by intro _; rfl) :
    LCx X elt tg iter [c] scope (rdJF X.K own emb (fun s => (wi s).bind fun p => (filJ (fun d s => (u d).bind fun a => cond a s) (fun d s => (u d).bind fun a => me a s) p.1 p.2).bind fun r => .ok (.list r.1, r.2))) := by
  refine lcx_of (own := ow) (g := rdG X.K sl u put) hc hN hi ok hg (fun s H C cl fp => pts_one (t := anyJB X.K own (fun x s => put x (wipeE (emb s) (ow.map (·.2)))) cond) ⟨fun pins s' σ H' Q I ⟨x, q⟩ => (ht s H C cl fp x).run pins s' σ H' Q I q⟩)
    (fun s H C cl fp => (⟨fun pins s' σ H' Q I ⟨x, q⟩ => (he s H C cl fp x).run pins s' σ H' Q I q⟩ : PE _ elt (anyJ X.K own (fun x s => put x (wipeE (emb s) (ow.map (·.2)))) me))) hs fun σ H Q hq => ?_
  exact lcj_read (me := me) (cond := cond) hsub hdis eo.fix eo.len (fun x b s s' ad σ2 H2 G2 Qb ec er2 k => ⟨x, s, ad, G2, er2, b, s', ec, fun v G3 H3 er3 fr r => by cases r; exact k G3 H3 er3 fr⟩)
    (fun x t s s' ad σ2 H2 G2 Qe em er2 k => ⟨x, s, ad, G2, er2, t, s', em, fun v G3 H3 er3 fr r => k v G3 H3 er3 fr r⟩) hq
theorem jlcx_lc (hN : X.N.Nodup) (eo : EmbOk own emb) (hi : JI X own emb tg iter wi) (hg : ∀ (s : Shared) (H : Hp) (C : Addr) (cl : List (Str × Addr)) (fp : List Addr), XG (X.blk s H scope (compEnvC scope cl C X.env) fp) tg sl u put)
    (he : ∀ (s : Shared) (H : Hp) (C : Addr) (cl : List (Str × Addr)) (fp : List Addr) (x : α), JP (X.blk s H scope (compEnvC scope cl C X.env) fp) own (fun s => put x (wipeE (emb s) (ow.map (·.2)))) elt (me x))
    (ok : BlkOk X.N X.env.scope scope ow) (hsub : ∀ i ∈ sl, i ∈ ow.map (·.2) := by decide) (hdis : ∀ i ∈ ow.map (·.2), i ∉ own := by decide) (hc : X.calm = true := by rfl) (hs : ∀ x, foldedSetIterable iter X.env x = pure x := by intro _; rfl) :
    LCx X elt tg iter [] scope (rdJF X.K own emb (fun s => (wi s).bind fun p => (mapJ (fun d s => (u d).bind fun a => me a s) p.1 p.2).bind fun r => .ok (.list r.1, r.2))) := by
  refine lcx_of (own := ow) (g := rdG X.K sl u put) hc hN hi ok hg (fun s H C cl fp => pts_nil)
    (fun s H C cl fp => (⟨fun pins s' σ H' Q I ⟨x, q⟩ => (he s H C cl fp x).run pins s' σ H' Q I q⟩ : PE _ elt (anyJ X.K own (fun x s => put x (wipeE (emb s) (ow.map (·.2)))) me))) hs fun σ H Q hq => ?_
  refine lcj_read (me := me) (cond := fun _ s => .ok (true, s)) hsub hdis eo.fix eo.len (fun x b s s' ad σ2 H2 G2 Qb ec er2 k => ?_)
    (fun x t s s' ad σ2 H2 G2 Qe em er2 k => ⟨x, s, ad, G2, er2, t, s', em, fun v G3 H3 er3 fr r => k v G3 H3 er3 fr r⟩) ?_
  · cases ec
    exact k G2 H2 er2 FrO.refl
  · have e : (fun s => (wi s).bind fun p => (mapJ (fun d s => (u d).bind fun a => me a s) p.1 p.2).bind fun r => R.ok (PyData.list r.1, r.2)) = fun s => (wi s).bind fun p => (filJ (fun d s => (u d).bind fun _ => .ok (true, s)) (fun d s => (u d).bind fun a => me a s) p.1 p.2).bind fun r => .ok (PyData.list r.1, r.2) := by
      funext s
      congr 1
      funext p
      rw [mapJ_fil]
    rw [e] at hq
    exact hq
theorem jf_lc {ifs : List Expr} {m : S → R (D × S)} (h : LCx X elt tg iter ifs scope (rdJF X.K own emb m)) : JF X own emb (.ListComp elt [⟨tg, iter, ifs, 0⟩] scope pos) m := h.pe pos
end
end TL
namespace TL
open PySem PySem.Spec PyProof.Rows L2
section
variable (K : PySem.W.Frag) (mg : Str → Option Value) (E : XK) (own : List Nat) (ρ : En)
def rdV {A : Type} (m : R A) (val : A → D) (env : A → En) : TE := fun σ H Q => ∃ ad G, Er K own ρ ad σ G H ∧ match m with
  | .no => False
  | .ex c => ∀ H', Same H H' → E (cls mg c) none H'
  | .ok a => ∀ v G' H', Er K own (env a) ad σ G' H' → FrO own ad G H G' H' → Rep K G' v (val a) → Q v H'
def rdVF {A : Type} (m : R A) (val : A → D) (env : A → En) : TE := fun σ H Q => ∃ ad G, Er K own ρ ad σ G H ∧ match m with
  | .no => False
  | .ex c => ∀ H', Same H H' → E (cls mg c) none H'
  | .ok a => ∀ p G' H', Er K own (env a) ad σ G' H' → FrO own ad G H G' H' → H p = none → OwnAt K G' H' p (val a) → Q (.ref p) H'
def rdVB {A : Type} (m : R A) (val : A → Bool) (env : A → En) : TT := fun σ H Q => ∃ ad G, Er K own ρ ad σ G H ∧ match m with
  | .no => False
  | .ex c => ∀ H', Same H H' → E (cls mg c) none H'
  | .ok a => ∀ G' H', Er K own (env a) ad σ G' H' → FrO own ad G H G' H' → Q (val a) H'
def rdVI {A : Type} (m : R A) (its : A → List D) (env : A → En) : TI := fun σ H Rr => ∃ ad G, Er K own ρ ad σ G H ∧ match m with
  | .no => False
  | .ex c => ∀ H', Same H H' → E (cls mg c) none H'
  | .ok a => ∀ J G' H', Er K own (env a) ad σ G' H' → FrO own ad G H G' H' → ItOk K J G' (its a) → Rr J H'
end
abbrev VP (X : Cx) (E : XK) (own : List Nat) (ρ : En) {A : Type} (e : Expr) (m : R A) (val : A → D) (env : A → En) : Prop := PE X e (rdV X.K X.mg E own ρ m val env)
abbrev VF (X : Cx) (E : XK) (own : List Nat) (ρ : En) {A : Type} (e : Expr) (m : R A) (val : A → D) (env : A → En) : Prop := PE X e (rdVF X.K X.mg E own ρ m val env)
abbrev VB (X : Cx) (E : XK) (own : List Nat) (ρ : En) {A : Type} (e : Expr) (m : R A) (val : A → Bool) (env : A → En) : Prop := PT X e (rdVB X.K X.mg E own ρ m val env)
abbrev VI (X : Cx) (E : XK) (own : List Nat) (ρ : En) {A : Type} (tg e : Expr) (m : R A) (its : A → List D) (env : A → En) : Prop := PI X tg e (rdVI X.K X.mg E own ρ m its env)
def itemsFlat : D → Bool
  | .list ts => noLAll ts
  | _ => false
section
variable {X : Cx} {E : XK} {own : List Nat} {ρ ρe : En} {e : Expr}
theorem vp_rd {K : PySem.W.Frag} {mg : Str → Option Value} {m : R D} (hb : Bor own ρ ρe m) : ∀ σ H Q, rdV K mg E own ρ m (fun t => t) (fun _ => ρ) σ H Q → rdP K mg E ρe m σ H Q := fun σ H Q hq => by
  obtain ⟨ad, G, er, q⟩ := hq
  refine er.bor (m := m) (Rp := Rep) ?_ ?_ ?_ ?_
  · rcases hb with z | ⟨z1, z2⟩
    · exact .inl z
    · exact .inr ⟨z1, fun t e' G1 p _ v np r => Rep.cut np r (z2 t e')⟩
  · intro z
    rw [z] at q
    exact q
  · intro c z
    rw [z] at q
    exact q
  · intro t v G' H' z er' fr r
    rw [z] at q
    exact q v G' H' er' fr.toO r
theorem vp_p {m : R D} (h : XP X E ρe e m) (hb : Bor own ρ ρe m := by exact bor_nil) : VP X E own ρ e m (fun t => t) (fun _ => ρ) := pe_weak h (vp_rd hb)
theorem er_pure {own : List Nat} {K : PySem.W.Frag} {ρ : En} {ad : Nat → Addr} {σ : L2.St} {G H G' H' : Hp} (er : Er K own ρ ad σ G H) (fr : Fr G H G' H') : Er K own ρ ad σ G' H' := er.after fr.gg fr.gh fr.hh fun i hi => by
  obtain ⟨_, _, _, o⟩ := er.ow i hi
  exact fr.nw _ o.1 o.ne
theorem vpj_rd {K : PySem.W.Frag} {mg : Str → Option Value} {S : Type} {emb : S → En} {m : S → R (D × S)} (s : S) : ∀ σ H Q, rdV K mg E own (emb s) (nox (m s)) (fun p => p.1) (fun p => emb p.2) σ H Q → rdJ K own emb m σ H Q := fun σ H Q hq => by
  obtain ⟨ad, G, er, q⟩ := hq
  cases em : m s with
  | no => rw [em] at q; exact q.elim
  | ex c => rw [em] at q; exact q.elim
  | ok p =>
    rw [em] at q
    exact ⟨s, ad, G, er, p.1, p.2, em, q⟩
theorem vp_j {S : Type} {emb : S → En} {m : S → R (D × S)} (s : S) (h : JP X own emb e m) : VP X E own (emb s) e (nox (m s)) (fun p => p.1) (fun p => emb p.2) := pe_weak h (vpj_rd s)
def BorF (own : List Nat) (ρ ρe : En) (m : R D) : Prop := ρe = hideE own ρ ∨ (ρe = ρ ∧ ∀ t, m = .ok t → itemsFlat t = true)
theorem borF_hide {m : R D} : BorF own ρ (hideE own ρ) m := .inl rfl
theorem borF_nil {m : R D} : BorF [] ρ ρ m := .inl rfl
def nf (m : R D) : R D := m.bind fun t => if itemsFlat t = true then .ok t else .no
theorem nf_nf {m : R D} : ∀ t, nf m = .ok t → itemsFlat t = true := fun t h => by
  cases m with
  | no => exact nomatch h
  | ex c => exact nomatch h
  | ok a =>
    simp only [nf, R.ok_bind] at h
    split at h
    · rename_i e
      cases h
      exact e
    · exact nomatch h
theorem xp_nl {m : R D} (h : XP X E ρ e m) : XP X E ρ e (nl m) := pe_weak h fun σ H Q ⟨G, s, ep, q⟩ => ⟨G, s, ep, by
  cases m with
  | no => exact q
  | ex c => exact q
  | ok t =>
    simp only [nl, R.ok_bind] at q
    split at q
    · exact q
    · exact q.elim⟩
theorem xf_nf {m : R D} (h : XF X E ρ e m) : XF X E ρ e (nf m) := pe_weak h fun σ H Q ⟨G, s, ep, q⟩ => ⟨G, s, ep, by
  cases m with
  | no => exact q
  | ex c => exact q
  | ok t =>
    simp only [nf, R.ok_bind] at q
    split at q
    · exact q
    · exact q.elim⟩
theorem vf_rd {K : PySem.W.Frag} {mg : Str → Option Value} {m : R D} (hb : BorF own ρ ρe m) : ∀ σ H Q, rdVF K mg E own ρ m (fun t => t) (fun _ => ρ) σ H Q → rdF K mg E ρe m σ H Q := fun σ H Q hq => by
  obtain ⟨ad, G, er, q⟩ := hq
  rcases hb with rfl | ⟨rfl, hfl⟩
  · refine ⟨G, er.gh, er.ep_hide, ?_⟩
    cases m with
    | no => exact q
    | ex c => exact q
    | ok t => exact fun p G' H' fr np o => q p G' H' (er_pure er fr) fr.toO np o
  · refine ⟨allG own ad G H, er.all_same, er.ep_all, ?_⟩
    cases m with
    | no => exact q
    | ex c => exact q
    | ok t =>
      intro a G' H' fr np o
      let p : Addr → Prop := fun b => ∃ i ∈ own, b = ad i
      haveI : DecidablePred p := fun b => Classical.propDecidable _
      have np' : ∀ b, p b → NotTup (G' b) := fun b ⟨i, hi, e⟩ => by
        subst e
        obtain ⟨_, _, _, o⟩ := er.ow i hi
        obtain ⟨u, eu, nt⟩ := o.some_of
        rw [fr.gg _ _ ((allG_in hi).trans eu)]
        exact nt
      have g1 : Same G (cutH G' p) := fun b o e => cutH_of (fr.gg _ _ (er.same_all _ _ e)) fun ⟨i, hi, z⟩ => by
        subst z
        rw [er.g_none hi] at e
        cases e
      have no : ∀ i ∈ own, cutH G' p (ad i) = none := fun i hi => cutH_none ⟨i, hi, rfl⟩
      have er' := er.after g1 ((cutH_same G' p).trans fr.gh) fr.hh no
      have o' : OwnAt K G' H' a t → OwnAt K (cutH G' p) H' a t := fun _ => by
        obtain ⟨gn, ⟨xs, ts, rfl, eh, r⟩ | ⟨kvs, es, rfl, _⟩ | ⟨kvs, es, rfl, _⟩⟩ := o
        · exact ⟨cutH_free gn, .inl ⟨xs, ts, rfl, eh, RepAll.cut np' r (hfl _ rfl)⟩⟩
        · exact nomatch hfl _ rfl
        · exact nomatch hfl _ rfl
      refine q a (cutH G' p) H' er' ⟨g1, fun b o e _ => fr.hh b o e, fun b h1 h2 => ?_⟩ np (o' o)
      by_cases hp : p b
      · exact cutH_none hp
      · exact cutH_free (fr.nw b (by rw [allG_out hp]; exact h1) h2)
theorem vf_p {m : R D} (h : XF X E ρe e m) (hb : BorF own ρ ρe m := by exact borF_nil) : VF X E own ρ e m (fun t => t) (fun _ => ρ) := pe_weak h (vf_rd hb)
theorem vfj_rd {K : PySem.W.Frag} {mg : Str → Option Value} {S : Type} {emb : S → En} {m : S → R (D × S)} (s : S) : ∀ σ H Q, rdVF K mg E own (emb s) (nox (m s)) (fun p => p.1) (fun p => emb p.2) σ H Q → rdJF K own emb m σ H Q := fun σ H Q hq => by
  obtain ⟨ad, G, er, q⟩ := hq
  cases em : m s with
  | no => rw [em] at q; exact q.elim
  | ex c => rw [em] at q; exact q.elim
  | ok p =>
    rw [em] at q
    exact ⟨s, ad, G, er, p.1, p.2, em, q⟩
theorem vf_j {S : Type} {emb : S → En} {m : S → R (D × S)} (s : S) (h : JF X own emb e m) : VF X E own (emb s) e (nox (m s)) (fun p => p.1) (fun p => emb p.2) := pe_weak h (vfj_rd s)
theorem vb_p {m : R Bool} (h : XB X E ρe e m) (hb : ρe = hideE own ρ ∨ ρe = ρ := by first | exact .inr rfl | exact .inl rfl) : VB X E own ρ e m (fun b => b) (fun _ => ρ) := ⟨fun pins st σ H Q I hq => by
  obtain ⟨ad, G, er, q⟩ := hq
  obtain ⟨G1, h1, h2, h3⟩ := er.bor (m := m) (Rp := fun _ _ (v : V) (b : Bool) => v = .bl b) (mg := X.mg) (E := E) (Q := fun v H' => ∀ b, v = .bl b → Q b H') (ρe := ρe) (hb.imp id fun z => ⟨z, fun _ _ _ _ _ _ _ r => r⟩)
    (fun z => by rw [z] at q; exact q) (fun c z => by rw [z] at q; exact q) (fun t v G' H' e' er' fr r b hv => by
      rw [e'] at q
      subst r
      cases hv
      exact q G' H' er' fr.toO)
  refine h.run pins st σ H Q I ⟨G1, h1, h2, ?_⟩
  cases m with
  | no => exact q
  | ex c => exact h3
  | ok t =>
    intro v G' H' fr r
    have r' : v = t := r
    subst r'
    exact h3 (.bl v) G' H' fr rfl v rfl⟩
theorem vb_j {S : Type} {emb : S → En} {m : S → R (Bool × S)} (s : S) (h : JB X own emb e m) : VB X E own (emb s) e (nox (m s)) (fun p => p.1) (fun p => emb p.2) := pt_weak h fun σ H Q hq => by
  obtain ⟨ad, G, er, q⟩ := hq
  cases em : m s with
  | no => rw [em] at q; exact q.elim
  | ex c => rw [em] at q; exact q.elim
  | ok p =>
    rw [em] at q
    exact ⟨s, ad, G, er, p.1, p.2, em, fun v G' H' er' fr r => by cases r; exact q G' H' er' fr⟩
theorem vi_p {tg : Expr} {m : R (List D)} (h : XI X E (hideE own ρ) tg e m) : VI X E own ρ tg e m (fun t => t) (fun _ => ρ) := ⟨fun pins st σ H Rr I hq => by
  obtain ⟨ad, G, er, q⟩ := hq
  refine h.run pins st σ H Rr I ⟨G, er.gh, er.ep_hide, ?_⟩
  cases m with
  | no => exact q
  | ex c => exact q
  | ok its => exact fun J G' H' fr hz io => q J G' H' (er_pure er fr) fr.toO io⟩
theorem vi_j {S : Type} {emb : S → En} {tg : Expr} {m : S → R (List D × S)} (s : S) (h : JI X own emb tg e m) : VI X E own (emb s) tg e (nox (m s)) (fun p => p.1) (fun p => emb p.2) := ⟨fun pins st σ H Rr I hq => by
  obtain ⟨ad, G, er, q⟩ := hq
  cases em : m s with
  | no => rw [em] at q; exact q.elim
  | ex c => rw [em] at q; exact q.elim
  | ok p =>
    rw [em] at q
    exact h.run pins st σ H Rr I ⟨s, ad, G, er, p.1, p.2, em, fun J G' H' er' fr hz io => q J G' H' er' fr io⟩⟩
end
inductive Fin where
  | nx (ρ : En)
  | rt (t b : D)
  | bk (ρ : En)
structure Fr0 (io : Bool) (G0 H0 : Hp) (A0 : Addr) (own : List Nat) (ad : Nat → Addr) (G H : Hp) : Prop where
  g0 : Same G0 G
  h0 : ∀ b o, H0 b = some o → (io = true → b ≠ A0) → H b = some o
  nw : ∀ b, G0 b = none → H0 b ≠ none → G b = none
  fs : ∀ i ∈ own, H0 (ad i) = none ∨ (io = true ∧ ad i = A0)
  bx : io = true → 0 ∈ own ∧ ad 0 = A0
structure RetOk (K : PySem.W.Frag) (io : Bool) (fr : Md) (G0 H0 : Hp) (A0 : Addr) (v : V) (G H : Hp) (t b : D) : Prop where
  gh : Same G H
  g0 : Same G0 G
  h0 : ∀ b o, H0 b = some o → (io = true → b ≠ A0) → H b = some o
  nw : ∀ b, G0 b = none → H0 b ≠ none → G b = none
  an : Ans K fr H0 G H v t
  bx : io = true → OwnAt K G H A0 b
def Post (K : PySem.W.Frag) (io : Bool) (fr : Md) (G0 H0 : Hp) (A0 : Addr) (own' : List Nat) (Dn : Ends) : Fin → Prop
  | .nx ρ' => ∀ ad σ G H, Er K own' ρ' ad σ G H → Fr0 io G0 H0 A0 own' ad G H → Dn.nx σ H
  | .bk ρ' => ∀ ad σ G H, Er K own' ρ' ad σ G H → Fr0 io G0 H0 A0 own' ad G H → Dn.bk σ H
  | .rt t b => ∀ v G H, RetOk K io fr G0 H0 A0 v G H t b → Dn.rt v H
def PostR (K : PySem.W.Frag) (mg : Str → Option Value) (E : XK) (io : Bool) (fr : Md) (G0 H0 : Hp) (A0 : Addr) (own' : List Nat) {A : Type} (m : R A) (post : A → Fin) (Dn : Ends) : Prop :=
  match m with
  | .no => False
  | .ex c => ∀ H', (∀ b o, H0 b = some o → (io = true → b ≠ A0) → H' b = some o) → E (cls mg c) none H'
  | .ok a => Post K io fr G0 H0 A0 own' Dn (post a)
def rdS (K : PySem.W.Frag) (mg : Str → Option Value) (E : XK) (io : Bool) (fr : Md) (own : List Nat) (ρ : En) {A : Type} (m : R A) (post : A → Fin) (own' : List Nat) : TS := fun Dn σ H =>
  ∃ G0 H0 A0 ad G, Er K own ρ ad σ G H ∧ Fr0 io G0 H0 A0 own ad G H ∧ PostR K mg E io fr G0 H0 A0 own' m post Dn
abbrev SS (X : Cx) (E : XK) (io : Bool) (fr : Md) (own : List Nat) (ρ : En) {A : Type} (st : Stmt) (m : R A) (post : A → Fin) (own' : List Nat) : Prop := PS X st (rdS X.K X.mg E io fr own ρ m post own')
abbrev BS (X : Cx) (E : XK) (io : Bool) (fr : Md) (own : List Nat) (ρ : En) {A : Type} (sts : List Stmt) (m : R A) (post : A → Fin) (own' : List Nat) : Prop := PSs X sts (rdS X.K X.mg E io fr own ρ m post own')
theorem ps_weak {X : Cx} {st : Stmt} {t t' : TS} (h : PS X st t) (f : ∀ Dn σ H, t' Dn σ H → t Dn σ H) : PS X st t' := ⟨fun pins s σ H Dn I q => h.run pins s σ H Dn I (f _ _ _ q)⟩
theorem pss_weak {X : Cx} {st : List Stmt} {t t' : TS} (h : PSs X st t) (f : ∀ Dn σ H, t' Dn σ H → t Dn σ H) : PSs X st t' := ⟨fun pins s σ H Dn I q => h.run pins s σ H Dn I (f _ _ _ q)⟩
theorem Fr0.step {K : PySem.W.Frag} {io : Bool} {G0 H0 : Hp} {A0 : Addr} {own : List Nat} {ρ : En} {σ : L2.St} {ad : Nat → Addr} {G H G' H' : Hp} (f : Fr0 io G0 H0 A0 own ad G H) (fr : FrO own ad G H G' H') (er' : Er K own ρ ad σ G' H') (hb : ∀ b, H b = none → H0 b = none) : Fr0 io G0 H0 A0 own ad G' H' where
  g0 := f.g0.trans fr.gg
  h0 := fun b o e hne => fr.hh b o (f.h0 b o e hne) fun i hi z => by
    rcases f.fs i hi with y | ⟨y1, y2⟩
    · rw [z, y] at e
      cases e
    · exact hne y1 (z.trans y2)
  nw := fun b h1 h2 => by
    by_cases hc : ∃ i ∈ own, b = ad i
    · obtain ⟨i, hi, rfl⟩ := hc
      exact er'.g_none hi
    · refine fr.nw b (f.nw b h1 h2) fun z => h2 (hb b z)
  fs := f.fs
  bx := f.bx
theorem Fr0.back {K : PySem.W.Frag} {io : Bool} {G0 H0 : Hp} {A0 : Addr} {own : List Nat} {ρ : En} {σ : L2.St} {ad : Nat → Addr} {G H : Hp} (f : Fr0 io G0 H0 A0 own ad G H) (er : Er K own ρ ad σ G H) : ∀ b, H b = none → H0 b = none := fun b hb => by
  cases e : H0 b with
  | none => rfl
  | some o =>
    by_cases hc : io = true ∧ b = A0
    · obtain ⟨h1, h2⟩ := f.bx hc.1
      obtain ⟨_, _, _, ob⟩ := er.ow 0 h1
      exact absurd (by rw [h2, ← hc.2]; exact hb) ob.ne
    · rw [f.h0 b o e fun z y => hc ⟨z, y⟩] at hb
      cases hb
theorem Fr0.next {K : PySem.W.Frag} {io : Bool} {G0 H0 : Hp} {A0 : Addr} {own : List Nat} {ρ ρ' : En} {σ σ' : L2.St} {ad : Nat → Addr} {G H G' H' : Hp} (f : Fr0 io G0 H0 A0 own ad G H) (er : Er K own ρ ad σ G H) (fr : FrO own ad G H G' H') (er' : Er K own ρ' ad σ' G' H') : Fr0 io G0 H0 A0 own ad G' H' :=
  f.step fr er' (f.back er)
section
variable {X : Cx} {E : XK} {io : Bool} {fr : Md} {own own' own1 : List Nat} {ρ ρ' : En} {A B : Type} {st : Stmt} {rest : List Stmt} {post : A → Fin} {post1 : B → Fin} {e : Expr} {pos : Pos}
theorem bs_seq {J : Type} {emb : J → En} {m1 : R J} {k : J → R A} (h1 : SS X E io fr own ρ st m1 (fun j => .nx (emb j)) own1) (h2 : ∀ j, BS X E io fr own1 (emb j) rest (k j) post own') : BS X E io fr own ρ (st :: rest) (m1.bind k) post own' := by
  refine ⟨fun pins s σ H Dn I hq => ?_⟩
  obtain ⟨G0, H0, A0, ad, G, er, f, q⟩ := hq
  cases em : m1 with
  | no => rw [em] at q; exact q.elim
  | ex c => exact (pss_cons h1 (pss_never (sts := rest))).run pins s σ H Dn I ⟨G0, H0, A0, ad, G, er, f, by rw [em] at q ⊢; exact q⟩
  | ok j =>
    rw [em] at q
    exact (pss_cons h1 (h2 j)).run pins s σ H Dn I ⟨G0, H0, A0, ad, G, er, f, by
      rw [em]
      exact fun ad' σ' G' H' er' f' => ⟨G0, H0, A0, ad', G', er', f', q⟩⟩
inductive Oc (J : Type) where
  | nx (j : J)
  | rt (t b : D)
  | bk (j : J)
def thenO {J : Type} (m : R (Oc J)) (ret : D → D → A) (k : J → R A) : R A := m.bind fun o => match o with
  | .nx j => k j
  | .rt t b => .ok (ret t b)
  | .bk _ => .no
theorem Er.lessO {K : PySem.W.Frag} {ad : Nat → Addr} {σ : L2.St} {G H : Hp} (er : Er K own ρ ad σ G H) (dead : List Nat) : Er K (own.filter fun i => !dead.contains i) (wipeE ρ dead) ad σ G H where
  len := wipeE_length.trans er.len
  gh := er.gh
  fz := fun i t e hi => by
    obtain ⟨e1, h2⟩ := getN_wipe e
    refine er.fz i t e1 fun z => hi (List.mem_filter.mpr ⟨z, ?_⟩)
    simpa using h2
  ow := fun i hi => by
    obtain ⟨h1, h2⟩ := List.mem_filter.mp hi
    obtain ⟨t, e, q, o⟩ := er.ow i h1
    refine ⟨t, ?_, q, o⟩
    have nd : i ∉ dead := by simpa using h2
    have key : ∀ (l : List Nat), i ∉ l → getN (wipeE ρ l) i = getN ρ i := by
      intro l
      induction l with
      | nil => intro _; rfl
      | cons v l ih =>
        intro hj
        show getN (setN (wipeE ρ l) v none) i = _
        rw [getN_setN_ne (fun z : i = v => hj (by rw [z]; exact List.mem_cons_self))]
        exact ih fun hm => hj (List.mem_cons_of_mem _ hm)
    rw [key dead nd]
    exact e
  inj := fun i hi j hj => er.inj i (List.mem_filter.mp hi).1 j (List.mem_filter.mp hj).1
theorem Fr0.lessO {G0 H0 : Hp} {A0 : Addr} {ad : Nat → Addr} {G H : Hp} (f : Fr0 io G0 H0 A0 own ad G H) (dead : List Nat) (h0 : io = true → 0 ∉ dead) : Fr0 io G0 H0 A0 (own.filter fun i => !dead.contains i) ad G H :=
  ⟨f.g0, f.h0, f.nw, fun i hi => f.fs i (List.mem_filter.mp hi).1, fun z => ⟨List.mem_filter.mpr ⟨(f.bx z).1, by simpa using h0 z⟩, (f.bx z).2⟩⟩
theorem bs_end (dead : List Nat) {a : A} (hp : post a = .nx (wipeE ρ dead) := by rfl) (ho : own' = own.filter (fun i => !dead.contains i) := by rfl) (h0 : io = true → 0 ∉ dead := by decide) : BS X E io fr own ρ [] (.ok a) post own' := by
  subst ho
  refine pss_weak pss_nil fun Dn σ H hq => ?_
  obtain ⟨G0, H0, A0, ad, G, er, f, q⟩ := hq
  have q' : Post X.K io fr G0 H0 A0 _ Dn (post a) := q
  rw [hp] at q'
  exact q' ad σ G H (er.lessO dead) (f.lessO dead h0)
theorem bs_freeze (i : Nat) {m : R A} {sts : List Stmt} (h : BS X E io fr (own.filter (fun j => j != i)) ρ sts m post own') (h0 : io = true → i ≠ 0 := by decide) (hi : i ∈ own := by decide) : BS X E io fr own ρ sts m post own' := by
  refine pss_weak h fun Dn σ H hq => ?_
  obtain ⟨G0, H0, A0, ad, G, er, f, q⟩ := hq
  obtain ⟨t, e, es, o⟩ := er.ow i hi
  obtain ⟨u, eu, _⟩ := o.some_of
  have gn := o.1
  have er2 : Er X.K (own.filter (fun j => j != i)) ρ ad σ (upd G (ad i) u) H := by
    refine ⟨er.len, fun b x e => ?_, fun j w ej hj => ?_, fun j hj => ?_, fun j hj k hk => er.inj j (List.mem_filter.mp hj).1 k (List.mem_filter.mp hk).1⟩
    · by_cases hb : b = ad i
      · subst hb
        rw [upd_same] at e
        rw [eu, e]
      · rw [upd_ne hb] at e
        exact er.gh _ _ e
    · by_cases hji : j = i
      · subst hji
        rw [e] at ej
        cases ej
        exact ⟨_, es, o.rep (same_new gn) (by rw [upd_same, eu])⟩
      · have : j ∉ own := fun z => hj (List.mem_filter.mpr ⟨z, by simpa using hji⟩)
        obtain ⟨v, q1, r1⟩ := er.fz j w ej this
        exact ⟨v, q1, r1.mono (same_new gn)⟩
    · obtain ⟨h1, h2⟩ := List.mem_filter.mp hj
      have hji : j ≠ i := by simpa using h2
      obtain ⟨w, ej, qj, oj⟩ := er.ow j h1
      exact ⟨w, ej, qj, oj.keep (same_new gn) (by rw [upd_ne fun z => hji (er.inj j h1 i hi z)]; exact oj.1) rfl⟩
  refine ⟨G0, H0, A0, ad, _, er2, ⟨f.g0.trans (same_new gn), f.h0, fun b h1 h2 => ?_, fun j hj => f.fs j (List.mem_filter.mp hj).1, fun z => ⟨List.mem_filter.mpr ⟨(f.bx z).1, by simpa using Ne.symm (h0 z)⟩, (f.bx z).2⟩⟩, q⟩
  have nb : b ≠ ad i := fun z => by
    subst z
    rcases f.fs i hi with y | ⟨y1, y2⟩
    · exact h2 y
    · obtain ⟨z1, z2⟩ := f.bx y1
      exact h0 y1 (er.inj i hi 0 z1 (y2.trans z2.symm))
  rw [upd_ne nb]
  exact f.nw b h1 h2
theorem ss_setP (i : Nat) {m : R A} {val : A → D} {env : A → En} (h : PS X st (tAsg (rdV X.K X.mg E own ρ m val env) (gName i))) (hi : i ∉ own := by decide) : SS X E io fr own ρ st m (fun a => .nx (setN (env a) i (some (val a)))) own :=
  ps_weak h fun Dn σ H hq => by
    obtain ⟨G0, H0, A0, ad, G, er, f, q⟩ := hq
    refine ⟨ad, G, er, ?_⟩
    cases em : m with
    | no => rw [em] at q; exact q.elim
    | ex c => rw [em] at q; exact fun H' s => q H' fun b o e hne => s _ _ (f.h0 b o e hne)
    | ok a =>
      rw [em] at q
      exact fun v G' H' er' fr' r => q ad _ G' H' (er'.setO hi r) (f.next er fr' er')
theorem ss_set {x : Str} {px : Pos} (i : Nat) {m : R A} {val : A → D} {env : A → En} (hN : X.N.Nodup) (he : VP X E own ρ e m val env) (hi : i ∉ own := by decide) (hx : X.N[i]? = some x := by rfl) (hl : Loc X.env.scope x := by first | exact .inl rfl | exact .inr rfl)
    (hs : swapsWith e (some (.Name x px)) pos.line X.env = pure false := by rfl) (hf : X.fn x = true ∨ X.env.scope.names.lookup x = some .local := by first | exact .inl rfl | exact .inr rfl) :
    SS X E io fr own ρ (.Assign [.Name x px] e pos) m (fun a => .nx (setN (env a) i (some (val a)))) own := ss_setP i (ps_set hN hx hl he hs hf) hi
end
end TL
namespace TL
open PySem PySem.Spec PyProof.Rows L2
section
variable {K : PySem.W.Frag} {own : List Nat} {ρ : En} {ad : Nat → Addr} {σ : L2.St} {G H : Hp}
theorem Er.take (er : Er K own ρ ad σ G H) {i : Nat} {p : Addr} {t : D} (hi : i ∉ own) (hlt : i < ρ.length) (o : OwnAt K G H p t) (hne : ∀ j ∈ own, p ≠ ad j) :
    Er K (i :: own) (setN ρ i (some t)) (fun j => if j = i then p else ad j) (σ.set i (some (.ref p))) G H where
  len := by rw [setN_length, List.length_set]; exact er.len
  gh := er.gh
  fz := fun j u e hj => by
    have hji : j ≠ i := fun z => hj (by rw [z]; exact List.mem_cons_self)
    rw [getN_setN_ne hji] at e
    obtain ⟨w, q, r⟩ := er.fz j u e fun z => hj (List.mem_cons_of_mem _ z)
    exact ⟨w, by rw [List.getElem?_set_ne (Ne.symm hji)]; exact q, r⟩
  ow := fun j hj => by
    by_cases hji : j = i
    · subst hji
      refine ⟨t, ?_, ?_, ?_⟩
      · have key : ∀ (l : En) (k : Nat), k < l.length → getN (setN l k (some t)) k = some t := by
          intro l
          induction l with
          | nil => intro k hk; exact absurd hk (Nat.not_lt_zero _)
          | cons x l ih =>
            intro k hk
            cases k with
            | zero => rfl
            | succ k => exact ih k (Nat.lt_of_succ_lt_succ hk)
        exact key ρ j hlt
      · rw [List.getElem?_set_self (by rw [← er.len]; exact hlt), if_pos rfl]
      · rw [if_pos rfl]
        exact o
    · have hj' : j ∈ own := (List.mem_cons.mp hj).resolve_left hji
      obtain ⟨u, e, q, oj⟩ := er.ow j hj'
      exact ⟨u, by rw [getN_setN_ne hji]; exact e, by rw [List.getElem?_set_ne (Ne.symm hji), if_neg hji]; exact q, by rw [if_neg hji]; exact oj⟩
  inj := fun j hj k hk e => by
    by_cases h1 : j = i
    · by_cases h2 : k = i
      · rw [h1, h2]
      · have hk' : k ∈ own := (List.mem_cons.mp hk).resolve_left h2
        simp only [if_pos h1, if_neg h2] at e
        exact absurd e (hne k hk')
    · have hj' : j ∈ own := (List.mem_cons.mp hj).resolve_left h1
      by_cases h2 : k = i
      · simp only [if_neg h1, if_pos h2] at e
        exact absurd e.symm (hne j hj')
      · have hk' : k ∈ own := (List.mem_cons.mp hk).resolve_left h2
        simp only [if_neg h1, if_neg h2] at e
        exact er.inj j hj' k hk' e
end
section
variable {X : Cx} {E : XK} {io : Bool} {fr : Md} {own own' own1 : List Nat} {ρ ρ' : En} {A B : Type} {st : Stmt} {rest : List Stmt} {post : A → Fin} {e : Expr} {pos : Pos}
theorem bs_less (dead : List Nat) {m : R A} {sts : List Stmt} (h : BS X E io fr (own.filter fun i => !dead.contains i) (wipeE ρ dead) sts m post own') (h0 : io = true → 0 ∉ dead := by decide) : BS X E io fr own ρ sts m post own' := by
  refine pss_weak h fun Dn σ H hq => ?_
  obtain ⟨G0, H0, A0, ad, G, er, f, q⟩ := hq
  exact ⟨G0, H0, A0, ad, G, er.lessO dead, f.lessO dead h0, q⟩
theorem ss_setFP (i : Nat) {m : R A} {val : A → D} {env : A → En} (h : PS X st (tAsg (rdVF X.K X.mg E own ρ m val env) (gName i))) (hi : i ∉ own := by decide) (hlt : ∀ a, i < (env a).length := by intro _; exact Nat.le_of_ble_eq_true rfl) (h0 : io = true → i ≠ 0 := by decide) :
    SS X E io fr own ρ st m (fun a => .nx (setN (env a) i (some (val a)))) (i :: own) :=
  ps_weak h fun Dn σ H hq => by
    obtain ⟨G0, H0, A0, ad, G, er, f, q⟩ := hq
    refine ⟨ad, G, er, ?_⟩
    cases em : m with
    | no => rw [em] at q; exact q.elim
    | ex c => rw [em] at q; exact fun H' s => q H' fun b o e hne => s _ _ (f.h0 b o e hne)
    | ok a =>
      rw [em] at q
      intro p G' H' er' fr' np o
      have f' := f.next er fr' er'
      have hne := er.new_ne np
      have h0p : H0 p = none := f.back er p np
      refine q _ _ G' H' (er'.take hi (hlt a) o hne) ⟨f'.g0, f'.h0, f'.nw, fun j hj => ?_, fun z => ?_⟩
      · by_cases hji : j = i
        · rw [if_pos hji]
          exact .inl h0p
        · rw [if_neg hji]
          exact f'.fs j ((List.mem_cons.mp hj).resolve_left hji)
      · have := f'.bx z
        rw [if_neg (Ne.symm (h0 z))]
        exact ⟨List.mem_cons_of_mem _ this.1, this.2⟩
theorem ss_setF {x : Str} {px : Pos} (i : Nat) {m : R A} {val : A → D} {env : A → En} (hN : X.N.Nodup) (he : VF X E own ρ e m val env) (hi : i ∉ own := by decide) (hlt : ∀ a, i < (env a).length := by intro _; exact Nat.le_of_ble_eq_true rfl) (hx : X.N[i]? = some x := by rfl) (hl : Loc X.env.scope x := by first | exact .inl rfl | exact .inr rfl)
    (hs : swapsWith e (some (.Name x px)) pos.line X.env = pure false := by rfl) (hf : X.fn x = true ∨ X.env.scope.names.lookup x = some .local := by first | exact .inl rfl | exact .inr rfl) (h0 : io = true → i ≠ 0 := by decide) :
    SS X E io fr own ρ (.Assign [.Name x px] e pos) m (fun a => .nx (setN (env a) i (some (val a)))) (i :: own) := ss_setFP i (ps_set hN hx hl he hs hf) hi hlt h0
theorem ss_setLc {y : Str} {py p0 : Pos} {elt tg iter : Expr} {ifs : List Expr} {scope : Scope} (i : Nat) {m : R A} {val : A → D} {env : A → En} (h : LCx X elt tg iter ifs scope (rdV X.K X.mg E own ρ m val env)) (hi : i ∉ own := by decide) (hx : X.N[i]? = some y := by rfl) (hl : X.env.scope.names.lookup y = some .local := by rfl)
    (hs : swapsWith (.ListComp elt [⟨tg, iter, ifs, 0⟩] scope p0) (some (.Name y py)) pos.line X.env = pure true := by rfl) :
    SS X E io fr own ρ (.Assign [.Name y py] (.ListComp elt [⟨tg, iter, ifs, 0⟩] scope p0) pos) m (fun a => .nx (setN (env a) i (some (val a)))) own := ss_setP i (h.ps i y py p0 pos hx hl hs) hi
theorem ss_setLcF {y : Str} {py p0 : Pos} {elt tg iter : Expr} {ifs : List Expr} {scope : Scope} (i : Nat) {m : R A} {val : A → D} {env : A → En} (h : LCx X elt tg iter ifs scope (rdVF X.K X.mg E own ρ m val env)) (hi : i ∉ own := by decide) (hlt : ∀ a, i < (env a).length := by intro _; exact Nat.le_of_ble_eq_true rfl) (hx : X.N[i]? = some y := by rfl) (hl : X.env.scope.names.lookup y = some .local := by rfl)
    (hs : swapsWith (.ListComp elt [⟨tg, iter, ifs, 0⟩] scope p0) (some (.Name y py)) pos.line X.env = pure true := by rfl) (h0 : io = true → i ≠ 0 := by decide) :
    SS X E io fr own ρ (.Assign [.Name y py] (.ListComp elt [⟨tg, iter, ifs, 0⟩] scope p0) pos) m (fun a => .nx (setN (env a) i (some (val a)))) (i :: own) := ss_setFP i (h.ps i y py p0 pos hx hl hs) hi hlt h0
theorem xpf_rd {K : PySem.W.Frag} {mg : Str → Option Value} {m : R D} : ∀ σ H Q, rdP K mg E ρ m σ H Q → rdF K mg E ρ m σ H Q := fun σ H Q ⟨G, s, ep, q⟩ => ⟨G, s, ep, by
  cases m with
  | no => exact q
  | ex c => exact q
  | ok t =>
    intro p G' H' fr np o
    obtain ⟨G3, fr3, r3⟩ := fr.freeze np o
    exact q _ G3 H' fr3 r3⟩
theorem jpf_rd {K : PySem.W.Frag} {S : Type} {emb : S → En} {m : S → R (D × S)} : ∀ σ H Q, rdJ K own emb m σ H Q → rdJF K own emb m σ H Q := fun σ H Q hq => by
  obtain ⟨s, ad, G, er, t, s', e, q⟩ := hq
  refine ⟨s, ad, G, er, t, s', e, fun p G1 H1 er1 fr1 np o => ?_⟩
  obtain ⟨G2, er2, fr2, r2⟩ := er1.freezeO fr1 np (er.new_ne np) o
  exact q _ G2 H1 er2 fr2 r2
def MethD (K : PySem.W.Frag) (r : V → List V → Hp → VK → Prop) (f : D → D → R D) : Prop := ∀ l xs ts v t t' (G H : Hp) (Q : VK), Same G H → G l = none → H l = some (.lst xs) → RepAll K G xs ts → Rep K G v t → f (.list ts) t = .ok t' →
  (∀ xs' ts', t' = .list ts' → RepAll K G xs' ts' → Q .non (upd H l (.lst xs'))) → r (.ref l) [v] H Q
theorem meth_append {K : PySem.W.Frag} : MethD K rAppend appD := fun l xs ts v t t' G H Q sa gn hl r rv e q => by
  simp only [appD] at e
  split at e
  · rename_i hz
    cases e
    exact ⟨l, xs, v, rfl, rfl, hl, by rw [r.length]; exact hz, q _ _ rfl (r.append (.cons rv .nil))⟩
  · exact nomatch e
theorem ss_meth {x mn : Str} {id : String} {r : V → List V → Hp → VK → Prop} {f : D → D → R D} {J : Type} {emb : J → En} {px apos cpos : Pos} (i : Nat) {us : D} {ts : A → D} (pk : A → D → J) {m : R A} {val : A → D} {env : A → En} (slot : Slot "list" mn id) (hty : typeOf (.builtin id) = pure (.type "method_descriptor")) (hm : MtR X id r) (hr : MethD X.K r f)
    (hf : ∀ a b, f a b ≠ .no → ∃ ts, a = .list ts) (hfl : ∀ a b c, f a b = .ok c → ∃ ts, c = .list ts) (hfe : ∀ a b c, f a b ≠ .ex c)
    (he : VP X E own ρ e m val env) (hu : getN ρ i = some us := by rfl) (ht : ∀ a, getN (env a) i = some (ts a) := by intro _; rfl) (hpk : ∀ a r, emb (pk a r) = setN (env a) i (some r) := by intro _ _; rfl) (hi : i ∈ own := by decide) (hN : X.N[i]? = some x := by rfl)
    (hv : Vis X.env.scope x := by first | exact Or.inl rfl | exact Or.inr (Or.inl rfl) | exact Or.inr (Or.inr rfl)) (hd : (x == ("__debug__" : Str)) = false := by decide) (hcd : (x == ("__classdict__" : Str)) = false := by decide)
    (hbase : attributeBase (.Name x px) mn X.env (eval (.Name x px) X.env) = eval (.Name x px) X.env := by rfl)
    (hfew : ((backTo cpos (starEach [e] X.env)).all (fun x => !x.1) && (backToKw cpos (keywordEach [] X.env)).all (fun x => x.1.isSome) && decide ([e].length + ([] : List Keyword).length + (if ([] : List Keyword).isEmpty then 0 else 1) < 30)) = true := by rfl)
    (hline : (apos.endLine == cpos.line) = true := by rfl) (hst : starEach [e] X.env = (false, eval e X.env) :: starEach [] X.env := by rfl) (hplain : (backTo cpos (starEach [] X.env)).any (·.1) = false := by rfl)
    (hs : swapsWith (.Call (.Attribute (.Name x px) mn apos) [e] [] cpos) none pos.line X.env = pure false := by rfl) :
    SS X E io fr own ρ (.Expr (.Call (.Attribute (.Name x px) mn apos) [e] [] cpos) pos) ((lstD us).bind fun _ => m.bind fun a => (f (ts a) (val a)).bind fun r => .ok (pk a r)) (fun j => .nx (emb j)) own :=
  ps_weak (ps_expr (pe_bm PySem.F.plainAttrs_list slot hty hm (pe_var hN hv hd hcd) (pa_cons he pa_nil hst) hbase hfew hline hst hplain) hs) fun Dn σ H hq => by
    obtain ⟨G0, H0, A0, ad, G, er, f0, q⟩ := hq
    obtain ⟨t0, e0, es0, o0⟩ := er.ow i hi
    rw [hu] at e0
    cases e0
    cases el : lstD us with
    | no => rw [el] at q; exact q.elim
    | ex c => cases us <;> exact nomatch el
    | ok w =>
      rw [el] at q
      have ty : tyV X.K "list" (.ref (ad i)) H := by
        obtain ⟨_, ⟨xs, us, eg, eh, _⟩ | ⟨_, _, eg, eh, _⟩ | ⟨_, _, eg, eh, _⟩⟩ := o0
        · exact .inl ⟨rfl, _, SqL.of eh⟩
        · rw [eg] at el
          exact nomatch el
        · rw [eg] at el
          exact nomatch el
      refine ⟨_, es0, ty, ad, G, er, ?_⟩
      cases em : m with
      | no => rw [em] at q; exact q.elim
      | ex c => rw [em] at q; exact fun H' s => q H' fun b o e hne => s _ _ (f0.h0 b o e hne)
      | ok a =>
        rw [em] at q
        intro v G' H' er' fr' rv
        have q' : PostR X.K X.mg E io fr G0 H0 A0 own ((f (ts a) (val a)).bind fun r => .ok (pk a r)) (fun j => .nx (emb j)) Dn := q
        cases ef : f (ts a) (val a) with
        | no => rw [ef] at q'; exact q'.elim
        | ex c => exact absurd ef (hfe _ _ _)
        | ok t' =>
          rw [ef] at q'
          obtain ⟨ds, ed⟩ := hf (ts a) (val a) (by rw [ef]; exact fun z => nomatch z)
          have e1 := ht a
          rw [ed] at e1 ef
          obtain ⟨xs, es, eh, rr⟩ := er'.ownL hi e1
          refine hr (ad i) xs ds v (val a) t' G' H' _ er'.gh (er'.g_none hi) eh rr rv ef fun xs' ts' et rr' => ?_
          subst et
          have on := own_at (H := H') (er'.g_none hi) rr'
          obtain ⟨er2, fr2⟩ := er'.write hi on
          refine q' ad σ G' _ (by rw [hpk]; exact er2) ((f0.next er fr' er').next er' fr2 er2)
theorem app_l : ∀ a b, appD a b ≠ .no → ∃ ts, a = .list ts := fun a b h => by cases a <;> first | exact ⟨_, rfl⟩ | exact absurd rfl h
theorem app_ex : ∀ a b c, appD a b ≠ .ex c := fun a b c h => by
  unfold appD at h
  split at h
  · split at h <;> exact nomatch h
  · exact nomatch h
theorem app_r : ∀ a b c, appD a b = .ok c → ∃ ts, c = .list ts := fun a b c h => by
  unfold appD at h
  split at h
  · split at h
    · cases h; exact ⟨_, rfl⟩
    · exact nomatch h
  · exact nomatch h
theorem ans_new {fr : Md} {K : PySem.W.Frag} {H G' H' : Hp} {v : V} {t : D} (h : fr ≠ .fz) (o : ∃ p, v = .ref p ∧ H p = none ∧ OwnAt K G' H' p t) : Ans K fr H G' H' v t := by
  cases fr with
  | fz => exact absurd rfl h
  | nw => exact o
  | my => exact .inl o
theorem bs_ret {m : R B} {val : B → D} {env : B → En} {g : B → A} {bx : B → D} (he : VP X E own ρ e m val env) (hp : ∀ b, post (g b) = .rt (val b) (bx b) := by intro _; rfl) (hb : ∀ b, io = true → getN (env b) 0 = some (bx b) := by first | (intro _ z; exact nomatch z) | (intro _ _; rfl)) (hf : fr = .fz := by rfl) :
    BS X E io fr own ρ [.Return (some e) pos] (m.bind fun b => .ok (g b)) post own' :=
  pss_weak (pss_one (ps_ret he)) fun Dn σ H hq => by
    subst hf
    obtain ⟨G0, H0, A0, ad, G, er, f0, q⟩ := hq
    refine ⟨ad, G, er, ?_⟩
    cases em : m with
    | no => rw [em] at q; exact q.elim
    | ex c => rw [em] at q; exact fun H' s => q H' fun b o e hne => s _ _ (f0.h0 b o e hne)
    | ok b =>
      rw [em] at q
      intro v G' H' er' fr' rv
      have q' : Post X.K io .fz G0 H0 A0 own' Dn (post (g b)) := q
      rw [hp] at q'
      have f1 := f0.next er fr' er'
      refine q' v G' H' ⟨er'.gh, f1.g0, f1.h0, f1.nw, rv, fun z => ?_⟩
      obtain ⟨h1, h2⟩ := f1.bx z
      obtain ⟨t, e1, _, o⟩ := er'.ow 0 h1
      rw [hb b z] at e1
      cases e1
      rw [← h2]
      exact o
theorem bs_retF {m : R B} {val : B → D} {env : B → En} {g : B → A} {bx : B → D} (he : VF X E own ρ e m val env) (hp : ∀ b, post (g b) = .rt (val b) (bx b) := by intro _; rfl) (hb : ∀ b, io = true → getN (env b) 0 = some (bx b) := by first | (intro _ z; exact nomatch z) | (intro _ _; rfl)) (hf : fr ≠ .fz := by exact fun z => nomatch z) :
    BS X E io fr own ρ [.Return (some e) pos] (m.bind fun b => .ok (g b)) post own' :=
  pss_weak (pss_one (ps_ret he)) fun Dn σ H hq => by
    obtain ⟨G0, H0, A0, ad, G, er, f0, q⟩ := hq
    refine ⟨ad, G, er, ?_⟩
    cases em : m with
    | no => rw [em] at q; exact q.elim
    | ex c => rw [em] at q; exact fun H' s => q H' fun b o e hne => s _ _ (f0.h0 b o e hne)
    | ok b =>
      rw [em] at q
      intro p G' H' er' fr' np oo
      have q' : Post X.K io fr G0 H0 A0 own' Dn (post (g b)) := q
      rw [hp] at q'
      have f1 := f0.next er fr' er'
      refine q' _ G' H' ⟨er'.gh, f1.g0, f1.h0, f1.nw, ans_new hf ⟨p, rfl, f0.back er p np, oo⟩, fun z => ?_⟩
      obtain ⟨h1, h2⟩ := f1.bx z
      obtain ⟨t, e1, _, o⟩ := er'.ow 0 h1
      rw [hb b z] at e1
      cases e1
      rw [← h2]
      exact o
theorem bs_retO {x : Str} {px : Pos} (i : Nat) {a : A} {t b : D} (ht : getN ρ i = some t := by rfl) (hp : post a = .rt t b := by rfl) (hb : io = true → getN ρ 0 = some b := by first | (intro z; exact nomatch z) | (intro _; rfl)) (h0 : io = true → i ≠ 0 := by decide) (hi : i ∈ own := by decide) (hf : fr ≠ .fz := by exact fun z => nomatch z) (hN : X.N[i]? = some x := by rfl)
    (hv : Vis X.env.scope x := by first | exact Or.inl rfl | exact Or.inr (Or.inl rfl) | exact Or.inr (Or.inr rfl)) (hd : (x == ("__debug__" : Str)) = false := by decide) (hcd : (x == ("__classdict__" : Str)) = false := by decide) : BS X E io fr own ρ [.Return (some (.Name x px)) pos] (.ok a) post own' :=
  pss_weak (pss_one (ps_ret (pe_var hN hv hd hcd))) fun Dn σ H hq => by
    obtain ⟨G0, H0, A0, ad, G, er, f0, q⟩ := hq
    obtain ⟨t1, e1, es, o⟩ := er.ow i hi
    rw [ht] at e1
    cases e1
    have q' : Post X.K io fr G0 H0 A0 own' Dn (post a) := q
    rw [hp] at q'
    refine ⟨_, es, q' _ G H ⟨er.gh, f0.g0, f0.h0, f0.nw, ans_new hf ⟨ad i, rfl, ?_, o⟩, fun z => ?_⟩⟩
    · rcases f0.fs i hi with y | ⟨y1, y2⟩
      · exact y
      · obtain ⟨h1, h2⟩ := f0.bx y1
        exact absurd (er.inj i hi 0 h1 (y2.trans h2.symm)) (h0 y1)
    · obtain ⟨h1, h2⟩ := f0.bx z
      obtain ⟨u, e2, _, o2⟩ := er.ow 0 h1
      rw [hb z] at e2
      cases e2
      rw [← h2]
      exact o2
theorem bs_if {c : Expr} {s1 : List Stmt} {mc : R B} {vb : B → Bool} {env : B → En} {m1 m2 : B → R A} (hc : VB X E own ρ c mc vb env) (h1 : ∀ b, BS X E io fr own (env b) s1 (m1 b) post own') (h2 : ∀ b, BS X E io fr own (env b) rest (m2 b) post own') (hn : ∀ b a, m1 b = .ok a → ∀ ρ', post a ≠ .nx ρ') :
    BS X E io fr own ρ (.If c s1 [] pos :: rest) (mc.bind fun b => if vb b = true then m1 b else m2 b) post own' := by
  refine ⟨fun pins s σ H Dn I hq => ?_⟩
  obtain ⟨G0, H0, A0, ad, G, er, f, q⟩ := hq
  cases em : mc with
  | no => rw [em] at q; exact q.elim
  | ex c' =>
    refine (pss_cons (ps_if hc (pss_never (sts := s1)) pss_nil) (pss_never (sts := rest))).run pins s σ H Dn I ⟨ad, G, er, ?_⟩
    rw [em] at q ⊢
    exact fun H' s => q H' fun b o e hne => s _ _ (f.h0 b o e hne)
  | ok b =>
    rw [em] at q
    have q' : PostR X.K X.mg E io fr G0 H0 A0 own' (if vb b = true then m1 b else m2 b) post Dn := q
    refine (pss_cons (ps_if hc (h1 b) pss_nil) (h2 b)).run pins s σ H Dn I ⟨ad, G, er, ?_⟩
    rw [em]
    intro G' H' er' fr'
    have f' := f.next er fr' er'
    cases ev : vb b with
    | true =>
      rw [if_pos ev] at q'
      rw [if_pos rfl]
      refine ⟨G0, H0, A0, ad, G', er', f', ?_⟩
      cases e1 : m1 b with
      | no => rw [e1] at q'; exact q'.elim
      | ex c' => rw [e1] at q'; exact q'
      | ok a =>
        rw [e1] at q'
        have hn' := hn b a e1
        show Post _ _ _ _ _ _ _ _ (post a)
        have q2 : Post X.K io fr G0 H0 A0 own' Dn (post a) := q'
        cases ep : post a with
        | nx ρ' => exact absurd ep (hn' ρ')
        | rt t b => rw [ep] at q2; exact q2
        | bk ρ' => rw [ep] at q2; exact q2
    | false =>
      rw [if_neg (by rw [ev]; exact Bool.false_ne_true)] at q'
      rw [if_neg Bool.false_ne_true]
      exact ⟨G0, H0, A0, ad, G', er', f', q'⟩
theorem ss_if {c : Expr} {s1 s2 : List Stmt} {mc : R B} {vb : B → Bool} {env : B → En} {m1 m2 : B → R A} (hc : VB X E own ρ c mc vb env) (h1 : ∀ b, BS X E io fr own (env b) s1 (m1 b) post own') (h2 : ∀ b, BS X E io fr own (env b) s2 (m2 b) post own') :
    SS X E io fr own ρ (.If c s1 s2 pos) (mc.bind fun b => if vb b = true then m1 b else m2 b) post own' := by
  refine ⟨fun pins s σ H Dn I hq => ?_⟩
  obtain ⟨G0, H0, A0, ad, G, er, f, q⟩ := hq
  cases em : mc with
  | no => rw [em] at q; exact q.elim
  | ex c' =>
    refine (ps_if hc (pss_never (sts := s1)) (pss_never (sts := s2))).run pins s σ H Dn I ⟨ad, G, er, ?_⟩
    rw [em] at q ⊢
    exact fun H' s => q H' fun b o e hne => s _ _ (f.h0 b o e hne)
  | ok b =>
    rw [em] at q
    have q' : PostR X.K X.mg E io fr G0 H0 A0 own' (if vb b = true then m1 b else m2 b) post Dn := q
    refine (ps_if hc (h1 b) (h2 b)).run pins s σ H Dn I ⟨ad, G, er, ?_⟩
    rw [em]
    intro G' H' er' fr'
    have f' := f.next er fr' er'
    cases ev : vb b with
    | true =>
      rw [if_pos ev] at q'
      rw [if_pos rfl]
      exact ⟨G0, H0, A0, ad, G', er', f', q'⟩
    | false =>
      rw [if_neg (by rw [ev]; exact Bool.false_ne_true)] at q'
      rw [if_neg Bool.false_ne_true]
      exact ⟨G0, H0, A0, ad, G', er', f', q'⟩
end
end TL
namespace TL
open PySem PySem.Spec PyProof.Rows L2
def foldR {α J : Type} (u : D → R α) (mb : J → α → R J) : List D → J → R J
  | [], j => .ok j
  | d :: ds, j => (nox (u d)).bind fun a => (mb j a).bind fun j' => foldR u mb ds j'
def foldO {α J : Type} (u : D → R α) (mb : J → α → R (Oc J)) : List D → J → R (Oc J)
  | [], j => .ok (.nx j)
  | d :: ds, j => (nox (u d)).bind fun a => (mb j a).bind fun o => match o with
    | .nx j' => foldO u mb ds j'
    | .rt t b => .ok (.rt t b)
    | .bk j' => .ok (.nx j')
def postO {J : Type} (emb : J → En) : Oc J → Fin
  | .nx j => .nx (emb j)
  | .rt t b => .rt t b
  | .bk j => .bk (emb j)
theorem foldO_R {α J : Type} {u : D → R α} {mb : J → α → R J} : ∀ (ds : List D) (j : J), foldO u (fun j a => (mb j a).bind fun j' => .ok (.nx j')) ds j = (foldR u mb ds j).bind fun j' => .ok (.nx j')
  | [], j => rfl
  | d :: ds, j => by
    unfold foldO foldR
    cases nox (u d) with
    | no => rfl
    | ex c => rfl
    | ok a =>
      simp only [R.ok_bind]
      cases mb j a with
      | no => rfl
      | ex c => rfl
      | ok j' => simp only [R.ok_bind]; exact foldO_R ds j'
section
variable {X : Cx} {E : XK} {io : Bool} {fr : Md} {own own' own1 : List Nat} {ρ ρ' : En} {A B : Type} {st : Stmt} {rest : List Stmt} {post : A → Fin} {e : Expr} {pos : Pos}
theorem Fr0.base {G0 H0 G H : Hp} {A0 : Addr} {ad : Nat → Addr} (f : Fr0 io G0 H0 A0 own ad G H) : Fr0 io G H0 A0 own ad G H := ⟨Same.refl _, f.h0, fun _ h _ => h, f.fs, f.bx⟩
theorem Fr0.unbase {G0 H0 G H G2 H2 : Hp} {A0 : Addr} {ad ad2 : Nat → Addr} (f : Fr0 io G0 H0 A0 own1 ad G H) (f2 : Fr0 io G H0 A0 own ad2 G2 H2) : Fr0 io G0 H0 A0 own ad2 G2 H2 := ⟨f.g0.trans f2.g0, f2.h0, fun b h1 h2 => f2.nw b (f.nw b h1 h2) h2, f2.fs, f2.bx⟩
theorem RetOk.unbase {K : PySem.W.Frag} {G0 H0 G H G2 H2 : Hp} {A0 : Addr} {ad : Nat → Addr} {v : V} {t b : D} (f : Fr0 io G0 H0 A0 own1 ad G H) (r : RetOk K io fr G H0 A0 v G2 H2 t b) : RetOk K io fr G0 H0 A0 v G2 H2 t b := ⟨r.gh, f.g0.trans r.g0, r.h0, fun b h1 h2 => r.nw b (f.nw b h1 h2) h2, r.an, r.bx⟩
theorem bs_post {A' : Type} {sts : List Stmt} {m : R A} {f : A → A'} {post' : A' → Fin} (h : BS X E io fr own ρ sts m post own') (hp : ∀ a, post' (f a) = post a) : BS X E io fr own ρ sts (m.bind fun a => .ok (f a)) post' own' := pss_weak h fun Dn σ H hq => by
  obtain ⟨G0, H0, A0, ad, G, er, f0, q⟩ := hq
  refine ⟨G0, H0, A0, ad, G, er, f0, ?_⟩
  cases m with
  | no => exact q
  | ex c => exact q
  | ok a =>
    have q' : Post X.K io fr G0 H0 A0 own' Dn (post' (f a)) := q
    rw [hp] at q'
    exact q'
theorem ss_post {A' : Type} {m : R A} {f : A → A'} {post' : A' → Fin} (h : SS X E io fr own ρ st (m.bind fun a => .ok (f a)) post' own') (hp : ∀ a, post' (f a) = post a) : SS X E io fr own ρ st m post own' := ps_weak h fun Dn σ H hq => by
  obtain ⟨G0, H0, A0, ad, G, er, f0, q⟩ := hq
  refine ⟨G0, H0, A0, ad, G, er, f0, ?_⟩
  cases m with
  | no => exact q
  | ex c => exact q
  | ok a =>
    have q' : Post X.K io fr G0 H0 A0 own' Dn (post a) := q
    rw [← hp] at q'
    exact q'
theorem ss_forO {α J : Type} {tg iter : Expr} {body : List Stmt} {emb : J → En} {m : R B} {its : B → List D} {env : B → En} {sl : List Nat} {u : D → R α} {put : α → En → En} {mb : J → α → R (Oc J)} (j0 : B → J) (hpass : PassesOwn (model X.prog X.w) X.A X.env X.xe) (hcalm : X.calm = true)
    (hi : VI X E own ρ tg iter m its env) (hg : XG X tg sl u put) (hb : ∀ j a, BS X E io fr own (put a (emb j)) body (mb j a) (postO emb) own)
    (hsl : ∀ i ∈ sl, i ∉ own := by decide) (h0 : ∀ b, env b = emb (j0 b) := by intro _; rfl) (hs : ∀ x, foldedSetIterable iter X.env x = pure x := by intro _; rfl) :
    SS X E io fr own ρ (.For tg iter body [] pos) (m.bind fun b => foldO u mb (its b) (j0 b)) (postO emb) own := by
  refine ⟨fun pins s σ H Dn I hq => ?_⟩
  obtain ⟨G0, H0, A0, ad0, G, er, f, q⟩ := hq
  cases em : m with
  | no => rw [em] at q; exact q.elim
  | ex c' =>
    refine (ps_for (tb := fun _ _ _ => False) hpass hcalm hi hg (pss_never (sts := body)) hs).run pins s σ H Dn I ⟨ad0, G, er, ?_⟩
    rw [em] at q ⊢
    exact fun H' s => q H' fun b o e hne => s _ _ (f.h0 b o e hne)
  | ok b =>
    rw [em] at q
    have q' : PostR X.K X.mg E io fr G0 H0 A0 own (foldO u mb (its b) (j0 b)) (postO emb) Dn := q
    by_cases hnever : its b = [] ∧ False
    · exact hnever.2.elim
    let tb : TS := fun Dn σ H => ∃ j a, rdS X.K X.mg E io fr own (put a (emb j)) (mb j a) (postO emb) own Dn σ H
    have hbody : PSs X body tb := ⟨fun pins s σ H Dn I ⟨j, a, hq⟩ => (hb j a).run pins s σ H Dn I hq⟩
    refine (ps_for hpass hcalm hi hg hbody hs).run pins s σ H Dn I ⟨ad0, G, er, ?_⟩
    rw [em]
    intro J1 G1 H1 er1 fr1 io1
    have f1 := f.next er fr1 er1
    rw [h0] at er1
    generalize foldO u mb (its b) (j0 b) = res at q'
    refine ⟨fun i m σ H => m = (its b).length - i ∧ i ≤ (its b).length ∧ ∃ j ad G2, Er X.K own (emb j) ad σ G2 H ∧ Fr0 io G1 H0 A0 own ad G2 H ∧ PostR X.K X.mg E io fr G0 H0 A0 own (foldO u mb ((its b).drop i) j) (postO emb) Dn, ⟨_, rfl, Nat.zero_le _, j0 b, ad0, G1, er1, f1.base, q⟩, ?_⟩
    rintro i m1 σ1 H2 ⟨rfl, hi2, j, ad, G2, er2, f2, q2⟩
    by_cases hlt : i < (its b).length
    · right
      have hget := List.getElem?_eq_getElem hlt
      have hdrop : (its b).drop i = (its b)[i] :: (its b).drop (i + 1) := List.drop_eq_getElem_cons hlt
      rw [hdrop] at q2
      refine ⟨io1.go i H2 hlt (f2.g0.trans er2.gh), fun σ' H' => ∃ j ad G2, Er X.K own (emb j) ad σ' G2 H' ∧ Fr0 io G1 H0 A0 own ad G2 H' ∧ PostR X.K X.mg E io fr G0 H0 A0 own (foldO u mb ((its b).drop (i + 1)) j) (postO emb) Dn, fun σ' H' hN => ⟨(its b).length - (i + 1), by omega, rfl, hlt, hN⟩, fun x H' hy => ?_⟩
      obtain ⟨G3, fr3, r3⟩ := io1.yld i x G2 H2 H' (its b)[i] hget f2.g0 er2.gh hy
      have er3 := er_pure er2 fr3
      have f3 := f2.next er2 fr3.toO er3
      have q3 : PostR X.K X.mg E io fr G0 H0 A0 own ((nox (u (its b)[i])).bind fun a => (mb j a).bind fun o => match o with
        | .nx j' => foldO u mb ((its b).drop (i + 1)) j'
        | .rt t b => .ok (.rt t b)
        | .bk j' => .ok (.nx j')) (postO emb) Dn := q2
      cases eu : u (its b)[i] with
      | no => rw [eu] at q3; exact q3.elim
      | ex c => rw [eu] at q3; exact q3.elim
      | ok a =>
        rw [eu] at q3
        refine ⟨G3, _, a, er3.gh, r3, eu, fun ps hp => ?_⟩
        have er4 : Er X.K own (put a (emb j)) ad (putsS ps σ1) G3 H' := by
          rw [hp.eq]
          exact puts_er hp.rep (fun p hq => hsl _ (hp.sub p hq)) er3
        refine ⟨j, a, G1, H0, A0, ad, G3, er4, f3, ?_⟩
        have q4 : PostR X.K X.mg E io fr G0 H0 A0 own ((mb j a).bind fun o => match o with
          | .nx j' => foldO u mb ((its b).drop (i + 1)) j'
          | .rt t b => .ok (.rt t b)
          | .bk j' => .ok (.nx j')) (postO emb) Dn := q3
        cases eb : mb j a with
        | no => rw [eb] at q4; exact q4.elim
        | ex c => rw [eb] at q4; exact q4
        | ok o =>
          rw [eb] at q4
          cases o with
          | nx j' => exact fun ad' σ' G' H' er' f' => ⟨j', ad', G', er', f', q4⟩
          | rt t b => exact fun v G' H' r => q4 v G' H' (r.unbase f1)
          | bk j' => exact fun ad' σ' G' H' er' f' => q4 ad' σ' G' H' er' (f1.unbase f')
    · left
      have e : i = (its b).length := by omega
      subst e
      rw [List.drop_length] at q2
      exact ⟨io1.stop H2 (f2.g0.trans er2.gh), q2 ad σ1 G2 H2 er2 (f1.unbase f2)⟩
theorem ss_for {α J : Type} {tg iter : Expr} {body : List Stmt} {emb : J → En} {m : R B} {its : B → List D} {env : B → En} {sl : List Nat} {u : D → R α} {put : α → En → En} {mb : J → α → R J} (j0 : B → J) (hpass : PassesOwn (model X.prog X.w) X.A X.env X.xe) (hcalm : X.calm = true)
    (hi : VI X E own ρ tg iter m its env) (hg : XG X tg sl u put) (hb : ∀ j a, BS X E io fr own (put a (emb j)) body (mb j a) (fun j' => .nx (emb j')) own)
    (hsl : ∀ i ∈ sl, i ∉ own := by decide) (h0 : ∀ b, env b = emb (j0 b) := by intro _; rfl) (hs : ∀ x, foldedSetIterable iter X.env x = pure x := by intro _; rfl) :
    SS X E io fr own ρ (.For tg iter body [] pos) (m.bind fun b => foldR u mb (its b) (j0 b)) (fun j => .nx (emb j)) own := by
  refine ss_post (f := Oc.nx) (post' := postO emb) ?_ fun _ => rfl
  have h := ss_forO (pos := pos) (mb := fun j a => (mb j a).bind fun j' => .ok (Oc.nx j')) (emb := emb) j0 hpass hcalm hi hg (fun j a => bs_post (hb j a) fun _ => rfl) hsl h0 hs
  have e : (m.bind fun b => foldO u (fun j a => (mb j a).bind fun j' => .ok (.nx j')) (its b) (j0 b)) = ((m.bind fun b => foldR u mb (its b) (j0 b)).bind fun j => .ok (.nx j)) := by
    rw [R.bind_assoc]
    exact congrArg m.bind (funext fun b => foldO_R _ _)
  rw [← e]
  exact h
end
end TL
namespace TL
open PySem PySem.Spec PyProof.Rows L2
def tyN : D → Option String
  | .none => some "NoneType"
  | .bool _ => some "bool"
  | .int _ => some "int"
  | .str _ => some "str"
  | .list _ => some "list"
  | .tuple _ => some "tuple"
  | .dict ((.none, _) :: _) => none
  | .dict ((.tuple _, _) :: _) => none
  | .dict _ => some "dict"
def isA1 (T : String) (d : D) : Option Bool := (tyN d).bind fun n => kitB n T
def isAny (Ts : List String) (d : D) : Option Bool := match Ts with
  | [] => some false
  | T :: Ts => (isA1 T d).bind fun b => if b = true then some true else isAny Ts d
def isD (Ts : List String) (d : D) : R D := match isAny Ts d with
  | some b => .ok (.bool b)
  | none => .no
theorem tyX_of {K : PySem.W.Frag} {G H : Hp} {v : V} {d : D} {n : String} (s : Same G H) (r : Rep K G v d) (h : tyN d = some n) : TyX K H v (.type n) := by
  cases r with
  | non => cases h; exact .base .non
  | bl b => cases h; exact .base (.bl b)
  | int i => cases h; exact .base (.int i)
  | str x => cases h; exact .base (.str x)
  | lst e _ => cases h; exact .base (.lst (s _ _ e))
  | tup e _ =>
    cases h
    rcases e with ⟨u, e, o, _, rfl⟩ | ⟨o, its, n, e, c, _⟩
    · exact .fTuple (s _ _ e)
    · exact .kTuple e c
  | dK e ek _ =>
    have hn : n = "dict" := by
      rename_i kvs es _
      cases es with
      | nil => cases h; rfl
      | cons p ps =>
        cases kvs with
        | nil => cases ek
        | cons k ks =>
          have e1 : p.1 = keyD k.1 := by
            have := congrArg List.head? ek
            simpa using this
          obtain ⟨p1, p2⟩ := p
          simp only at e1
          subst e1
          rcases k with ⟨k | k, w⟩ <;> (cases h; rfl)
    subst hn
    rcases e with e | ⟨o, e⟩
    · exact .base (.dK (s _ _ e))
    · exact .fDict (s _ _ e)
  | dT e ek _ =>
    rename_i kvs es _
    obtain ⟨xs, _, rfl, nx, _⟩ := e
    cases xs with
    | nil => exact absurd rfl nx
    | cons k ks =>
      cases es with
      | nil => cases ek
      | cons p ps =>
        have e1 : p.1 = .tuple ((k.1.map Sum.inl).map keyD) := by
          have := congrArg List.head? ek
          simpa [seenT] using this
        obtain ⟨p1, p2⟩ := p
        simp only at e1
        subst e1
        cases h
  | scr _ => cases h
  | exc => cases h
section
variable {X : Cx} {E : XK} {ρ : En} {a b : Expr} {m : R D} {pos : Pos}
theorem isD_ty {Ts : List String} {d : D} {t : D} (h : isD Ts d = .ok t) : ∃ b, isAny Ts d = some b ∧ t = .bool b := by
  unfold isD at h
  cases e : isAny Ts d with
  | none => rw [e] at h; cases h
  | some b => rw [e] at h; cases h; exact ⟨b, rfl, rfl⟩
theorem isD_ex {Ts : List String} {d : D} {c : Str} : isD Ts d ≠ .ex c := fun h => by
  unfold isD at h
  cases e : isAny Ts d with
  | none => rw [e] at h; cases h
  | some b => rw [e] at h; cases h
theorem ep_isi {T : Str} {n : String} {p p2 : Pos} (hm : X.mg "isinstance" = none) (hT : X.mg T = none) (ha : XP X E ρ a m) (hv : bootBuiltins T = some (.type n) := by decide +kernel) (hT2 : tyN .none = some "NoneType" := by rfl) (hg : Gl X "isinstance" := by rfl) (hgT : Gl X T := by rfl) (hn : T ≠ "__name__" := by decide) (hdb : (T == ("__debug__" : Str)) = false := by decide)
    (he : starEach [a, .Name T p2] X.env = (false, eval a X.env) :: starEach [.Name T p2] X.env := by rfl) (he2 : starEach [.Name T p2] X.env = (false, eval (.Name T p2) X.env) :: starEach [] X.env := by rfl) (hpl : (backTo pos (starEach [.Name T p2] X.env)).any (·.1) = false := by rfl) :
    XP X E ρ (.Call (.Name "isinstance" p) [a, .Name T p2] [] pos) (m.bind fun d => isD [n] d) := by
  refine pe_weak (pe_callB call_isi hg hm (by decide +kernel) (pa_cons ha (pa_cons (pe_bltn (v := .ty n) hgT hT hv rfl hn hdb) pa_nil he2) he) (by decide) (by decide) he hpl) fun σ H Q ⟨G, s, ep, q⟩ => ⟨G, s, ep, ?_⟩
  cases m with
  | no => exact q
  | ex c => exact q
  | ok d =>
    intro v G1 H1 fr r
    have q' : PostP Rep X.K X.mg E G H (isD [n] d) Q := q
    cases ei : isD [n] d with
    | no => rw [ei] at q'; exact q'.elim
    | ex c => exact absurd ei isD_ex
    | ok t =>
      rw [ei] at q'
      obtain ⟨b, e1, rfl⟩ := isD_ty ei
      have : ∃ k, tyN d = some k ∧ kitB k n = some b := by
        unfold isAny isA1 at e1
        cases ty : tyN d with
        | none => rw [ty] at e1; cases e1
        | some k =>
          refine ⟨k, rfl, ?_⟩
          rw [ty] at e1
          simp only [Option.bind_some] at e1
          cases hk : kitB k n with
          | none => rw [hk] at e1; cases e1
          | some c =>
            rw [hk] at e1
            simp only [Option.bind_some] at e1
            cases c
            · simp only [isAny] at e1
              exact e1
            · exact e1
      obtain ⟨k, ty, hk⟩ := this
      exact ⟨v, .ty n, .type k, .type n, b, rfl, .ty n, tyX_of fr.gh r ty, kit_ty hk, q' _ G1 H1 fr (.bl b)⟩
end
end TL
namespace TL
open PySem PySem.Spec PyProof.Rows L2
def cutD (xs : List D) (lo hi : Option Int) : List D := (xs.drop (HT.sIx xs.length 0 lo)).take (HT.sIx xs.length xs.length hi - HT.sIx xs.length 0 lo)
def pySl (d : D) (lo hi : Option Int) : R D := match d with
  | .list xs => .ok (.list (cutD xs lo hi))
  | .tuple xs => .ok (.tuple (cutD xs lo hi))
  | .str z => if z.length ≤ sizeLine then .ok (.str (cutS z lo hi)) else .no
  | _ => .no
def partD : D → R (Option Int)
  | .int i => .ok (some i)
  | _ => .no
theorem RepAll.cutD {K : PySem.W.Frag} {G : Hp} {vs : List V} {ds : List D} (h : RepAll K G vs ds) (lo hi : Option Int) : RepAll K G (cutV vs lo hi) (TL.cutD ds lo hi) := by
  unfold cutV TL.cutD
  rw [← h.length]
  exact (h.drop _).take _
theorem cutV_whole {xs : List V} {lo hi : Option Int} (h : HT.sIx xs.length 0 lo = 0 ∧ HT.sIx xs.length xs.length hi = xs.length) : cutV xs lo hi = xs := by
  unfold cutV
  rw [h.1, h.2, List.drop_zero, Nat.sub_zero, List.take_length]
section
variable {X : Cx} {E : XK} {ρ : En} {a b : Expr} {m : R D} {pos p2 : Pos}
def rdO (K : PySem.W.Frag) (mg : Str → Option Value) (E : XK) (ρ : En) (m : R (Option Int)) : TO := fun σ H Q => ∃ G, Same G H ∧ Ep K G ρ σ ∧ match m with
  | .no => False
  | .ex c => ∀ H', Same H H' → E (cls mg c) none H'
  | .ok o => ∀ G' H', Fr G H G' H' → Q o H'
abbrev XO (X : Cx) (E : XK) (ρ : En) (e : Option Expr) (m : R (Option Int)) : Prop := PO X e (rdO X.K X.mg E ρ m)
theorem po_weak {e : Option Expr} {t t' : TO} (h : PO X e t) (f : ∀ σ H Q, t' σ H Q → t σ H Q) : PO X e t' := ⟨fun pins s σ H Q I q => h.run pins s σ H Q I (f _ _ _ q)⟩
theorem xo_none : XO X E ρ none (.ok none) := po_weak po_none fun σ H Q ⟨G, s, ep, q⟩ => q G H (Fr.refl s)
theorem xo_some (h : XP X E ρ a m) : XO X E ρ (some a) (m.bind partD) := po_weak (po_some h) fun σ H Q ⟨G, s, ep, q⟩ => ⟨G, s, ep, by
  cases m with
  | no => exact q
  | ex c => exact q
  | ok d =>
    intro v G1 H1 fr r
    cases r with
    | int i => exact ⟨i, rfl, q G1 H1 fr⟩
    | _ => exact q.elim⟩
theorem sl_any : SlR X (fun x lo hi H Q => (rSlL X.K x lo hi H Q ∨ rSlU X.K x lo hi H Q) ∨ rSlS x lo hi H Q) := (sl_list.or sl_tupU).or sl_str
theorem xp_slice {lo hi : Option Expr} {ml mh : R (Option Int)} (he : XP X E ρ a m) (hl : XO X E ρ lo ml) (hh : XO X E ρ hi mh) : XP X E ρ (.Subscript a (.Slice lo hi none p2) pos) (m.bind fun d => ml.bind fun l => mh.bind fun h => pySl d l h) :=
  pe_weak (pe_slice sl_any he hl hh) fun σ H Q ⟨G, s, ep, q⟩ => ⟨G, s, ep, by
    refine (PostP.bind (Rp := Rep) q).mono fun x H1 ⟨G1, d, fr1, r1, em, q1⟩ => ⟨G1, fr1.gh, ep.mono fr1.gg, ?_⟩
    cases ml with
    | no => exact q1
    | ex c => exact q1
    | ok l =>
      intro G2 H2 fr2
      refine ⟨G2, fr2.gh, (ep.mono fr1.gg).mono fr2.gg, ?_⟩
      have q2 : PostP Rep X.K X.mg E G1 H1 (mh.bind fun h => pySl d l h) Q := q1
      cases mh with
      | no => exact q2
      | ex c => exact fun H' s' => q2 H' (fr2.hh.trans s')
      | ok h =>
        intro G3 H3 fr3
        have q3 : PostP Rep X.K X.mg E G1 H1 (pySl d l h) Q := q2
        have fr := fr2.trans fr3
        cases r1 with
        | lst e ra => exact .inl (.inl ⟨_, _, rfl, same_lst (fr.gg.trans fr.gh) e, fun p np => q3 _ _ _ (fr.trans (Fr.new fr.gh np)) (rep_newL fr.gh np ((ra.cutD l h).mono fr.gg))⟩)
        | tup e ra =>
          refine .inl (.inr ⟨_, _, rfl, same_seqT (fr.gg.trans fr.gh) e, fun hw => ?_, fun _ p u np tu => q3 _ _ _ (fr.trans (Fr.new fr.gh np)) (rep_newT fr.gh np tu ((ra.cutD l h).mono fr.gg))⟩)
          refine q3 _ G3 H3 fr (.tup (e.same fr.gg) ?_)
          have := ra.cutD l h
          rw [cutV_whole hw] at this
          exact this.mono fr.gg
        | str z =>
          simp only [pySl] at q3
          split at q3
          · rename_i hz
            exact .inr ⟨z, rfl, hz, q3 _ G3 H3 fr (.str _)⟩
          · exact q3.elim
        | _ => exact q3.elim⟩
def rLtF (K : PySem.W.Frag) (mg : Str → Option Value) (E : XK) (f : List D → R D) : List V → Hp → VK → Prop := fun xs H Q => ∃ G ts, Same G H ∧ RepAll K G xs ts ∧ PostF K mg E G H (f ts) Q
abbrev CallF (X : Cx) (E : XK) (g : Value) (f : List D → R D) : Prop := CallR X g (rLtF X.K X.mg E f)
theorem PostF.newL {K : PySem.W.Frag} {mg : Str → Option Value} {E : XK} {G H : Hp} {Q : VK} {vs : List V} {ts : List D} (s : Same G H) (r : RepAll K G vs ts) (q : PostF K mg E G H (.ok (.list ts)) Q) : ∀ p, H p = none → Q (.ref p) (upd H p (.lst vs)) := fun p np => q p G _ (Fr.newU s np) np (own_new s np r)
theorem cf_sorted (hu : X.A.units + 66 < cLine) : CallF X E (.builtin "sorted") pySorted := by
  intro pins s σ H vs us Q I r ⟨G, ts, sa, ra, q⟩
  cases em : pySorted ts with
  | no => rw [em] at q; exact q.elim
  | ex c =>
    unfold pySorted at em
    split at em <;> first | (split at em <;> cases em) | cases em
  | ok t => 
    match ts, em with
    | [.list xs], em =>
      obtain ⟨v, rfl, r1⟩ := repAll1 ra
      have em0 := em
      simp only [pySorted] at em
      split at em
      · rename_i hs
        cases em
        obtain ⟨al, so, ft⟩ := sortable_spec hs
        cases r1 with
        | lst h a =>
          rename_i l ws
          obtain ⟨its, rv, pl, hz⟩ := I.list (same_lst sa h)
          rw [Vals.ref1 r]
          obtain ⟨e1, e2⟩ := reads_all I sa a rv ft
          have hzip := zip_snd a.length
          have hl : (ws.zip xs).length = ws.length := by
            rw [List.length_zip, a.length]
            omega
          refine PySem.W.sorted_data (enc := fun b : V × D => b.2) pl.isList e1 e2 (by rw [hzip]; exact al) (by rw [hzip]; exact so) (by rw [hl]; exact hz) (fun b hb => ?_) fun out ho hout => ?_
          · have : b.2 ∈ xs := by
              rw [← hzip]
              exact List.mem_map.mpr ⟨b, hb, rfl⟩
            have := fit_depth (List.all_eq_true.mp ft _ this)
            omega
          · obtain ⟨v1, v2⟩ := each_vals hout
            have em : ((ws.zip xs).mergeSort (PySem.W.dataLe false fun b => b.2)).map (·.2) = sortD xs := by
              have := PySem.W.sort_maps (r := PySem.W.dataLe false fun b : V × D => b.2) (s := PySem.W.dataLe false fun d : D => d) (fun b : V × D => b.2) (l := ws.zip xs) (fun _ _ _ _ => rfl)
              rw [this, hzip]
              rfl
            rw [em] at v2
            obtain ⟨ep, he⟩ := sortedAll_at s.heap its out.toArray
            have hlen : (((ws.zip xs).mergeSort (PySem.W.dataLe false fun b => b.2)).map (·.1)).length ≤ sizeLine := by
              rw [List.length_map, List.length_mergeSort, hl]
              exact hz
            have np : H (s.heap.objs.size + 1) = none := I.hok.fresh (Nat.le_succ _)
            rw [em0] at q
            exact ⟨.ref _, upd H (s.heap.objs.size + 1) (.lst _), I.laid (t' := s.toks) (fun _ _ => sortedAll_old) (Nat.le_succ _) ⟨hlen, out, ep, v1, he⟩, rfl, q.newL sa v2 _ np⟩
      · cases em
    | [.tuple xs], em =>
      obtain ⟨v, rfl, r1⟩ := repAll1 ra
      have em0 := em
      simp only [pySorted] at em
      split at em
      · rename_i hs
        cases em
        obtain ⟨al, so, ft⟩ := sortable_spec hs
        cases r1 with
        | tup h a =>
          rename_i l ws
          obtain ⟨its, rv, pl, hz⟩ := I.tuple (same_seqT sa h)
          rw [Vals.ref1 r]
          obtain ⟨e1, e2⟩ := reads_all I sa a rv ft
          have hzip := zip_snd a.length
          have hl : (ws.zip xs).length = ws.length := by
            rw [List.length_zip, a.length]
            omega
          refine PySem.W.sortedT_data (enc := fun b : V × D => b.2) pl e1 e2 (by rw [hzip]; exact al) (by rw [hzip]; exact so) (by rw [hl]; exact hz) (fun b hb => ?_) fun out ho hout => ?_
          · have : b.2 ∈ xs := by
              rw [← hzip]
              exact List.mem_map.mpr ⟨b, hb, rfl⟩
            have := fit_depth (List.all_eq_true.mp ft _ this)
            omega
          · obtain ⟨v1, v2⟩ := each_vals hout
            have em : ((ws.zip xs).mergeSort (PySem.W.dataLe false fun b => b.2)).map (·.2) = sortD xs := by
              have := PySem.W.sort_maps (r := PySem.W.dataLe false fun b : V × D => b.2) (s := PySem.W.dataLe false fun d : D => d) (fun b : V × D => b.2) (l := ws.zip xs) (fun _ _ _ _ => rfl)
              rw [this, hzip]
              rfl
            rw [em] at v2
            obtain ⟨ep, he⟩ := sortedAll_at s.heap its out.toArray
            have hlen : (((ws.zip xs).mergeSort (PySem.W.dataLe false fun b => b.2)).map (·.1)).length ≤ sizeLine := by
              rw [List.length_map, List.length_mergeSort, hl]
              exact hz
            have np : H (s.heap.objs.size + 1) = none := I.hok.fresh (Nat.le_succ _)
            rw [em0] at q
            exact ⟨.ref _, upd H (s.heap.objs.size + 1) (.lst _), I.laid (t' := s.toks) (fun _ _ => sortedAll_old) (Nat.le_succ _) ⟨hlen, out, ep, v1, he⟩, rfl, q.newL sa v2 _ np⟩
      · cases em
    | [.none], em | [.bool _], em | [.int _], em | [.dict _], em | [.str _], em | [], em => cases em
    | _ :: _ :: _, em => simp only [pySorted] at em; cases em
theorem xf_callB {x : Str} {p : Pos} {id : String} {es : List Expr} {mk : CP} {f : List D → R D} (hc : CallF X E (.builtin id) f) (hm : X.mg x = none) (ha : XAk X E ρ (a :: es) mk) (hv : bootBuiltins x = some (.builtin id) := by decide +kernel) (hg : Gl X x := by rfl) (hn : x ≠ "__name__" := by decide)
    (hdb : (x == ("__debug__" : Str)) = false := by decide) (he : starEach (a :: es) X.env = (false, eval a X.env) :: starEach es X.env := by rfl) (hpl : (backTo pos (starEach es X.env)).any (·.1) = false := by rfl) : XF X E ρ (.Call (.Name x p) (a :: es) [] pos) (mk D f) := by
  obtain ⟨m, e, _, h⟩ := ha
  rw [e]
  refine pe_weak (pe_callB hc hg hm hv h hn hdb he hpl) fun σ H Q hq => ?_
  obtain ⟨G, s, ep, q⟩ := hq
  refine ⟨G, s, ep, ?_⟩
  cases m with
  | no => exact q
  | ex c => exact q
  | ok ts =>
    intro vs G1 H1 fr r
    refine ⟨G1, ts, fr.gh, r, ?_⟩
    have q' : PostF X.K X.mg E G H (f ts) Q := q
    cases ef : f ts with
    | no => rw [ef] at q'; exact q'.elim
    | ex c => rw [ef] at q'; exact fun H' s' => q' H' (fr.hh.trans s')
    | ok t =>
      rw [ef] at q'
      exact fun p G2 H2 fr2 np o => q' p G2 H2 (fr.trans fr2) (by
        cases z : H p with
        | none => rfl
        | some o => rw [fr.hh _ _ z] at np; cases np) o
theorem xf_callT {x : Str} {p : Pos} {T : String} {es : List Expr} {mk : CP} {f : List D → R D} (hc : CallF X E (.type T) f) (hm : X.mg x = none) (ha : XAk X E ρ (a :: es) mk) (hv : bootBuiltins x = some (.type T) := by decide +kernel) (hg : Gl X x := by rfl) (hn : x ≠ "__name__" := by decide)
    (hdb : (x == ("__debug__" : Str)) = false := by decide) (he : starEach (a :: es) X.env = (false, eval a X.env) :: starEach es X.env := by rfl) (hpl : (backTo pos (starEach es X.env)).any (·.1) = false := by rfl) : XF X E ρ (.Call (.Name x p) (a :: es) [] pos) (mk D f) := by
  obtain ⟨m, e, _, h⟩ := ha
  rw [e]
  refine pe_weak (pe_callTy hc hg hm hv h hn hdb he hpl) fun σ H Q hq => ?_
  obtain ⟨G, s, ep, q⟩ := hq
  refine ⟨G, s, ep, ?_⟩
  cases m with
  | no => exact q
  | ex c => exact q
  | ok ts =>
    intro vs G1 H1 fr r
    refine ⟨G1, ts, fr.gh, r, ?_⟩
    have q' : PostF X.K X.mg E G H (f ts) Q := q
    cases ef : f ts with
    | no => rw [ef] at q'; exact q'.elim
    | ex c => rw [ef] at q'; exact fun H' s' => q' H' (fr.hh.trans s')
    | ok t =>
      rw [ef] at q'
      exact fun p G2 H2 fr2 np o => q' p G2 H2 (fr.trans fr2) (by
        cases z : H p with
        | none => rfl
        | some o => rw [fr.hh _ _ z] at np; cases np) o
def rdRg (K : PySem.W.Frag) (mg : Str → Option Value) (E : XK) (ρ : En) (m : R (Int × Int)) : L2.St → Hp → (Int → Int → Hp → Prop) → Prop := fun σ H Q => ∃ G, Same G H ∧ Ep K G ρ σ ∧ match m with
  | .no => False
  | .ex c => ∀ H', Same H H' → E (cls mg c) none H'
  | .ok p => ∀ G' H', Fr G H G' H' → Q p.1 p.2 H'
def XRg (X : Cx) (E : XK) (ρ : En) (e : Expr) (m : R (Int × Int)) : Prop := PRg X e (rdRg X.K X.mg E ρ m)
def asInt : D → R Int
  | .int i => .ok i
  | _ => .no
theorem prg_weak {e : Expr} {t t' : L2.St → Hp → (Int → Int → Hp → Prop) → Prop} (h : PRg X e t) (f : ∀ σ H Q, t' σ H Q → t σ H Q) : PRg X e t' := fun pins s σ H Q I q => h pins s σ H Q I (f _ _ _ q)
theorem xrg_1 {p : Pos} (hm : X.mg "range" = none) (ha : XP X E ρ a m) (hg : Gl X "range" := by rfl) (na : starEach [a] X.env = (false, eval a X.env) :: starEach [] X.env := by rfl) : XRg X E ρ (.Call (.Name "range" p) [a] [] pos) (m.bind fun x => (asInt x).bind fun n => .ok (0, n)) :=
  prg_weak (prg_1 hg hm ha na) fun σ H Q ⟨G, s, ep, q⟩ => ⟨G, s, ep, by
    cases m with
    | no => exact q
    | ex c => exact q
    | ok d =>
      intro v G1 H1 fr r
      cases r with
      | int i => exact ⟨i, rfl, q G1 H1 fr⟩
      | _ => exact q.elim⟩
def rgOk (a b : Int) : Bool := decide (-(2 ^ 62) ≤ a ∧ a < 2 ^ 62 ∧ -(2 ^ 62) ≤ b ∧ b < 2 ^ 62 ∧ (b - a).toNat ≤ 2 ^ 24)
def rgL (p : Int × Int) : R (List D) := if rgOk p.1 p.2 = true then .ok (upto p.1 (p.2 - p.1).toNat) else .no
theorem rg_rep {K : PySem.W.Frag} {G : Hp} {a b : Int} : RepAll K G (rgV a b) (upto a (b - a).toNat) := by
  unfold rgV upto
  have key : ∀ l : List Nat, RepAll K G (l.map fun i : Nat => V.int (a + (i : Nat))) (l.map fun k : Nat => (PyData.int (a + k))) := by
    intro l
    induction l with
    | nil => exact .nil
    | cons x l ih => exact .cons (.int _) ih
  exact key _
theorem xf_listRg {e : Expr} {mr : R (Int × Int)} {p : Pos} (hm : X.mg "list" = none) (he : XRg X E ρ e mr) (hc : X.calm = true := by rfl) (hg : Gl X "list" := by rfl) (na : starEach [e] X.env = (false, eval e X.env) :: starEach [] X.env := by rfl) : XF X E ρ (.Call (.Name "list" p) [e] [] pos) (mr.bind fun q => (rgL q).bind fun ts => .ok (.list ts)) :=
  pe_weak (pe_listRg hc hg hm he na) fun σ H Q ⟨G, s, ep, q⟩ => ⟨G, s, ep, by
    cases mr with
    | no => exact q
    | ex c => exact q
    | ok r =>
      intro G1 H1 fr
      have q' : PostF X.K X.mg E G H ((rgL r).bind fun ts => .ok (.list ts)) Q := q
      unfold rgL at q'
      by_cases hr : rgOk r.1 r.2 = true
      · rw [if_pos hr] at q'
        refine ⟨by unfold RgOk; exact of_decide_eq_true hr, fun p np => ?_⟩
        have hp : H p = none := by
          cases z : H p with
          | none => rfl
          | some o => rw [fr.hh _ _ z] at np; cases np
        exact q' p G1 _ (fr.trans (Fr.newU fr.gh np)) hp (own_new fr.gh np rg_rep)
      · rw [if_neg hr] at q'
        exact q'.elim⟩
end
end TL
namespace TL
open PySem PySem.Spec PyProof.Rows L2
def s5 : Nat → Nat
  | 0 => 0
  | k + 1 => 5 * s5 k + 1
theorem s5_add (a : Nat) : ∀ b, s5 (a + b) = 5 ^ b * s5 a + s5 b
  | 0 => by simp [s5]
  | b + 1 => by
    show 5 * s5 (a + b) + 1 = 5 ^ (b + 1) * s5 a + (5 * s5 b + 1)
    rw [s5_add a b, Nat.pow_succ, Nat.mul_add, Nat.mul_comm (5 ^ b) 5, Nat.mul_assoc, Nat.add_assoc]
theorem s5_par : ∀ k, s5 k % 2 = k % 2
  | 0 => rfl
  | k + 1 => by
    have := s5_par k
    show (5 * s5 k + 1) % 2 = _
    omega
theorem pow5 : ∀ e, 5 ^ e % 4 = 1
  | 0 => rfl
  | e + 1 => by
    have := pow5 e
    rw [Nat.pow_succ]
    omega
theorem pow5_half (e : Nat) : ∃ o, 5 ^ e + 1 = 2 * (2 * o + 1) := by
  have := pow5 e
  exact ⟨5 ^ e / 4, by omega⟩
theorem s5_double (e : Nat) : ∃ o, s5 (e + e) = 2 * (s5 e * (2 * o + 1)) := by
  obtain ⟨o, ho⟩ := pow5_half e
  refine ⟨o, ?_⟩
  have h : s5 (e + e) = (5 ^ e + 1) * s5 e := by rw [s5_add, Nat.add_mul, Nat.one_mul]
  rw [h, ho, Nat.mul_assoc, Nat.mul_comm (2 * o + 1)]
theorem odd_dvd {n x o : Nat} (h : 2 ^ n ∣ x * (2 * o + 1)) : 2 ^ n ∣ x := by
  refine Nat.Coprime.dvd_of_dvd_mul_right ?_ h
  refine Nat.Coprime.pow_left n ?_
  show Nat.gcd 2 (2 * o + 1) = 1
  rw [Nat.gcd_rec, show (2 * o + 1) % 2 = 1 by omega]
  rfl
theorem s5_dvd : ∀ n d, 2 ^ n ∣ s5 d ↔ 2 ^ n ∣ d
  | 0, d => by simp
  | n + 1, d => by
    have key : ∀ e, 2 ^ (n + 1) ∣ s5 (e + e) ↔ 2 ^ (n + 1) ∣ e + e := fun e => by
      obtain ⟨o, ho⟩ := s5_double e
      have t : ∀ y, 2 ^ (n + 1) ∣ 2 * y ↔ 2 ^ n ∣ y := fun y => by
        rw [Nat.pow_succ, Nat.mul_comm (2 ^ n) 2]
        exact Nat.mul_dvd_mul_iff_left (by decide)
      rw [ho, show e + e = 2 * e by omega, t, t]
      exact ⟨fun h => (s5_dvd n e).mp (odd_dvd h), fun h => Nat.dvd_trans ((s5_dvd n e).mpr h) (Nat.dvd_mul_right _ _)⟩
    have ev : ∀ x, 2 ^ (n + 1) ∣ x → x % 2 = 0 := fun x h => by
      have : (2 : Nat) ∣ x := Nat.dvd_trans ⟨2 ^ n, by rw [Nat.pow_succ, Nat.mul_comm]⟩ h
      omega
    by_cases p : d % 2 = 0
    · have e : d = d / 2 + d / 2 := by omega
      rw [e]
      exact key _
    · have := s5_par d
      exact ⟨fun h => by have := ev _ h; omega, fun h => by have := ev _ h; omega⟩
theorem lcg_s5 (m : Nat) : ∀ k, lcgN m k = s5 k % (m + 1)
  | 0 => by simp [lcgN, s5]
  | k + 1 => by
    show (lcgN m k * 5 + 1) % (m + 1) = (5 * s5 k + 1) % (m + 1)
    rw [lcg_s5 m k, Nat.mul_comm 5, Nat.add_mod, Nat.mod_mul_mod, ← Nat.add_mod]
def Mk (m : Nat) : Prop := ∃ n, m + 1 = 2 ^ n ∧ 1 ≤ n
theorem Mk.odd {m : Nat} (h : Mk m) : m % 2 = 1 := by
  obtain ⟨n, e, hn⟩ := h
  obtain ⟨k, rfl⟩ : ∃ k, n = k + 1 := ⟨n - 1, by omega⟩
  rw [Nat.pow_succ] at e
  omega
theorem Mk.inj {m : Nat} (h : Mk m) {i j : Nat} (hij : i < j) (hj : j ≤ m) : lcgN m i ≠ lcgN m j := by
  intro e
  obtain ⟨n, en, _⟩ := h
  obtain ⟨d, rfl⟩ : ∃ d, j = d + i := ⟨j - i, by omega⟩
  rw [lcg_s5, lcg_s5, s5_add, en] at e
  have d1 : 2 ^ n ∣ 5 ^ i * s5 d := by
    have := (Nat.sub_mod_eq_zero_of_mod_eq e.symm)
    rw [Nat.add_sub_cancel] at this
    exact Nat.dvd_of_mod_eq_zero this
  have d2 : 2 ^ n ∣ s5 d := by
    obtain ⟨o, ho⟩ : ∃ o, 5 ^ i = 2 * o + 1 := ⟨5 ^ i / 2, by have := pow5 i; omega⟩
    rw [ho, Nat.mul_comm] at d1
    exact odd_dvd d1
  have d3 := Nat.le_of_dvd (by omega) ((s5_dvd n d).mp d2)
  omega
theorem Mk.any {m : Nat} (h : Mk m) {j : Nat} (hj : j ≤ m) : ∃ b, b ≤ m ∧ lcgN m b = j := by
  apply Classical.byContradiction
  intro no
  have nd : ((List.range (m + 1)).map (lcgN m)).Nodup := by
    refine List.pairwise_map.mpr (List.Pairwise.imp_of_mem (fun {a b} _ hb hab => h.inj hab (Nat.le_of_lt_succ (List.mem_range.mp hb))) List.pairwise_lt_range)
  have := nat_nodup_len _ ((List.range (m + 1)).erase j) nd fun x hx => by
    obtain ⟨b, hb, rfl⟩ := List.mem_map.mp hx
    have hbm := Nat.le_of_lt_succ (List.mem_range.mp hb)
    refine (List.mem_erase_of_ne fun e => no ⟨b, hbm, e⟩).mpr (List.mem_range.mpr ?_)
    rw [lcg_s5]
    exact Nat.mod_lt _ (Nat.succ_pos _)
  rw [List.length_map, List.length_range, List.length_erase_of_mem (List.mem_range.mpr (Nat.lt_succ_of_le hj)), List.length_range] at this
  omega
theorem Mk.again {m : Nat} (h : Mk m) (k : Nat) : lcgN m (m + 1 + k) = lcgN m k := by
  obtain ⟨n, en, _⟩ := h
  have z : 2 ^ n ∣ s5 (2 ^ n) := (s5_dvd n _).mpr (Nat.dvd_refl _)
  obtain ⟨q, hq⟩ := z
  rw [lcg_s5, lcg_s5, s5_add, en, hq, Nat.mul_left_comm, Nat.mul_add_mod]
theorem Mk.round {m : Nat} (h : Mk m) {i j : Nat} (hi : i ≤ m) (hj : j ≤ m) : ∃ k, k ≤ m ∧ lcgI m i k = j := by
  obtain ⟨a, ha, rfl⟩ := h.any hi
  obtain ⟨b, hb, rfl⟩ := h.any hj
  by_cases c : a ≤ b
  · exact ⟨b - a, by omega, by rw [lcgN_add, show a + (b - a) = b by omega]⟩
  · exact ⟨b + (m + 1) - a, by omega, by rw [lcgN_add, show a + (b + (m + 1) - a) = m + 1 + b by omega, h.again]⟩
theorem Mk.run {m : Nat} (hm : Mk m) (h : Int) {j : Nat} (hj : j ≤ m) : ∃ n, n ≤ m + 12 ∧ runI m (SetTable.bits h) n = j := by
  obtain ⟨k, hk, e⟩ := hm.round (runI_le m (SetTable.bits h) 12) hj
  exact ⟨12 + k, by omega, (runI_tail (bits_lt h) k).trans e⟩
theorem Mk.meets {m : Nat} (hm : Mk m) (h : Int) {j : Nat} (hj : j ≤ m) : ∃ k, k < 10 * SetTable.turns m ∧ way m h k = j := by
  obtain ⟨n, hn, e⟩ := hm.run h hj
  obtain ⟨k, hk, e2⟩ := run_nth m (SetTable.bits h) n
  have ht : SetTable.turns m = m + 15 := rfl
  exact ⟨k, by omega, (congrArg SetTable.Probe.j e2).trans e⟩
theorem way_in (m : Nat) (h : Int) (k : Nat) : way m h k ≤ m := by
  have z : SetTable.bits h % (m + 1) ≤ m := Nat.le_of_lt_succ (Nat.mod_lt _ (Nat.succ_pos m))
  have r := runEnd_bd z
  have q := nth_in k (runAt m (SetTable.bits h % (m + 1)) (SetTable.bits h)) (m := m) (by simp only [runAt]; omega)
  exact Nat.le_trans (Nat.le_add_right _ _) q
structure Tbl (t : SetTable) (hs : List Int) : Prop where
  up : Ris t.place.toList
  nod : t.dummies = #[]
  many : t.place.size = hs.length
  msk : Mk t.mask
  found : ∀ (i : Nat) (h : Int) (j : Nat), hs[i]? = some h → t.place.toList[i]? = some j → ∃ k, way t.mask h k = j ∧ ∀ k', k' < k → way t.mask h k' ∈ t.place.toList
section
variable {t : SetTable} {hs : List Int}
theorem Tbl.first (T : Tbl t hs) (room : hs.length ≤ t.mask) (h : Int) : ∃ n, n < 10 * SetTable.turns t.mask ∧ way t.mask h n ∉ t.place.toList ∧ ∀ k, k < n → way t.mask h k ∈ t.place.toList := by
  have le : t.place.toList.length = hs.length := T.many
  obtain ⟨j, hj, hn⟩ := st_missing t.place.toList (t.mask + 1) (by omega)
  obtain ⟨k, hk, e⟩ := T.msk.meets h (Nat.le_of_lt_succ hj)
  obtain ⟨n, h1, h2, h3⟩ := st_least (p := fun k => way t.mask h k ∉ t.place.toList) k (e ▸ hn)
  exact ⟨n, by omega, h2, fun k' z => Classical.not_not.mp (h3 k' z)⟩
theorem Tbl.ahead (T : Tbl t hs) {h : Int} {n i j : Nat} (free : way t.mask h n ∉ t.place.toList) (hi : hs[i]? = some h) (hj : t.place.toList[i]? = some j) : ∃ k, k < n ∧ way t.mask h k = j := by
  obtain ⟨k, e, below⟩ := T.found i h j hi hj
  refine ⟨k, ?_, e⟩
  rcases Nat.lt_trichotomy k n with c | c | c
  · exact c
  · exact absurd (c ▸ e ▸ List.mem_of_getElem? hj) free
  · exact absurd (below n c) free
structure PutAs (t u : SetTable) (n : Nat) : Prop where
  mask : u.mask = t.mask
  led : u.led = t.led
  plain : u.plain = t.plain
  fill : u.fill = n
theorem Tbl.put (T : Tbl t hs) {h : Int} {n p : Nat} (free : way t.mask h n ∉ t.place.toList) (taken : ∀ k, k < n → way t.mask h k ∈ t.place.toList) (hp : p = SetTable.below t.place (way t.mask h n)) :
    p ≤ hs.length ∧ Tbl (t.put (way t.mask h n)).1 (hs.take p ++ h :: hs.drop p) ∧ PutAs t (t.put (way t.mask h n)).1 (hs.length + 1) := by
  generalize hj : way t.mask h n = j at free hp
  have pl : (t.put j).1.place.toList = t.place.toList.take p ++ j :: t.place.toList.drop p := by rw [put_place, hp]
  have le : t.place.toList.length = hs.length := T.many
  have pb : p ≤ hs.length := by
    rw [hp, ← le]
    exact (below_cut T.up j).1
  have sz : (t.put j).1.place.size = hs.length + 1 := by
    rw [← le, ← len_ins t.place.toList (le ▸ pb) j, ← pl]
    rfl
  have nd := put_dm T.nod j
  have more : ∀ {x}, x ∈ t.place.toList → x ∈ (t.put j).1.place.toList := fun z => pl ▸ mem_ins.mpr (.inr z)
  refine ⟨pb, ⟨ris_insert T.up fun e => free ?_, nd, ?_, T.msk, fun i g y hg hy => ?_⟩, ⟨rfl, rfl, rfl, ?_⟩⟩
  · rw [← Array.getElem?_toList] at e
    exact List.mem_of_getElem? e
  · rw [len_ins hs pb, sz]
  · show ∃ k, way t.mask g k = y ∧ ∀ k', k' < k → way t.mask g k' ∈ (t.put j).1.place.toList
    rw [tins_get hs pb] at hg
    rw [pl, tins_get _ (le ▸ pb)] at hy
    rcases Nat.lt_trichotomy i p with c | c | c
    · rw [if_pos c] at hg hy
      obtain ⟨k, a, b⟩ := T.found i g y hg hy
      exact ⟨k, a, fun k' z => more (b k' z)⟩
    · rw [if_neg (by omega), if_pos c] at hg hy
      cases hg
      cases hy
      exact ⟨n, hj, fun k z => more (taken k z)⟩
    · rw [if_neg (by omega), if_neg (by omega)] at hg hy
      obtain ⟨k, a, b⟩ := T.found _ g y hg hy
      exact ⟨k, a, fun k' z => more (b k' z)⟩
  · show (t.put j).1.place.size + (t.put j).1.dummies.size = _
    rw [sz, nd]
    rfl
end
theorem own_step {m : Nat} (mk : Mk m) {done : List Int} {ow : Array (Option Nat)} (W : Own m done ow) (room : done.length ≤ m) (h : Int) :
    ∃ j, SetTable.layClean.free m ow (SetTable.turns m) (SetTable.bits h % (m + 1)) (SetTable.bits h) = some j ∧ Own m (done ++ [h]) (ow.setIfInBounds j (some done.length)) := by
  obtain ⟨ps, len, inps⟩ := W.ps
  obtain ⟨j0, lt0, out0⟩ := st_missing ps (m + 1) (by omega)
  have le0 := Nat.le_of_lt_succ lt0
  have free0 : oAt ow j0 = none := Classical.byContradiction fun z => out0 (inps j0 le0 z)
  obtain ⟨r, hr, er⟩ := mk.run h le0
  generalize hz : off m (SetTable.bits h % (m + 1)) (SetTable.bits h) r = z
  have wz : way m h z = j0 := by
    rw [← hz]
    show (nth m (runAt m (SetTable.bits h % (m + 1)) (SetTable.bits h)) (off m (SetTable.bits h % (m + 1)) (SetTable.bits h) r)).j = j0
    rw [nth_off, itL_run]
    exact er
  obtain ⟨n, n1, n2, n3⟩ := st_least (p := fun k => oAt ow (way m h k) = none) z (wz.symm ▸ free0)
  have look : ∀ k, k < n → (oAt ow (way m h k)).isNone = false := fun k hk => by
    have := n3 k hk
    cases e : oAt ow (way m h k) with
    | none => exact absurd e this
    | some _ => rfl
  have fr := free_spec m ow (SetTable.turns m) r (SetTable.bits h % (m + 1)) (SetTable.bits h) n (by unfold SetTable.turns; omega) (hz ▸ n1) look (by
    have : oAt ow (way m h n) = none := n2
    show (oAt ow (way m h n)).isNone = true
    rw [this]
    rfl)
  refine ⟨way m h n, fr, ?_⟩
  generalize hw : way m h n = j at n2
  have jm : j ≤ m := hw ▸ way_in m h n
  have self := oAt_set_self (some done.length) (show j < ow.size by rw [W.sz]; omega)
  have stay : ∀ {i}, oAt ow i ≠ none → oAt (ow.setIfInBounds j (some done.length)) i ≠ none := fun {i} hi => by
    by_cases c : i = j
    · subst c
      exact absurd n2 hi
    · rwa [oAt_set_ne _ c]
  constructor
  · rw [Array.size_setIfInBounds, W.sz]
  · intro i k hi e
    by_cases c : i = j
    · subst c
      rw [self] at e
      cases e
      exact ⟨h, n, by rw [List.getElem?_append_right (Nat.le_refl _), Nat.sub_self]; rfl, hw, fun k' z => stay (n3 k' z)⟩
    · rw [oAt_set_ne _ c] at e
      obtain ⟨g, q, a1, a2, a3⟩ := W.at_ i k hi e
      exact ⟨g, q, by rw [List.getElem?_append_left (List.getElem?_eq_some_iff.mp a1).1]; exact a1, a2, fun k' z => stay (a3 k' z)⟩
  · intro k hk
    rw [List.length_append] at hk
    by_cases c : k < done.length
    · obtain ⟨i, hi, e⟩ := W.all k c
      exact ⟨i, hi, by rw [oAt_set_ne _ fun z => by rw [z, n2] at e; cases e]; exact e⟩
    · obtain rfl : k = done.length := by simp at hk; omega
      exact ⟨j, jm, self⟩
  · refine ⟨j :: ps, by simp [len], fun i hi e => ?_⟩
    by_cases c : i = j
    · exact c ▸ List.mem_cons_self
    · rw [oAt_set_ne _ c] at e
      exact List.mem_cons_of_mem _ (inps i hi e)
theorem own_all {m : Nat} (mk : Mk m) : ∀ (todo done : List Int) (ow : Array (Option Nat)), Own m done ow → done.length + todo.length ≤ m →
    ∃ ow', todo.foldl (stepF m) (some (ow, done.length)) = some (ow', (done ++ todo).length) ∧ Own m (done ++ todo) ow'
  | [], done, ow, W, _ => ⟨ow, by simp, by simpa using W⟩
  | h :: todo, done, ow, W, room => by
    simp only [List.length_cons] at room
    obtain ⟨j, e, W2⟩ := own_step mk W (by omega) h
    obtain ⟨ow', e2, W3⟩ := own_all mk todo (done ++ [h]) _ W2 (by simp; omega)
    rw [List.append_assoc, List.singleton_append] at W3
    refine ⟨ow', ?_, W3⟩
    rw [List.foldl_cons, stepF_some e]
    simpa using e2
theorem own_laid {m : Nat} (mk : Mk m) {hs : Array Int} (room : hs.size ≤ m) : ∃ ow, SetTable.layClean m hs = some ow ∧ Own m hs.toList ow := by
  obtain ⟨ow, e, W⟩ := own_all mk hs.toList [] _ (Own.init m) (by simpa using room)
  refine ⟨ow, ?_, by simpa using W⟩
  rw [layClean_eq]
  exact congrArg (Option.map Prod.fst) e
theorem live_up (m : Nat) (ow : Array (Option Nat)) : Ris ((liveOf m ow).map (·.1)) := (ris_live (fun j => ow.getD j none) (List.range (m + 1)) List.pairwise_lt_range).1
theorem laid_anew (t : SetTable) {hs : Array Int} {wanted m : Nat} (hw : SetTable.sizeAbove wanted = m + 1) (mk : Mk m) (room : hs.size ≤ m) :
    ∃ u order, t.relaid hs wanted = some (u, order) ∧ order.toList.Perm (List.range hs.size) ∧ Tbl u (order.toList.map fun i => hs.getD i 0) ∧ u.mask = m ∧ u.led = t.led ∧ u.plain = t.plain := by
  obtain ⟨ow, e, W⟩ := own_laid mk room
  have inl := fun {j k} => mem_live (j := j) (k := k) W.sz
  have up := live_up m ow
  have len : (liveOf m ow).length = hs.size := by
    obtain ⟨ps, l1, l2⟩ := W.ps
    have nd : ((liveOf m ow).map (·.1)).Nodup := List.Pairwise.imp (fun z => Nat.ne_of_lt z) up
    have a := nat_nodup_len _ ps nd fun x hx => by
      obtain ⟨⟨y, k⟩, hq, rfl⟩ := List.mem_map.mp hx
      obtain ⟨b1, b2⟩ := inl.mp hq
      exact l2 y b1 fun z => by rw [b2] at z; cases z
    have b := nat_nodup_len (List.range hs.size) ((liveOf m ow).map (·.2)) List.nodup_range fun k hk => by
      obtain ⟨j, b⟩ := W.all k (by simpa using hk)
      exact List.mem_map.mpr ⟨(j, k), inl.mpr b, rfl⟩
    simp only [List.length_map, List.length_range] at a b
    simp only [Array.length_toList] at l1
    omega
  refine ⟨tabOf t m ow, ((liveOf m ow).map (·.2)).toArray, ?_, ?_, ⟨up, rfl, ?_, mk, fun i h j hi hj => ?_⟩, rfl, rfl, rfl⟩
  · rw [relaid_eq, hw, Nat.add_sub_cancel, e]
    rfl
  · exact perm_range hs.size _ (by simp [len]) fun k hk => by
      obtain ⟨j, b⟩ := W.all k (by simpa using hk)
      exact List.mem_map.mpr ⟨(j, k), inl.mpr b, rfl⟩
  · show ((liveOf m ow).map (·.1)).toArray.size = _
    simp
  · have hj' : ((liveOf m ow).map (·.1))[i]? = some j := hj
    have hi' : (((liveOf m ow).map (·.2)).map fun i => hs.getD i 0)[i]? = some h := hi
    simp only [List.getElem?_map] at hi' hj'
    cases hq : (liveOf m ow)[i]? with
    | none => rw [hq] at hj'; cases hj'
    | some q =>
      obtain ⟨y, k⟩ := q
      rw [hq] at hi' hj'
      cases hj'
      obtain ⟨b1, b2⟩ := inl.mp (List.mem_of_getElem? hq)
      obtain ⟨g, n, a1, a2, a3⟩ := W.at_ y k b1 b2
      have eg : g = h := by
        rw [Array.getElem?_toList] at a1
        have : hs.getD k 0 = g := by simp [Array.getD_eq_getD_getElem?, a1]
        rw [← this]
        exact Option.some.inj hi'
      subst eg
      refine ⟨n, a2, fun k' z => ?_⟩
      show way m g k' ∈ (liveOf m ow).map (·.1)
      cases e2 : oAt ow (way m g k') with
      | none => exact absurd e2 (a3 k' z)
      | some k2 => exact List.mem_map.mpr ⟨(way m g k', k2), inl.mpr ⟨way_in m g k', e2⟩, rfl⟩
end TL
namespace TL
open PySem PySem.Spec PyProof.Rows L2
structure Ek {P : Program} {w : World} {K : Type} [DecidableEq K] (knd : HeapKind P w K) : Prop where
  keep : ∀ {h h' : Heap} {k : K} {a : Addr}, (∀ b o vs n, h.get? b = some o → o.data = .seq vs n → h'.get? b = some o) → knd.is h k a → knd.is h' k a
  own : ∀ {A : Around} {E : Value → Shared → Prop} {s : Shared} {k : K} {b : Addr} {Q : Bool → Shared → Prop}, knd.is s.heap k b → Q false s → wpAny (model P w) A (ofAClassStatement 8 (.ref b)) Q E s
  byv : ∀ {A : Around} {E : Value → Shared → Prop} {s : Shared} {k : K} {b : Addr} {Q : Bool → Shared → Prop}, knd.is s.heap k b → Q true s → wpAny (model P w) A (hashByValue 8 (.ref b)) Q E s
theorem ek_ints (P : Program) (w : World) : Ek (tupleKind (intKind P w)) where
  keep := tupleKind_stays.stays
  own := ofAClass_tup
  byv := hashBy_tup
section
variable {P : Program} {w : World} {A : Around} {E : Value → Shared → Prop} {s : Shared} {K : Type} [DecidableEq K] {knd : HeapKind P w K}
theorem quiet_seek (ek : Ek knd) {x : Addr} {k : K} (hx : knd.is s.heap k x) {stored : List Value} (all : ∀ y ∈ stored, ∃ j c, y = Value.ref c ∧ knd.is s.heap j c) {Q : Bool → Shared → Prop} (q : Q false s) :
    wpAny (model P w) A (searchCouldBeSeen (.ref x) stored) Q E s := by
  unfold searchCouldBeSeen
  refine wpAny_bind (wpAny_forIn_list _ (fun left r s' => (r.1 = none ∧ s' = s) ∧ ∀ y ∈ left, ∃ j c, y = Value.ref c ∧ knd.is s.heap j c) _ ?_ ?_ _ _ ⟨⟨rfl, rfl⟩, all⟩)
  · intro y left r s' ⟨⟨e, es⟩, rest⟩
    subst es
    obtain ⟨j, c, ey, hc⟩ := rest y List.mem_cons_self
    subst ey
    have after := fun u (hu : u ∈ left) => rest u (List.mem_cons_of_mem _ hu)
    dsimp only
    cases same : (x == c || (carriedByValue (.ref x) && carriedByValue (.ref c))) with
    | true =>
      refine wp_if_pos rfl (wpAny_pure ⟨⟨rfl, rfl⟩, after⟩)
    | false =>
      refine wp_if_neg (by decide) (wpAny_bind (knd.quiet hx ?_))
      refine wp_if_neg (by decide) (wpAny_bind (knd.quiet hc ?_))
      refine wp_if_neg (by decide) (wpAny_bind (ek.own hx ?_))
      refine wp_if_neg (by decide) (wpAny_bind (ek.own hc ?_))
      exact wp_if_neg (by decide) (wpAny_pure ⟨⟨rfl, rfl⟩, after⟩)
  · intro r s' ⟨⟨e, es⟩, _⟩
    obtain ⟨r1, r2⟩ := r
    simp only at e
    subst e es
    exact wpAny_pure q
def masks : List Nat := [7, 31, 127, 511, 2047, 8191]
theorem masks_le {m : Nat} (h : m ∈ masks) : m ≤ 8191 := by
  simp only [masks, List.mem_cons, List.not_mem_nil, or_false] at h
  omega
theorem masks_mk {m : Nat} (h : m ∈ masks) : Mk m := by
  simp only [masks, List.mem_cons, List.not_mem_nil, or_false] at h
  rcases h with z | z | z | z | z | z <;> subst z
  · exact ⟨3, rfl, by decide⟩
  · exact ⟨5, rfl, by decide⟩
  · exact ⟨7, rfl, by decide⟩
  · exact ⟨9, rfl, by decide⟩
  · exact ⟨11, rfl, by decide⟩
  · exact ⟨13, rfl, by decide⟩
def entB (knd : HeapKind P w K) (L : List (Addr × K)) : List (Int × Value) := L.map fun p => (knd.hash p.2, Value.ref p.1)
structure SetB (knd : HeapKind P w K) (h : Heap) (a : Addr) (L : List (Addr × K)) (es : Array (Int × Value)) (ep : Nat) (t : SetTable) : Prop where
  ob : ∃ o, h.get? a = some o ∧ o.ExactSet ∧ o.data = .set es ep t
  ent : es.toList = entB knd L
  tab : Tbl t (L.map fun p => knd.hash p.2)
  one : (L.map (·.2)).Nodup
  key : ∀ p ∈ L, knd.is h p.2 p.1
  plain : t.plain = true
  led : w.params.followText "set-order" = true ∨ t.led = true
  room : L.length * 5 < t.mask * 3
  mem : t.mask ∈ masks
variable {a : Addr} {L : List (Addr × K)} {es : Array (Int × Value)} {ep : Nat} {t : SetTable}
theorem ent_len (h : es.toList = entB knd L) : es.size = L.length := by
  have := congrArg List.length h
  simpa [entB] using this
theorem ent_at (h : es.toList = entB knd L) {i : Nat} {p : Addr × K} (hp : L[i]? = some p) : es[i]? = some (knd.hash p.2, Value.ref p.1) := by
  rw [← Array.getElem?_toList, h]
  simp [entB, hp]
theorem fits_of (h : es.toList = entB knd L) (T : Tbl t (L.map fun p => knd.hash p.2)) (room : L.length ≤ t.mask) : t.fits es.size = true := by
  have m := T.many
  rw [List.length_map] at m
  have f : t.fill = L.length := by
    unfold SetTable.fill
    rw [T.nod, m]
    rfl
  unfold SetTable.fits
  rw [f, m, ent_len h]
  simpa using room
theorem SetB.fits (R : SetB knd s.heap a L es ep t) : t.fits es.size = true := fits_of R.ent R.tab (by have := R.room; omega)
theorem step_dummy (m : Nat) : ∀ (n : Nat) (p : SetTable.Probe), p.dummy = none → (nth m p n).dummy = none
  | 0, _, h => h
  | n + 1, p, h => by
    refine step_dummy m n (adv m p) ?_
    unfold adv
    split
    · exact h
    · exact h
abbrev stp (t : SetTable) (h : Int) (c : Nat) : SetTable.Probe := nth t.mask (runAt t.mask (SetTable.bits h % (t.mask + 1)) (SetTable.bits h)) c
theorem stp_add (t : SetTable) (h : Int) (c q : Nat) : nth t.mask (stp t h c) q = stp t h (c + q) := (nth_add t.mask c _ q).symm
theorem seek_from (ek : Ek knd) (R : SetB knd s.heap a L es ep t) {x : Addr} {k : K} (hx : knd.is s.heap k x) (hu : knd.room A) {n : Nat} (hn : n < 10 * SetTable.turns t.mask) (free : way t.mask (knd.hash k) n ∉ t.place.toList)
    (taken : ∀ c, c < n → way t.mask (knd.hash k) c ∈ t.place.toList) {Q : SetFound → Shared → Prop} (yes : k ∈ L.map (·.2) → Q (.there none) s) (no : k ∉ L.map (·.2) → Q (.free (way t.mask (knd.hash k) n) false) s) :
    ∀ (f c : Nat) (at_ : Option SetTable.Probe), at_.getD (t.probeStart (knd.hash k)) = stp t (knd.hash k) c → c ≤ n → n - c < f →
      (∀ (i : Nat) p, L[i]? = some p → p.2 = k → ∃ d, c ≤ d ∧ d < n ∧ t.place.toList[i]? = some (way t.mask (knd.hash k) d)) →
      wpAny (model P w) A (setSearchFrom a (.ref x) (knd.hash k) true f at_) Q E s := by
  obtain ⟨o, ho, ex, dat⟩ := R.ob
  intro f
  induction f with
  | zero => intro c at_ _ _ z; omega
  | succ f ih =>
    intro c at_ start hc left later
    rw [setSearchFrom_succ]
    refine wpAny_bind (wpAny_setState_of ho dat R.fits ?_)
    dsimp only
    refine wp_if_neg (by unfold SetTable.gaveWay; rw [R.tab.msk.odd]; decide) ?_
    try refine wpAny_bind (wpAny_pure ?_)
    have hash_of : ∀ (i : Nat) p, L[i]? = some p → (es[i]?.map (·.1)).getD 0 = knd.hash p.2 := fun i p hp => by rw [ent_at R.ent hp]; rfl
    have js : ∀ q, (nth t.mask (stp t (knd.hash k) c) q).j = way t.mask (knd.hash k) (c + q) := fun q => congrArg SetTable.Probe.j (stp_add t _ c q)
    have look := go_spec t R.tab.up R.tab.nod (fun i => (es[i]?.map (·.1)).getD 0) (knd.hash k) (10 * SetTable.turns t.mask) (n - c) (stp t (knd.hash k) c) (step_dummy _ c _ rfl) (by omega)
      (fun q hq => by rw [js]; exact taken _ (by omega)) (by rw [js, Nat.add_sub_cancel' hc]; exact free)
    have probed : t.probe (fun i => (es[i]?.map (·.1)).getD 0) (knd.hash k) (at_.getD (t.probeStart (knd.hash k))) = SetTable.probe.go t (fun i => (es[i]?.map (·.1)).getD 0) (knd.hash k) (10 * SetTable.turns t.mask) (stp t (knd.hash k) c) := by rw [start]; rfl
    rw [probed]
    rcases look with ⟨q, i, hq, hi, hh, unlike, e⟩ | ⟨unlike, e⟩
    · rw [e]
      dsimp only
      rw [js] at hi ⊢
      rw [stp_add]
      have il : i < L.length := by
        have h1 := (List.getElem?_eq_some_iff.mp hi).1
        have h2 := R.tab.many
        rw [List.length_map] at h2
        rw [Array.length_toList] at h1
        omega
      obtain ⟨p, hp⟩ : ∃ p, L[i]? = some p := ⟨_, List.getElem?_eq_getElem il⟩
      have pin := List.mem_of_getElem? hp
      have step : wpAny (model P w) A (searchRest a (.ref x) (knd.hash k) true f es t (way t.mask (knd.hash k) (c + q)) i (stp t (knd.hash k) (c + (q + 1)))) Q E s := by
        unfold searchRest
        rw [ent_at R.ent hp]
        dsimp only
        refine wpAny_bind (wpAny_holding (knd.eqBool hu (R.key p pin) hx ?_))
        refine wpAny_bind (wpAny_setState_of ho dat R.fits ?_)
        dsimp only
        by_cases eq : p.2 = k
        · refine wp_if_pos (by simp [eq]) (wpAny_pure (yes (List.mem_map.mpr ⟨p, pin, eq⟩)))
        · refine wp_if_neg (by simp [eq]) ?_
          try refine wpAny_bind (wpAny_pure ?_)
          have lv := slot_live R.tab.up hi
          rw [sameMem]
          simp only [if_true, lv, ent_at R.ent hp]
          refine wpAny_bind (wpAny_isSame_ref_self (wpAny_bind (wpAny_pure ?_)))
          simp only [if_true]
          refine wp_if_neg (by simp [eq]) (ih (c + (q + 1)) _ rfl (by omega) (by omega) fun i0 p0 h0 k0 => ?_)
          obtain ⟨d, d1, d2, d3⟩ := later i0 p0 h0 k0
          refine ⟨d, ?_, d2, d3⟩
          rcases Nat.lt_trichotomy d (c + q) with z | z | z
          · refine absurd ((hash_of i0 p0 h0).trans (by rw [k0])) (unlike (d - c) i0 (by omega) ?_)
            rw [js, Nat.add_sub_cancel' d1]
            exact d3
          · rw [z] at d3
            have := slot_live R.tab.up d3
            rw [lv] at this
            injection this with this
            rw [← this, hp] at h0
            exact absurd ((congrArg Prod.snd (Option.some.inj h0)).trans k0) eq
          · omega
      by_cases hl : t.led = true
      · refine wp_if_neg (by simp [hl]) ?_
        try refine wpAny_bind (wpAny_pure ?_)
        exact step
      · refine wp_if_pos (by simp [hl]) (wpAny_bind (quiet_seek ek hx (fun y hy => ?_) ?_))
        · obtain ⟨⟨u1, u2⟩, hu, eu⟩ := List.mem_map.mp hy
          have he : (u1, u2) ∈ es.toList := by
            rw [Array.toList_filter] at hu
            exact (List.mem_filter.mp hu).1
          rw [R.ent] at he
          obtain ⟨p2, h2, e2⟩ := List.mem_map.mp he
          cases e2
          exact ⟨p2.2, p2.1, eu.symm, R.key p2 h2⟩
        · refine wp_if_neg (by decide) ?_
          try refine wpAny_bind (wpAny_pure ?_)
          exact step
    · rw [e]
      dsimp only
      rw [js, Nat.add_sub_cancel' hc]
      refine wpAny_pure (no fun hm => ?_)
      obtain ⟨p0, m0, k0⟩ := List.mem_map.mp hm
      obtain ⟨i0, lt0, g0⟩ := List.getElem_of_mem m0
      have h0 : L[i0]? = some p0 := by rw [List.getElem?_eq_getElem lt0, g0]
      obtain ⟨d, d1, d2, d3⟩ := later i0 p0 h0 k0
      refine unlike (d - c) i0 (by omega) ?_ ((hash_of i0 p0 h0).trans (by rw [k0]))
      rw [js, Nat.add_sub_cancel' d1]
      exact d3
theorem seek (ek : Ek knd) (R : SetB knd s.heap a L es ep t) {x : Addr} {k : K} (hx : knd.is s.heap k x) (hu : knd.room A) {Q : SetFound → Shared → Prop} (yes : k ∈ L.map (·.2) → Q (.there none) s)
    (no : ∀ n, k ∉ L.map (·.2) → way t.mask (knd.hash k) n ∉ t.place.toList → (∀ c, c < n → way t.mask (knd.hash k) c ∈ t.place.toList) → Q (.free (way t.mask (knd.hash k) n) false) s) :
    wpAny (model P w) A (setSearch a (.ref x) (knd.hash k) true) Q E s := by
  have rm := R.room
  have bg := masks_le R.mem
  obtain ⟨n, n1, n2, n3⟩ := R.tab.first (by rw [List.length_map]; omega) (knd.hash k)
  have tn : SetTable.turns t.mask = t.mask + 15 := rfl
  unfold setSearch
  refine seek_from ek R hx hu n1 n2 n3 yes (fun z => no n z n2 n3) 100000 0 none rfl (Nat.zero_le _) (by omega) fun i p hp ek => ?_
  have hi : (L.map fun p => knd.hash p.2)[i]? = some (knd.hash k) := by rw [List.getElem?_map, hp, ← ek]; rfl
  have lt : i < t.place.toList.length := by
    have h1 := (List.getElem?_eq_some_iff.mp hi).1
    rw [Array.length_toList, R.tab.many]
    exact h1
  have hj := List.getElem?_eq_getElem lt
  obtain ⟨d, d1, d2⟩ := R.tab.ahead n2 hi hj
  exact ⟨d, Nat.zero_le _, d1, by rw [hj, d2]⟩
theorem key_same (ek : Ek knd) {h h' : Heap} {k : K} {b : Addr} {o : Obj} (hb : knd.is h k b) (ho : h.get? a = some o) (hd : o.data = .set es ep t) (sb : Heap.SameBut a h h') : knd.is h' k b :=
  ek.keep (fun c u vs n hc hs => (sb.2 c fun z => by
    rw [z, ho] at hc
    cases hc
    rw [hd] at hs
    cases hs).trans hc) hb
theorem pick_ent (L : List (Addr × K)) (h : es.toList = entB knd L) : ∀ l : List Nat, (∀ i ∈ l, i < L.length) →
    l.filterMap (fun i => es[i]?) = entB knd (l.filterMap fun i => L[i]?) ∧ ((l.filterMap fun i => L[i]?).map fun p => knd.hash p.2) = l.map fun i => (es.map (·.1)).getD i 0
  | [], _ => ⟨rfl, rfl⟩
  | i :: l, hl => by
    obtain ⟨p, hp⟩ : ∃ p, L[i]? = some p := ⟨_, List.getElem?_eq_getElem (hl i List.mem_cons_self)⟩
    have he := ent_at h hp
    obtain ⟨e1, e2⟩ := pick_ent L h l fun j hj => hl j (List.mem_cons_of_mem _ hj)
    have e3 : (es.map (·.1)).getD i 0 = knd.hash p.2 := by simp [Array.getD_eq_getD_getElem?, he]
    rw [List.filterMap_cons_some he, List.filterMap_cons_some hp, e1]
    exact ⟨rfl, by rw [List.map_cons, List.map_cons, e2, e3]⟩
theorem pick_all {α : Type} (L : List α) : (List.range L.length).filterMap (fun i => L[i]?) = L := by
  have : ∀ n, n ≤ L.length → (List.range n).filterMap (fun i => L[i]?) = L.take n := fun n => by
    induction n with
    | zero => exact fun _ => rfl
    | succ n ih =>
      intro hn
      have g := List.getElem?_eq_getElem (l := L) (show n < L.length by omega)
      rw [List.range_succ, List.filterMap_append, ih (by omega), List.take_add_one, g, List.filterMap_cons_some g]
      rfl
  simpa using this L.length (Nat.le_refl _)
theorem relay (ek : Ek knd) {o : Obj} (ho : s.heap.get? a = some o) (ex : o.ExactSet) (dat : o.data = .set es ep t) (ent : es.toList = entB knd L) (T : Tbl t (L.map fun p => knd.hash p.2)) (fit : L.length ≤ t.mask)
    (one : (L.map (·.2)).Nodup) (key : ∀ p ∈ L, knd.is s.heap p.2 p.1) (pl : t.plain = true) (ld : w.params.followText "set-order" = true ∨ t.led = true) {wanted m : Nat} (hw : SetTable.sizeAbove wanted = m + 1) (hm : m ∈ masks) (room : L.length * 5 < m * 3)
    {Q : Unit → Shared → Prop} (q : ∀ h' L' es' ep' t', Heap.SameBut a s.heap h' → SetB knd h' a L' es' ep' t' → L'.Perm L → Q () { s with heap := h' }) : wpAny (model P w) A (setRelay a wanted) Q E s := by
  have le := ent_len ent
  have big := masks_le hm
  obtain ⟨u, order, e, pm, T2, um, ul, up⟩ := laid_anew t (hs := es.map (·.1)) hw (masks_mk hm) (by rw [Array.size_map]; omega)
  rw [Array.size_map, le] at pm
  obtain ⟨e1, e2⟩ := pick_ent L ent order.toList fun i hi => List.mem_range.mp (pm.mem_iff.mp hi)
  rw [← e2] at T2
  have pl2 : (order.toList.filterMap fun i => L[i]?).Perm L := by
    have := pm.filterMap (fun i => L[i]?)
    rwa [pick_all] at this
  generalize order.toList.filterMap (fun i => L[i]?) = L2 at e1 T2 pl2
  have e3 : (order.filterMap (es[·]?)).toList = entB knd L2 := by rw [Array.toList_filterMap]; exact e1
  have le2 : (order.filterMap (es[·]?)).size = es.size := by rw [ent_len e3, le, pl2.length_eq]
  rw [setRelay_eq]
  refine wpAny_bind (wpAny_setState_of ho dat (fits_of ent T fit) ?_)
  dsimp only
  refine wp_if_neg (by rw [sizeLine_eq]; omega) ?_
  try refine wpAny_bind (wpAny_pure ?_)
  rw [e]
  dsimp only
  refine wpAny_bind ?_
  refine wp_if_neg (by rw [le2]; simp) ?_
  try refine wpAny_bind (wpAny_pure ?_)
  refine wpAny_pure ?_
  dsimp only
  generalize (order.filterMap (es[·]?)) = es2 at e3 le2
  have sb : Heap.SameBut a s.heap (s.heap.update a (Obj.putSet es2 u)) := Heap.SameBut.update ..
  refine wpAny_storeSet_of ho dat (q _ L2 es2 (ep + 1) u sb ⟨⟨_, store_at ho dat, ⟨ex.1, ex.2.1, ex.2.2⟩, rfl⟩, e3, T2, (pl2.map (·.2)).nodup_iff.mpr one, fun p hp => key_same ek (key p (pl2.mem_iff.mp hp)) ho dat sb, up.trans pl, ld.imp id fun z => ul.trans z, ?_, um ▸ hm⟩ pl2) ?_
  · rw [pl2.length_eq, um]
    exact room
  · rw [le2, le, sizeLine_eq]
    omega
theorem grow_sizes : SetTable.sizeAbove (SetTable.grown 5) = 32 ∧ SetTable.sizeAbove (SetTable.grown 19) = 128 ∧ SetTable.sizeAbove (SetTable.grown 77) = 512 ∧ SetTable.sizeAbove (SetTable.grown 307) = 2048 ∧ SetTable.sizeAbove (SetTable.grown 1229) = 8192 := by decide +kernel
theorem too_full {n m : Nat} (hm : m ∈ masks) (few : n + 1 ≤ 4000) (room : n * 5 < m * 3) (full : m * 3 ≤ (n + 1) * 5) :
    ∃ m2, SetTable.sizeAbove (SetTable.grown (n + 1)) = m2 + 1 ∧ m2 ∈ masks ∧ (n + 1) * 5 < m2 * 3 := by
  obtain ⟨g1, g2, g3, g4, g5⟩ := grow_sizes
  simp only [masks, List.mem_cons, List.not_mem_nil, or_false] at hm
  rcases hm with z | z | z | z | z | z <;> subst z
  · obtain rfl : n = 4 := by omega
    exact ⟨31, g1, by decide, by decide⟩
  · obtain rfl : n = 18 := by omega
    exact ⟨127, g2, by decide, by decide⟩
  · obtain rfl : n = 76 := by omega
    exact ⟨511, g3, by decide, by decide⟩
  · obtain rfl : n = 306 := by omega
    exact ⟨2047, g4, by decide, by decide⟩
  · obtain rfl : n = 1228 := by omega
    exact ⟨8191, g5, by decide, by decide⟩
  · omega
theorem add_one (ek : Ek knd) (R : SetB knd s.heap a L es ep t) {x : Addr} {k : K} (hx : knd.is s.heap k x) (hu : knd.room A) (few : L.length + 1 ≤ 4000) {Q : Bool → Shared → Prop}
    (q : ∀ b h' L' es' ep' t', Heap.SameBut a s.heap h' → SetB knd h' a L' es' ep' t' → (k ∈ L.map (·.2) → L' = L) → (k ∉ L.map (·.2) → L'.Perm ((x, k) :: L)) → Q b { s with heap := h' }) :
    wpAny (model P w) A (setAddHashed a (.ref x) (knd.hash k)) Q E s := by
  obtain ⟨o, ho, ex, dat⟩ := R.ob
  have le := ent_len R.ent
  have room := R.room
  unfold setAddHashed
  refine wpAny_holding ?_
  show wpAny _ _ (setAddHashedIn a (.ref x) (knd.hash k) (99999 + 1)) _ _ _
  rw [setAddHashedIn_succ]
  refine wpAny_bind (wpAny_setState_of ho dat R.fits ?_)
  dsimp only
  refine wp_if_neg (by simp [byScan, Value.scannable]) ?_
  try refine wpAny_bind (wpAny_pure ?_)
  refine wpAny_bind (seek ek R hx hu (fun hm => wpAny_pure (q false s.heap L es ep t (Heap.SameBut.refl a s.heap) R (fun _ => rfl) fun z => absurd hm z)) fun n new free taken => ?_)
  dsimp only
  refine wpAny_bind (wpAny_setState_of ho dat R.fits ?_)
  dsimp only
  obtain ⟨pb, T1, pa⟩ := R.tab.put free taken rfl
  have p2 : (t.put (way t.mask (knd.hash k) n)).2 = SetTable.below t.place (way t.mask (knd.hash k) n) := rfl
  generalize SetTable.below t.place (way t.mask (knd.hash k) n) = p at pb T1 p2
  generalize t.put (way t.mask (knd.hash k) n) = pt at T1 pa p2
  obtain ⟨u, p'⟩ := pt
  dsimp only at p2 T1 pa ⊢
  subst p2
  have pl : u.plain = true := pa.plain.trans R.plain
  first
    | (refine wpAny_bind ?_; refine wp_if_pos pl ?_; refine ek.byv hx ?_)
    | refine wp_if_pos pl (wpAny_bind (ek.byv hx ?_))
  simp only [if_true]
  have ent1 : (SetTable.insertAt es p' (knd.hash k, Value.ref x)).toList = entB knd (L.take p' ++ (x, k) :: L.drop p') := by
    rw [SetTable.toList_insertAt, R.ent]
    simp [entB]
  have hs1 : (L.take p' ++ (x, k) :: L.drop p').map (fun p => knd.hash p.2) = (L.map fun p => knd.hash p.2).take p' ++ knd.hash k :: (L.map fun p => knd.hash p.2).drop p' := by simp
  rw [← hs1] at T1
  have pm := put_perm L p' (x, k)
  have le1 : (L.take p' ++ (x, k) :: L.drop p').length = L.length + 1 := pm.length_eq
  have one1 : ((L.take p' ++ (x, k) :: L.drop p').map (·.2)).Nodup := (pm.map (·.2)).nodup_iff.mpr (List.nodup_cons.mpr ⟨new, R.one⟩)
  generalize SetTable.insertAt es p' (knd.hash k, Value.ref x) = es1 at ent1 ⊢
  generalize L.take p' ++ (x, k) :: L.drop p' = L1 at ent1 T1 pm le1 one1
  have sz1 := ent_len ent1
  refine wpAny_bind (wpAny_storeSet_of ho dat ?_ (by rw [sz1, le1, sizeLine_eq]; omega))
  have sb : Heap.SameBut a s.heap (s.heap.update a (Obj.putSet es1 u)) := Heap.SameBut.update ..
  have ho1 := store_at (es' := es1) (t' := u) ho dat
  generalize s.heap.update a (Obj.putSet es1 u) = h1 at sb ho1 ⊢
  have key1 : ∀ p ∈ L1, knd.is h1 p.2 p.1 := fun p hp => by
    rcases List.mem_cons.mp (pm.mem_iff.mp hp) with z | z
    · rw [z]
      exact key_same ek hx ho dat sb
    · exact key_same ek (R.key p z) ho dat sb
  have ld1 : w.params.followText "set-order" = true ∨ u.led = true := R.led.imp id fun z => pa.led.trans z
  have fl : u.fill = L.length + 1 := by
    rw [pa.fill, List.length_map]
  have tf : u.tooFull = decide ((L.length + 1) * 5 ≥ t.mask * 3) := by
    unfold SetTable.tooFull
    rw [fl, pa.mask]
  by_cases full : (L.length + 1) * 5 ≥ t.mask * 3
  · have tf' : u.tooFull = true := by rw [tf]; exact decide_eq_true full
    obtain ⟨m2, g1, g2, g3⟩ := too_full R.mem few room full
    first
      | (refine wpAny_bind ?_; refine wp_if_pos (by simp [tf']) ?_)
      | (refine wp_if_pos (by simp [tf']) ?_; refine wpAny_bind ?_)
    refine relay (s := { s with heap := h1 }) ek ho1 ⟨ex.1, ex.2.1, ex.2.2⟩ rfl ent1 T1 (by rw [le1, pa.mask]; omega) one1 key1 pl ld1 (by rw [le]; exact g1) g2 (by rw [le1]; exact g3) fun h2 L2 es2 ep2 u2 sb2 R2 pm2 => ?_
    exact wpAny_pure (q true h2 L2 es2 ep2 u2 (sb.trans sb2) R2 (fun z => absurd z new) fun _ => pm2.trans pm)
  · have tf' : u.tooFull = false := by rw [tf]; exact decide_eq_false full
    first
      | refine wp_if_neg (by simp [tf']) ?_
      | (refine wpAny_bind ?_; refine wp_if_neg (by simp [tf']) ?_; refine wpAny_pure ?_)
    exact wpAny_pure (q true h1 L1 es1 (ep + 1) u sb ⟨⟨_, ho1, ⟨ex.1, ex.2.1, ex.2.2⟩, rfl⟩, ent1, T1, one1, key1, pl, ld1, by rw [le1, pa.mask]; omega, pa.mask ▸ R.mem⟩ (fun z => absurd z new) fun _ => pm)
end
end TL
namespace TL
open PySem PySem.Spec PyProof.Rows L2
section
variable {P : Program} {w : World} {A : Around} {E : Value → Shared → Prop} {s : Shared}
theorem call_sort_few {a : Addr} {vs : List Value} {n : Nat} {Q : Value → Shared → Prop} (ho : s.heap.get? a = some (seqObj "list" vs.toArray n)) (hl : vs.length ≤ 1)
    (h : ∀ out : Array Value, out.toList.Perm vs → Q .none { s with heap := sortedHeap s.heap a vs out }) :
    wpAny (model P w) A (call (.builtin "list.sort") [.ref a]) Q E s :=
  wpAny_call_entry slot_list_sort ⟨_, ho, rfl⟩ entry_list_sort (SK.plain_sort (r := fun _ => 0) ho (by omega) (fun h2 => absurd h2 (by omega)) fun ps out h1 h2 h3 => ⟨_, rfl, h out (TS.out_rank (r := fun _ => 0) h1 h2 h3).1⟩) (args_list_sort _)
end
section
variable {X : Cx}
theorem callR_or {g : Value} {r1 r2 : List V → Hp → VK → Prop} (h1 : CallR X g r1) (h2 : CallR X g r2) : CallR X g (fun vs H Q => r1 vs H Q ∨ r2 vs H Q) := by
  intro pins s σ H xs us Q I r h
  rcases h with h | h
  · exact h1 pins s σ H xs us Q I r h
  · exact h2 pins s σ H xs us Q I r h
end
def tupsOf : List D → Option (List (List Int))
  | [] => some []
  | .tuple xs :: ds => match nums xs, tupsOf ds with
    | some k, some ks => some (k :: ks)
    | _, _ => none
  | _ :: _ => none
theorem tupsOf_eq : ∀ {ds : List D} {ks : List (List Int)}, tupsOf ds = some ks → ds = ks.map fun k => .tuple (k.map .int)
  | [], ks, h => by cases h; rfl
  | d :: ds, ks, h => by
    cases d with
    | tuple xs =>
      unfold tupsOf at h
      cases e1 : nums xs with
      | none => rw [e1] at h; cases h
      | some k =>
        cases e2 : tupsOf ds with
        | none => rw [e1, e2] at h; cases h
        | some ks' =>
          rw [e1, e2] at h
          cases h
          rw [List.map_cons, ← tupsOf_eq e2, nums_eq e1]
    | _ => exact nomatch h
theorem tupsOf_map : ∀ ks : List (List Int), tupsOf (ks.map fun k => PyData.tuple (k.map .int)) = some ks
  | [] => rfl
  | k :: ks => by
    rw [List.map_cons]
    unfold tupsOf
    rw [tupsOf_map ks, nums_map k]
def insT (k : List Int) : List (List Int) → List (List Int)
  | [] => [k]
  | x :: xs => if k < x then k :: x :: xs else if k = x then x :: xs else x :: insT k xs
def setT' (ks : List (List Int)) : List (List Int) := ks.foldr insT []
theorem insT_mem {k j : List Int} : ∀ {xs : List (List Int)}, j ∈ insT k xs ↔ j = k ∨ j ∈ xs
  | [] => by simp [insT]
  | x :: xs => by
    unfold insT
    split
    · simp
    · split
      · rename_i h
        subst h
        simp
      · simp only [List.mem_cons, insT_mem (xs := xs)]
        constructor
        · rintro (h | h | h) <;> simp [h]
        · rintro (h | h | h) <;> simp [h]
theorem tri (a b : List Int) : a < b ∨ a = b ∨ b < a := by
  rcases Classical.em (a < b) with h | h
  · exact .inl h
  · rcases Classical.em (b < a) with h2 | h2
    · exact .inr (.inr h2)
    · exact .inr (.inl (List.le_antisymm (List.not_lt.mp h2) (List.not_lt.mp h)))
theorem insT_up {k : List Int} : ∀ {xs : List (List Int)}, xs.Pairwise (· < ·) → (insT k xs).Pairwise (· < ·)
  | [], _ => by simp [insT]
  | x :: xs, h => by
    obtain ⟨h1, h2⟩ := List.pairwise_cons.mp h
    unfold insT
    split
    · rename_i hk
      exact List.pairwise_cons.mpr ⟨fun y hy => by
        rcases List.mem_cons.mp hy with z | z
        · rw [z]; exact hk
        · exact List.lt_trans hk (h1 y z), h⟩
    · split
      · exact h
      · rename_i h3 h4
        refine List.pairwise_cons.mpr ⟨fun y hy => ?_, insT_up h2⟩
        rcases insT_mem.mp hy with z | z
        · rw [z]
          rcases tri k x with q | q | q
          · exact absurd q h3
          · exact absurd q h4
          · exact q
        · exact h1 y z
theorem setT'_mem {j : List Int} : ∀ {ks : List (List Int)}, j ∈ setT' ks ↔ j ∈ ks
  | [] => by simp [setT']
  | k :: ks => by
    show j ∈ insT k (setT' ks) ↔ _
    rw [insT_mem, setT'_mem (ks := ks), List.mem_cons]
theorem setT'_up : ∀ {ks : List (List Int)}, (setT' ks).Pairwise (· < ·)
  | [] => List.Pairwise.nil
  | k :: ks => insT_up setT'_up
theorem upT_eq {xs ys : List (List Int)} (h1 : xs.Pairwise (· < ·)) (h2 : ys.Pairwise (· < ·)) (h : ∀ k, k ∈ xs ↔ k ∈ ys) : xs = ys := by
  have ne : ∀ {a b : List Int}, a < b → a ≠ b := fun {a b} q e => List.lt_irrefl a (by rw [e] at q ⊢; exact q)
  have p : xs.Perm ys := (List.perm_ext_iff_of_nodup (h1.imp ne) (h2.imp ne)).mpr h
  exact List.Perm.eq_of_pairwise (le := (· < ·)) (fun a b _ _ q1 q2 => absurd (List.lt_trans q1 q2) (List.lt_irrefl a)) h1 h2 p
def BT : Int := 10 ^ 50
def tupsOk (ks : List (List Int)) : Bool := match ks with
  | [] => true
  | k :: _ => ks.all fun j => decide (j.length = k.length) && j.all fun n => decide (0 ≤ n ∧ n < BT)
theorem repAll_tups {K : PySem.W.Frag} {G : Hp} : ∀ {vs : List V} {ks : List (List Int)}, RepAll K G vs (ks.map fun k => .tuple (k.map .int)) → ∃ ps : List (Addr × List Int), vs = ps.map (fun p => V.ref p.1) ∧ ps.map (·.2) = ks ∧ ∀ p ∈ ps, SqU K G p.1 (p.2.map V.int)
  | _, [], .nil => ⟨[], rfl, rfl, fun _ h => nomatch h⟩
  | _, k :: ks, .cons r t => by
    obtain ⟨ps, e1, e2, e3⟩ := repAll_tups t
    cases r with
    | @tup a xs ds h ra =>
      rw [repAll_nums ra] at h
      refine ⟨(a, k) :: ps, by rw [e1]; rfl, by rw [List.map_cons, e2], fun p hp => ?_⟩
      rcases List.mem_cons.mp hp with z | z
      · rw [z]; exact h
      · exact e3 p z
end TL
namespace TL
open PySem PySem.Spec PyProof.Rows L2
section
variable {P : Program} {w : World} {A : Around} {E : Value → Shared → Prop} {s : Shared} {K : Type} [DecidableEq K] {knd : HeapKind P w K}
theorem key_kept (ek : Ek knd) {h h' : Heap} {k : K} {b : Addr} (x : knd.is h k b) (kp : ∀ c o, h.get? c = some o → h'.get? c = some o) : knd.is h' k b := ek.keep (fun c o _ _ e _ => kp c o e) x
theorem SetB.kept {h h' : Heap} {a : Addr} {L : List (Addr × K)} {es : Array (Int × Value)} {ep : Nat} {t : SetTable} (R : SetB knd h a L es ep t) (ha : ∀ o, h.get? a = some o → h'.get? a = some o) (hk : ∀ p ∈ L, knd.is h' p.2 p.1) : SetB knd h' a L es ep t :=
  { R with
    ob := let ⟨o, ho, r⟩ := R.ob; ⟨o, ha o ho, r⟩
    key := hk }
theorem setB_new {h : Heap} {a : Addr} (ho : h.get? a = some (obS w)) : SetB knd h a [] #[] 0 (.fresh 0 0 (!w.params.followText "set-order")) where
  ob := ⟨_, ho, ⟨rfl, rfl, rfl⟩, rfl⟩
  ent := rfl
  tab := ⟨List.Pairwise.nil, rfl, rfl, ⟨3, rfl, by decide⟩, fun i h j hi => by simp at hi⟩
  one := List.nodup_nil
  key := fun p hp => nomatch hp
  plain := rfl
  led := by
    cases h : w.params.followText "set-order"
    · exact .inr rfl
    · exact .inl rfl
  room := show 0 * 5 < 7 * 3 by decide
  mem := show 7 ∈ masks by decide
structure Has (ks : List (Addr × K)) (i : Nat) (L : List (Addr × K)) : Prop where
  from_ : ∀ p ∈ L, p ∈ ks
  all : ∀ j p, j < i → ks[j]? = some p → p.2 ∈ L.map (·.2)
def FewB (ks : List (Addr × K)) : Prop := ∀ L : List (Addr × K), (∀ p ∈ L, p ∈ ks) → (L.map (·.2)).Nodup → L.length + 1 ≤ 4000
theorem updates (ek : Ek knd) {it sa : Addr} {fp wr : List Addr} {G : Array GenState → Array GenState → Prop} {n : Nat} {Pv : Nat → Value → Prop} {St : Nat → Shared → Prop} {R : Result → Shared → Prop} {base : Heap} {ks : List (Addr × K)}
    (W : WalksS P w A.in1 it fp wr G n Pv St) (out : sa ∉ fp) (en : n = ks.length) (few : FewB ks) (val : ∀ i v, Pv i v → ∃ p, ks[i]? = some p ∧ v = .ref p.1)
    (key : ∀ p ∈ ks, knd.is base p.2 p.1) (none0 : base.get? sa = none) (noneW : ∀ b ∈ wr, base.get? b = none) (hu : knd.room A.in1) :
    ∀ (left i : Nat) (s : Shared), n - i = left → i ≤ n → St i s → (∀ b o, base.get? b = some o → s.heap.get? b = some o) → (∃ L es ep t, SetB knd s.heap sa L es ep t ∧ Has ks i L) →
      (∀ s' L es ep t, Moved (sa :: wr) G s s' → SetB knd s'.heap sa L es ep t → Has ks n L → (∀ b o, base.get? b = some o → s'.heap.get? b = some o) → R (.ok (.ret .none)) s') →
      codeAny (model P w) A (.builtin "set.update.loop" ⟨[.ref sa, .ref it], []⟩) R s := by
  have notw : sa ∉ wr := fun z => out (W.sub _ z)
  have wider : ∀ b ∈ wr, b ∈ sa :: wr := fun b z => List.mem_cons_of_mem _ z
  have kept : ∀ {s s' : Shared}, Moved wr G s s' → (∀ b o, base.get? b = some o → s.heap.get? b = some o) → ∀ b o, base.get? b = some o → s'.heap.get? b = some o := fun mv kb b o e =>
    mv.heap b o (fun z => by
      rw [noneW b z] at e
      cases e) (kb b o e)
  intro left
  induction left with
  | zero =>
    intro i s e1 e2 st kb ⟨L, es, ep, t, hS, g⟩ fin
    obtain rfl : i = n := by omega
    refine codeAny_builtin F.entry_set_update_loop ?_
    rw [Around.under_plainId F.plain_set_update_loop _]
    show wpAny _ A.in1 (pyNext (.ref it) >>= _) _ _ s
    refine wpAny_bind (W.done s _ _ st fun s' mv => ?_)
    show wpAny _ A.in1 (ret Value.none) _ _ s'
    have kb' := kept mv kb
    exact wpAny_pure (fin s' L es ep t (mv.mono wider) (hS.kept (fun o e => mv.heap sa o notw e) fun p hp => key_kept ek (key p (g.from_ p hp)) kb') g kb')
  | succ left ih =>
    intro i s e1 e2 st kb ⟨L, es, ep, t, hS, g⟩ fin
    have more : i < n := by omega
    refine codeAny_builtin F.entry_set_update_loop ?_
    rw [Around.under_plainId F.plain_set_update_loop _]
    show wpAny _ A.in1 (pyNext (.ref it) >>= _) _ _ s
    refine wpAny_bind (W.item i s _ _ more st fun v s' pv st' mv => ?_)
    obtain ⟨x, hx, rfl⟩ := val i v pv
    have kb' := kept mv kb
    have hS' := hS.kept (fun o e => mv.heap sa o notw e) fun q hq => key_kept ek (key q (g.from_ q hq)) kb'
    have xin := List.mem_of_getElem? hx
    have tx := key_kept ek (key x xin) kb'
    show wpAny _ A.in1 (holding [Value.ref x.1] (setAdd sa (.ref x.1)) >>= _) _ _ s'
    refine wpAny_bind (wpAny_holding ?_)
    unfold setAdd
    refine wpAny_holding ?_
    refine wpAny_bind (knd.pyHash hu tx ?_)
    refine add_one (s := { s' with toks := s'.toks + knd.draws x.2 }) ek hS' tx hu (few L g.from_ hS.one) fun b h' L' es' ep' t' sb hS2 c1 c2 => ?_
    have g' : Has ks (i + 1) L' := by
      by_cases c : x.2 ∈ L.map (·.2)
      · rw [c1 c]
        refine ⟨g.from_, fun j p hj hp => ?_⟩
        rcases Nat.lt_succ_iff_lt_or_eq.mp hj with z | z
        · exact g.all j p z hp
        · rw [z, hx] at hp
          rw [← Option.some.inj hp]
          exact c
      · have pm := c2 c
        refine ⟨fun p hp => ?_, fun j p hj hp => ?_⟩
        · rcases List.mem_cons.mp (pm.mem_iff.mp hp) with z | z
          · rw [z]
            exact xin
          · exact g.from_ p z
        · rw [(pm.map (·.2)).mem_iff, List.map_cons]
          rcases Nat.lt_succ_iff_lt_or_eq.mp hj with z | z
          · exact List.mem_cons_of_mem _ (g.all j p z hp)
          · rw [z, hx] at hp
            rw [← Option.some.inj hp]
            exact List.mem_cons_self
    have kb2 : ∀ b o, base.get? b = some o → h'.get? b = some o := fun b o e => (sb.2 b fun z => by
      rw [z, none0] at e
      cases e).trans (kb' b o e)
    refine wpAny_pure ⟨plainId_quiet F.plain_set_update_loop _, ih (i + 1) _ (by omega) more (W.frame _ s' _ _ st' (Nat.le_add_right _ _) fun b hb o e => ?_) kb2 ⟨L', es', ep', t', hS2, g'⟩ fun s'' L2 es2 ep2 t2 mv2 hS3 g2 kb3 => ?_⟩
    · rw [sb.2 b fun z : b = sa => out (by rw [← z]; exact hb)]
      exact e
    · refine fin s'' L2 es2 ep2 t2 (Moved.trans W.gtrans ((mv.mono wider).then_heap (Nat.le_add_right _ _) fun b o hb e => ?_) mv2) hS3 g2 kb3
      rw [sb.2 b fun z : b = sa => hb (by rw [z]; exact List.mem_cons_self)]
      exact e
def SeqOf (h : Heap) (tup : Bool) (l : Addr) (vs : Array Value) : Prop := if tup = true then h.IsTuple l vs else h.IsList l vs
set_option maxHeartbeats 6400000 in
theorem set_of (ek : Ek knd) (tup : Bool) {l : Addr} {vs : Array Value} (ks : List (Addr × K)) {Q : Value → Shared → Prop} (cal : A.handled = none) (isl : SeqOf s.heap tup l vs)
    (iv : vs.toList = ks.map fun p => Value.ref p.1) (it : ∀ p ∈ ks, knd.is s.heap p.2 p.1) (few : FewB ks) (hu : knd.room A.in1.in1.in1)
    (fin : ∀ (g : Heap) (tk : Nat) L es ep t, SetB knd g s.heap.objs.size L es ep t → Has ks ks.length L →
      (∀ b o, s.heap.get? b = some o → g.get? b = some o) → Q (.ref s.heap.objs.size) { s with heap := g, toks := tk }) :
    wpAny (model P w) A (call (.type "set") [.ref l]) Q E s := by
  have szv : vs.size = ks.length := by
    have := congrArg List.length iv
    simpa using this
  obtain ⟨c0, tl0, mro0⟩ := F.called_set.mro
  have mad0 := F.called_set.made
  have sub0 := F.called_set.sub
  refine wpAny_call ?_
  refine codeAny_of_tree ?_
  show wpAny _ _ (callAny (Value.type "set") _) _ _ _
  refine wpAny_pure ?_
  refine ⟨Code.quiet_builtin _ ?_, ?_⟩
  · decide +kernel
  refine codeAny_builtin F.entry_type_call ?_
  rw [Around.under_plain (weight_type_call_type "set" [Value.ref l] []) (by rfl)]
  have nt0 := F.called_set.notType
  have cc0 := F.called_set.canCreate
  have tc0 := F.typeCall_set_1 (.ref l)
  repeat (any_goals (first | assumption | wp_step))
  refine codeAny_mono (code_set_led1 (.ref l) (E := E)
    (Q₁ := fun ob t => ob = .ref s.heap.objs.size ∧ t = { s with heap := s.heap.push (obS w) }) ⟨rfl, rfl⟩) fun rr tt hh => ?_
  match rr, hh with
  | .error e, hh => exact hh
  | .ok .next, hh => exact hh.elim
  | .ok .brk, hh => exact hh.elim
  | .ok .cont, hh => exact hh.elim
  | .ok (.ret ob), hh =>
    obtain ⟨e1, e2⟩ := hh
    subst e1
    subst e2
    have atS : (s.heap.push (obS w)).get? s.heap.objs.size = some (obS w) := Heap.get?_push_size _ rfl
    have tyS : Shared.TypeIs { s with heap := s.heap.push (obS w) } (.ref s.heap.objs.size) "set" := ⟨_, atS, rfl⟩
    have il0 := F.called_set.init.lookup
    have ib0 := F.called_set.init.bind (.ref s.heap.objs.size)
    repeat (any_goals (first | assumption | wp_step))
    have cal3 : A.in1.in1.in1.handled = none := by simpa using cal
    have szP : (s.heap.push (obS w)).objs.size = s.heap.objs.size + 1 := Heap.size_push _ _
    have valI : ∀ (i : Nat) (v : Value), vs[i]? = some v → ∃ p, ks[i]? = some p ∧ v = .ref p.1 := by
      intro i v hv
      have hv' : vs.toList[i]? = some v := by
        rw [Array.getElem?_toList]
        exact hv
      rw [iv, List.getElem?_map] at hv'
      cases e : ks[i]? with
      | none => rw [e] at hv'; cases hv'
      | some p => rw [e] at hv'; exact ⟨p, rfl, (Option.some.inj hv').symm⟩
    have nn : ∀ b, s.heap.objs.size ≤ b → s.heap.get? b = none := fun b hb => by
      cases e : s.heap.get? b with
      | none => rfl
      | some o => exact absurd (Heap.lt_size e) (Nat.not_lt.mpr hb)
    have loop : ∀ (fp wr : List Addr) (G : Array GenState → Array GenState → Prop) (St : Nat → Shared → Prop) (s1 : Shared) (Rr : Result → Shared → Prop), WalksS P w A.in1.in1.in1 (s.heap.push (obS w)).objs.size fp wr G vs.size (fun i v => vs[i]? = some v) St → s.heap.objs.size ∉ fp → wr = [(s.heap.push (obS w)).objs.size] → St 0 s1 →
        (∀ b o, s.heap.get? b = some o → s1.heap.get? b = some o) → s1.heap.get? s.heap.objs.size = some (obS w) →
        (∀ s' L es ep t, Moved (s.heap.objs.size :: wr) G s1 s' → SetB knd s'.heap s.heap.objs.size L es ep t → Has ks vs.size L → (∀ b o, s.heap.get? b = some o → s'.heap.get? b = some o) → Rr (.ok (.ret .none)) s') →
        codeAny (model P w) A.in1.in1 (.builtin "set.update.loop" ⟨[.ref s.heap.objs.size, .ref (s.heap.push (obS w)).objs.size], []⟩) Rr s1 := fun fp wr G St s1 Rr W no ew st kb ob fin2 =>
      updates ek W no szv few valI it (nn _ (Nat.le_refl _)) (fun b hb => nn b (by
          rw [ew] at hb
          rw [List.mem_singleton.mp hb, szP]
          exact Nat.le_succ _)) hu (vs.size - 0) 0 s1 (by omega) (Nat.zero_le _) st kb ⟨[], #[], 0, _, setB_new ob, ⟨fun p hp => (by cases hp), fun j p hj => absurd hj (Nat.not_lt_zero _)⟩⟩ fin2
    refine codeAny_mono (codeAny_call_builtin
      (R := wants (fun r t => r = .none ∧ ∃ g tk L es ep tb, t = { s with heap := g, toks := tk } ∧ SetB knd g s.heap.objs.size L es ep tb ∧ Has ks ks.length L ∧
        (∀ b o, s.heap.get? b = some o → g.get? b = some o)) E) F.called_set.init.plain F.entry_set_init (check_set_init_1 tyS ?_)) fun r2 t2 h2 => ?_
    · cases tup with
      | true =>
        have isl : s.heap.IsTuple l vs := isl
        obtain ⟨⟨c1, d1, a1, sl1⟩, at1, cl1, n1, da1⟩ := isl
        simp only at cl1 da1
        subst cl1
        subst da1
        have at1' := Heap.get?_push_of_some (obS w) at1
        have subA := F.sub_tuple_set
        have subB := F.sub_tuple_frozenset
        have notD : (Value.type "tuple" == Value.type "dict") = false := by decide
        have isl' : (s.heap.push (obS w)).IsTuple l vs := ⟨_, at1', rfl, n1, rfl⟩
        unfold Builtin.«set.__init__» noKeywords Builtin.Frozenset.updateFrom
        generalize hIt : pyIter = It0
        wp_walk
        subst hIt
        refine wpAny_pyIter_tuple isl' ?_
        refine wpAny_bind (wpAny_runValue ?_)
        have ltl : l < s.heap.objs.size := Heap.lt_size at1
        have neP : l ≠ (s.heap.push (obS w)).objs.size := by
          rw [szP]
          exact Nat.ne_of_lt (Nat.lt_succ_of_lt ltl)
        have notIn : s.heap.objs.size ∉ [(s.heap.push (obS w)).objs.size, l] := by
          rw [szP]
          intro hm
          rcases List.mem_cons.mp hm with z | z
          · exact absurd z (Nat.ne_of_lt (Nat.lt_succ_self _))
          · exact absurd (List.mem_singleton.mp z) (Nat.ne_of_gt ltl)
        refine loop _ _ _ _ _ _ ((Walks.tuple cal3 _ l neP vs).toS) notIn rfl ⟨⟨_, Heap.get?_push_size _ rfl, rfl, rfl⟩, isl'.push _⟩ (fun b o e => Heap.get?_push_of_some _ (Heap.get?_push_of_some _ e)) (Heap.get?_push_of_some _ atS) fun t L es ep tb mv st gt kp => ?_
        obtain ⟨g, gg, dd, tk, oo⟩ := t
        obtain rfl : gg = s.gens := mv.gens
        obtain rfl : dd = s.drawn := mv.drawn
        obtain rfl : oo = s.os := mv.os
        show wpAny _ _ _ _ _ _
        refine wpAny_pure ?_
        show wpAny _ _ (ret Value.none) _ _ _
        rw [szv] at gt
        exact wpAny_pure ⟨rfl, g, tk, L, es, ep, tb, rfl, st, gt, kp⟩
      | false =>
        have isl : s.heap.IsList l vs := isl
        obtain ⟨⟨c1, d1, a1, sl1⟩, at1, cl1, n1, da1⟩ := isl
        simp only at cl1 da1
        subst cl1
        subst da1
        have at1' := Heap.get?_push_of_some (obS w) at1
        have subA := F.sub_list_set
        have subB := F.sub_list_frozenset
        have notD : (Value.type "list" == Value.type "dict") = false := by decide
        have isl' : (s.heap.push (obS w)).IsList l vs := ⟨_, at1', rfl, n1, rfl⟩
        unfold Builtin.«set.__init__» noKeywords Builtin.Frozenset.updateFrom
        generalize hIt : pyIter = It0
        wp_walk
        subst hIt
        refine wpAny_pyIter_list isl' ?_
        refine wpAny_bind (wpAny_runValue ?_)
        have ltl : l < s.heap.objs.size := Heap.lt_size at1
        have neP : l ≠ (s.heap.push (obS w)).objs.size := by
          rw [szP]
          exact Nat.ne_of_lt (Nat.lt_succ_of_lt ltl)
        have notIn : s.heap.objs.size ∉ [(s.heap.push (obS w)).objs.size, l] := by
          rw [szP]
          intro hm
          rcases List.mem_cons.mp hm with z | z
          · exact absurd z (Nat.ne_of_lt (Nat.lt_succ_self _))
          · exact absurd (List.mem_singleton.mp z) (Nat.ne_of_gt ltl)
        refine loop _ _ _ _ _ _ ((Walks.list cal3 _ l neP vs).toS) notIn rfl ⟨⟨_, Heap.get?_push_size _ rfl, rfl, rfl⟩, isl'.push _⟩ (fun b o e => Heap.get?_push_of_some _ (Heap.get?_push_of_some _ e)) (Heap.get?_push_of_some _ atS) fun t L es ep tb mv st gt kp => ?_
        obtain ⟨g, gg, dd, tk, oo⟩ := t
        obtain rfl : gg = s.gens := mv.gens
        obtain rfl : dd = s.drawn := mv.drawn
        obtain rfl : oo = s.os := mv.os
        show wpAny _ _ _ _ _ _
        refine wpAny_pure ?_
        show wpAny _ _ (ret Value.none) _ _ _
        rw [szv] at gt
        exact wpAny_pure ⟨rfl, g, tk, L, es, ep, tb, rfl, st, gt, kp⟩
    · match r2, h2 with
      | .error e, h2 => exact h2
      | .ok .next, h2 => exact h2.elim
      | .ok .brk, h2 => exact h2.elim
      | .ok .cont, h2 => exact h2.elim
      | .ok (.ret r), h2 =>
        obtain ⟨e0, g, tk, L, es, ep, tb, e3, st, lec, kp⟩ := h2
        subst e0
        subst e3
        repeat (any_goals (first | assumption | wp_step))
        exact fin _ _ _ _ _ _ st lec kp
theorem perm_lift {α β : Type} {f : α → β} {xs ys : List β} (h : xs.Perm ys) : ∀ {L : List α}, ys = L.map f → ∃ M : List α, M.Perm L ∧ xs = M.map f := by
  induction h with
  | nil =>
    intro L e
    cases L with
    | nil => exact ⟨[], List.Perm.refl _, rfl⟩
    | cons _ _ => cases e
  | @cons x _ _ _ ih =>
    intro L e
    cases L with
    | nil => cases e
    | cons y L =>
      injection e with e1 e2
      obtain ⟨M, p, q⟩ := ih e2
      exact ⟨y :: M, p.cons y, by rw [e1, q]; rfl⟩
  | swap x y _ =>
    intro L e
    match L, e with
    | [], e => cases e
    | [_], e => cases e
    | u :: v :: L, e =>
      injection e with e1 e2
      injection e2 with e2 e3
      exact ⟨v :: u :: L, List.Perm.swap _ _ _, by rw [e1, e2, e3]; rfl⟩
  | trans _ _ i1 i2 =>
    intro L e
    obtain ⟨M, p, q⟩ := i2 e
    obtain ⟨N, p2, q2⟩ := i1 q
    exact ⟨N, p2.trans p, q2⟩
theorem each_refs {h : Heap} {enc : K → PyData} : ∀ {L : List (Addr × K)}, (∀ p ∈ L, ∃ as, Reads h (.ref p.1) (enc p.2) as) → PySem.W.EachIs (fun v (b : Addr × K) => v = Value.ref b.1) (L.map fun p => Value.ref p.1) L ∧ PySem.W.EachIs (fun v (b : Addr × K) => ∃ as, Reads h v (enc b.2) as) (L.map fun p => Value.ref p.1) L
  | [], _ => ⟨.nil, .nil⟩
  | p :: L, hL => by
    obtain ⟨a, b⟩ := each_refs (L := L) fun q hq => hL q (List.mem_cons_of_mem _ hq)
    exact ⟨.cons rfl a, .cons (hL p List.mem_cons_self) b⟩
theorem refs_each : ∀ {out : List Value} {L : List (Addr × K)}, PySem.W.EachIs (fun v (b : Addr × K) => v = Value.ref b.1) out L → out = L.map fun p => Value.ref p.1
  | _, _, .nil => rfl
  | _, _, .cons e t => by rw [e, refs_each t]; rfl
theorem sorted_of {a : Addr} {L : List (Addr × K)} {es : Array (Int × Value)} {ep : Nat} {t : SetTable} {Q : Value → Shared → Prop} (R : SetB knd s.heap a L es ep t) (cal : A.handled = none) (few : L.length ≤ 4000) (enc : K → PyData)
    (rd : ∀ p ∈ L, ∃ as, Reads s.heap (.ref p.1) (enc p.2) as) (al : ∀ p ∈ L, ∀ q ∈ L, PySem.W.alike (enc p.2) (enc q.2) = true) (ne : (∀ p ∈ L, ∃ x r, enc p.2 = .tuple (x :: r)) ∨ L.length ≤ 1) (hu : ∀ p ∈ L, A.units + 2 + (enc p.2).depth < cLine)
    (fin : ∀ s' p (out : Array Value) (c : Nat) (M : List (Addr × K)), (∀ b o, s.heap.get? b = some o → s'.heap.get? b = some o) → s'.gens = s.gens → s'.os = s.os → s.heap.objs.size ≤ p →
      s'.heap.get? p = some (seqObj "list" out c) → out.toList = (M.mergeSort (PySem.W.dataLe false fun q => enc q.2)).map (fun q => Value.ref q.1) → M.Perm L → Q (.ref p) s') :
    wpAny (model P w) A (call (.builtin "sorted") [.ref a]) Q E s := by
  obtain ⟨o, ho, ex, dat⟩ := R.ob
  have le := ent_len R.ent
  refine Calls.call_function_entry kind_sorted plain_sorted entry_sorted (args_sorted1 _) ?_
  unfold Builtin.«sorted»
  refine wpAny_bind (m := checkCount "sorted" 1 1 _) (wpAny_pure ?_)
  refine wpAny_bind (collect_set (A := A.in1) cal ⟨o, ho, ex.1, dat⟩ R.fits (by unfold scanBound; omega) R.tab.up R.led fun s1 vs k1 hz g1 o1 pm => ?_)
  have em : es.toList.map (·.2) = L.map fun q => Value.ref q.1 := by
    rw [R.ent]
    simp [entB]
  obtain ⟨M, pM, eM⟩ := perm_lift pm em
  subst eM
  have lM := pM.length_eq
  refine wpAny_bind (wpAny_newList ?_ (by rw [sizeLine_eq, List.length_map]; omega))
  have hoL : (s1.heap.push (seqObj "list" (M.map fun p => Value.ref p.1).toArray 0)).get? s1.heap.objs.size = some (seqObj "list" (M.map fun p => Value.ref p.1).toArray 0) := Heap.get?_push_size _ rfl
  have old : ∀ b u, s.heap.get? b = some u → (PySem.W.sortingHeap (s1.heap.push (seqObj "list" (M.map fun p => Value.ref p.1).toArray 0)) s1.heap.objs.size (M.map fun p => Value.ref p.1)).get? b = some u := fun b u e =>
    PySem.W.sortingHeap_old (Nat.ne_of_lt (Heap.lt_size (k1 b u e))) (Heap.get?_push_of_some _ (k1 b u e))
  obtain ⟨e1, e2⟩ := each_refs (h := PySem.W.sortingHeap (s1.heap.push (seqObj "list" (M.map fun p => Value.ref p.1).toArray 0)) s1.heap.objs.size (M.map fun p => Value.ref p.1)) (enc := enc) (L := M) fun p hp => by
    obtain ⟨as, r⟩ := rd p (pM.mem_iff.mp hp)
    exact ⟨as, PyProof.Rows.Reads.keeps old r⟩
  have alM : PySem.W.AllAlike (M.map fun q => enc q.2) := fun d hd d' hd' => by
    obtain ⟨p, hp, rfl⟩ := List.mem_map.mp hd
    obtain ⟨q, hq, rfl⟩ := List.mem_map.mp hd'
    exact al p (pM.mem_iff.mp hp) q (pM.mem_iff.mp hq)
  rcases ne with ne | l1
  case inr =>
    refine wpAny_bind (wpAny_holding (call_sort_few (s := { s1 with heap := s1.heap.push (seqObj "list" (M.map fun p => Value.ref p.1).toArray 0) }) hoL (by rw [List.length_map]; omega) fun out a1 => wpAny_pure ⟨_, rfl, ?_⟩))
    obtain ⟨c, hc⟩ := sortedHeap_at (vs := M.map fun p => Value.ref p.1) (out := out) hoL
    have eo : out.toList = (M.mergeSort (PySem.W.dataLe false fun q => enc q.2)).map fun q => Value.ref q.1 := by
      match M, lM, a1 with
      | [], _, a1 => rw [List.mergeSort_nil]; exact a1.eq_nil
      | [x], _, a1 => rw [List.mergeSort_singleton]; exact List.perm_singleton.mp a1
      | _ :: _ :: _, lM, _ => simp only [List.length_cons] at lM; omega
    refine fin _ s1.heap.objs.size _ c M (fun b u e => ?_) g1 o1 hz hc eo pM
    have q := k1 b u e
    have lt := Heap.lt_size q
    show (sortedHeap _ s1.heap.objs.size _ _).get? b = some u
    rw [sortedHeap_old (Nat.ne_of_lt lt) (by rw [size_push']; exact Nat.lt_succ_of_lt lt)]
    exact Heap.get?_push_of_some _ q
  have soM : PySem.W.Sortable (M.map fun q => enc q.2) := .inl fun d hd => by
    obtain ⟨p, hp, rfl⟩ := List.mem_map.mp hd
    exact ne p (pM.mem_iff.mp hp)
  refine wpAny_bind (wpAny_holding (wpAny_call_entry slot_list_sort ⟨_, hoL, rfl⟩ entry_list_sort ?body (args_list_sort _)))
  case body =>
    refine PySem.W.list_sort_vals (s := { s1 with heap := s1.heap.push (seqObj "list" (M.map fun p => Value.ref p.1).toArray 0) }) hoL (PySem.W.SortsAt.data (s := { s1 with heap := PySem.W.sortingHeap (s1.heap.push (seqObj "list" (M.map fun p => Value.ref p.1).toArray 0)) s1.heap.objs.size (M.map fun p => Value.ref p.1) }) (PySem.W.each_map (R := fun v d => ∃ as, Reads (PySem.W.sortingHeap (s1.heap.push (seqObj "list" (M.map fun p => Value.ref p.1).toArray 0)) s1.heap.objs.size (M.map fun p => Value.ref p.1)) v d as) (fun q : Addr × K => enc q.2) e2) alM soM fun d hd => by
        obtain ⟨p, hp, rfl⟩ := List.mem_map.mp hd
        have := hu p (pM.mem_iff.mp hp)
        show A.units + 1 + 1 + _ < _
        omega) (by rw [sizeLine_eq, List.length_map]; omega) ?_
    refine ⟨_, rfl, wpAny_pure ⟨_, rfl, ?_⟩⟩
    have eo := refs_each (PySem.W.sortVals_data (enc := fun q : Addr × K => enc q.2) false e1 e2 alM)
    obtain ⟨c, hc⟩ := sortedHeap_at (vs := M.map fun p => Value.ref p.1) (out := (PySem.W.sortVals (PySem.W.dataKind (PySem.W.sortingHeap (s1.heap.push (seqObj "list" (M.map fun p => Value.ref p.1).toArray 0)) s1.heap.objs.size (M.map fun p => Value.ref p.1)) (M.map fun q => enc q.2)) false (M.map fun p => Value.ref p.1) (M.map fun p => Value.ref p.1)).toArray) hoL
    refine fin _ s1.heap.objs.size _ c M (fun b u e => ?_) g1 o1 hz hc (by rw [List.toList_toArray, eo]) pM
    have q := k1 b u e
    have lt := Heap.lt_size q
    show (sortedHeap _ s1.heap.objs.size _ _).get? b = some u
    rw [sortedHeap_old (Nat.ne_of_lt lt) (by rw [size_push']; exact Nat.lt_succ_of_lt lt)]
    exact Heap.get?_push_of_some _ q
end
end TL
namespace TL
open PySem PySem.Spec PyProof.Rows L2
def SetBP (P : Program) (w : World) (h : Heap) (a : Addr) (L : List (Addr × List Int)) : Prop := ∃ (es : Array (Int × Value)) (ep : Nat) (t : SetTable), (∃ o, h.get? a = some o ∧ o.ExactSet ∧ o.data = .set es ep t) ∧
  es.toList = entB (tupleKind (intKind P w)) L ∧ Tbl t (L.map fun p => (tupleKind (intKind P w)).hash p.2) ∧ (L.map (·.2)).Nodup ∧ t.plain = true ∧ (w.params.followText "set-order" = true ∨ t.led = true) ∧ L.length * 5 < t.mask * 3 ∧ t.mask ∈ masks
def SetBO (P : Program) (w : World) (a : Addr) (L : List (Addr × List Int)) : HO := .ext fun h => SetBP P w h a L
theorem SetBP.full {P : Program} {w : World} {h : Heap} {a : Addr} {L : List (Addr × List Int)} (R : SetBP P w h a L) (key : ∀ p ∈ L, IsT P w h p.2 p.1) : ∃ es ep t, SetB (tupleKind (intKind P w)) h a L es ep t := by
  obtain ⟨es, ep, t, h1, h2, h3, h4, h5, h6, h7, h8⟩ := R
  exact ⟨es, ep, t, h1, h2, h3, h4, key, h5, h6, h7, h8⟩
theorem setBO_new {P : Program} {w : World} {H : Hp} {h : Heap} {a : Addr} {L : List (Addr × List Int)} {es : Array (Int × Value)} {ep : Nat} {t : SetTable} (R : SetB (tupleKind (intKind P w)) h a L es ep t) : ObjOk P w H h a (SetBO P w a L) := by
  obtain ⟨o, ho, r⟩ := id R.ob
  refine ⟨⟨es, ep, t, R.ob, R.ent, R.tab, R.one, R.plain, R.led, R.room, R.mem⟩, ⟨o, ho⟩, fun h1 h2 p k => ?_⟩
  obtain ⟨es', ep', t', ⟨o', ho', r'⟩, q'⟩ := p
  exact ⟨es', ep', t', ⟨o', k o' ho', r'⟩, q'⟩
section
variable {X : Cx} {E : XK}
def rSetB (K : PySem.W.Frag) (P : Program) (w : World) : List V → Hp → VK → Prop := fun xs H Q => ∃ (l : Addr) (ks : List (Addr × List Int)), xs = [V.ref l] ∧ (SqL K H l (ks.map fun p => V.ref p.1) ∨ SqT K H l (ks.map fun p => V.ref p.1)) ∧ (∀ p ∈ ks, SqT K H p.1 (p.2.map V.int)) ∧ FewB ks ∧
  ∀ a L, H a = none → (∀ p ∈ L, p ∈ ks) → (∀ p ∈ ks, p.2 ∈ L.map (·.2)) → (L.map (·.2)).Nodup → Q (.ref a) (upd H a (SetBO P w a L))
theorem cr_setB (hc : X.calm = true) (hu : X.A.units + 64 < cLine) : CallR X (.type "set") (rSetB X.K X.prog X.w) := by
  intro pins s σ H xs us Q I r h
  obtain ⟨l, ks, e0, hl, hk, hf, q⟩ := h
  subst e0
  have hn : H s.heap.objs.size = none := I.hok.fresh (Nat.le_refl _)
  rw [Vals.ref1 r]
  have last : ∀ L, Has ks ks.length L → ∀ p ∈ ks, p.2 ∈ L.map (·.2) := fun L gt p hp => by
    obtain ⟨j, hj, e⟩ := List.getElem_of_mem hp
    exact gt.all j p hj (by rw [List.getElem?_eq_getElem hj, e])
  rcases hl with hl | hl
  · obtain ⟨its, rv, pl, hz⟩ := I.list hl
    refine set_of (ek_ints X.prog X.w) false ks (I.ok.hd hc) (show SeqOf s.heap false l its.toArray from pl.isList) (by simpa using refs_of_vals rv) (fun p hp => I.isT (hk p hp)) hf (by show X.A.units + 1 + 1 + 1 < _; omega) fun g tk L es ep t R gt kp => ?_
    exact ⟨.ref s.heap.objs.size, upd H s.heap.objs.size (SetBO X.prog X.w s.heap.objs.size L), I.laid (t' := tk) kp (Nat.le_refl _) (setBO_new R), rfl, q _ L hn gt.from_ (last L gt) R.one⟩
  · obtain ⟨its, rv, pl, hz⟩ := I.tuple hl
    refine set_of (ek_ints X.prog X.w) true ks (I.ok.hd hc) (show SeqOf s.heap true l its.toArray from pl) (by simpa using refs_of_vals rv) (fun p hp => I.isT (hk p hp)) hf (by show X.A.units + 1 + 1 + 1 < _; omega) fun g tk L es ep t R gt kp => ?_
    exact ⟨.ref s.heap.objs.size, upd H s.heap.objs.size (SetBO X.prog X.w s.heap.objs.size L), I.laid (t' := tk) kp (Nat.le_refl _) (setBO_new R), rfl, q _ L hn gt.from_ (last L gt) R.one⟩
theorem rows_up (M : List (Addr × List Int)) (nd : (M.map (·.2)).Nodup) : ((M.mergeSort (PySem.W.dataLe false fun q => PyData.tuple (q.2.map .int))).map (·.2)).Pairwise (· < ·) := by
  have le : (PySem.W.dataLe false fun q : Addr × List Int => PyData.tuple (q.2.map .int)) = fun p q => decide (p.2 ≤ q.2) := by
    funext p q
    show (!PySem.W.dataLt (.tuple (q.2.map .int)) (.tuple (p.2.map .int))) = _
    rw [PySem.W.dataLt_tuple]
    show (!PySem.W.rowLt (q.2.map .int) (p.2.map .int)) = _
    rw [PySem.W.dataLt_ints]
    by_cases h : q.2 < p.2
    · simp [h, show ¬ p.2 ≤ q.2 from fun r => List.not_lt.mpr r h]
    · simp [h, List.not_lt.mp h]
  rw [le]
  have pw := List.pairwise_mergeSort (le := fun p q : Addr × List Int => decide (p.2 ≤ q.2)) (fun a b c h1 h2 => by
    simp only [decide_eq_true_eq] at *
    exact List.le_trans h1 h2) (fun a b => by
    simp only [Bool.or_eq_true, decide_eq_true_eq]
    exact List.le_total a.2 b.2) M
  have nd2 : ((M.mergeSort fun p q => decide (p.2 ≤ q.2)).map (·.2)).Nodup := ((List.mergeSort_perm M _).map (·.2)).nodup_iff.mpr nd
  rw [List.nodup_iff_pairwise_ne, List.pairwise_map] at nd2
  rw [List.pairwise_map]
  refine (pw.and nd2).imp fun {a b} h => ?_
  have h1 := of_decide_eq_true h.1
  rcases tri a.2 b.2 with z | z | z
  · exact z
  · exact absurd z h.2
  · exact absurd z (List.not_lt.mpr h1)
def rSortedB (K : PySem.W.Frag) (P : Program) (w : World) : List V → Hp → VK → Prop := fun vs H Q => ∃ (a : Addr) (L : List (Addr × List Int)), vs = [V.ref a] ∧ H a = some (SetBO P w a L) ∧ (∀ p ∈ L, SqT K H p.1 (p.2.map V.int)) ∧ ((∀ p ∈ L, p.2 ≠ []) ∨ ∀ p ∈ L, p.2 = []) ∧ L.length ≤ 4000 ∧
  ∀ (M : List (Addr × List Int)) (p : Addr), M.Perm L → (M.map (·.2)).Pairwise (· < ·) → H p = none → Q (.ref p) (upd H p (.lst (M.map fun q => V.ref q.1)))
theorem cr_sortedB (hc : X.calm = true) (hu : X.A.units + 64 < cLine) : CallR X (.builtin "sorted") (rSortedB X.K X.prog X.w) := by
  intro pins s σ H vs us Q I r h
  obtain ⟨a, L, rfl, ha, hk, ne, few, q⟩ := h
  have R0 : SetBP X.prog X.w s.heap a L := (I.hok a _ ha).1
  obtain ⟨es, ep, t, R⟩ := R0.full fun p hp => I.isT (hk p hp)
  rw [Vals.ref1 r]
  refine sorted_of R (I.ok.hd hc) few (fun k : List Int => PyData.tuple (k.map .int)) (fun p hp => ?_) (fun p _ q _ => ?_) ?_ (fun p hp => ?_) fun s' p out c M k g o hp hg hout pm => ?_
  · obtain ⟨its, rv, ⟨ob, ho, hc, n, hd⟩, hz⟩ := I.tuple (hk p hp)
    exact ⟨[], .tuple ho hc hd (by simpa using reads_ints rv)⟩
  · show PySem.W.alike (.tuple _) (.tuple _) = true
    rw [PySem.W.alike]
    exact PySem.W.alike_ints _ _
  · rcases ne with ne | ze
    · refine .inl fun p hp => ?_
      cases e : p.2 with
      | nil => exact absurd e (ne p hp)
      | cons x r => exact ⟨.int x, r.map .int, rfl⟩
    · refine .inr ?_
      match L, R.one, ze with
      | [], _, _ => exact Nat.zero_le _
      | [_], _, _ => exact Nat.le_refl _
      | x :: y :: L, nd, ze =>
        refine absurd ?_ ((List.pairwise_cons.mp nd).1 y.2 List.mem_cons_self)
        show x.2 = y.2
        rw [ze x List.mem_cons_self, ze y (List.mem_cons_of_mem _ List.mem_cons_self)]
  · have : (PyData.tuple (p.2.map .int)).depth = 1 := by
      rw [PyData.depth]
      have := depth_ints p.2
      omega
    omega
  · generalize hN : M.mergeSort (PySem.W.dataLe false fun q => PyData.tuple (q.2.map .int)) = N at hout
    have pN : N.Perm L := by rw [← hN]; exact (List.mergeSort_perm M _).trans pm
    have up : (N.map (·.2)).Pairwise (· < ·) := by rw [← hN]; exact rows_up M ((pm.map (·.2)).nodup_iff.mpr R.one)
    have hlen : (N.map fun q => V.ref q.1).length ≤ sizeLine := by rw [List.length_map, sizeLine_eq, pN.length_eq]; omega
    have hn : H p = none := I.hok.fresh hp
    have hv : Vals (N.map fun q => V.ref q.1) out.toList := by rw [hout]; exact vals_of_refs N
    have J : Inv X pins σ (upd H p (.lst (N.map fun q => V.ref q.1))) { s with heap := s'.heap, gens := s'.gens, drawn := s'.drawn, toks := s'.toks } :=
      I.call (ch := []) (Un.laid k hp hn) (I.hok.laid k hp ⟨hlen, out.toList, c, hv, hg⟩) (by rw [g]; exact I.bare) (fun _ z => nomatch z)
    have e : s' = { s with heap := s'.heap, gens := s'.gens, drawn := s'.drawn, toks := s'.toks } := by
      cases s'
      cases s
      cases o
      rfl
    rw [e]
    exact ⟨.ref p, _, J, rfl, q N p pN up hn⟩
end
end TL
namespace TL
open PySem PySem.Spec PyProof.Rows L2
section
variable {X : Cx} {E : XK} {ρ : En} {a b : Expr} {m : R D} {pos p2 : Pos}
def rSetOf (K : PySem.W.Frag) (w : World) : List V → Hp → VK → Prop := fun vs H Q => ∃ (l : Addr) (ns : List Int), vs = [.ref l] ∧ (SqL K H l (ns.map V.int) ∨ SqT K H l (ns.map V.int)) ∧ ns.length + 1 < scanBound ∧
  ∀ p c, H p = none → c ≤ ns.length → Q (.ref p) (upd H p (SetO w p (fun j => decide (j ∈ ns)) c))
theorem cr_setOf (hc : X.calm = true) : CallR X (.type "set") (rSetOf X.K X.w) := by
  intro pins s σ H vs us Q I r h
  obtain ⟨l, ns, rfl, hl, few, q⟩ := h
  have hn : H s.heap.objs.size = none := I.hok.fresh (Nat.le_refl _)
  rw [Vals.ref1 r]
  rcases hl with hl | hl
  · obtain ⟨its, rv, pl, hz⟩ := I.list hl
    refine setOfL ns (I.ok.hd hc) pl.isList (by rw [List.toList_toArray]; exact intsAre_of rv) few fun g tk c R lec kp => ?_
    exact ⟨.ref _, upd H s.heap.objs.size (SetO X.w s.heap.objs.size (fun j => decide (j ∈ ns)) c), I.laid (t' := tk) kp (Nat.le_refl _) (setO_new R), rfl, q _ c hn lec⟩
  · obtain ⟨its, rv, pl, hz⟩ := I.tuple hl
    refine setOfT ns (I.ok.hd hc) pl (by rw [List.toList_toArray]; exact intsAre_of rv) few fun g tk c R lec kp => ?_
    exact ⟨.ref _, upd H s.heap.objs.size (SetO X.w s.heap.objs.size (fun j => decide (j ∈ ns)) c), I.laid (t' := tk) kp (Nat.le_refl _) (setO_new R), rfl, q _ c hn lec⟩
def insN (k : Int) : List Int → List Int
  | [] => [k]
  | x :: xs => if k < x then k :: x :: xs else if k = x then x :: xs else x :: insN k xs
def setN' (ns : List Int) : List Int := ns.foldr insN []
theorem insN_mem {k j : Int} : ∀ {xs : List Int}, j ∈ insN k xs ↔ j = k ∨ j ∈ xs
  | [] => by simp [insN]
  | x :: xs => by
    unfold insN
    split
    · simp
    · split
      · rename_i h
        subst h
        simp
      · simp only [List.mem_cons, insN_mem (xs := xs)]
        constructor
        · rintro (h | h | h) <;> simp [h]
        · rintro (h | h | h) <;> simp [h]
theorem insN_up {k : Int} : ∀ {xs : List Int}, xs.Pairwise (· < ·) → (insN k xs).Pairwise (· < ·)
  | [], _ => by simp [insN]
  | x :: xs, h => by
    obtain ⟨h1, h2⟩ := List.pairwise_cons.mp h
    unfold insN
    split
    · rename_i hk
      exact List.pairwise_cons.mpr ⟨fun y hy => by
        rcases List.mem_cons.mp hy with z | z
        · rw [z]; exact hk
        · exact Int.lt_trans hk (h1 y z), h⟩
    · split
      · exact h
      · rename_i h3 h4
        refine List.pairwise_cons.mpr ⟨fun y hy => ?_, insN_up h2⟩
        rcases insN_mem.mp hy with z | z
        · rw [z]; omega
        · exact h1 y z
theorem setN'_mem {j : Int} : ∀ {ns : List Int}, j ∈ setN' ns ↔ j ∈ ns
  | [] => by simp [setN']
  | n :: ns => by
    show j ∈ insN n (setN' ns) ↔ _
    rw [insN_mem, setN'_mem (ns := ns), List.mem_cons]
theorem setN'_up : ∀ {ns : List Int}, (setN' ns).Pairwise (· < ·)
  | [] => List.Pairwise.nil
  | n :: ns => insN_up setN'_up
theorem up_eq : ∀ {xs ys : List Int}, xs.Pairwise (· < ·) → ys.Pairwise (· < ·) → (∀ k, k ∈ xs ↔ k ∈ ys) → xs = ys
  | [], [], _, _, _ => rfl
  | [], y :: ys, _, _, h => absurd ((h y).mpr List.mem_cons_self) List.not_mem_nil
  | x :: xs, [], _, _, h => absurd ((h x).mp List.mem_cons_self) List.not_mem_nil
  | x :: xs, y :: ys, h1, h2, h => by
    obtain ⟨a1, b1⟩ := List.pairwise_cons.mp h1
    obtain ⟨a2, b2⟩ := List.pairwise_cons.mp h2
    have e : x = y := by
      rcases List.mem_cons.mp ((h x).mp List.mem_cons_self) with z | z
      · exact z
      · rcases List.mem_cons.mp ((h y).mpr List.mem_cons_self) with z2 | z2
        · exact z2.symm
        · have := a2 x z
          have := a1 y z2
          omega
    subst e
    rw [up_eq b1 b2 fun k => ⟨fun hk => ?_, fun hk => ?_⟩]
    · rcases List.mem_cons.mp ((h k).mp (List.mem_cons_of_mem _ hk)) with z | z
      · have := a1 k hk; omega
      · exact z
    · rcases List.mem_cons.mp ((h k).mpr (List.mem_cons_of_mem _ hk)) with z | z
      · have := a2 k hk; omega
      · exact z
def okB (ks : List (List Int)) : Bool := (ks.all fun k => !k.isEmpty) || ks.all fun k => k.isEmpty
def setTB (ks : List (List Int)) : R D := if (setT' ks).length ≤ 3999 ∧ okB ks = true then .ok (.list ((setT' ks).map fun k => .tuple (k.map .int))) else .no
def setTD (ts : List D) : R D := match tupsOf ts with
  | some ks => if ks.length < 64 ∧ tupsOk ks = true then .ok (.list ((setT' ks).map fun k => .tuple (k.map .int))) else setTB ks
  | none => .no
def setLD (ts : List D) : R D := match nums ts with
  | some ns => if ns.length < 64 then .ok (.list ((setN' ns).map .int)) else .no
  | none => setTD ts
def pySortedSet (d : D) : R D := match d with
  | .list ts => setLD ts
  | .tuple ts => setLD ts
  | _ => .no
theorem tupsOk_okB {ks : List (List Int)} (h : tupsOk ks = true) : okB ks = true := by
  cases ks with
  | nil => rfl
  | cons k kr =>
    have h : ((k :: kr).all fun j => decide (j.length = k.length) && j.all fun n => decide (0 ≤ n ∧ n < BT)) = true := h
    rw [List.all_eq_true] at h
    have len : ∀ j ∈ k :: kr, j.length = k.length := fun j hj => by
      have := h j hj
      rw [Bool.and_eq_true] at this
      exact of_decide_eq_true this.1
    unfold okB
    rw [Bool.or_eq_true, List.all_eq_true, List.all_eq_true]
    cases k with
    | nil => exact .inr fun j hj => List.isEmpty_iff.mpr (List.length_eq_zero_iff.mp (len j hj))
    | cons x r =>
      refine .inl fun j hj => ?_
      have := len j hj
      cases j with
      | nil => simp at this
      | cons _ _ => rfl
theorem setT'_le : ∀ ks : List (List Int), (setT' ks).length ≤ ks.length
  | [] => Nat.le_refl _
  | k :: ks => by
    have key : ∀ xs : List (List Int), (insT k xs).length ≤ xs.length + 1 := by
      intro xs
      induction xs with
      | nil => exact Nat.le_refl _
      | cons x xs ih =>
        unfold insT
        split
        · exact Nat.le_refl _
        · split
          · exact Nat.le_succ _
          · simp only [List.length_cons]
            omega
    have h1 := key (setT' ks)
    have h2 := setT'_le ks
    show (insT k (setT' ks)).length ≤ ks.length + 1
    omega
theorem setTD_some {ts : List D} {ks : List (List Int)} (e : tupsOf ts = some ks) : setTD ts = .no ∨ (setTD ts = .ok (.list ((setT' ks).map fun k => .tuple (k.map .int))) ∧ (setT' ks).length ≤ 3999 ∧ okB ks = true) := by
  unfold setTD
  rw [e]
  dsimp only
  by_cases h : ks.length < 64 ∧ tupsOk ks = true
  · rw [if_pos h]
    have := setT'_le ks
    exact .inr ⟨rfl, by omega, tupsOk_okB h.2⟩
  · rw [if_neg h]
    unfold setTB
    by_cases h2 : (setT' ks).length ≤ 3999 ∧ okB ks = true
    · rw [if_pos h2]
      exact .inr ⟨rfl, h2⟩
    · rw [if_neg h2]
      exact .inl rfl
theorem lenNd {α : Type} [DecidableEq α] : ∀ {L S : List α}, L.Nodup → (∀ x ∈ L, x ∈ S) → L.length ≤ S.length
  | [], _, _, _ => Nat.zero_le _
  | x :: L, S, nd, sub => by
    obtain ⟨n1, n2⟩ := List.nodup_cons.mp nd
    have hx : x ∈ S := sub x List.mem_cons_self
    have h1 : L.length ≤ (S.erase x).length := lenNd n2 fun y hy => (List.mem_erase_of_ne (show y ≠ x from fun e => n1 (e ▸ hy))).2 (sub y (List.mem_cons_of_mem _ hy))
    have h2 := List.length_erase_of_mem hx
    have h3 := List.length_pos_of_mem hx
    rw [List.length_cons]
    omega
abbrev afterSet (Q : VK) : VK := fun x H2 => ∃ vs, [x] = vs ∧ (rSortedSet X.w vs H2 Q ∨ rSortedB X.K X.prog X.w vs H2 Q)
theorem tups_core {l : Addr} {xs : List V} {ts : List D} {ks : List (List Int)} {G H G1 H1 : Hp} {Q : VK} (fr : Fr G H G1 H1) (hl : SqL X.K H1 l xs ∨ SqT X.K H1 l xs) (ra : RepAll X.K G1 xs ts) (et : tupsOf ts = some ks) (few : (setT' ks).length ≤ 3999) (ok : okB ks = true)
    (q' : PostF X.K X.mg E G H (.ok (.list ((setT' ks).map fun k => .tuple (k.map .int)))) Q) : rSetB X.K X.prog X.w [V.ref l] H1 (afterSet (X := X) Q) := by
  rw [tupsOf_eq et] at ra
  obtain ⟨ps, e1, e2, e3⟩ := repAll_tups ra
  rw [e1] at hl
  have hps : ∀ p ∈ ps, p.2 ∈ ks := fun p hp => by rw [← e2]; exact List.mem_map.mpr ⟨p, hp, rfl⟩
  refine ⟨l, ps, rfl, hl, fun p hp => same_seqT fr.gh (e3 p hp), fun L hs nd => ?_, fun a L na hL hL2 nd => ⟨_, rfl, .inr ?_⟩⟩
  · have := lenNd nd (S := setT' ks) fun k hk => by
      obtain ⟨p, hp, rfl⟩ := List.mem_map.mp hk
      exact setT'_mem.mpr (hps p (hs p hp))
    rw [List.length_map] at this
    omega
  · have f2 := Fr.newU (o := SetBO X.prog X.w a L) fr.gh na
    have lenL : L.length ≤ 4000 := by
      have := lenNd nd (S := setT' ks) fun k hk => by
        obtain ⟨p, hp, rfl⟩ := List.mem_map.mp hk
        exact setT'_mem.mpr (hps p (hL p hp))
      rw [List.length_map] at this
      omega
    refine ⟨a, L, rfl, upd_same, fun p hp => same_seqT f2.gh (e3 p (hL p hp)), ?_, lenL, fun L' p pm hp2 np => ?_⟩
    · unfold okB at ok
      rw [Bool.or_eq_true, List.all_eq_true, List.all_eq_true] at ok
      rcases ok with ok | ok
      · refine .inl fun p hp z => ?_
        have := ok _ (hps p (hL p hp))
        rw [z] at this
        cases this
      · exact .inr fun p hp => List.isEmpty_iff.mp (ok _ (hps p (hL p hp)))
    · have hq : H p = none := by
        cases z : H p with
        | none => rfl
        | some o => rw [f2.hh _ _ (fr.hh _ _ z)] at np; cases np
      have eS : L'.map (·.2) = setT' ks := by
        refine upT_eq hp2 setT'_up fun k => ?_
        rw [setT'_mem, List.mem_map]
        constructor
        · rintro ⟨x, hx, rfl⟩
          exact hps x (hL x (pm.mem_iff.mp hx))
        · intro hk
          rw [← e2] at hk
          obtain ⟨x, hx, rfl⟩ := List.mem_map.mp hk
          obtain ⟨y, hy, e⟩ := List.mem_map.mp (hL2 x hx)
          exact ⟨y, pm.mem_iff.mpr hy, e⟩
      have rr : RepAll X.K G1 (L'.map fun q => V.ref q.1) ((setT' ks).map fun k => .tuple (k.map .int)) := by
        rw [← eS, List.map_map]
        have : ∀ M : List (Addr × List Int), (∀ x ∈ M, SqU X.K G1 x.1 (x.2.map V.int)) → RepAll X.K G1 (M.map fun q => V.ref q.1) (M.map ((fun k : List Int => PyData.tuple (k.map .int)) ∘ (·.2))) := by
          intro M
          induction M with
          | nil => exact fun _ => .nil
          | cons x M ih => exact fun hM => .cons (.tup (hM x List.mem_cons_self) (nums_repAll _)) (ih fun y hy => hM y (List.mem_cons_of_mem _ hy))
        exact this L' fun x hx => e3 x (hL x (pm.mem_iff.mp hx))
      exact q' p G1 _ ((fr.trans f2).trans (Fr.newU f2.gh np)) hq (own_new f2.gh np rr)
theorem nums_core {l : Addr} {xs : List V} {ts : List D} {ns : List Int} {G H G1 H1 : Hp} {Q : VK} (fr : Fr G H G1 H1) (hl : SqL X.K H1 l xs ∨ SqT X.K H1 l xs) (ra : RepAll X.K G1 xs ts) (en : nums ts = some ns) (h64 : ns.length < 64)
    (q' : PostF X.K X.mg E G H (.ok (.list ((setN' ns).map .int))) Q) : rSetOf X.K X.w [V.ref l] H1 (afterSet (X := X) Q) := by
  rw [nums_eq en] at ra
  rw [repAll_nums ra] at hl
  refine ⟨l, ns, rfl, hl, by show _ < 4096; omega, fun p c np lec => ⟨_, rfl, .inl ?_⟩⟩
  have f2 := Fr.newU (o := SetO X.w p (fun j => decide (j ∈ ns)) c) fr.gh np
  refine ⟨p, _, c, rfl, upd_same, by omega, fun ks q2 hk hmem hlen nq => ?_⟩
  have ek : ks = setN' ns := up_eq hk setN'_up fun k => by rw [hmem, setN'_mem]; exact decide_eq_true_iff
  subst ek
  have hq : H q2 = none := by
    cases z : H q2 with
    | none => rfl
    | some o => rw [f2.hh _ _ (fr.hh _ _ z)] at nq; cases nq
  exact q' q2 G1 _ ((fr.trans f2).trans (Fr.newU f2.gh nq)) hq (own_new f2.gh nq (nums_repAll _))
theorem set_core {l : Addr} {xs : List V} {ts : List D} {G H G1 H1 : Hp} {Q : VK} (fr : Fr G H G1 H1) (hl : SqL X.K H1 l xs ∨ SqT X.K H1 l xs) (ra : RepAll X.K G1 xs ts) (q' : PostF X.K X.mg E G H (setLD ts) Q) :
    rSetOf X.K X.w [V.ref l] H1 (afterSet (X := X) Q) ∨ rSetB X.K X.prog X.w [V.ref l] H1 (afterSet (X := X) Q) := by
  unfold setLD at q'
  cases en : nums ts with
  | some ns =>
    rw [en] at q'
    have q' : PostF X.K X.mg E G H (if ns.length < 64 then .ok (.list ((setN' ns).map .int)) else .no) Q := q'
    split at q'
    · rename_i h64
      exact .inl (nums_core fr hl ra en h64 q')
    · exact q'.elim
  | none =>
    rw [en] at q'
    have q' : PostF X.K X.mg E G H (setTD ts) Q := q'
    cases et : tupsOf ts with
    | none => unfold setTD at q'; rw [et] at q'; exact q'.elim
    | some ks =>
      rcases setTD_some et with z | ⟨z, few, ok⟩
      · rw [z] at q'; exact q'.elim
      · rw [z] at q'
        exact .inr (tups_core fr hl ra et few ok q')
theorem xf_sortedSetBy {py : D → R D} (core : ∀ (d : D) (v : V) (G H G1 H1 : Hp) (Q : VK), Fr G H G1 H1 → Rep X.K G1 v d → PostF X.K X.mg E G H (py d) Q → rSetOf X.K X.w [v] H1 (afterSet (X := X) Q) ∨ rSetB X.K X.prog X.w [v] H1 (afterSet (X := X) Q))
    {p p1 pos1 : Pos} (hu : X.A.units + 66 < cLine) (hm : X.mg "sorted" = none) (hms : X.mg "set" = none) (ha : XP X E ρ a m) (hc : X.calm = true) (hg : Gl X "sorted") (hgs : Gl X "set")
    (he : starEach [a] X.env = (false, eval a X.env) :: starEach [] X.env) (he2 : starEach [.Call (.Name "set" p1) [a] [] pos1] X.env = (false, eval (.Call (.Name "set" p1) [a] [] pos1) X.env) :: starEach [] X.env) :
    XF X E ρ (.Call (.Name "sorted" p) [.Call (.Name "set" p1) [a] [] pos1] [] pos) (m.bind py) :=
  pe_weak (pe_callB (callR_or (cr_sortedSet hc) (cr_sortedB hc (by omega))) hg hm (by decide +kernel) (pa_cons (pe_callTy (callR_or (cr_setOf hc) (cr_setB hc (by omega))) hgs hms (by decide +kernel) (pa_cons ha pa_nil he) (by decide) (by decide) he rfl) pa_nil he2) (by decide) (by decide) he2 rfl) fun σ H Q ⟨G, s, ep, q⟩ => ⟨G, s, ep, by
    cases m with
    | no => exact q
    | ex c => exact q
    | ok d =>
      intro v G1 H1 fr r
      rcases core d v G H G1 H1 Q fr r q with h | h
      · obtain ⟨l', ns, e1, h2, h3, h4⟩ := h
        exact .inl ⟨l', ns, by rw [e1], h2, h3, fun p c np lec => by obtain ⟨vs, ev, k⟩ := h4 p c np lec; rw [← ev] at k; exact k⟩
      · obtain ⟨l', ks, e1, h2, h3, h4, h5⟩ := h
        exact .inr ⟨l', ks, by rw [e1], h2, h3, h4, fun a L na x1 x2 x3 => by obtain ⟨vs, ev, k⟩ := h5 a L na x1 x2 x3; rw [← ev] at k; exact k⟩⟩
theorem xf_sortedSet {p p1 pos1 : Pos} (hu : X.A.units + 66 < cLine) (hm : X.mg "sorted" = none) (hms : X.mg "set" = none) (ha : XP X E ρ a m) (hc : X.calm = true := by rfl) (hg : Gl X "sorted" := by rfl) (hgs : Gl X "set" := by rfl)
    (he : starEach [a] X.env = (false, eval a X.env) :: starEach [] X.env := by rfl) (he2 : starEach [.Call (.Name "set" p1) [a] [] pos1] X.env = (false, eval (.Call (.Name "set" p1) [a] [] pos1) X.env) :: starEach [] X.env := by rfl) :
    XF X E ρ (.Call (.Name "sorted" p) [.Call (.Name "set" p1) [a] [] pos1] [] pos) (m.bind pySortedSet) :=
  xf_sortedSetBy (fun d v G H G1 H1 Q fr r q => by
    have q' : PostF X.K X.mg E G H (pySortedSet d) Q := q
    cases r with
    | @lst l xs ts e ra => exact set_core fr (.inl (same_lst fr.gh e)) ra q'
    | @tup l xs ts e ra => exact set_core fr (.inr (same_seqT fr.gh e)) ra q'
    | _ => exact q'.elim) hu hm hms ha hc hg hgs he he2
end
end TL
namespace TL
open PySem PySem.Spec PyProof.Rows L2
def setD : D → D → D → R D
  | .list ts, .int k, v => match ixN ts.length k with
    | some j => .ok (.list (ts.set j v))
    | none => .no
  | _, _, _ => .no
section
variable {X : Cx} {E : XK} {io : Bool} {fr : Md} {own own' own1 : List Nat} {ρ ρ' : En} {A B : Type} {st : Stmt} {rest : List Stmt} {post : A → Fin} {e : Expr} {pos : Pos}
theorem ss_store {x : Str} {ix : Expr} {px tpos : Pos} {J : Type} {emb : J → En} (i : Nat) {ts : A → D} (pk : A → D → J) {m : R A} {val : A → D} {env : A → En} {mi : A → R D}
    (he : VP X E own ρ e m val env) (hx : ∀ a, XP X E (hideE own (env a)) ix (mi a)) (ht : ∀ a, getN (env a) i = some (ts a) := by intro _; rfl) (hpk : ∀ a r, emb (pk a r) = setN (env a) i (some r) := by intro _ _; rfl) (hi : i ∈ own := by decide) (hN : X.N[i]? = some x := by rfl)
    (hv : Vis X.env.scope x := by first | exact Or.inl rfl | exact Or.inr (Or.inl rfl) | exact Or.inr (Or.inr rfl)) (hd : (x == ("__debug__" : Str)) = false := by decide) (hcd : (x == ("__classdict__" : Str)) = false := by decide)
    (hass : ∀ v, assign (.Subscript (.Name x px) ix tpos) X.env v = (do
      let ov ← holding [v] (eval (.Name x px) X.env)
      let iv ← holding [v, ov] (eval ix X.env)
      standAt tpos
      holding [v, ov, iv] (setItem ov iv v)
      release [v, ov, iv] []) := by intro _; rfl)
    (hs : swapsWithSole [.Subscript (.Name x px) ix tpos] e pos.line X.env = pure false := by rfl) (hw : swappedStores [.Subscript (.Name x px) ix tpos] e X.env = pure none := by rfl)
    (h1 : (assignEach [.Subscript (.Name x px) ix tpos] X.env).map (·.2) = [assign (.Subscript (.Name x px) ix tpos) X.env] := by rfl) :
    SS X E io fr own ρ (.Assign [.Subscript (.Name x px) ix tpos] e pos) (m.bind fun a => (mi a).bind fun k => (setD (ts a) k (val a)).bind fun r => .ok (pk a r)) (fun j => .nx (emb j)) own :=
  ps_weak (t := tAsg (rdV X.K X.mg E own ρ m val env) (fun v σ H Q => ∃ a, (gSub (tVar i) (rdP X.K X.mg E (hideE own (env a)) (mi a)) rSetL) v σ H Q)) (ps_asg he ⟨fun pins s σ H v u Q I r ⟨a, q⟩ => (pg_sub (pe_var hN hv hd hcd) (hx a) set_list hass).run pins s σ H v u Q I r q⟩ hs hw h1) fun Dn σ H hq => by
    obtain ⟨G0, H0, A0, ad, G, er, f, q⟩ := hq
    refine ⟨ad, G, er, ?_⟩
    cases em : m with
    | no => rw [em] at q; exact q.elim
    | ex c => rw [em] at q; exact fun H' s => q H' fun b o e hne => s _ _ (f.h0 b o e hne)
    | ok a =>
      rw [em] at q
      intro v G' H' er' fr' r
      have f' := f.next er fr' er'
      obtain ⟨t0, e0, es0, o0⟩ := er'.ow i hi
      refine ⟨a, _, es0, G', er'.gh, er'.ep_hide, ?_⟩
      have q1 : PostR X.K X.mg E io fr G0 H0 A0 own ((mi a).bind fun k => (setD (ts a) k (val a)).bind fun r => .ok (pk a r)) (fun j => .nx (emb j)) Dn := q
      cases ei : mi a with
      | no => rw [ei] at q1; exact q1.elim
      | ex c => rw [ei] at q1; exact fun H' s => q1 H' fun b o e hne => s _ _ (f'.h0 b o e hne)
      | ok k =>
        rw [ei] at q1
        intro kv G2 H2 fr2 rk
        have er2 := er_pure er' fr2
        have f2 := f'.next er' fr2.toO er2
        have q2 : PostR X.K X.mg E io fr G0 H0 A0 own ((setD (ts a) k (val a)).bind fun r => .ok (pk a r)) (fun j => .nx (emb j)) Dn := q1
        cases rk with
        | int n =>
          have et := ht a
          cases ety : ts a with
          | list us =>
            rw [ety] at q2 et
            obtain ⟨xs, es, eh, rr⟩ := er2.ownL hi et
            have q3 : PostR X.K X.mg E io fr G0 H0 A0 own ((match ixN us.length n with
              | some j => R.ok (PyData.list (us.set j (val a)))
              | none => R.no).bind fun r => .ok (pk a r)) (fun j => .nx (emb j)) Dn := q2
            cases ej : ixN us.length n with
            | none => rw [ej] at q3; exact q3.elim
            | some j =>
              rw [ej] at q3
              refine ⟨_, xs, n, j, rfl, rfl, eh, by rw [rr.length]; exact ej, ?_⟩
              have on := own_at (H := H2) (er2.g_none hi) (rr.set (v := v) (d := val a) (r.mono fr2.gg) j)
              obtain ⟨er3, fr3⟩ := er2.write hi on
              exact q3 ad σ G2 _ (by rw [hpk]; exact er3) (f2.next er2 fr3 er3)
          | _ => rw [ety] at q2; exact q2.elim
        | _ => simp only [setD] at q2; first | exact q2.elim | (cases ety : ts a <;> rw [ety] at q2 <;> exact q2.elim)
def whO {B J : Type} (mc : J → R B) (vb : B → Bool) (mb : J → B → R (Oc J)) (out : J → B → J) : Nat → J → R (Oc J)
  | 0, _ => .no
  | n + 1, j => (mc j).bind fun b => if vb b = true then (mb j b).bind fun o => match o with
    | .nx j' => whO mc vb mb out n j'
    | .rt t b => .ok (.rt t b)
    | .bk j' => .ok (.nx j') else .ok (.nx (out j b))
theorem whO_succ {B J : Type} {mc : J → R B} {vb : B → Bool} {mb : J → B → R (Oc J)} {out : J → B → J} : ∀ (n : Nat) (j : J), whO mc vb mb out n j ≠ .no → whO mc vb mb out (n + 1) j = whO mc vb mb out n j
  | 0, j, h => absurd rfl h
  | n + 1, j, h => by
    unfold whO at h ⊢
    cases hm : mc j with
    | no => rfl
    | ex c => rfl
    | ok b =>
      rw [hm] at h
      simp only [R.ok_bind] at h ⊢
      cases hb : vb b with
      | false => simp
      | true =>
        rw [hb] at h
        simp only [if_true] at h ⊢
        cases hmb : mb j b with
        | no => rfl
        | ex c => rfl
        | ok o =>
          rw [hmb] at h
          cases o with
          | nx j' => exact whO_succ n j' h
          | rt t b => rfl
          | bk j' => rfl
theorem whO_le {B J : Type} {mc : J → R B} {vb : B → Bool} {mb : J → B → R (Oc J)} {out : J → B → J} {n : Nat} {j : J} (h : whO mc vb mb out n j ≠ .no) : ∀ k, whO mc vb mb out (n + k) j = whO mc vb mb out n j
  | 0 => rfl
  | k + 1 => by
    have := whO_le h k
    rw [show n + (k + 1) = (n + k) + 1 from rfl, whO_succ (n + k) j (by rw [this]; exact h), this]
open Classical in
noncomputable def whX {B J : Type} (mc : J → R B) (vb : B → Bool) (mb : J → B → R (Oc J)) (out : J → B → J) (j : J) : R (Oc J) :=
  if h : ∃ n, whO mc vb mb out n j ≠ .no then whO mc vb mb out h.choose j else .no
theorem whX_eq {B J : Type} {mc : J → R B} {vb : B → Bool} {mb : J → B → R (Oc J)} {out : J → B → J} {n : Nat} {j : J} (h : whO mc vb mb out n j ≠ .no) : whX mc vb mb out j = whO mc vb mb out n j := by
  have hx : ∃ n, whO mc vb mb out n j ≠ .no := ⟨n, h⟩
  unfold whX
  rw [dif_pos hx]
  have hc := hx.choose_spec
  rcases Nat.le_total n hx.choose with hl | hl
  · obtain ⟨k, e⟩ := Nat.exists_eq_add_of_le hl
    rw [e]
    exact whO_le h k
  · obtain ⟨k, e⟩ := Nat.exists_eq_add_of_le hl
    have := whO_le hc k
    rw [← e] at this
    exact this.symm
theorem whX_some {B J : Type} {mc : J → R B} {vb : B → Bool} {mb : J → B → R (Oc J)} {out : J → B → J} {j : J} (h : whX mc vb mb out j ≠ .no) : ∃ n, whX mc vb mb out j = whO mc vb mb out n j := by
  unfold whX at h ⊢
  by_cases hx : ∃ n, whO mc vb mb out n j ≠ .no
  · rw [dif_pos hx]
    exact ⟨_, rfl⟩
  · rw [dif_neg hx] at h
    exact absurd rfl h
theorem ss_whileO {J : Type} {c : Expr} {body : List Stmt} {emb : J → En} {mc : J → R B} {vb : B → Bool} {mb : J → B → R (Oc J)} {env : J → B → En} (j0 : J) (out : J → B → J) (hpass : PassesOwn (model X.prog X.w) X.A X.env X.xe) (hc : ∀ j, VB X E own (emb j) c (mc j) vb (env j))
    (hb : ∀ j b, BS X E io fr own (env j b) body (mb j b) (postO emb) own) (h0 : ρ = emb j0 := by rfl) (hx : ∀ j b, env j b = emb (out j b) := by intro _ _; rfl) :
    SS X E io fr own ρ (.While c body [] pos) (whX mc vb mb out j0) (postO emb) own := by
  subst h0
  let tb : TS := fun Dn σ H => ∃ j b, rdS X.K X.mg E io fr own (env j b) (mb j b) (postO emb) own Dn σ H
  have hbody : PSs X body tb := ⟨fun pins s σ H Dn I ⟨j, b, hq⟩ => (hb j b).run pins s σ H Dn I hq⟩
  let tc : TT := fun σ H Q => ∃ j, rdVB X.K X.mg E own (emb j) (mc j) vb (env j) σ H Q
  have hcond : PT X c tc := ⟨fun pins s σ H Q I ⟨j, hq⟩ => (hc j).run pins s σ H Q I hq⟩
  refine ps_weak (ps_while hpass hcond hbody) fun Dn σ H hq => ?_
  obtain ⟨G0, H0, A0, ad0, G, er, f, q⟩ := hq
  have hne : whX mc vb mb out j0 ≠ .no := fun z => by rw [z] at q; exact q.elim
  obtain ⟨n0, e0⟩ := whX_some hne
  rw [e0] at q
  refine ⟨fun n σ H => ∃ j ad G2, Er X.K own (emb j) ad σ G2 H ∧ Fr0 io G0 H0 A0 own ad G2 H ∧ PostR X.K X.mg E io fr G0 H0 A0 own (whO mc vb mb out n j) (postO emb) Dn, ⟨n0, j0, ad0, G, er, f, q⟩, ?_⟩
  rintro n σ1 H1 ⟨j, ad, G1, er1, f1, q1⟩
  refine ⟨j, ad, G1, er1, ?_⟩
  cases n with
  | zero => exact q1.elim
  | succ n =>
    have q2 : PostR X.K X.mg E io fr G0 H0 A0 own ((mc j).bind fun b => if vb b = true then (mb j b).bind fun o => match o with
      | .nx j' => whO mc vb mb out n j'
      | .rt t b => .ok (.rt t b)
      | .bk j' => .ok (.nx j') else .ok (.nx (out j b))) (postO emb) Dn := q1
    cases em : mc j with
    | no => rw [em] at q2; exact q2.elim
    | ex c' => rw [em] at q2; exact fun H' s => q2 H' fun b o e hne => s _ _ (f1.h0 b o e hne)
    | ok b =>
      rw [em] at q2
      intro G2 H2 er2 fr2
      have f2 := f1.next er1 fr2 er2
      have q3 : PostR X.K X.mg E io fr G0 H0 A0 own (if vb b = true then (mb j b).bind fun o => match o with
        | .nx j' => whO mc vb mb out n j'
        | .rt t b => .ok (.rt t b)
        | .bk j' => .ok (.nx j') else .ok (.nx (out j b))) (postO emb) Dn := q2
      cases hv : vb b with
      | false =>
        rw [hv, if_neg Bool.false_ne_true] at q3
        rw [if_neg Bool.false_ne_true]
        rw [hx] at er2
        exact q3 ad σ1 G2 H2 er2 f2
      | true =>
        rw [hv, if_pos rfl] at q3
        rw [if_pos rfl]
        refine ⟨fun σ' H' => ∃ j ad G2, Er X.K own (emb j) ad σ' G2 H' ∧ Fr0 io G0 H0 A0 own ad G2 H' ∧ PostR X.K X.mg E io fr G0 H0 A0 own (whO mc vb mb out n j) (postO emb) Dn, fun σ' H' hN => ⟨n, Nat.lt_succ_self n, hN⟩, j, b, G0, H0, A0, ad, G2, er2, f2, ?_⟩
        cases eb : mb j b with
        | no => rw [eb] at q3; exact q3.elim
        | ex c => rw [eb] at q3; exact q3
        | ok o =>
          rw [eb] at q3
          cases o with
          | nx j' => exact fun ad' σ' G' H' er' f' => ⟨j', ad', G', er', f', q3⟩
          | rt t b => exact q3
          | bk j' => exact fun ad' σ' G' H' er' f' => q3 ad' σ' G' H' er' f'
end
def startE (N : List Str) (ts : List D) : En := ts.map some ++ List.replicate (N.length - ts.length) none
theorem getN_none {α : Type} : ∀ {n i : Nat} {t : α}, getN (List.replicate n (none : Option α)) i ≠ some t
  | 0, _, _, h => by cases h
  | _ + 1, 0, _, h => by cases h
  | n + 1, i + 1, _, h => getN_none (n := n) (i := i) h
theorem start_get {K : PySem.W.Frag} {G : Hp} {m : Nat} : ∀ {vs : List V} {ts : List D} {i : Nat} {t : D}, RepAll K G vs ts → getN (ts.map some ++ List.replicate m none) i = some t → ∃ v, (vs.map some ++ List.replicate m none)[i]? = some (some v) ∧ Rep K G v t
  | [], _, i, t, .nil, h => absurd h getN_none
  | v :: vs, d :: ds, 0, t, .cons r _, h => by
    cases h
    exact ⟨v, rfl, r⟩
  | v :: vs, d :: ds, i + 1, t, .cons _ q, h => by
    obtain ⟨w, e, r⟩ := start_get (i := i) (t := t) q h
    exact ⟨w, e, r⟩
theorem start_len {K : PySem.W.Frag} {G : Hp} {N : List Str} {vs : List V} {ts : List D} (h : RepAll K G vs ts) : (startE N ts).length = (L2.start N vs).length := by
  unfold startE L2.start
  rw [List.length_append, List.length_append, List.length_map, List.length_map, List.length_replicate, List.length_replicate, h.length]
theorem Er.start {K : PySem.W.Frag} {G H : Hp} {N : List Str} {vs : List V} {ts : List D} {ad : Nat → Addr} (sa : Same G H) (h : RepAll K G vs ts) : Er K [] (startE N ts) ad (L2.start N vs) G H where
  len := start_len h
  gh := sa
  fz := fun i t e _ => by
    unfold startE at e
    unfold L2.start
    rw [h.length]
    exact start_get h e
  ow := fun _ h => nomatch h
  inj := fun _ h => nomatch h
theorem Er.startB {K : PySem.W.Frag} {G H : Hp} {N : List Str} {a : Addr} {b : D} {vs : List V} {ts : List D} (sa : Same G H) (o : OwnAt K G H a b) (h : RepAll K G vs ts) : Er K [0] (startE N (b :: ts)) (fun _ => a) (L2.start N (.ref a :: vs)) G H where
  len := by
    unfold startE L2.start
    simp only [List.length_append, List.length_map, List.length_replicate, List.length_cons, h.length]
  gh := sa
  fz := fun i t e hi => by
    cases i with
    | zero => exact absurd List.mem_cons_self hi
    | succ i =>
      have e' : getN (ts.map some ++ List.replicate (N.length - (ts.length + 1)) none) i = some t := e
      obtain ⟨v, e2, r⟩ := start_get h e'
      refine ⟨v, ?_, r⟩
      rw [← h.length] at e2
      exact e2
  ow := fun i hi => by
    obtain rfl := List.mem_singleton.mp hi
    exact ⟨b, rfl, rfl, o⟩
  inj := fun i hi j hj _ => (List.mem_singleton.mp hi).trans (List.mem_singleton.mp hj).symm
section
variable {P : Program} {w : World} {K : PySem.W.Frag} {mg : Str → Option Value} {base : Heap}
theorem cal_fn {k : Nat} {x : Str} {np : Nat} {fr : Md} {st : Stmt} {f : Addr} {fd : FuncData} {N ps : List Str} {mf : List D → R D} (F : Fun K x x st f fd) (S : FnScope N ps (defScope st)) (hb : Binds K fd ps []) (hm : mg x = some (.ref f)) (hnp : np = ps.length)
    (hbody : ∀ (cdv : Value) (A : Around) (outer : List Env) (s : Shared) (H : Hp) (E : XK), Room k (A.deeper (envOfC x (defScope st) s.heap.objs.size f cdv)) → ∀ ts : List D, ts.length = np →
      BS (cxOf (L2N.CX P w) P w K mg base N x (defScope st) f cdv A outer s H E) E false fr [] (startE N ts) (defBody st) (mf ts) (fun t => .rt t .none) []) :
    CalOk P w K mg base (k + 1) x (spP K mg np fr mf) := by
  refine ⟨f, fd, ps, okN F S (fun vs H Q E h => h.1.trans hnp) fun cdv A outer s H vs Q E hr h => ?_, hm, F.kp, hb⟩
  obtain ⟨hl, G, ts, sa, ra, q⟩ := h
  refine ⟨_, hbody cdv A outer s H E hr ts (by rw [← ra.length]; exact hl), G, H, 0, fun _ => 0, G, Er.start sa ra, ⟨Same.refl _, fun _ _ e _ => e, fun _ h _ => h, (fun _ h => nomatch h), (fun z => nomatch z)⟩, ?_⟩
  cases em : mf ts with
  | no => rw [em] at q; exact q.elim
  | ex c => rw [em] at q; exact fun H' h => q H' fun b o e => h b o e fun z => nomatch z
  | ok t =>
    rw [em] at q
    exact fun v G' H' r => q v G' H' ⟨r.g0, r.gh, (fun b o e => r.h0 b o e (fun z => nomatch z)), r.nw⟩ r.an
theorem cal_box {k : Nat} {x : Str} {np : Nat} {fr : Md} {st : Stmt} {f : Addr} {fd : FuncData} {N ps : List Str} {mf : D → List D → R (D × D)} (F : Fun K x x st f fd) (S : FnScope N ps (defScope st)) (hb : Binds K fd ps []) (hm : mg x = some (.ref f)) (hnp : np = ps.length)
    (hbody : ∀ (cdv : Value) (A : Around) (outer : List Env) (s : Shared) (H : Hp) (E : XK), Room k (A.deeper (envOfC x (defScope st) s.heap.objs.size f cdv)) → ∀ (b : D) (ts : List D), ts.length + 1 = np →
      BS (cxOf (L2N.CX P w) P w K mg base N x (defScope st) f cdv A outer s H E) E true fr [0] (startE N (b :: ts)) (defBody st) (mf b ts) (fun p => .rt p.1 p.2) []) :
    CalOk P w K mg base (k + 1) x (spB K np fr mf) := by
  refine ⟨f, fd, ps, okN F S (fun vs H Q E h => h.1.trans hnp) fun cdv A outer s H vs Q E hr h => ?_, hm, F.kp, hb⟩
  obtain ⟨hl, G, a, ws, b, ts, rfl, sa, o, ra, t, b', em, q⟩ := h
  refine ⟨_, hbody cdv A outer s H E hr b ts (by rw [← ra.length]; exact hl), G, H, a, fun _ => a, G, Er.startB sa o ra, ⟨Same.refl _, fun _ _ e _ => e, fun _ h _ => h, fun i hi => .inr ⟨rfl, rfl⟩, fun _ => ⟨List.mem_cons_self, rfl⟩⟩, ?_⟩
  rw [em]
  exact fun v G' H' r => q v G' H' r.g0 r.gh (fun c o e hne => r.h0 c o e fun _ => hne) r.nw (r.bx rfl) r.an
theorem pass_cx {N : List Str} {x : Str} {sc : Scope} {f : Addr} {cdv : Value} {A : Around} {outer : List Env} {s : Shared} {H : Hp} {E : XK} : Passes (L2N.CX P w) (cxOf (L2N.CX P w) P w K mg base N x sc f cdv A outer s H E) E :=
  L2N.passes_call (L2N.takes_of rfl rfl rfl rfl) fun _ _ _ _ h => h
theorem own_cx {N : List Str} {x : Str} {sc : Scope} {f : Addr} {cdv : Value} {A : Around} {outer : List Env} {s : Shared} {H : Hp} {E : XK} : PassesOwn (model P w) (cxOf (L2N.CX P w) P w K mg base N x sc f cdv A outer s H E).A (cxOf (L2N.CX P w) P w K mg base N x sc f cdv A outer s H E).env (cxOf (L2N.CX P w) P w K mg base N x sc f cdv A outer s H E).xe :=
  passes_of (X := cxOf (L2N.CX P w) P w K mg base N x sc f cdv A outer s H E) rfl
end
end TL
namespace TL
open PySem PySem.Spec PyProof.Rows L2
section
variable {X : Cx} {E : XK} {ρ : En} {e tg : Expr}
theorem xq {m m' : R D} (h : XP X E ρ e m) (q : m' = m := by rfl) : XP X E ρ e m' := q ▸ h
theorem xqF {m m' : R D} (h : XF X E ρ e m) (q : m' = m := by rfl) : XF X E ρ e m' := q ▸ h
theorem xqB {m m' : R Bool} (h : XB X E ρ e m) (q : m' = m := by rfl) : XB X E ρ e m' := q ▸ h
theorem xqI {m m' : R (List D)} (h : XI X E ρ tg e m) (q : m' = m := by rfl) : XI X E ρ tg e m' := q ▸ h
end
section
variable {X : Cx} {own : List Nat} {S : Type} {emb : S → En} {e tg : Expr}
theorem jq {m m' : S → R (D × S)} (h : JP X own emb e m) (q : m' = m := by rfl) : JP X own emb e m' := q ▸ h
theorem jqF {m m' : S → R (D × S)} (h : JF X own emb e m) (q : m' = m := by rfl) : JF X own emb e m' := q ▸ h
theorem jqB {m m' : S → R (Bool × S)} (h : JB X own emb e m) (q : m' = m := by rfl) : JB X own emb e m' := q ▸ h
theorem jqI {m m' : S → R (List D × S)} (h : JI X own emb tg e m) (q : m' = m := by rfl) : JI X own emb tg e m' := q ▸ h
theorem lq {elt tg iter : Expr} {ifs : List Expr} {scope : Scope} {K : PySem.W.Frag} {mg : Str → Option Value} {E : XK} {ρ : En} {m m' : R D} (h : LCx X elt tg iter ifs scope (rdF K mg E ρ m)) (q : m' = m := by rfl) : LCx X elt tg iter ifs scope (rdF K mg E ρ m') := q ▸ h
theorem ljq {elt tg iter : Expr} {ifs : List Expr} {scope : Scope} {K : PySem.W.Frag} {m m' : S → R (D × S)} (h : LCx X elt tg iter ifs scope (rdJF K own emb m)) (q : m' = m := by rfl) : LCx X elt tg iter ifs scope (rdJF K own emb m') := q ▸ h
end
section
variable {X : Cx} {E : XK} {io : Bool} {fr : Md} {own own' own1 : List Nat} {ρ ρe ρ' : En} {A B : Type} {st : Stmt} {rest : List Stmt} {post : A → Fin} {post1 : B → Fin} {e : Expr} {pos : Pos}
theorem bs_seqP {J : Type} {emb : J → En} {m1 : R (Oc J)} (ret : D → D → A) {k : J → R A} (h1 : SS X E io fr own ρ st m1 (postO emb) own1) (h2 : ∀ j, BS X E io fr own1 (emb j) rest (k j) post own') (hr : ∀ t b, post (ret t b) = .rt t b := by intro _ _; rfl) : BS X E io fr own ρ (st :: rest) (thenO m1 ret k) post own' := by
  refine ⟨fun pins s σ H Dn I hq => ?_⟩
  obtain ⟨G0, H0, A0, ad, G, er, f, q⟩ := hq
  cases em : m1 with
  | no => rw [em] at q; exact q.elim
  | ex c => exact (pss_cons h1 (pss_never (sts := rest))).run pins s σ H Dn I ⟨G0, H0, A0, ad, G, er, f, by rw [em] at q ⊢; exact q⟩
  | ok o =>
    cases o with
    | nx j =>
      rw [em] at q
      exact (pss_cons h1 (h2 j)).run pins s σ H Dn I ⟨G0, H0, A0, ad, G, er, f, by
        rw [em]
        exact fun ad' σ' G' H' er' f' => ⟨G0, H0, A0, ad', G', er', f', q⟩⟩
    | rt t b =>
      rw [em] at q
      have q' : Post X.K io fr G0 H0 A0 own' Dn (post (ret t b)) := q
      rw [hr] at q'
      exact (pss_cons h1 (pss_never (sts := rest))).run pins s σ H Dn I ⟨G0, H0, A0, ad, G, er, f, by rw [em]; exact q'⟩
    | bk j => rw [em] at q; exact q.elim
theorem bs_seqN {J : Type} {emb : J → En} {m1 : R (Oc J)} (ret : D → D → A) {k : J → R A} (h1 : SS X E false fr own ρ st m1 (postO emb) own1) (h2 : ∀ j, BS X E false fr own1 (emb j) rest (k j) post own') (hr : ∀ t b, ∃ b', post (ret t b) = .rt t b' := by intro _ _; exact ⟨_, rfl⟩) : BS X E false fr own ρ (st :: rest) (thenO m1 ret k) post own' := by
  refine ⟨fun pins s σ H Dn I hq => ?_⟩
  obtain ⟨G0, H0, A0, ad, G, er, f, q⟩ := hq
  cases em : m1 with
  | no => rw [em] at q; exact q.elim
  | ex c => exact (pss_cons h1 (pss_never (sts := rest))).run pins s σ H Dn I ⟨G0, H0, A0, ad, G, er, f, by rw [em] at q ⊢; exact q⟩
  | ok o =>
    cases o with
    | nx j =>
      rw [em] at q
      exact (pss_cons h1 (h2 j)).run pins s σ H Dn I ⟨G0, H0, A0, ad, G, er, f, by
        rw [em]
        exact fun ad' σ' G' H' er' f' => ⟨G0, H0, A0, ad', G', er', f', q⟩⟩
    | rt t b =>
      rw [em] at q
      have q' : Post X.K false fr G0 H0 A0 own' Dn (post (ret t b)) := q
      obtain ⟨b', eb⟩ := hr t b
      rw [eb] at q'
      exact (pss_cons h1 (pss_never (sts := rest))).run pins s σ H Dn I ⟨G0, H0, A0, ad, G, er, f, by rw [em]; exact fun v G' H' r => q' v G' H' ⟨r.gh, r.g0, r.h0, r.nw, r.an, fun z => nomatch z⟩⟩
    | bk j => rw [em] at q; exact q.elim
theorem lv_p {elt tg iter : Expr} {ifs : List Expr} {scope : Scope} {m : R D} (h : LCx X elt tg iter ifs scope (rdF X.K X.mg E ρe m)) (hb : Bor own ρ ρe m := by exact bor_nil) : LCx X elt tg iter ifs scope (rdV X.K X.mg E own ρ m (fun t => t) (fun _ => ρ)) := h.map fun σ H Q q => xpf_rd σ H Q (vp_rd hb σ H Q q)
theorem lv_fp {elt tg iter : Expr} {ifs : List Expr} {scope : Scope} {m : R D} (h : LCx X elt tg iter ifs scope (rdF X.K X.mg E ρe m)) (hb : BorF own ρ ρe m := by exact borF_nil) : LCx X elt tg iter ifs scope (rdVF X.K X.mg E own ρ m (fun t => t) (fun _ => ρ)) := h.map fun σ H Q q => vf_rd hb σ H Q q
theorem lv_j {elt tg iter : Expr} {ifs : List Expr} {scope : Scope} {S : Type} {emb : S → En} {m : S → R (D × S)} (s : S) (h : LCx X elt tg iter ifs scope (rdJF X.K own emb m)) : LCx X elt tg iter ifs scope (rdV X.K X.mg E own (emb s) (nox (m s)) (fun p => p.1) (fun p => emb p.2)) := h.map fun σ H Q q => jpf_rd σ H Q (vpj_rd s σ H Q q)
end
def Nev {A : Type} (m : R A) (post : A → Fin) : Prop := ∀ a, m = .ok a → ∀ ρ', post a ≠ .nx ρ'
theorem nev_rt {J : Type} {emb : J → En} {t b : D} : Nev (R.ok (Oc.rt t b)) (postO emb) := fun a h ρ' e => by
  cases h
  cases e
theorem rep_true {K : PySem.W.Frag} {G : Hp} {v : V} (h : Rep K G v (.bool true)) : v = .bl true := by
  cases h
  rfl
def scrD (ns : List Int) : D := .dict [(.none, .list (ns.map .int))]
end TL
namespace TL
open PySem PySem.Spec PyProof.Rows L2
def ixO : D → D → R D
  | .list ts, .int i => match atI ts i with
    | some t => .ok t
    | none => .no
  | _, _ => .no
section
variable {X : Cx} {own : List Nat} {S : Type} {emb : S → En} {x : Str} {p pos : Pos} {b : Expr}
theorem jp_ixO {get : S → D} {mb : S → R (D × S)} (i : Nat) (hb : JP X own emb b mb) (hg : ∀ s, getN (emb s) i = some (get s) := by intro _; rfl) (hi : i ∈ own := by decide) (hN : X.N[i]? = some x := by rfl) (hv : Vis X.env.scope x := by first | exact Or.inl rfl | exact Or.inr (Or.inl rfl) | exact Or.inr (Or.inr rfl)) (hd : (x == ("__debug__" : Str)) = false := by decide)
    (hcd : (x == ("__classdict__" : Str)) = false := by decide) (hs : PlainIx b := by exact fun _ _ => rfl) : JP X own emb (.Subscript (.Name x p) b pos) (fun s => (mb s).bind fun q => (ixO (get q.2) q.1).bind fun z => .ok (z, q.2)) :=
  pe_weak (pe_ix ix_list (pe_var hN hv hd hcd) hb hs) fun σ H Q hq => by
    obtain ⟨s, ad, G, er, t, s', e, q⟩ := hq
    obtain ⟨t0, e0, es0, o0⟩ := er.ow i hi
    refine ⟨_, es0, s, ad, G, er, ?_⟩
    dsimp only at e
    cases em : mb s with
    | no => rw [em] at e; exact nomatch e
    | ex c => rw [em] at e; exact nomatch e
    | ok r =>
      rw [em] at e
      simp only [R.ok_bind] at e
      refine ⟨r.1, r.2, rfl, fun v G' H' er' fr' rv => ?_⟩
      have ei := hg r.2
      cases eg : get r.2 with
      | list ts =>
        rw [eg] at e ei
        cases ek : r.1 with
        | int k =>
          rw [ek] at e rv
          cases rv
          simp only [ixO] at e
          cases ea : L2.atI ts k with
          | none => rw [ea] at e; exact nomatch e
          | some u =>
            rw [ea] at e
            cases e
            obtain ⟨xs, es, eh, rr⟩ := er'.ownL hi ei
            obtain ⟨w, ew, rw'⟩ := rr.atI ea
            exact ⟨_, xs, k, w, rfl, rfl, SqL.of eh, ew, q w G' H' er' fr' rw'⟩
        | none | bool _ | str _ | tuple _ | dict _ | list _ => rw [ek] at e; exact nomatch e
      | none | bool _ | int _ | str _ | tuple _ | dict _ => rw [eg] at e; cases r.1 <;> exact nomatch e
end
section
variable {P : Program} {w : World} {K : PySem.W.Frag} {mg : Str → Option Value} {base : Heap}
theorem fn_fn {k : Nat} {x : Str} {np : Nat} {fr : Md} {st : Stmt} {f : Addr} {fd : FuncData} {N ps : List Str} {mf : List D → R D} (F : Fun K x x st f fd) (S : FnScope N ps (defScope st)) (hnp : np = ps.length)
    (hbody : ∀ (cdv : Value) (A : Around) (outer : List Env) (s : Shared) (H : Hp) (E : XK), Room k (A.deeper (envOfC x (defScope st) s.heap.objs.size f cdv)) → ∀ ts : List D, ts.length = np →
      BS (cxOf (L2N.CX P w) P w K mg base N x (defScope st) f cdv A outer s H E) E false fr [] (startE N ts) (defBody st) (mf ts) (fun t => .rt t .none) []) :
    FnOk P w K mg base (L2N.CX P w) (k + 1) f fd ps (spP K mg np fr mf) := by
  refine okN F S (fun vs H Q E h => h.1.trans hnp) fun cdv A outer s H vs Q E hr h => ?_
  obtain ⟨hl, G, ts, sa, ra, q⟩ := h
  refine ⟨_, hbody cdv A outer s H E hr ts (by rw [← ra.length]; exact hl), G, H, 0, fun _ => 0, G, Er.start sa ra, ⟨Same.refl _, fun _ _ e _ => e, fun _ h _ => h, (fun _ h => nomatch h), (fun z => nomatch z)⟩, ?_⟩
  cases em : mf ts with
  | no => rw [em] at q; exact q.elim
  | ex c => rw [em] at q; exact fun H' h => q H' fun b o e => h b o e fun z => nomatch z
  | ok t =>
    rw [em] at q
    exact fun v G' H' r => q v G' H' ⟨r.g0, r.gh, (fun b o e => r.h0 b o e (fun z => nomatch z)), r.nw⟩ r.an
theorem cx_end {w : World} {H : Hp} {s : Shared} {e : Value} {s' : Shared} (h : L2N.CX P w [] H s (fun _ _ _ => False) e s') : False := by
  obtain ⟨_, _, _, _, _, _, _, _, _, _, _, _, z⟩ := h
  exact z
end
end TL
namespace TL
open PySem PySem.Spec PyProof.Rows L2
section
variable {prog : Program} {w : World} {A : Around} {E : Value → Shared → Prop} {s : Shared}
end
end TL
namespace TL
open PySem PySem.Spec PyProof.Rows L2
def enumD (xs : List D) : List D := (List.range xs.length).zipWith (fun (k : Nat) x => PyData.tuple [.int (k : Int), x]) xs
def pyEnum : List D → R (List D)
  | [.list xs] => .ok (enumD xs)
  | [.tuple xs] => .ok (enumD xs)
  | _ => .no
section
variable {X : Cx} {E : XK} {ρ : En}
end
end TL
namespace TL
open PySem PySem.Spec PyProof.Rows L2
section
variable {X : Cx} {E : XK} {io : Bool} {fr : Md} {own : List Nat} {ρ : En} {A α : Type} {e tg : Expr} {pos : Pos}
theorem ss_asgG {sl : List Nat} {u : D → R α} {put : α → En → En} {m : R A} {val : A → D} {env : A → En} (he : VP X E own ρ e m val env) (hg : XG X tg sl u put) (hsl : ∀ i ∈ sl, i ∉ own := by decide) (hs : swapsWithSole [tg] e pos.line X.env = pure false := by rfl) (hw : swappedStores [tg] e X.env = pure none := by rfl)
    (h1 : (assignEach [tg] X.env).map (·.2) = [assign tg X.env] := by rfl) : SS X E io fr own ρ (.Assign [tg] e pos) (m.bind fun a => (nox (u (val a))).bind fun p => .ok (a, p)) (fun r => .nx (put r.2 (env r.1))) own :=
  ps_weak (ps_asg he hg hs hw h1) fun Dn σ H hq => by
    obtain ⟨G0, H0, A0, ad, G, er, f, q⟩ := hq
    refine ⟨ad, G, er, ?_⟩
    cases em : m with
    | no => rw [em] at q; exact q.elim
    | ex c => rw [em] at q; exact fun H' s => q H' fun b o e hne => s _ _ (f.h0 b o e hne)
    | ok a =>
      rw [em] at q
      intro v G' H' er' fr' r
      have f' := f.next er fr' er'
      have q1 : PostR X.K X.mg E io fr G0 H0 A0 own ((nox (u (val a))).bind fun p => .ok (a, p)) (fun r => .nx (put r.2 (env r.1))) Dn := q
      cases eu : u (val a) with
      | no => rw [eu] at q1; exact q1.elim
      | ex c => rw [eu] at q1; exact q1.elim
      | ok p =>
        rw [eu] at q1
        refine ⟨G', val a, p, er'.gh, r, eu, fun ps hp => ?_⟩
        refine q1 ad _ G' H' ?_ f'
        show Er X.K own (put p (env a)) ad _ G' H'
        rw [hp.eq]
        exact puts_er hp.rep (fun x hx => hsl _ (hp.sub x hx)) er'
end
section
variable {X : Cx} {E : XK} {ρ : En} {pos : Pos}
theorem xf_dict0 : XF X E ρ (.Dict [] [] pos) (.ok (.dict [])) := pe_weak pe_dnewK fun σ H Q ⟨G, s, ep, q⟩ p np => q p G _ (Fr.newU s np) np ⟨s.free np, .inr (.inl ⟨[], [], rfl, upd_same, rfl, .nil⟩)⟩
end
end TL
namespace TL
open PySem PySem.Spec PyProof.Rows L2 HT
section
variable {prog : Program} {w : World} {A : Around} {E : Value → Shared → Prop} {s : Shared}
end
section
variable {X : Cx}
end
end TL
namespace TL
open PySem PySem.Spec PyProof.Rows L2
def pyRev : D → R D
  | .list xs => .ok (.list xs.reverse)
  | .tuple xs => .ok (.tuple xs.reverse)
  | _ => .no
end TL
namespace TL
open PySem PySem.Spec PyProof.Rows L2
section
variable {X : Cx} {E : XK} {own : List Nat} {ρ : En} {e : Expr}
end
end TL
namespace TL
open PySem PySem.Spec PyProof.Rows L2
section
variable {X : Cx}
variable {o e : Expr} {es : List Expr} {to : TE} {t : TA} {name : Str} {apos cpos : Pos} {idl idt : String} {rl rt : V → List V → Hp → VK → Prop}
end
def sqOk : D → R Unit
  | .list _ => .ok ()
  | .tuple _ => .ok ()
  | _ => .no
section
variable {X : Cx} {E : XK} {ρ : En} {o e : Expr} {m me : R D} {apos cpos : Pos}
end
end TL
namespace TL
open PySem PySem.Spec PyProof.Rows L2
section
variable {X : Cx} {E : XK} {io : Bool} {fr : Md} {own own' : List Nat} {ρ : En} {A B : Type} {post : A → Fin} {pos : Pos}
theorem ep_gint {x : Str} {i : Int} {t : Tok} (hm : X.mg x = some (.int i t)) (hg : Gl X x := by rfl) (hd : (x == ("__debug__" : Str)) = false := by decide) : XP X E ρ (.Name x pos) (.ok (.int i)) :=
  pe_weak (pe_glob (v := .int i) hg hm ⟨t, rfl⟩ hd) fun σ H Q ⟨G, s, h, q⟩ => q _ G H (Fr.refl s) (.int i)
theorem ep_gstr {x : Str} {i : Str} {t : Tok} (hm : X.mg x = some (.str i t)) (hg : Gl X x := by rfl) (hd : (x == ("__debug__" : Str)) = false := by decide) : XP X E ρ (.Name x pos) (.ok (.str i)) :=
  pe_weak (pe_glob (v := .str i) hg hm ⟨t, rfl⟩ hd) fun σ H Q ⟨G, s, h, q⟩ => q _ G H (Fr.refl s) (.str i)
structure ClsX (K : PySem.W.Frag) (mg : Str → Option Value) (c : Str) : Prop where
  ex : ∃ C, mg c = some (.ref C) ∧ PySem.W.excIn K C [.type "ValueError", .type "Exception", .type "BaseException", .type "object"] "ValueError.__new__" = true ∧ PySem.W.keepIn K (.ref C) = true ∧
    PySem.W.subIn K (.ref C) (.type "BaseException") = some true ∧ PySem.W.typeIn K (.ref C) = some (.type "type")
theorem clsX_mk {K : PySem.W.Frag} {mg : Str → Option Value} {c : Str} {C : Addr} (g : mg c = some (.ref C)) (q : PySem.W.excIn K C [.type "ValueError", .type "Exception", .type "BaseException", .type "object"] "ValueError.__new__" = true) (k : PySem.W.keepIn K (.ref C) = true)
    (b : PySem.W.subIn K (.ref C) (.type "BaseException") = some true) (t : PySem.W.typeIn K (.ref C) = some (.type "type")) : ClsX K mg c := ⟨C, g, q, k, b, t⟩
theorem bs_raise {x m : Str} {j : Nat} {p p2 p3 : Pos} {W : L2.WX} (C : ClsX X.K X.mg x) (hc : X.calm = true) (tk : L2N.Takes X W) (hW : ∀ cls d σ H, E cls d H → W cls d σ H) (hg : Gl X x := by rfl) (hdb : (x == ("__debug__" : Str)) = false := by decide) :
    BS X E io fr own ρ [.Raise (some (.Call (.Name x p) [.Constant (.str m) j p2] [] p3)) none pos] (.ex x : R A) post own' := by
  obtain ⟨C, gC, q, kC, b, t⟩ := C
  refine pss_weak (pss_one (L2N.ps_raise hc tk (L2N.pmk_own PySem.F.excBase_ValueError q gC kC (L2.raises_own b t) hg hdb))) fun Dn σ H hq => ?_
  obtain ⟨G0, H0, A0, ad, G, er, f0, q⟩ := hq
  have q' : E (cls X.mg x) none H := q H fun b o e hne => f0.h0 b o e hne
  have e : cls X.mg x = .ref C := by
    unfold cls
    rw [gC]
    rfl
  rw [e] at q'
  exact hW _ _ _ _ q'
end
section
variable {P : Program} {w : World} {K : PySem.W.Frag} {mg : Str → Option Value} {base : Heap} {N : List Str} {x : Str} {sc : Scope} {f : Addr} {cdv : Value} {A : Around} {outer : List Env} {s : Shared} {H : Hp} {E : XK} {io : Bool} {fr : Md} {own own' : List Nat} {ρ : En} {B : Type} {post : B → Fin} {pos : Pos}
theorem bs_raise_cx {x2 m : Str} {j : Nat} {p p2 p3 : Pos} (C : ClsX K mg x2) (hg : Gl (cxOf (L2N.CX P w) P w K mg base N x sc f cdv A outer s H E) x2 := by rfl) (hdb : (x2 == ("__debug__" : Str)) = false := by decide) :
    BS (cxOf (L2N.CX P w) P w K mg base N x sc f cdv A outer s H E) E io fr own ρ [.Raise (some (.Call (.Name x2 p) [.Constant (.str m) j p2] [] p3)) none pos] (.ex x2 : R B) post own' :=
  bs_raise (W := fun c d _ H => E c d H) C rfl (L2N.takes_of rfl rfl rfl rfl) (fun _ _ _ _ h => h) hg hdb
end
end TL
namespace TL
open PySem PySem.Spec PyProof.Rows L2
section
variable {X : Cx} {E : XK} {io : Bool} {fr : Md} {own : List Nat} {ρ : En} {A : Type} {e : Expr} {pos : Pos}
end
section
variable {X : Cx}
end
end TL
namespace TL
open PySem PySem.Spec PyProof.Rows L2
def Small (ns : List Int) : Prop := ∀ z ∈ ns, Builtin.Int.intBits z ≤ 1048576
def spTB (K : PySem.W.Frag) : Sp := fun vs H Q _ => ∃ (a : Addr) (ns : List Int), vs = [.ref a] ∧ SqL K H a (ns.map V.int) ∧ ns.length ≤ 63 ∧ Small ns ∧ ∀ H', Q (.bl true) H'
theorem law_fnB {P : Program} {w : World} {K : PySem.W.Frag} {mg : Str → Option Value} {base : Heap} {k : Nat} {f : Addr} {fd : FuncData} {ps : List Str} {mf : List D → R D} (h : ∀ ns : List Int, ns.length ≤ 63 → Small ns → mf [scrD ns] = .ok (.bool true)) (F : FnOk P w K mg base (L2N.CX P w) k f fd ps (spP K mg 1 .fz mf)) : FnOk P w K mg base (L2N.CX P w) k f fd ps (spTB K) :=
  F.imp fun vs H Q E ⟨a, ns, e, hS, hl, hb, q⟩ => ⟨by rw [e]; rfl, H, [scrD ns], Same.refl _, by rw [e]; exact .cons (.scr hS) .nil, by
    rw [h ns hl hb]
    intro v G' H' fr an
    have e2 := rep_true an
    subst e2
    exact q H'⟩
end TL
namespace TL
open PySem PySem.Spec PyProof.Rows L2
inductive ExRow (K : PySem.W.Frag) (mg : Str → Option Value) (C : Addr) (c : Str) : List Str → Prop
  | nil : ExRow K mg C c []
  | cons {x : Str} {xs : List Str} {X : Addr} {b : Bool} (h : mg x = some (.ref X)) (k : PySem.W.kitOne K (.ref C) (.ref X) = some b) (e : b = (decide (c = x) || decide (x = ("ValueError" : Str)))) (t : ExRow K mg C c xs) : ExRow K mg C c (x :: xs)
structure ExC (K : PySem.W.Frag) (mg : Str → Option Value) (J : Value) (xs : List Str) (c : Str) : Prop where
  ex : ∃ C, mg c = some (.ref C) ∧ L2.ExcC K C ∧ PySem.W.kitOne K (.ref C) (.type "ValueError") = some true ∧ PySem.W.exmOne K (.ref C) J = some true ∧ ExRow K mg C c xs
structure FnE (P : Program) (w : World) (K : PySem.W.Frag) (mg : Str → Option Value) (base : Heap) (CX : CXT) (k : Nat) (f : Addr) (fd : FuncData) (ps : List Str) (sp : Addr × Obj → Sp) : Prop where
  len : ∀ p vs H Q E, sp p vs H Q E → vs.length = ps.length
  run : ∀ (A : Around) (outer : List Env) (s : Shared) (H : Hp) (args : Args) (us : List Value) (vs : List V) (Q : VK) (E : XK) (p : Addr × Obj), L2H.RoomH k A → L2H.Hot1 A p → L2H.PinOk outer H s p → Env0 P w K mg base A outer s H → BindsTo s fd args (ps.zip us) → Vals vs us → sp p vs H Q E →
    codeAny (model P w) A (.call (.ref f) args) (CR CX outer P w H s Q E) s
section
variable {P : Program} {w : World} {K : PySem.W.Frag} {mg : Str → Option Value} {base : Heap}
end
section
variable {X : Cx} {CX : CXT} {k : Nat} {f : Addr} {fd : FuncData} {ps : List Str} {sp : Addr × Obj → Sp} {E : L2.St → XK} {x m : Str} {q pos : Pos} {e : Expr} {es : List Expr} {t : TA} {p : Addr × Obj}
end
section
variable {X : Cx} {E : XK} {ρ : En} {pos : Pos} {p : Addr × Obj} {c : Str} {cs xs : List Str} {J : Value}
end
end TL
namespace TL
open PySem PySem.Spec PyProof.Rows L2
theorem passN {X : Cx} : Passes (L2N.CX X.prog X.w) X E0 := fun _ _ _ _ _ _ _ h => by
  obtain ⟨_, _, _, _, _, _, _, _, _, _, _, _, z⟩ := h
  exact z.elim
section
variable {X : Cx} {E : XK} {fr : Md} {ρ : En} {J : Type} {emb : J → En} {mb : R (Oc J)} {cs xs : List Str} {Jv : Value} {mk : D → R D} {j k : Nat} {n kx : Str} {np kp ep cp rp hp pos : Pos} {body : List Stmt} {jn : Str}
end
end TL
namespace TL
open PySem PySem.Spec PyProof.Rows L2
section
variable {X : Cx}
end
section
variable {X : Cx} {E : XK} {ρ : En} {o e : Expr} {m me : R D} {apos cpos : Pos}
end
end TL
namespace TL
open PySem PySem.Spec PyProof.Rows L2
end TL
namespace TL
open PySem PySem.Spec PySem.W
end TL
namespace TL
open PySem PySem.Spec PyProof.Rows L2
section
variable {X : Cx} {E : XK} {ρ : En} {a b c d : Expr} {ma mb mc md : R D} {pos : Pos}
end
end TL
namespace HotX
open PySem PySem.Spec PyProof.Rows HandSPX
section
variable {prog : Program} {w : World} {A : Around} {E : Value → Shared → Prop} {s : Shared}
end
end HotX
namespace L2HL
open PySem PySem.Spec PyProof.Rows L2 HotX
abbrev St := L2.St
section
variable {X : Cx}
end
end L2HL
namespace HotX
open PySem PySem.Spec PyProof.Rows
end HotX
namespace TL
open PySem PySem.Spec PyProof.Rows L2
section
variable {X : Cx} {E : XK} {ρ : En} {α : Type} {tg iter elt : Expr} {scope : Scope} {own : List (Str × Nat)} {sl : List Nat} {u : D → R α} {put : α → En → En} {m : R D} {me : α → R D} {p : Addr × Obj} {pos : Pos}
end
end TL
namespace HotX
open PySem PySem.Spec PyProof.Rows
section
variable {prog : Program} {w : World} {A : Around} {E : Value → Shared → Prop} {s : Shared} {l : Addr}
end
end HotX
namespace TL
open PySem PySem.Spec PyProof.Rows L2
section
variable {X : Cx} {E : XK}
end
end TL
namespace TL
open PySem PySem.Spec PyProof.Rows L2
section
variable {X : Cx} {E : XK} {io : Bool} {fr : Md} {own own' own1 : List Nat} {ρ ρ' : En} {A B : Type} {st : Stmt} {rest : List Stmt} {post : A → Fin} {e : Expr} {pos : Pos}
end
section
variable {X : Cx} {own : List Nat} {S : Type} {emb : S → En} {a : Expr} {pos p2 : Pos}
end
section
variable {X : Cx} {E : XK} {ρ : En} {a : Expr} {m : R D} {pos : Pos}
end
end TL
namespace TL
open PySem PySem.Spec PyProof.Rows L2
section
variable {X : Cx} {E : XK}
end
section
variable {X : Cx} {E : XK} {ρ : En}
end
end TL
namespace TL
open PySem PySem.Spec PyProof.Rows L2
section
variable {X : Cx} {E : XK}
end
end TL
namespace TL
open PySem PySem.Spec PyProof.Rows L2
section
variable {P : Program} {w : World} {K : PySem.W.Frag} {mg : Str → Option Value}
end
end TL
namespace TL
open PySem PySem.Spec PyProof.Rows L2 HT
section
variable {prog : Program} {w : World} {A : Around} {E : Value → Shared → Prop} {s : Shared}
end
section
variable {X : Cx}
end
end TL
namespace TL
open PySem PySem.Spec PyProof.Rows L2
section
variable {X : Cx} {E : XK} {ρ : En} {e : Expr} {m : R D} {a b c d : Str} {k1 k2 k3 k4 : Nat} {p1 p2 p3 p4 p5 pos : Pos}
end
end TL
namespace TL
open PySem PySem.Spec PyProof.Rows L2
section
variable {X : Cx} {S : Type} {own : List Nat} {emb : S → En} {a : Expr} {pos : Pos}
end
section
variable {X : Cx} {E : XK} {ρ : En} {a fe : Expr} {pos : Pos}
end
end TL
namespace TL
open PySem PySem.Spec PyProof.Rows L2
section
variable {X : Cx} {E : XK}
variable {ρ : En} {a b : Expr} {pos : Pos} {ma mb : R D}
end
end TL
namespace TL
open PySem PySem.Spec PyProof.Rows L2
section
variable {X : Cx} {pins : List (Addr × Obj)} {σ : L2.St} {G H : Hp} {s : Shared}
variable {E : XK} {ρ : En} {a : Expr} {m : R D} {p p2 kp pos : Pos}
end
end TL
namespace TL
open PySem PySem.Spec PyProof.Rows L2
end TL
namespace TL
open PySem PySem.Spec PyProof.Rows L2
section
variable {X : Cx} {E : XK} {ρ : En}
end
end TL
namespace TL
open PySem PySem.Spec PyProof.Rows L2
abbrev KTs := List (List Int × Addr × V)
section
variable {P : Program} {w : World} {H : Hp} {h : Heap} {a : Addr} {kvs : KTs}
theorem dto_ok (r : DTraw a kvs h) : ObjOk P w H h a (DTO a kvs) := by
  refine ⟨r, ?_, fun h1 h2 r1 k => ?_⟩
  · obtain ⟨_, _, xs, _, o, _, _, e, _⟩ := r
    exact ⟨o, e⟩
  · obtain ⟨z, y, xs, p, o, es, ep, e, rr⟩ := r1
    exact ⟨z, y, xs, p, o, es, ep, k o e, rr⟩
theorem dto_raw (ok : HOk P w H h) (e : H a = some (DTO a kvs)) : DTraw a kvs h := (show ObjOk P w H h a (DTO a kvs) from ok a _ e).1
end
def valI (kvs : KTs) (k : List Int) : Option V := (kvs.find? fun x => decide (x.1 = k)).map (·.2.2)
def putI (kvs : KTs) (k : List Int) (b : Addr) (v : V) : KTs := if (kvs.any fun x => decide (x.1 = k)) = true then kvs.map (fun x => if x.1 = k then (x.1, x.2.1, v) else x) else kvs ++ [(k, b, v)]
theorem RelE.any {kvs : KTs} {xs : List (List Int × Addr × Value)} (r : Paired RelE kvs xs) (k : List Int) : (kvs.any fun x => decide (x.1 = k)) = (atKey xs k).isSome := by
  induction r with
  | nil => rfl
  | @cons p q ps qs h t ih =>
    obtain ⟨h1, _, _⟩ := h
    rw [List.any_cons]
    by_cases e : p.1 = k
    · have b : atKey (q :: qs) k = some q.2 := by simp [atKey, List.find?_cons, h1.symm.trans e]
      rw [b, decide_eq_true e]
      rfl
    · have e' : ¬ q.1 = k := fun z => e (h1.trans z)
      have b : atKey (q :: qs) k = atKey qs k := by simp [atKey, List.find?_cons, e']
      rw [b, decide_eq_false e, Bool.false_or, ih]
theorem RelE.put {kvs : KTs} {xs : List (List Int × Addr × Value)} (r : Paired RelE kvs xs) (k : List Int) (b : Addr) {v : V} {u : Value} (rv : RelV v u) : Paired RelE (putI kvs k b v) (storedH xs k b u) := by
  unfold putI storedH
  rw [RelE.any r k]
  by_cases q : (atKey xs k).isSome = true
  · rw [if_pos q, if_pos q]
    clear q
    induction r with
    | nil => exact .nil
    | @cons p q ps qs h t ih =>
      rw [List.map_cons, List.map_cons]
      refine .cons ?_ ih
      obtain ⟨h1, h2, h3⟩ := h
      unfold putAt
      by_cases e : p.1 = k
      · rw [if_pos e, if_pos (h1.symm.trans e)]
        exact ⟨h1, h2, rv⟩
      · rw [if_neg e, if_neg (fun z => e (h1.trans z))]
        exact ⟨h1, h2, h3⟩
  · rw [if_neg q, if_neg q]
    exact Paired.snoc r ⟨rfl, rfl, rv⟩
theorem putI_length (kvs : KTs) (k : List Int) (b : Addr) (v : V) : (putI kvs k b v).length ≤ kvs.length + 1 := by
  unfold putI
  split
  · rw [List.length_map]; omega
  · rw [List.length_append, List.length_cons, List.length_nil]; omega
section
variable {X : Cx} {pins : List (Addr × Obj)} {σ : L2.St} {H : Hp} {s : Shared} {a b : Addr} {kvs : KTs} {A : Around} {E : Value → Shared → Prop}
theorem ints_are {P : Program} {w : World} : ∀ {ks : List Int} {us : List Value}, Vals (ks.map V.int) us → ItemsAre (intKind P w) ks us
  | [], _, r => by cases r; exact .nil
  | k :: ks, _, r => by
    cases r with
    | cons h t =>
      obtain ⟨n, rfl⟩ := h
      exact .cons (by simp [PySem.intKind, Value.isInt]) (ints_are t)
theorem intKey (I : Inv X pins σ H s) {ks : List Int} (hk : SqT X.K H b (ks.map V.int)) : (tupleKind (intKind X.prog X.w)).is s.heap ks b := by
  obtain ⟨its, r, ⟨o, ho, hc, n, hd⟩, _⟩ := I.tuple hk
  exact ⟨o, its.toArray, n, ho, hc, hd, by simpa using ints_are r⟩
def ITab (K : PySem.W.Frag) (H : Hp) (a : Addr) (kvs : KTs) : Prop := (H a = some (DTO a kvs) ∧ ∀ x ∈ kvs, SqT K H x.2.1 (x.1.map V.int)) ∨ (kvs = [] ∧ Rd H a (.dK []))
theorem tab_at (I : Inv X pins σ H s) (t : ITab X.K H a kvs) : ∃ xs, Paired RelE kvs xs ∧ s.heap.DictOfH (tupleKind (intKind X.prog X.w)) a xs ∧ kvs.length ≤ sizeLine ∧ (a == sysModules) = false := by
  rcases t with ⟨e, hk⟩ | ⟨rfl, e⟩
  · obtain ⟨z, y, xs, r, o, es, ep, h1, h2, h3, h4, h5⟩ := dto_raw I.hok e
    refine ⟨xs, r, ⟨o, es, ep, h1, h2, h3, h4, fun x hx => ?_, h5⟩, z, y⟩
    have all : ∀ {l : KTs} {m : List (List Int × Addr × Value)}, Paired RelE l m → (∀ x ∈ l, SqT X.K H x.2.1 (x.1.map V.int)) → ∀ x ∈ m, SqT X.K H x.2.1 (x.1.map V.int) := by
      intro l m q
      induction q with
      | nil => intro _ x hx; exact nomatch hx
      | @cons p q ps qs hq t ih =>
        intro hl x hx
        rcases List.mem_cons.mp hx with e | hx
        · subst e
          have := hl p List.mem_cons_self
          rw [hq.1, hq.2.1] at this
          exact this
        · exact ih (fun y hy => hl y (List.mem_cons_of_mem _ hy)) x hx
    exact intKey I (all r hk x hx)
  · obtain ⟨z, hd, vs, kv, o, es, ep, h1, h2, h3, _, h5, _⟩ := dk_rd I.hok e
    cases kv
    have e0 : es.toList = [] := by
      cases e : es.toList with
      | nil => rfl
      | cons x y => rw [e] at h5; cases h5
    exact ⟨[], .nil, ⟨o, es, ep, h1, h2, h3, by rw [e0]; rfl, (fun _ h => nomatch h), List.nodup_nil⟩, Nat.zero_le _, hd⟩
theorem i_setItem {ks : List Int} {v : V} {u : Value} {Q : Unit → Shared → Prop} (hu : A.units + 1 < cLine) (I : Inv X pins σ H s) (mu : Mut (H a)) (t : ITab X.K H a kvs) (hk : SqT X.K H b (ks.map V.int)) (hl : kvs.length < sizeLine) (rv : RelV v u)
    (h : ∀ s', Inv X pins σ (upd H a (DTO a (putI kvs ks b v))) s' → Q () s') : wpAny (model X.prog X.w) A (setItem (.ref a) (.ref b) u) Q E s := by
  obtain ⟨xs, rel, dd, z, hd⟩ := tab_at I t
  have hz : xs.length ≤ sizeLine := by rw [← Paired.length rel]; exact z
  refine wpAny_setItem_heap (hsz := hz) (tupleKind_room_in1 hu) (intKey I hk) dd fun h' dd' hs => h _ ?_
  obtain ⟨q, es, ep, hq, h2, h3, h4, _, h5⟩ := dd'
  refine d_write I mu hs ⟨q, hq⟩ (dto_ok ⟨?_, hd, _, RelE.put rel ks b rv, q, es, ep, hq, h2, h3, h4, h5⟩)
  have := putI_length kvs ks b v
  omega
end
theorem RelE.addrs {kvs : KTs} {xs : List (List Int × Addr × Value)} (r : Paired RelE kvs xs) : kvs.map (fun x => x.2.1) = xs.map fun x => x.2.1 := by
  induction r with
  | nil => rfl
  | @cons p q ps qs h t ih => rw [List.map_cons, List.map_cons, ih, h.2.1]
theorem call_list_dI {X : Cx} (hc : X.calm = true) : CallR X (.type "list") (fun xs H Q => ∃ d kvs, xs = [V.ref d] ∧ ITab X.K H d kvs ∧ ∀ p, H p = none → Q (.ref p) (upd H p (.lst (kvs.map fun x => V.ref x.2.1)))) := by
  intro pins s σ H xs us Q I r h
  obtain ⟨d, kvs, rfl, hd, q⟩ := h
  obtain ⟨u, rfl, rx⟩ := r.one
  cases rx
  obtain ⟨ks, pr, ⟨o, es, ep, ho, hx, hdt, he, _, hn⟩, z, hs⟩ := tab_at I hd
  have l1 : es.size = ks.length := size_of_entries he
  have l2 : kvs.length = ks.length := Paired.length pr
  refine PySem.W.kdl_call (kdl_raw hs hx hdt) (I.ok.hd hc) ho (by omega) fun h' tk acc' c' kp e it => ?_
  have ea : acc'.toList = ks.map fun x => Value.ref x.2.1 := by
    have hl : acc'.toList.length = ks.length := by rw [Array.length_toList, it.1]; exact l1
    apply List.ext_getElem?
    intro j
    rw [List.getElem?_map]
    cases hj : acc'.toList[j]? with
    | none =>
      have h1 := List.getElem?_eq_none_iff.mp hj
      rw [List.getElem?_eq_none (by omega)]
      all_goals rfl
    | some v =>
      obtain ⟨en, hen, hv⟩ := it.2 j v (by rw [← Array.getElem?_toList]; exact hj)
      have qe := entry_at he j
      rw [hen] at qe
      cases hb : ks[j]? with
      | none =>
        rw [hb] at qe
        exact nomatch (show some en = none from qe)
      | some b =>
        rw [hb] at qe
        have e2 : en = entryOfKey (tupleKind (PySem.intKind X.prog X.w)) b := Option.some.inj qe
        rw [hv, e2]
        all_goals rfl
  have eb : acc'.toList = (ks.map fun x => x.2.1).map Value.ref := by rw [ea, List.map_map]; all_goals rfl
  have ek : (kvs.map fun x => V.ref x.2.1) = (ks.map fun x => x.2.1).map V.ref := by rw [← RelE.addrs pr, List.map_map]; all_goals rfl
  have rv : Vals (kvs.map fun x => V.ref x.2.1) acc'.toList := by rw [eb, ek]; exact vals_refs _
  have hz : (kvs.map fun x => V.ref x.2.1).length ≤ sizeLine := by rw [List.length_map]; omega
  refine ⟨.ref s.heap.objs.size, _, I.laid (t' := tk) (o := .lst (kvs.map fun x => V.ref x.2.1)) kp (Nat.le_refl _) ?_, rfl, q _ (I.hok.fresh (Nat.le_refl _))⟩
  exact ⟨hz, acc'.toList, c', rv, by rw [Array.toArray_toList]; exact e⟩
def rSetI (K : PySem.W.Frag) : TSet := fun o i v H Q => ∃ a b kvs ks, o = .ref a ∧ i = .ref b ∧ Mut (H a) ∧ ITab K H a kvs ∧ SqT K H b (ks.map V.int) ∧ kvs.length < sizeLine ∧ Q (upd H a (DTO a (putI kvs ks b v)))
theorem set_dI {X : Cx} (hu : X.A.units + 1 < cLine) : PSet X (rSetI X.K) := by
  intro pins s σ H o i v ov iv u Q I ro ri rv h
  obtain ⟨a, b, kvs, ks, rfl, rfl, mu, t, hk, hl, q⟩ := h
  cases ro
  cases ri
  exact i_setItem hu I mu t hk hl rv fun s' I' => ⟨_, I', q⟩
end TL
namespace TL
open PySem PySem.Spec PyProof.Rows L2
def keyT : D → Option (List Int)
  | .tuple ds => nums ds
  | _ => none
def allT (es : List (D × D)) : Bool := es.all fun p => (keyT p.1).isSome
def putT (es : List (D × D)) (k : List Int) (v : D) : List (D × D) := if (es.any fun p => decide (keyT p.1 = some k)) = true then es.map (fun p => if keyT p.1 = some k then (p.1, v) else p) else es ++ [(.tuple (k.map .int), v)]
theorem keyT_map (k : List Int) : keyT (.tuple (k.map .int)) = some k := nums_map k
theorem keyT_keyD (k : Key) : keyT (keyD k) = none := by cases k <;> rfl
structure TabR (K : PySem.W.Frag) (G : Hp) (kvs : KTs) (es : List (D × D)) : Prop where
  keys : es.map (·.1) = kvs.map fun x => .tuple (x.1.map .int)
  vals : RepAll K G (kvs.map fun x => x.2.2) (es.map (·.2))
  kobj : ∀ x ∈ kvs, SqU K G x.2.1 (x.1.map V.int)
section
variable {K : PySem.W.Frag} {G H : Hp} {a b : Addr} {es : List (D × D)} {kvs : KTs}
theorem TabR.nil : TabR K G [] [] := ⟨rfl, .nil, fun _ h => nomatch h⟩
theorem TabR.length (t : TabR K G kvs es) : kvs.length = es.length := by
  have := congrArg List.length t.keys
  rw [List.length_map, List.length_map] at this
  exact this.symm
theorem TabR.tail {x : List Int × Addr × V} {p : D × D} (t : TabR K G (x :: kvs) (p :: es)) : p.1 = .tuple (x.1.map .int) ∧ Rep K G x.2.2 p.2 ∧ SqU K G x.2.1 (x.1.map V.int) ∧ TabR K G kvs es := by
  have h1 := t.keys
  rw [List.map_cons, List.map_cons] at h1
  have h2 := t.vals
  rw [List.map_cons, List.map_cons] at h2
  cases h2 with
  | cons r ra => exact ⟨(List.cons.inj h1).1, r, t.kobj x List.mem_cons_self, ⟨(List.cons.inj h1).2, ra, fun y hy => t.kobj y (List.mem_cons_of_mem _ hy)⟩⟩
theorem TabR.cons {x : List Int × Addr × V} {p : D × D} (h1 : p.1 = .tuple (x.1.map .int)) (h2 : Rep K G x.2.2 p.2) (h3 : SqU K G x.2.1 (x.1.map V.int)) (t : TabR K G kvs es) : TabR K G (x :: kvs) (p :: es) :=
  ⟨by rw [List.map_cons, List.map_cons, h1, t.keys], .cons h2 t.vals, fun y hy => by
    rcases List.mem_cons.mp hy with rfl | hy
    · exact h3
    · exact t.kobj y hy⟩
theorem TabR.any : ∀ {kvs : KTs} {es : List (D × D)} (k : List Int), TabR K G kvs es → (es.any fun p => decide (keyT p.1 = some k)) = kvs.any fun x => decide (x.1 = k)
  | [], [], k, _ => rfl
  | [], p :: es, k, t => by have := t.keys; simp at this
  | x :: kvs, [], k, t => by have := t.keys; simp at this
  | x :: kvs, p :: es, k, t => by
    obtain ⟨h1, h2, _, t2⟩ := t.tail
    rw [List.any_cons, List.any_cons, TabR.any k t2, h1, keyT_map]
    congr 1
    rw [Bool.eq_iff_iff, decide_eq_true_iff, decide_eq_true_iff, Option.some.injEq]
theorem TabR.repl {k : List Int} {v : V} {d : D} (rv : Rep K G v d) : ∀ {kvs : KTs} {es : List (D × D)}, TabR K G kvs es → TabR K G (kvs.map fun x => if x.1 = k then (x.1, x.2.1, v) else x) (es.map fun p => if keyT p.1 = some k then (p.1, d) else p)
  | [], [], _ => TabR.nil
  | [], p :: es, t => by have := t.keys; simp at this
  | x :: kvs, [], t => by have := t.keys; simp at this
  | x :: kvs, p :: es, t => by
    obtain ⟨h1, h2, h3, t2⟩ := t.tail
    rw [List.map_cons, List.map_cons]
    by_cases e : x.1 = k
    · rw [if_pos e, if_pos (by rw [h1, keyT_map, e])]
      exact .cons h1 rv h3 (TabR.repl rv t2)
    · rw [if_neg e, if_neg (by rw [h1, keyT_map]; exact fun z => e (Option.some.inj z))]
      exact .cons h1 h2 h3 (TabR.repl rv t2)
theorem TabR.put {k : List Int} {v : V} {d : D} (t : TabR K G kvs es) (hb : SqU K G b (k.map V.int)) (rv : Rep K G v d) : TabR K G (putI kvs k b v) (putT es k d) := by
  unfold putI putT
  rw [t.any k]
  split
  · exact t.repl rv
  · refine ⟨by rw [List.map_append, List.map_append, t.keys]; rfl, by rw [List.map_append, List.map_append]; exact t.vals.append (.cons rv .nil), fun x hx => ?_⟩
    rcases List.mem_append.mp hx with hx | hx
    · exact t.kobj x hx
    · rw [List.mem_singleton.mp hx]; exact hb
theorem putI_ne {k : List Int} {v : V} : putI kvs k b v ≠ [] := by
  unfold putI
  split
  · rename_i h
    intro z
    rw [List.map_eq_nil_iff] at z
    rw [z] at h
    cases h
  · simp
theorem dK_empty {kvs : List (Key × V)} (ek : es.map (·.1) = kvs.map (fun p => keyD p.1)) (h : allT es = true) : kvs = [] ∧ es = [] := by
  cases kvs with
  | nil => cases es with
    | nil => exact ⟨rfl, rfl⟩
    | cons p es => cases ek
  | cons k ks => cases es with
    | nil => cases ek
    | cons p es =>
      have e1 : p.1 = keyD k.1 := (List.cons.inj ek).1
      simp only [allT, List.all_cons, e1, keyT_keyD, Option.isSome_none, Bool.false_and] at h
      cases h
theorem dt_tab {kvs : List (List Key × V)} {K : PySem.W.Frag} (h : DTAt K H G a kvs) (ek : es.map (·.1) = kvs.map (fun p => .tuple (p.1.map keyD))) (ra : RepAll K G (kvs.map (·.2)) (es.map (·.2))) : ∃ xs, H a = some (DTO a xs) ∧ TabR K G xs es := by
  obtain ⟨xs, h1, rfl, _, h3⟩ := h
  refine ⟨xs, h1, ⟨ek.trans ?_, ?_, h3⟩⟩
  · unfold seenT
    rw [List.map_map]
    refine List.map_congr_left fun x _ => ?_
    show PyData.tuple ((x.1.map Sum.inl).map keyD) = _
    rw [List.map_map]
    rfl
  · unfold seenT at ra
    rw [List.map_map] at ra
    exact ra
theorem TabR.itab (t : TabR K G kvs es) (s : Same G H) (e : H a = some (DTO a kvs)) : ITab K H a kvs := .inl ⟨e, fun x hx => same_seqT s (t.kobj x hx)⟩
theorem tab_of_rep {v : V} (sa : Same G H) (r : Rep K G v (.dict es)) (h : allT es = true) : ∃ a kvs, v = .ref a ∧ ITab K H a kvs ∧ TabR K G kvs es := by
  cases r with
  | dK hd ek ra =>
    obtain ⟨rfl, rfl⟩ := dK_empty ek h
    exact ⟨_, [], rfl, .inr ⟨rfl, same_rd sa hd⟩, TabR.nil⟩
  | dT hd ek ra =>
    obtain ⟨xs, e, t⟩ := dt_tab hd ek ra
    exact ⟨_, xs, rfl, t.itab sa (sa _ _ e), t⟩
  | scr _ => simp [allT, keyT] at h
  | exc => simp [allT, keyT] at h
theorem tab_of_own (gh : Same G H) (o : OwnAt K G H a (.dict es)) (h : allT es = true) : ∃ kvs, ITab K H a kvs ∧ TabR K G kvs es ∧ Mut (H a) := by
  obtain ⟨_, ⟨_, _, e, _⟩ | ⟨kvs, es', e, eh, ek, r⟩ | ⟨kvs, es', e, eh, ek, r⟩⟩ := o
  · cases e
  · cases e
    obtain ⟨rfl, rfl⟩ := dK_empty ek h
    exact ⟨[], .inr ⟨rfl, .inl eh⟩, TabR.nil, by rw [eh]; exact True.intro⟩
  · cases e
    obtain ⟨xs, e2, t⟩ := dt_tab eh ek r
    exact ⟨xs, t.itab gh e2, t, by rw [e2]; exact True.intro⟩
theorem own_tab (g : G a = none) (e : H a = some (DTO a kvs)) (ne : kvs ≠ []) (t : TabR K G kvs es) : OwnAt K G H a (.dict es) := by
  refine ⟨g, .inr (.inr ⟨seenT kvs, es, rfl, ⟨kvs, e, rfl, ne, t.kobj⟩, t.keys.trans ?_, ?_⟩)⟩
  · unfold seenT
    rw [List.map_map]
    refine List.map_congr_left fun x _ => ?_
    show _ = PyData.tuple ((x.1.map Sum.inl).map keyD)
    rw [List.map_map]
    rfl
  · unfold seenT
    rw [List.map_map]
    exact t.vals
end
section
variable {X : Cx} {E : XK} {ρ : En} {o k z : Expr} {mo mk mz : R D} {apos cpos : Pos}
end
def pyListD : List D → R D
  | [.dict es] => if allT es = true then .ok (.list (es.map (·.1))) else .no
  | _ => .no
section
variable {X : Cx} {E : XK}
theorem rep_keys {K : PySem.W.Frag} {G : Hp} : ∀ {kvs : KTs} {es : List (D × D)}, TabR K G kvs es → RepAll K G (kvs.map fun x => V.ref x.2.1) (es.map (·.1))
  | [], [], _ => .nil
  | [], p :: es, t => by have := t.keys; simp at this
  | x :: kvs, [], t => by have := t.keys; simp at this
  | x :: kvs, p :: es, t => by
    obtain ⟨h1, _, h3, t2⟩ := t.tail
    rw [List.map_cons, List.map_cons, h1]
    exact .cons (.tup h3 (nums_repAll _)) (rep_keys t2)
theorem cf_listD (hc : X.calm = true) : CallF X E (.type "list") pyListD := by
  intro pins s σ H vs us Q I r ⟨G, ts, sa, ra, q⟩
  match ts, q with
  | [.dict es], q =>
    obtain ⟨v, rfl, r1⟩ := repAll1 ra
    simp only [pyListD] at q
    split at q
    · rename_i h
      obtain ⟨a, kvs, rfl, t, tr⟩ := tab_of_rep sa r1 h
      exact call_list_dI hc pins s σ H _ us Q I r ⟨_, kvs, rfl, t, q.newL sa (rep_keys tr)⟩
    · exact q.elim
  | [.none], q | [.bool _], q | [.int _], q | [.list _], q | [.str _], q | [.tuple _], q | [], q => exact q.elim
  | _ :: _ :: _, q => simp only [pyListD] at q; exact q.elim
end
def storeD : D → D → D → R D
  | .dict es, .tuple ks, v => match nums ks with
    | some k => if allT es = true ∧ es.length < sizeLine then .ok (.dict (putT es k v)) else .no
    | none => .no
  | _, _, _ => .no
section
variable {X : Cx} {E : XK} {io : Bool} {fr : Md} {own own' own1 : List Nat} {ρ ρ' : En} {A B : Type} {st : Stmt} {rest : List Stmt} {post : A → Fin} {e : Expr} {pos : Pos}
theorem store_own {K : PySem.W.Frag} {ad : Nat → Addr} {σ : L2.St} {G H : Hp} {i : Nat} {es : List (D × D)} {k : List Int} {b : Addr} {v : V} {d : D} (er : Er K own ρ ad σ G H) (hi : i ∈ own) (et : getN ρ i = some (.dict es)) (ha : allT es = true) (hb : SqU K G b (k.map V.int)) (rv : Rep K G v d) :
    ∃ kvs, ITab K H (ad i) kvs ∧ kvs.length = es.length ∧ Mut (H (ad i)) ∧ Er K own (setN ρ i (some (.dict (putT es k d)))) ad σ G (upd H (ad i) (DTO (ad i) (putI kvs k b v))) ∧ FrO own ad G H G (upd H (ad i) (DTO (ad i) (putI kvs k b v))) := by
  obtain ⟨t, e', _, o⟩ := er.ow i hi
  rw [et] at e'
  cases e'
  obtain ⟨kvs, tab, tr, mu⟩ := tab_of_own er.gh o ha
  have on : OwnAt K G (upd H (ad i) (DTO (ad i) (putI kvs k b v))) (ad i) (.dict (putT es k d)) := own_tab (er.g_none hi) upd_same putI_ne (tr.put hb rv)
  obtain ⟨er2, fr2⟩ := er.write hi on
  exact ⟨kvs, tab, tr.length, mu, er2, fr2⟩
theorem ss_storeJ {x : Str} {ix : Expr} {px tpos : Pos} {J S : Type} {emb : J → En} (hu : X.A.units + 66 < cLine) (i : Nat) {ts : A → D} (pk : A → S → D → J) {m : R A} {val : A → D} {env : A → En} {embi : A → S → En} (s0 : A → S) {mi : A → S → R (D × S)}
    (he : VP X E own ρ e m val env) (hx : ∀ a, JP X own (embi a) ix (mi a)) (h0 : ∀ a, embi a (s0 a) = env a := by intro _; rfl) (ht : ∀ a s, getN (embi a s) i = some (ts a) := by intro _ _; rfl) (hpk : ∀ a s r, emb (pk a s r) = setN (embi a s) i (some r) := by intro _ _ _; rfl) (hi : i ∈ own := by decide) (hN : X.N[i]? = some x := by rfl)
    (hv : Vis X.env.scope x := by first | exact Or.inl rfl | exact Or.inr (Or.inl rfl) | exact Or.inr (Or.inr rfl)) (hd : (x == ("__debug__" : Str)) = false := by decide) (hcd : (x == ("__classdict__" : Str)) = false := by decide)
    (hass : ∀ v, assign (.Subscript (.Name x px) ix tpos) X.env v = (do
      let ov ← holding [v] (eval (.Name x px) X.env)
      let iv ← holding [v, ov] (eval ix X.env)
      standAt tpos
      holding [v, ov, iv] (setItem ov iv v)
      release [v, ov, iv] []) := by intro _; rfl)
    (hs : swapsWithSole [.Subscript (.Name x px) ix tpos] e pos.line X.env = pure false := by rfl) (hw : swappedStores [.Subscript (.Name x px) ix tpos] e X.env = pure none := by rfl)
    (h1 : (assignEach [.Subscript (.Name x px) ix tpos] X.env).map (·.2) = [assign (.Subscript (.Name x px) ix tpos) X.env] := by rfl) :
    SS X E io fr own ρ (.Assign [.Subscript (.Name x px) ix tpos] e pos) (m.bind fun a => (nox (mi a (s0 a))).bind fun q => (storeD (ts a) q.1 (val a)).bind fun r => .ok (pk a q.2 r)) (fun j => .nx (emb j)) own :=
  ps_weak (t := tAsg (rdV X.K X.mg E own ρ m val env) (fun v σ H Q => ∃ a, (gSub (tVar i) (rdJ X.K own (embi a) (mi a)) (rSetI X.K)) v σ H Q)) (ps_asg he ⟨fun pins s σ H v u Q I r ⟨a, q⟩ => (pg_sub (pe_var hN hv hd hcd) (hx a) (set_dI (by omega)) hass).run pins s σ H v u Q I r q⟩ hs hw h1) fun Dn σ H hq => by
    obtain ⟨G0, H0, A0, ad, G, er, f, q⟩ := hq
    refine ⟨ad, G, er, ?_⟩
    cases em : m with
    | no => rw [em] at q; exact q.elim
    | ex c => rw [em] at q; exact fun H' s => q H' fun b o e hne => s _ _ (f.h0 b o e hne)
    | ok a =>
      rw [em] at q
      intro v G' H' er' fr' r
      have f' := f.next er fr' er'
      obtain ⟨t0, e0, es0, o0⟩ := er'.ow i hi
      have q1 : PostR X.K X.mg E io fr G0 H0 A0 own ((nox (mi a (s0 a))).bind fun q => (storeD (ts a) q.1 (val a)).bind fun r => .ok (pk a q.2 r)) (fun j => .nx (emb j)) Dn := q
      refine ⟨a, _, es0, s0 a, ad, G', by rw [h0]; exact er', ?_⟩
      cases ei : mi a (s0 a) with
      | no => rw [ei] at q1; exact q1.elim
      | ex c => rw [ei] at q1; exact q1.elim
      | ok kq =>
        obtain ⟨k, s1⟩ := kq
        rw [ei] at q1
        refine ⟨k, s1, rfl, fun kv G2 H2 er2 fr2 rk => ?_⟩
        have f2 := f'.next er' fr2 er2
        have q2 : PostR X.K X.mg E io fr G0 H0 A0 own ((storeD (ts a) k (val a)).bind fun r => .ok (pk a s1 r)) (fun j => .nx (emb j)) Dn := q1
        have et := ht a s1
        cases ety : ts a with
        | dict es =>
          rw [ety] at q2 et
          cases k with
          | tuple ks =>
            simp only [storeD] at q2
            cases en : nums ks with
            | none => rw [en] at q2; exact q2.elim
            | some kk =>
              rw [en] at q2
              dsimp only at q2
              split at q2
              · rename_i hc
                cases rk with
                | tup hq ra =>
                  rename_i b xs
                  rw [nums_eq en] at ra
                  have ex2 := repAll_nums ra
                  subst ex2
                  obtain ⟨kvs, tab, tl, mu, er3, fr3⟩ := store_own er2 hi et hc.1 hq (r.mono fr2.gg)
                  refine ⟨_, b, kvs, kk, rfl, rfl, mu, tab, same_seqT er2.gh hq, by rw [tl]; exact hc.2, ?_⟩
                  exact q2 ad σ G2 _ (by rw [hpk]; exact er3) (f2.next er2 fr3 er3)
              · exact q2.elim
          | none | bool _ | int _ | str _ | list _ | dict _ => exact q2.elim
        | none | bool _ | int _ | str _ | list _ | tuple _ => rw [ety] at q2; exact q2.elim
end
end TL
namespace TL
open PySem PySem.Spec PyProof.Rows L2
section
variable {X : Cx} {own : List Nat} {S : Type} {emb : S → En} {a b : Expr} {pos : Pos}
end
end TL
namespace TL
open PySem PySem.Spec PyProof.Rows L2
section
variable {P : Program} {w : World} {K : PySem.W.Frag} {mg : Str → Option Value} {base : Heap}
end
section
variable {X : Cx} {E : XK} {ρ : En} {a : Expr} {pos : Pos}
end
section
variable {X : Cx} {E : XK} {ρ : En}
end
end TL
namespace PySem
open Sem (wp)
open PySem.W (KdxIt kdx_alive)
section
variable {prog : Program} {w : World} {A : Around} {E : Value → Shared → Prop} {s : Shared} {z TI TO i1 i2 T : Addr} {f : Bool} {oT : Obj} {fp1 fp2 : List Addr} {n1 n2 i : Nat} {P1 P2 : Nat → Value → Prop} {St1 St2 : Nat → Heap → Prop}
end
end PySem
namespace TL
open PySem PySem.Spec PyProof.Rows L2
open PySem.W (KdxIt kdx_alive)
theorem IsSq.some {k : Kd} {h : Heap} {a : Addr} {xs : Array Value} (x : IsSq k h a xs) : ∃ o, h.get? a = some o := by
  cases k <;> (obtain ⟨o, e, _⟩ := x; exact ⟨o, e⟩)
section
variable {X : Cx}
end
end TL
namespace TL
open PySem PySem.Spec PyProof.Rows L2
structure KabR (K : PySem.W.Frag) (G : Hp) (kvs : List (Key × V)) (es : List (D × D)) : Prop where
  keys : es.map (·.1) = kvs.map fun p => keyD p.1
  vals : RepAll K G (kvs.map (·.2)) (es.map (·.2))
section
variable {K : PySem.W.Frag} {G H : Hp} {a : Addr} {es : List (D × D)} {kvs : List (Key × V)}
end
section
variable {X : Cx} {E : XK} {ρ : En}
end
section
variable {X : Cx} {E : XK} {io : Bool} {fr : Md} {own : List Nat} {ρ : En} {A : Type} {e : Expr} {pos : Pos}
end
end TL
namespace TL
open PySem PySem.Spec PyProof.Rows L2
section
variable {X : Cx} {E : XK}
end
end TL
namespace TL
open PySem PySem.Spec PyProof.Rows L2
section
variable {X : Cx} {E : XK} {ρ : En} {pos : Pos}
end
end TL
namespace TL
open PySem PySem.Spec PyProof.Rows L2
section
variable {X : Cx} {E : XK} {ρ : En} {mk : D → R D} {cs xs : List Str} {Jv : Value} {j k : Nat} {n kx : Str} {np kp ep cp hp pos : Pos} {body : List Stmt} {jn : Str}
end
section
variable {X : Cx} {E : XK} {ρ : En}
variable {io : Bool} {fr : Md} {own own' : List Nat} {A : Type} {sts : List Stmt} {post : A → Fin}
end
end TL
namespace TL
open PySem PySem.Spec PyProof.Rows L2
section
variable {X : Cx} {E : XK} {ρ : En} {a : Expr} {m : R D}
end
end TL
namespace TL
open PySem PySem.Spec PyProof.Rows L2
section
variable {X : Cx} {E : XK}
end
end TL
namespace TL
open PySem PySem.Spec PyProof.Rows L2
section
variable {X : Cx} {E : XK}
end
end TL
namespace PySem
end PySem
namespace TL
open PySem PySem.Spec PyProof.Rows L2
open PySem.W (KdxIt kdx_alive)
def ZAt (k1 k2 : Kd) (d z TI TO i1 i2 a b : Addr) (xs ys : Array Value) (i : Nat) (h : Heap) : Prop :=
  IsTupOf2 h TI (.ref i1) (.ref i2) ∧ (IsIt k1 h i1 a i ∧ IsSq k1 h a xs) ∧ (IsIt k2 h i2 b i ∧ IsSq k2 h b ys) ∧
    ((IsZip h z TI TO .none ∧ ∃ x y, IsTupOf2 h TO x y) ∨ ∃ T f oT, IsZipHeld h z TI TO T f ∧ h.get? T = some oT ∧ T ≠ z ∧ T ≠ i1 ∧ T ≠ i2 ∧ T ≠ d)
section
variable {prog : Program} {w : World} {A : Around} {E : Value → Shared → Prop} {s : Shared} {k1 k2 : Kd} {d z TI TO i1 i2 a b : Addr} {xs ys : Array Value} {i : Nat}
theorem ZAt.type {h : Heap} (x : ZAt k1 k2 d z TI TO i1 i2 a b xs ys i h) : ∃ o, h.get? z = some o ∧ o.cls = .type "zip" := by
  rcases x.2.2.2 with ⟨q, _⟩ | ⟨T, f, oT, q, _⟩
  · exact ⟨_, q, rfl⟩
  · exact ⟨_, q, rfl⟩
structure Laid (xs ys : Array Value) (d base : Addr) (Ts : List Addr) (i : Nat) (h : Heap) : Prop where
  len : Ts.length = i
  nd : Ts.Nodup
  at_ : ∀ (j : Nat) (T : Addr), Ts[j]? = some T → ∃ x y, xs[j]? = some x ∧ ys[j]? = some y ∧ IsTupOf2 h T x y ∧ base ≤ T ∧ T ≠ d
end
end TL
namespace TL
open PySem PySem.Spec PyProof.Rows L2
open PySem.W (KdxIt kdx_alive)
section
variable {prog : Program} {w : World} {A : Around} {E : Value → Shared → Prop} {s : Shared} {k1 k2 : Kd} {d z TI TO i1 i2 a b : Addr} {xs ys : Array Value}
end
end TL
namespace TL
open PySem PySem.Spec PyProof.Rows L2
structure PsOk (H : Hp) (p : Addr) (ps : List (Addr × HO)) (xs ws : List V) : Prop where
  nd : (ps.map (·.1)).Nodup
  new : ∀ q ∈ ps, H q.1 = none ∧ q.1 ≠ p
  len : ps.length = min xs.length ws.length
  at_ : ∀ (j : Nat) (T : Addr) (u : HO), ps[j]? = some (T, u) → ∃ x y, xs[j]? = some x ∧ ws[j]? = some y ∧ TupH u [x, y]
section
variable {X : Cx} {pins : List (Addr × Obj)} {σ : L2.St} {s : Shared} {H0 : Hp} {k1 k2 : Kd} {a b B p : Nat} {o : HO} {ps : List (Addr × HO)} {h' : Heap} {tk : Nat}
end
section
variable {X : Cx}
theorem vals_refs : ∀ (Ts : List Addr), Vals (Ts.map V.ref) (Ts.map Value.ref)
  | [] => .nil
  | _ :: Ts => .cons rfl (vals_refs Ts)
section
variable {pins : List (Addr × Obj)} {s : Shared} {σ : L2.St} {H0 : Hp} {k1 k2 : Kd} {a b B : Nat}
end
end
section
variable {X : Cx} {E : XK} {ρ : En}
end
end TL
namespace TL
open PySem PySem.Spec PyProof.Rows L2
section
variable {X : Cx} {E : XK} {io : Bool} {fr : Md} {own : List Nat} {ρ : En} {pos : Pos}
end
end TL
namespace TL
open PySem PySem.Spec PyProof.Rows L2
open PySem.SeqAt (rc_eq_decline_or)
section
variable {X : Cx} {E : XK}
end
end TL
namespace TL
open PySem PySem.Spec PyProof.Rows L2
section
variable {P : Program} {w : World} {K : PySem.W.Frag} {mg : Str → Option Value} {base : Heap}
end
def upOk (i j c : Int) : Prop := 1 ≤ c ∧ c ≤ 1000000 ∧ 0 ≤ i ∧ i ≤ 1000000 ∧ 0 ≤ j ∧ j ≤ 1000000
instance (i j c : Int) : Decidable (upOk i j c) := by unfold upOk; exact inferInstance
section
variable {X : Cx} {E : XK} {ρ : En}
end
end TL
namespace TL
open PySem PySem.Spec PyProof.Rows L2
def strsD : List D → Option (List Str)
  | [] => some []
  | .str s :: xs => (strsD xs).map (s :: ·)
  | _ => none
theorem strsD_rep {K : PySem.W.Frag} {G : Hp} : ∀ {vs : List V} {ds : List D} {ys : List Str}, RepAll K G vs ds → strsD ds = some ys → vs = ys.map V.str
  | [], _, _, .nil, h => by
    cases h
    rfl
  | _ :: _, _, ys, .cons r t, h => by
    cases r with
    | str x =>
      rename_i ds
      have h' : (strsD ds).map (x :: ·) = some ys := h
      cases e : strsD ds with
      | none => rw [e] at h'; cases h'
      | some zs =>
        rw [e] at h'
        cases h'
        rw [List.map_cons, strsD_rep t e]
    | _ => cases h
def joinTD (a : Str) (o : Option (List Str)) : R D := match o with
  | some ys => if (ys.map (·.length)).sum + ys.length * a.length ≤ 16777216 then .ok (.str (Txt.join a ys)) else .no
  | none => .no
def pyJoin (x y : D) : R D := match x, y with
  | .str a, .list ds => joinTD a (strsD ds)
  | .str a, .tuple ds => joinTD a (strsD ds)
  | _, _ => .no
def strOk : D → R Unit
  | .str _ => .ok ()
  | _ => .no
def pySplit (x y : D) : R D := match x, y with
  | .str a, .str b => if (b.length == 0) = false ∧ a.length + 2 ≤ sizeLine then .ok (.list ((Txt.split a b).map .str)) else .no
  | _, _ => .no
def pyStr : List D → R D
  | [.int i] => if i.natAbs.log2 < 1920 then .ok (.str (toString i)) else .no
  | _ => .no
def pyIntS : List D → R D
  | [.str a] => match PySem.intText? a with
    | some n => if a.length ≤ 640 then .ok (.int n) else .no
    | none => .no
  | _ => .no
def signsD : D → R (List D)
  | .str x => if x.cps.size ≤ sizeLine then .ok (x.cps.toList.map fun c => .str ⟨#[c]⟩) else .no
  | _ => .no
theorem strs_repAll {K : PySem.W.Frag} {G : Hp} : ∀ ys : List Str, RepAll K G (ys.map V.str) (ys.map PyData.str)
  | [] => .nil
  | y :: ys => .cons (.str y) (strs_repAll ys)
section
variable {X : Cx} {E : XK} {ρ : En} {o e : Expr} {m me : R D} {apos pos : Pos}
theorem xp_join (ho : XP X E ρ o m) (he : XP X E ρ e me)
    (hs : starEach [e] X.env = [(false, eval e X.env)] := by rfl) (hbase : attributeBase o "join" X.env (eval o X.env) = eval o X.env := by rfl) (hline : (apos.endLine == pos.line) = true := by rfl) :
    XP X E ρ (.Call (.Attribute o "join" apos) [e] [] pos) (m.bind fun x => (strOk x).bind fun _ => me.bind fun y => pyJoin x y) :=
  pe_weak (pe_m1 PySem.F.slot_str_join PySem.F.type_str_join mt_join ho he hs hbase hline) fun σ H Q ⟨G, s, ep, q⟩ => by
    refine ⟨G, s, ep, (PostP.bind (Rp := Rep) q).mono fun x H1 ⟨G1, tx, fr, r, em, q1⟩ => ?_⟩
    cases r with
    | str a =>
      have q1' : PostP Rep X.K X.mg E G1 H1 (me.bind fun y => pyJoin (.str a) y) Q := q1
      refine ⟨⟨a, rfl⟩, G1, fr.gh, ep.mono fr.gg, (PostP.bind (Rp := Rep) q1').mono fun y H2 ⟨G2, ty, fr2, r2, em2, q2⟩ => ?_⟩
      have fin : ∀ {ds : List D} {vs : List V} {p : Addr}, RepAll X.K G2 vs ds → PostP Rep X.K X.mg E G2 H2 (joinTD a (strsD ds)) Q → (SqL X.K H2 p vs ∨ SqT X.K H2 p vs) →
          ∃ a' p', ∃ ys : List Str, V.str a = .str a' ∧ [V.ref p] = [.ref p'] ∧ (SqL X.K H2 p' (ys.map V.str) ∨ SqT X.K H2 p' (ys.map V.str)) ∧ (ys.map (·.length)).sum + ys.length * a'.length ≤ 16777216 ∧ Q (.str (Txt.join a' ys)) H2 := by
        intro ds vs p ra q3 hp
        cases e1 : strsD ds with
        | none =>
          rw [e1] at q3
          exact q3.elim
        | some ys =>
          rw [e1] at q3
          unfold joinTD at q3
          simp only at q3
          split at q3
          · rename_i hz
            rw [strsD_rep ra e1] at hp
            exact ⟨a, p, ys, rfl, rfl, hp, hz, q3.now fr2.gh (.str _)⟩
          · exact q3.elim
      cases r2 with
      | lst h ra => exact fin ra q2 (.inl (same_lst fr2.gh h))
      | tup h ra => exact fin ra q2 (.inr (same_seqT fr2.gh h))
      | _ => exact q2.elim
    | _ => exact q1.elim
theorem xf_split (ho : XP X E ρ o m) (he : XP X E ρ e me)
    (hs : starEach [e] X.env = [(false, eval e X.env)] := by rfl) (hbase : attributeBase o "split" X.env (eval o X.env) = eval o X.env := by rfl) (hline : (apos.endLine == pos.line) = true := by rfl) :
    XF X E ρ (.Call (.Attribute o "split" apos) [e] [] pos) (m.bind fun x => (strOk x).bind fun _ => me.bind fun y => pySplit x y) :=
  pe_weak (pe_m1 PySem.F.slot_str_split PySem.F.type_str_split mt_split ho he hs hbase hline) fun σ H Q ⟨G, s, ep, q⟩ => by
    refine ⟨G, s, ep, ?_⟩
    cases m with
    | no => exact q
    | ex c => exact q
    | ok tx =>
      intro x G1 H1 fr r
      cases r with
      | str a =>
        refine ⟨⟨a, rfl⟩, G1, fr.gh, ep.mono fr.gg, ?_⟩
        cases me with
        | no => exact q.elim
        | ex c => exact fun H' s' => q H' (fr.hh.trans s')
        | ok ty =>
          intro y G2 H2 fr2 r2
          have q' : PostF X.K X.mg E G H (pySplit (.str a) ty) Q := q
          cases r2 with
          | str b =>
            unfold pySplit at q'
            simp only at q'
            split at q'
            · rename_i hz
              refine ⟨a, b, rfl, rfl, hz.1, hz.2, fun p np => ?_⟩
              have f12 := fr.trans fr2
              have hp : H p = none := by
                cases z : H p with
                | none => rfl
                | some o => rw [f12.hh _ _ z] at np; cases np
              exact q' p G2 _ (f12.trans (Fr.newU f12.gh np)) hp (own_new f12.gh np (strs_repAll _))
            · exact q'.elim
          | _ => exact q'.elim
      | _ => exact q.elim
theorem cd_str : CallD X E (.type "str") pyStr := by
  intro pins s σ H vs us Q I r ⟨G, ts, sa, ra, q⟩
  match ts, q with
  | [.int i], q =>
    obtain ⟨v, rfl, r1⟩ := repAll1 ra
    cases r1
    simp only [pyStr] at q
    split at q
    · rename_i hz
      exact call_str_int pins s σ H _ us Q I r ⟨i, rfl, hz, q.now sa (.str _)⟩
    · exact q.elim
  | [.none], q | [.bool _], q | [.list _], q | [.dict _], q | [.str _], q | [.tuple _], q | [], q => exact q.elim
  | _ :: _ :: _, q => simp only [pyStr] at q; exact q.elim
theorem cd_intS : CallD X E (.type "int") pyIntS := by
  intro pins s σ H vs us Q I r ⟨G, ts, sa, ra, q⟩
  match ts, q with
  | [.str a], q =>
    obtain ⟨v, rfl, r1⟩ := repAll1 ra
    cases r1
    simp only [pyIntS] at q
    cases e1 : PySem.intText? a with
    | none => rw [e1] at q; exact q.elim
    | some n =>
      rw [e1] at q
      simp only at q
      split at q
      · rename_i hz
        exact call_int_str pins s σ H _ us Q I r ⟨a, n, rfl, e1, hz, q.now sa (.int _)⟩
      · exact q.elim
  | [.none], q | [.bool _], q | [.list _], q | [.dict _], q | [.int _], q | [.tuple _], q | [], q => exact q.elim
  | _ :: _ :: _, q => simp only [pyIntS] at q; exact q.elim
theorem itOk_str {K : PySem.W.Frag} {G : Hp} {x : Str} : ItOk K (Its x) G (x.cps.toList.map fun c => PyData.str ⟨#[c]⟩) where
  go := fun i H hi s => by
    rw [List.length_map, Array.length_toList] at hi
    exact hi
  stop := fun H s => by
    rw [List.length_map, Array.length_toList]
    exact Nat.le_refl _
  yld := fun i v G2 H H' d e s s2 y => by
    obtain ⟨e1, c, e2, e3⟩ := y
    subst e1
    subst e3
    rw [List.getElem?_map, Array.getElem?_toList, e2] at e
    cases e
    exact ⟨G2, Fr.refl s2, .str _⟩
theorem xi_str {tg l : Expr} {m : R D} (hl : XP X E ρ l m) : XI X E ρ tg l (m.bind signsD) := by
  refine ⟨fun pins s σ H Rr I h => ?_⟩
  obtain ⟨G, sa, e, q⟩ := h
  cases m with
  | no => exact q.elim
  | ex c => exact (pi_str hl).run pins s σ H Rr I ⟨G, sa, e, q⟩
  | ok t =>
    refine (pi_str hl).run pins s σ H Rr I ⟨G, sa, e, fun v G' H' fr r => ?_⟩
    cases r with
    | str x =>
      by_cases hz : x.cps.size ≤ sizeLine
      · have e1 : (R.ok (PyData.str x)).bind signsD = .ok (x.cps.toList.map fun c => .str ⟨#[c]⟩) := if_pos hz
        rw [e1] at q
        exact ⟨_, rfl, q _ G' H' fr (by rw [List.length_map, Array.length_toList]; exact hz) itOk_str⟩
      · have e1 : (R.ok (PyData.str x)).bind signsD = .no := if_neg hz
        rw [e1] at q
        exact q.elim
    | _ => exact q.elim
end
end TL
namespace TL
open PySem PySem.Spec PyProof.Rows L2
section
variable {P : Program} {w : World} {A : Around} {E : Value → Shared → Prop} {s : Shared}
structure HasX (ks : List Str) (i : Nat) (L : List (Str × Tok)) : Prop where
  from_ : ∀ p ∈ L, p.1 ∈ ks
  all : ∀ j p, j < i → ks[j]? = some p → p ∈ L.map (·.1)
  len : L.length ≤ i
end
end TL
namespace TL
open PySem PySem.Spec PyProof.Rows L2
section
variable {X : Cx} {E : XK} {ρ : En} {a b : Expr} {m : R D} {pos p2 : Pos}
def sg (c : Nat) : Str := ⟨#[c]⟩
end
end TL
namespace TL
open PySem PySem.Spec PyProof.Rows L2
section
variable {prog : Program} {w : World} {A : Around} {E : Value → Shared → Prop} {s : Shared}
end
section
variable {X : Cx} {E : XK}
end
end TL
namespace TL
open PySem PySem.Spec PyProof.Rows L2
section
variable {X : Cx} {E : XK} {ρ : En} {a fe : Expr} {pos : Pos}
end
end TL
local macro_rules
  | `($a <&> $f) => `(TL.R.bind (TL.R.ok $a) $f)
local macro_rules
  | `($a >>= $f) => `(TL.R.bind $a $f)
namespace JT
open PySem PySem.Spec PyProof.Rows L2 TL
def m_is_whole : List D → R D
  | [p0] => (((p0<&>λx1=>isD ["int"] x1)>>=λx5=>(tru x5)>>=λk6=>if k6 = true then ((p0<&>λx2=>isD ["bool"] x2)>>=λx3=>(tru x3)>>=λk4=>R.ok (PyData.bool (!k4))) else R.ok x5)>>=λv7=>R.ok v7)
  | _ => R.no
def m_is_upto : List D → R D
  | [p0, p1] => (((p0<&>λx1=>m_is_whole [x1])>>=λx8=>(tru x8)>>=λk9=>if k9 = true then ((PyData.int 0)<&>λx2=>p0<&>λx3=>(pyLe x2 x3)>>=λx4=>(asB x4)>>=λx5=>if x5 = true then p1<&>λx6=>pyLt x3 x6 else R.ok (PyData.bool false)) else R.ok x8)>>=λv10=>R.ok v10)
  | _ => R.no
def m_is_rising : List D → R D
  | [p0] => (((((p0<&>λx3=>(none : Option Int)<&>λx4=>(((PyData.int 1)<&>λx1=>pyNeg x1)>>=λx2=>partD x2)>>=λx5=>pySl x3 x4 x5)>>=λx6=>(p0<&>λx8=>((PyData.int 1)<&>λx7=>partD x7)>>=λx9=>(none : Option Int)<&>λx10=>pySl x8 x9 x10)>>=λx11=>pyZip [x6, x11])>>=λis15=>(mapR (λd17=>(unp2 d17)>>=λa12=>((a12.1)<&>λx13=>(a12.2)<&>λx14=>pyLt x13 x14)) is15)>>=λrs16=>R.ok (PyData.list rs16))>>=λx18=>pyAll [x18])>>=λv19=>R.ok v19)
  | _ => R.no
def m_is_head : List D → R D
  | [p0, p1] => (((((p0<&>λx1=>isD ["tuple"] x1).bind tru)>>=λk2=>R.ok (!k2))>>=λk16=>if k16 = true then R.ok true else ((p0<&>λx3=>(PyData.tuple [])<&>λx4=>(pyEq x3 x4).bind asB)>>=λk15=>if k15 = true then R.ok true else (((((p0<&>λx6=>items x6)>>=λis10=>(mapR (λd12=>((λd=>R.ok d) d12)>>=λa7=>(a7<&>λx8=>p1<&>λx9=>m_is_upto [x8, x9])) is10)>>=λrs11=>R.ok (PyData.list rs11))>>=λx13=>pyAll [x13]).bind tru)>>=λk14=>R.ok (!k14))))>>=λb17=>if b17 = true then ((PyData.bool false)<&>λv18=>R.ok v18) else ((p0<&>λx19=>m_is_rising [x19])>>=λv20=>R.ok v20))
  | _ => R.no
def m_is_layout : List D → R D
  | [p0] => (((((p0<&>λx1=>isD ["tuple"] x1).bind tru)>>=λk2=>R.ok (!k2))>>=λk21=>if k21 = true then R.ok true else (((p0<&>λx3=>pyLen [x3])>>=λx4=>(PyData.int 2)<&>λx5=>(pyNe x4 x5).bind asB)>>=λk20=>if k20 = true then R.ok true else (((((p0<&>λx7=>(PyData.int 0)<&>λx8=>pyIx x7 x8)>>=λx9=>((PyData.int 7)<&>λx10=>(PyData.int 1)<&>λx11=>pyAdd x10 x11)>>=λx12=>m_is_upto [x9, x12]).bind tru)>>=λk13=>R.ok (!k13))>>=λk19=>if k19 = true then R.ok true else ((p0<&>λx14=>(PyData.int 0)<&>λx15=>pyIx x14 x15)>>=λx16=>(PyData.int 0)<&>λx17=>(pyEq x16 x17).bind asB))))>>=λb22=>if b22 = true then ((PyData.bool false)<&>λv23=>R.ok v23) else ((((((p0<&>λx24=>(PyData.int 1)<&>λx25=>pyIx x24 x25)>>=λx26=>isD ["tuple"] x26).bind tru)>>=λk27=>R.ok (!k27))>>=λk38=>if k38 = true then R.ok true else (((PyData.int 1)<&>λx31=>((p0<&>λx28=>(PyData.int 1)<&>λx29=>pyIx x28 x29)>>=λx30=>pyLen [x30])>>=λx32=>(pyLe x31 x32)>>=λx33=>(asB x33)>>=λx34=>if x34 = true then (PyData.int 6)<&>λx35=>(pyLe x32 x35).bind asB else R.ok false)>>=λk37=>R.ok (!k37)))>>=λb39=>if b39 = true then ((PyData.bool false)<&>λv40=>R.ok v40) else (((((p0<&>λx41=>(PyData.int 1)<&>λx42=>pyIx x41 x42)>>=λx43=>items x43)>>=λis49=>(mapR (λd51=>((λd=>R.ok d) d51)>>=λa44=>(a44<&>λx45=>(p0<&>λx46=>(PyData.int 0)<&>λx47=>pyIx x46 x47)>>=λx48=>m_is_head [x45, x48])) is49)>>=λrs50=>R.ok (PyData.list rs50))>>=λx52=>pyAll [x52])>>=λv53=>R.ok v53)))
  | _ => R.no
def m_law_cell : List D → R D
  | [p0, p1] => ((p1<&>λx2=>(p0<&>λx1=>pyLen [x1])>>=λx3=>(pyLt x2 x3).bind asB)>>=λb5=>if b5 = true then ((p0<&>λx6=>p1<&>λx7=>pyIx x6 x7)>>=λv8=>R.ok v8) else ((((PyData.int 6151)<&>λx9=>p1<&>λx10=>pyMul x9 x10)>>=λx11=>(PyData.int 29)<&>λx12=>pyAdd x11 x12)>>=λv13=>R.ok v13))
  | _ => R.no
def m_law_mix : List D → R D
  | [p0, p1] => ((((p0<&>λx1=>(PyData.int 1)<&>λx2=>pyAdd x1 x2)>>=λx3=>(PyData.int 40692)<&>λx4=>pyMul x3 x4)>>=λx7=>((PyData.int 104729)<&>λx5=>p1<&>λx6=>pyMul x5 x6)>>=λx8=>pyAdd x7 x8)>>=λv9=>((((v9<&>λx10=>v9<&>λx11=>pyMul x10 x11)>>=λx12=>(PyData.int 2147483399)<&>λx13=>pyMod x12 x13)>>=λx14=>p1<&>λx15=>pyAdd x14 x15)>>=λv16=>(((v16<&>λx19=>(v16<&>λx17=>(PyData.int 31)<&>λx18=>pyAdd x17 x18)>>=λx20=>pyMul x19 x20)>>=λx21=>(PyData.int 2147483563)<&>λx22=>pyMod x21 x22)>>=λv23=>R.ok v23)))
  | _ => R.no
def m_law_box_2 : List D → R D
  | [p0, p1] => ((p0<&>λx1=>p1<&>λx2=>m_law_cell [x1, x2])>>=λv3=>(((v3<&>λx4=>(PyData.int 2)<&>λx5=>pyMod x4 x5)>>=λx6=>(PyData.int 0)<&>λx7=>(pyEq x6 x7).bind asB)>>=λb9=>if b9 = true then (((v3<&>λx10=>(PyData.int 2)<&>λx11=>pyDiv x10 x11)>>=λx12=>R.ok (PyData.list [x12]))>>=λv13=>R.ok v13) else ((PyData.int 0)<&>λv14=>((((PyData.int 24)<&>λx15=>pyRange [x15])>>=λb16=>foldR (λd=>R.ok d) (fun (j17 : (D)) a18 => (((j17<&>λx19=>(PyData.int 2147483647)<&>λx20=>pyMul x19 x20)>>=λx23=>(v3<&>λx21=>a18<&>λx22=>m_law_mix [x21, x22])>>=λx24=>pyAdd x23 x24)>>=λv25=>(R.ok v25))) b16 v14)>>=λj26=>((j26<&>λx27=>R.ok (PyData.list [x27]))>>=λv28=>R.ok v28)))))
  | _ => R.no
def m_law_take_2 : D → List D → R (D × D)
  | p0, [p1] => (((nl ((p0<&>λx2=>(PyData.int 0)<&>λx3=>pyIx x2 x3)>>=λx4=>p1<&>λx5=>pyDivmod [x4, x5]))>>=λv6=>(nox (unp2 v6))>>=λpq7=>R.ok (v6, pq7))>>=λr1=>(((r1.2.1)<&>λv8=>(PyData.int 0)<&>λk9=>(setD p0 k9 v8)>>=λr10=>R.ok r10)>>=λj11=>((r1.2.2)<&>λv12=>R.ok (v12, j11))))
  | _, _ => R.no
def m_law_head : D → List D → R (D × D)
  | p0, [p1] => ((nox (((p1<&>λx45=>pyRange [x45])>>=λi44=>R.ok (i44, p0))>>=λpq38=>(filJ (fun d40 s41 => ((λd=>R.ok d) d40)>>=λa3=>((((PyData.int 3)<&>λt55=>R.ok (t55, s41))>>=λpq54=>(m_law_take_2 pq54.2 [pq54.1])>>=λq56=>R.ok (q56.1, q56.2))>>=λpq50=>((PyData.int 0)<&>λt57=>R.ok (t57, pq50.2))>>=λq51=>((pyEq pq50.1 q51.1).bind asB)>>=λz52=>R.ok (z52, q51.2))) (fun d42 s43 => ((λd=>R.ok d) d42)>>=λa3=>(a3<&>λt58=>R.ok (t58, s43))) pq38.1 pq38.2)>>=λr39=>R.ok (PyData.list r39.1, r39.2)))>>=λv59=>((((v59.1)<&>λx60=>(PyData.list [])<&>λx61=>(pyEq x60 x61).bind asB)>>=λb63=>if b63 = true then ((nox (((p1<&>λt79=>R.ok (t79, v59.2))>>=λpq78=>(m_law_take_2 pq78.2 [pq78.1])>>=λq80=>R.ok (q80.1, q80.2))>>=λpq77=>R.ok (PyData.list [pq77.1], pq77.2)))>>=λv81=>(R.ok (v81.2, v81.1))) else (R.ok (v59.2, v59.1)))>>=λj82=>(((j82.2)<&>λx83=>pyTuple [x83])>>=λv84=>R.ok (v84, j82.1))))
  | _, _ => R.no
def m_law_grown : D → List D → R (D × D)
  | p0, [p1, p2] => ((nox (((p1<&>λt7=>R.ok (t7, p0))>>=λpq6=>(m_law_head pq6.2 [pq6.1])>>=λq8=>R.ok (q8.1, q8.2))>>=λpq5=>R.ok (PyData.list [pq5.1], pq5.2)))>>=λv9=>((((p2<&>λx10=>(PyData.int 1)<&>λx11=>pySub x10 x11)>>=λx12=>pyRange [x12])>>=λb13=>foldR (λd=>R.ok d) (fun (j14 : (D × D)) a15 => ((nox (((PyData.int 4)<&>λt20=>R.ok (t20, j14.1))>>=λpq19=>(m_law_take_2 pq19.2 [pq19.1])>>=λq21=>R.ok (q21.1, q21.2)))>>=λv22=>((nox (((((nl (((j14.2)<&>λx57=>pyLen [x57])>>=λx58=>(PyData.int 1)<&>λx59=>pySub x58 x59))>>=λt56=>R.ok (t56, v22.2))>>=λpq54=>(((nl ((j14.2)<&>λx62=>pyLen [x62]))>>=λt61=>R.ok (t61, pq54.2))>>=λpq60=>(m_law_take_2 pq60.2 [pq60.1])>>=λq63=>R.ok (q63.1, q63.2))>>=λpq55=>R.ok (PyData.list [pq54.1, pq55.1], pq55.2))>>=λpq51=>((((v22.1)<&>λx65=>(PyData.int 1)<&>λx66=>pyGt x65 x66)>>=λx67=>pyInt [x67])>>=λt64=>R.ok (t64, pq51.2))>>=λq52=>(pyIx pq51.1 q52.1)>>=λz53=>R.ok (z53, q52.2))>>=λq49=>(ixO j14.2 q49.1)>>=λz50=>R.ok (z50, q49.2)))>>=λv68=>((nox ((((v68.1)<&>λx113=>items x113)>>=λi112=>R.ok (i112, v68.2))>>=λpq106=>(filJ (fun d108 s109 => ((λd=>R.ok d) d108)>>=λa71=>((((PyData.int 3)<&>λt123=>R.ok (t123, s109))>>=λpq122=>(m_law_take_2 pq122.2 [pq122.1])>>=λq124=>R.ok (q124.1, q124.2))>>=λpq118=>((PyData.int 0)<&>λt125=>R.ok (t125, pq118.2))>>=λq119=>((pyGt pq118.1 q119.1).bind asB)>>=λz120=>R.ok (z120, q119.2))) (fun d110 s111 => ((λd=>R.ok d) d110)>>=λa71=>(a71<&>λt126=>R.ok (t126, s111))) pq106.1 pq106.2)>>=λr107=>R.ok (PyData.list r107.1, r107.2)))>>=λv127=>((nf ((p1<&>λx128=>pyRange [x128])>>=λis130=>(filR (λd132=>((λd=>R.ok d) d132)>>=λa129=>((((j14.2)<&>λx133=>items x133)>>=λis135=>(filR (λd137=>((λd=>R.ok d) d137)>>=λa134=>(a129<&>λx138=>a134<&>λx139=>(pyIn x138 x139).bind asB)) (λd137=>((λd=>R.ok d) d137)>>=λa134=>(R.ok a134)) is135)>>=λrs136=>R.ok (PyData.list rs136))>>=λx141=>(PyData.list [])<&>λx142=>(pyNe x141 x142).bind asB)) (λd132=>((λd=>R.ok d) d132)>>=λa129=>(R.ok a129)) is130)>>=λrs131=>R.ok (PyData.list rs131)))>>=λv144=>((nox (((p1<&>λx202=>pyRange [x202])>>=λi201=>R.ok (i201, v127.2))>>=λpq195=>(filJ (fun d197 s198 => ((λd=>R.ok d) d197)>>=λa147=>(((a147<&>λx205=>v144<&>λx206=>(pyNotIn x205 x206).bind asB)>>=λt204=>R.ok (t204, s198))>>=λpq203=>if pq203.1 = true then ((((PyData.int 2)<&>λt217=>R.ok (t217, pq203.2))>>=λpq216=>(m_law_take_2 pq216.2 [pq216.1])>>=λq218=>R.ok (q218.1, q218.2))>>=λpq212=>((PyData.int 0)<&>λt219=>R.ok (t219, pq212.2))>>=λq213=>((pyEq pq212.1 q213.1).bind asB)>>=λz214=>R.ok (z214, q213.2)) else R.ok (false, pq203.2))) (fun d199 s200 => ((λd=>R.ok d) d199)>>=λa147=>(a147<&>λt220=>R.ok (t220, s200))) pq195.1 pq195.2)>>=λr196=>R.ok (PyData.list r196.1, r196.2)))>>=λv221=>((((v127.1)<&>λx222=>(v221.1)<&>λx223=>pyAdd x222 x223)>>=λx224=>pySorted [x224])>>=λv225=>(((v225<&>λx226=>(PyData.list [])<&>λx227=>(pyEq x226 x227).bind asB)>>=λb229=>if b229 = true then ((nox ((((v68.1)<&>λt264=>R.ok (t264, v221.2))>>=λpq261=>((((v68.1)<&>λx267=>pyLen [x267])>>=λt266=>R.ok (t266, pq261.2))>>=λpq265=>(m_law_take_2 pq265.2 [pq265.1])>>=λq268=>R.ok (q268.1, q268.2))>>=λq262=>(pyIx pq261.1 q262.1)>>=λz263=>R.ok (z263, q262.2))>>=λpq260=>R.ok (PyData.list [pq260.1], pq260.2)))>>=λv269=>(R.ok (v269.2, v269.1))) else (R.ok (v221.2, v225)))>>=λj270=>(((lstD j14.2)>>=λu273=>((j270.2)<&>λx271=>pyTuple [x271])>>=λv272=>(appD j14.2 v272)>>=λr274=>R.ok r274)>>=λj275=>(R.ok (j270.1, j275))))))))))) b13 (v9.2, v9.1))>>=λj276=>(R.ok (j276.2, j276.1))))
  | _, _ => R.no
def m_law_barred : D → List D → R (D × D)
  | p0, [p1] => ((nox (((p1<&>λx23=>(PyData.int 3)<&>λx24=>(pyEq x23 x24).bind asB)>>=λt22=>R.ok (t22, p0))>>=λpq21=>if pq21.1 = true then R.ok (true, pq21.2) else ((((PyData.int 2)<&>λt35=>R.ok (t35, pq21.2))>>=λpq34=>(m_law_take_2 pq34.2 [pq34.1])>>=λq36=>R.ok (q36.1, q36.2))>>=λpq30=>((PyData.int 0)<&>λt37=>R.ok (t37, pq30.2))>>=λq31=>((pyEq pq30.1 q31.1).bind asB)>>=λz32=>R.ok (z32, q31.2))))>>=λb38=>if b38.1 = true then ((nox (((PyData.int 3)<&>λt57=>R.ok (t57, b38.2))>>=λpq54=>(((((PyData.int 6)<&>λx60=>p1<&>λx61=>pyMin [x60, x61])>>=λx62=>(PyData.int 2)<&>λx63=>pySub x62 x63)>>=λt59=>R.ok (t59, pq54.2))>>=λpq58=>(m_law_take_2 pq58.2 [pq58.1])>>=λq64=>R.ok (q64.1, q64.2))>>=λq55=>(pyAdd pq54.1 q55.1)>>=λz56=>R.ok (z56, q55.2)))>>=λv65=>((((v65.1)<&>λx66=>pyRange [x66])>>=λis77=>(mapR (λd79=>((λd=>R.ok d) d79)>>=λa67=>((((v65.1)<&>λx68=>pyRange [x68])>>=λis70=>(filR (λd72=>((λd=>R.ok d) d72)>>=λa69=>(a69<&>λx73=>a67<&>λx74=>(pyNe x73 x74).bind asB)) (λd72=>((λd=>R.ok d) d72)>>=λa69=>(R.ok a69)) is70)>>=λrs71=>R.ok (PyData.list rs71))>>=λx76=>pyTuple [x76])) is77)>>=λrs78=>R.ok (PyData.list rs78))>>=λv80=>R.ok (v80, v65.2))) else ((nox (((PyData.int 4)<&>λt99=>R.ok (t99, b38.2))>>=λpq96=>(((((PyData.int 6)<&>λx102=>p1<&>λx103=>pyMin [x102, x103])>>=λx104=>(PyData.int 3)<&>λx105=>pySub x104 x105)>>=λt101=>R.ok (t101, pq96.2))>>=λpq100=>(m_law_take_2 pq100.2 [pq100.1])>>=λq106=>R.ok (q106.1, q106.2))>>=λq97=>(pyAdd pq96.1 q97.1)>>=λz98=>R.ok (z98, q97.2)))>>=λv107=>((((v107.1)<&>λx108=>pyRange [x108])>>=λis118=>(mapR (λd120=>((λd=>R.ok d) d120)>>=λa109=>(((a109<&>λx110=>((a109<&>λx111=>(PyData.int 1)<&>λx112=>pyAdd x111 x112)>>=λx113=>(v107.1)<&>λx114=>pyMod x113 x114)>>=λx115=>R.ok (PyData.list [x110, x115]))>>=λx116=>pySorted [x116])>>=λx117=>pyTuple [x117])) is118)>>=λrs119=>R.ok (PyData.list rs119))>>=λv121=>R.ok (v121, v107.2))))
  | _, _ => R.no
noncomputable def m_law_named_2 : D → List D → R (D × D)
  | p0, [p1, p2] => (((p1<&>λx1=>(asInt x1)>>=λn2=>R.ok ((0 : Int), n2))>>=λq3=>(rgL q3)>>=λts4=>R.ok (PyData.list ts4))>>=λv5=>((nox (((p1<&>λx35=>pyRange [x35])>>=λi34=>R.ok (i34, (v5, p0)))>>=λpq30=>(mapJ (fun d32 s33 => ((λd=>R.ok d) d32)>>=λa8=>((lstD s33.1)>>=λu38=>(((nl ((s33.1)<&>λx41=>pyLen [x41]))>>=λt40=>R.ok (t40, s33))>>=λpq39=>(m_law_take_2 pq39.2.2 [pq39.1])>>=λq42=>R.ok (q42.1, (pq39.2.1, q42.2)))>>=λpq36=>(popAtD pq36.2.1 pq36.1)>>=λq37=>R.ok (q37.1, (q37.2, pq36.2.2)))) pq30.1 pq30.2)>>=λr31=>R.ok (PyData.list r31.1, r31.2)))>>=λv43=>(((p2<&>λx44=>items x44)>>=λis55=>(mapR (λd57=>((λd=>R.ok d) d57)>>=λa45=>((((a45<&>λx46=>items x46)>>=λis50=>(mapR (λd52=>((λd=>R.ok d) d52)>>=λa47=>((v43.1)<&>λx48=>a47<&>λx49=>pyIx x48 x49)) is50)>>=λrs51=>R.ok (PyData.list rs51))>>=λx53=>pySorted [x53])>>=λx54=>pyTuple [x54])) is55)>>=λrs56=>R.ok (PyData.list rs56))>>=λv58=>((PyData.list [])<&>λv59=>(thenO (J := (D × D × D)) (whX (fun (j60 : (D × D × D)) => ((j60.2.1)<&>λx61=>(PyData.list [])<&>λx62=>(pyNe x61 x62).bind asB)) (λb64=>b64) (fun (j60 : (D × D × D)) b64 => (((lstD j60.2.2)>>=λu81=>(nox ((lstD (j60.2.1, j60.1).1)>>=λu75=>(((nl (((j60.2.1, j60.1).1)<&>λx78=>pyLen [x78]))>>=λt77=>R.ok (t77, (j60.2.1, j60.1)))>>=λpq76=>(m_law_take_2 pq76.2.2 [pq76.1])>>=λq79=>R.ok (q79.1, (pq76.2.1, q79.2)))>>=λpq73=>(popAtD pq73.2.1 pq73.1)>>=λq74=>R.ok (q74.1, (q74.2, pq73.2.2))))>>=λv80=>(appD j60.2.2 v80.1)>>=λr82=>R.ok (v80.2.1, v80.2.2, r82))>>=λj83=>(R.ok (Oc.nx (j83.2.1, j83.1, j83.2.2))))) (fun (j60 : (D × D × D)) b64 => (j60.1, j60.2.1, j60.2.2)) (v43.2.2, v58, v59)) (fun t b => (t, b)) (λj84=>(((j84.2.2)<&>λx85=>pyTuple [x85])>>=λv86=>R.ok (v86, j84.1))))))))
  | _, _ => R.no
noncomputable def m_law_layout_2 : D → List D → R (D × D)
  | p0, [p1, p2] => ((nox (((PyData.int 1)<&>λt11=>R.ok (t11, p0))>>=λpq8=>((p1<&>λt13=>R.ok (t13, pq8.2))>>=λpq12=>(m_law_take_2 pq12.2 [pq12.1])>>=λq14=>R.ok (q14.1, q14.2))>>=λq9=>(pyAdd pq8.1 q9.1)>>=λz10=>R.ok (z10, q9.2)))>>=λv15=>((nox (((PyData.int 1)<&>λt26=>R.ok (t26, v15.2))>>=λpq23=>((p2<&>λt28=>R.ok (t28, pq23.2))>>=λpq27=>(m_law_take_2 pq27.2 [pq27.1])>>=λq29=>R.ok (q29.1, q29.2))>>=λq24=>(pyAdd pq23.1 q24.1)>>=λz25=>R.ok (z25, q24.2)))>>=λv30=>((nox (((PyData.int 5)<&>λt35=>R.ok (t35, v30.2))>>=λpq34=>(m_law_take_2 pq34.2 [pq34.1])>>=λq36=>R.ok (q36.1, q36.2)))>>=λv37=>((((v37.1)<&>λx38=>(PyData.int 0)<&>λx39=>(pyEq x38 x39).bind asB)>>=λk44=>if k44 = true then ((v15.1)<&>λx41=>(PyData.int 2)<&>λx42=>(pyGt x41 x42).bind asB) else R.ok false)>>=λb45=>if b45 = true then ((nox (((v15.1)<&>λt50=>R.ok (t50, v37.2))>>=λpq49=>(m_law_barred pq49.2 [pq49.1])>>=λq51=>R.ok (q51.1, q51.2)))>>=λv52=>((nox ((((((PyData.int 1)<&>λx95=>((PyData.int 0)<&>λx90=>(p2<&>λx92=>((v52.1)<&>λx91=>pyLen [x91])>>=λx93=>pySub x92 x93)>>=λx94=>pyMax [x90, x94])>>=λx96=>pyAdd x95 x96)>>=λt89=>R.ok (t89, v52.2))>>=λpq88=>(m_law_take_2 pq88.2 [pq88.1])>>=λq97=>R.ok (q97.1, q97.2))>>=λpq87=>(pyRange [pq87.1])>>=λz98=>R.ok (z98, pq87.2))>>=λpq83=>(mapJ (fun d85 s86 => ((λd=>R.ok d) d85)>>=λa60=>(((v15.1)<&>λt100=>R.ok (t100, s86))>>=λpq99=>(m_law_head pq99.2 [pq99.1])>>=λq101=>R.ok (q101.1, q101.2))) pq83.1 pq83.2)>>=λr84=>R.ok (PyData.list r84.1, r84.2)))>>=λv102=>((nox (((v15.1)<&>λt125=>R.ok (t125, v102.2))>>=λpq123=>(((v15.1)<&>λt128=>R.ok (t128, pq123.2))>>=λpq126=>((((v52.1)<&>λx130=>(v102.1)<&>λx131=>pyAdd x130 x131)>>=λx133=>(none : Option Int)<&>λx134=>((PyData.int 6)<&>λx132=>partD x132)>>=λx135=>pySl x133 x134 x135)>>=λt129=>R.ok (t129, pq126.2))>>=λpq127=>(m_law_named_2 pq127.2 [pq126.1, pq127.1])>>=λq136=>R.ok (q136.1, q136.2))>>=λpq124=>R.ok (PyData.tuple [pq123.1, pq124.1], pq124.2)))>>=λv137=>R.ok (v137.1, v137.2)))) else (((v37.1)<&>λx138=>(PyData.int 1)<&>λx139=>(pyEq x138 x139).bind asB)>>=λb141=>if b141 = true then ((nox (((v15.1)<&>λt166=>R.ok (t166, v37.2))>>=λpq164=>(((v15.1)<&>λt169=>R.ok (t169, pq164.2))>>=λpq167=>((((v30.1)<&>λx175=>pyRange [x175])>>=λi174=>R.ok (i174, pq167.2))>>=λpq170=>(mapJ (fun d172 s173 => ((λd=>R.ok d) d172)>>=λa144=>(((v15.1)<&>λt177=>R.ok (t177, s173))>>=λpq176=>(m_law_head pq176.2 [pq176.1])>>=λq178=>R.ok (q178.1, q178.2))) pq170.1 pq170.2)>>=λr171=>R.ok (PyData.list r171.1, r171.2))>>=λpq168=>(m_law_named_2 pq168.2 [pq167.1, pq168.1])>>=λq179=>R.ok (q179.1, q179.2))>>=λpq165=>R.ok (PyData.tuple [pq164.1, pq165.1], pq165.2)))>>=λv180=>R.ok (v180.1, v180.2)) else ((nox (((v15.1)<&>λt195=>R.ok (t195, v37.2))>>=λpq193=>(((v15.1)<&>λt198=>R.ok (t198, pq193.2))>>=λpq196=>(((v15.1)<&>λt201=>R.ok (t201, pq196.2))>>=λpq199=>((v30.1)<&>λt202=>R.ok (t202, pq199.2))>>=λpq200=>(m_law_grown pq200.2 [pq199.1, pq200.1])>>=λq203=>R.ok (q203.1, q203.2))>>=λpq197=>(m_law_named_2 pq197.2 [pq196.1, pq197.1])>>=λq204=>R.ok (q204.1, q204.2))>>=λpq194=>R.ok (PyData.tuple [pq193.1, pq194.1], pq194.2)))>>=λv205=>R.ok (v205.1, v205.2)))))))
  | _, _ => R.no
def m_is_row : List D → R D
  | [p0, p1] => (((p0<&>λx1=>isD ["tuple"] x1)>>=λx15=>(tru x15)>>=λk16=>if k16 = true then (((p0<&>λx2=>pyLen [x2])>>=λx3=>p1<&>λx4=>pyEq x3 x4)>>=λx13=>(tru x13)>>=λk14=>if k14 = true then (((p0<&>λx5=>items x5)>>=λis9=>(mapR (λd11=>((λd=>R.ok d) d11)>>=λa6=>(a6<&>λx7=>(PyData.int 10)<&>λx8=>m_is_upto [x7, x8])) is9)>>=λrs10=>R.ok (PyData.list rs10))>>=λx12=>pyAll [x12]) else R.ok x13) else R.ok x15)>>=λv17=>R.ok v17)
  | _ => R.no
def m_is_table : List D → R D
  | [p0, p1] => (((((p0<&>λx1=>isD ["tuple"] x1).bind tru)>>=λk2=>R.ok (!k2))>>=λk17=>if k17 = true then R.ok true else (((p0<&>λx3=>pyLen [x3])>>=λx4=>(PyData.int 625)<&>λx5=>(pyGt x4 x5).bind asB)>>=λk16=>if k16 = true then R.ok true else (((((p0<&>λx7=>items x7)>>=λis11=>(mapR (λd13=>((λd=>R.ok d) d13)>>=λa8=>(a8<&>λx9=>p1<&>λx10=>m_is_row [x9, x10])) is11)>>=λrs12=>R.ok (PyData.list rs12))>>=λx14=>pyAll [x14]).bind tru)>>=λk15=>R.ok (!k15))))>>=λb18=>if b18 = true then ((PyData.bool false)<&>λv19=>R.ok v19) else ((((p0<&>λx20=>(p0<&>λx22=>((PyData.int 1)<&>λx21=>partD x21)>>=λx23=>(none : Option Int)<&>λx24=>pySl x22 x23 x24)>>=λx25=>pyZip [x20, x25])>>=λis29=>(mapR (λd31=>(unp2 d31)>>=λa26=>((a26.1)<&>λx27=>(a26.2)<&>λx28=>pyLt x27 x28)) is29)>>=λrs30=>R.ok (PyData.list rs30))>>=λx32=>pyAll [x32])>>=λv33=>R.ok v33))
  | _ => R.no
def m_law_rows : D → List D → R (D × D)
  | p0, [p1, p2] => ((PyData.dict [])<&>λv1=>((nox ((((PyData.int 2)<&>λx19=>(PyData.int 3)<&>λx20=>(PyData.int 10)<&>λx21=>R.ok (PyData.list [x19, x20, x21]))>>=λt18=>R.ok (t18, p0))>>=λpq15=>(((PyData.int 3)<&>λt23=>R.ok (t23, pq15.2))>>=λpq22=>(m_law_take_2 pq22.2 [pq22.1])>>=λq24=>R.ok (q24.1, q24.2))>>=λq16=>(pyIx pq15.1 q16.1)>>=λz17=>R.ok (z17, q16.2)))>>=λv25=>(((nox ((((p2<&>λx38=>(PyData.int 1)<&>λx39=>pyAdd x38 x39)>>=λt37=>R.ok (t37, v25.2))>>=λpq36=>(m_law_take_2 pq36.2 [pq36.1])>>=λq40=>R.ok (q40.1, q40.2))>>=λpq35=>(pyRange [pq35.1])>>=λz41=>R.ok (z41, pq35.2)))>>=λb42=>foldR (λd=>R.ok d) (fun (j43 : (D × D)) a44 => (((PyData.bool true)<&>λv45=>(nox ((((p1<&>λx72=>pyRange [x72])>>=λi71=>R.ok (i71, j43.1))>>=λpq67=>(mapJ (fun d69 s70 => ((λd=>R.ok d) d69)>>=λa51=>(((v25.1)<&>λt74=>R.ok (t74, s70))>>=λpq73=>(m_law_take_2 pq73.2 [pq73.1])>>=λq75=>R.ok (q75.1, q75.2))) pq67.1 pq67.2)>>=λr68=>R.ok (PyData.list r68.1, r68.2))>>=λpq66=>(pyTuple [pq66.1])>>=λz76=>R.ok (z76, pq66.2)))>>=λq46=>(storeD j43.2 q46.1 v45)>>=λr47=>R.ok (q46.2, r47))>>=λj48=>(R.ok (j48.1, j48.2)))) b42.1 (b42.2, v1))>>=λj77=>(((((j77.2)<&>λx78=>pyListD [x78])>>=λx79=>pySorted [x79])>>=λx80=>pyTuple [x80])>>=λv81=>R.ok (v81, j77.1)))))
  | _, _ => R.no
def m_law_tables : D → List D → R (D × D)
  | p0, [p1, p2] => ((nox (((PyData.int 3)<&>λt5=>R.ok (t5, p0))>>=λpq4=>(m_law_take_2 pq4.2 [pq4.1])>>=λq6=>R.ok (q6.1, q6.2)))>>=λv7=>(((v7.1)<&>λx8=>(PyData.int 0)<&>λx9=>(pyEq x8 x9).bind asB)>>=λb11=>if b11 = true then ((nox (((((p1<&>λx48=>(PyData.int 1)<&>λx49=>pyIx x48 x49)>>=λx50=>items x50)>>=λi47=>R.ok (i47, v7.2))>>=λpq43=>(mapJ (fun d45 s46 => ((λd=>R.ok d) d45)>>=λa18=>(((a18<&>λx54=>pyLen [x54])>>=λt53=>R.ok (t53, s46))>>=λpq51=>(p2<&>λt55=>R.ok (t55, pq51.2))>>=λpq52=>(m_law_rows pq52.2 [pq51.1, pq52.1])>>=λq56=>R.ok (q56.1, q56.2))) pq43.1 pq43.2)>>=λr44=>R.ok (PyData.list r44.1, r44.2))>>=λpq42=>(pyTuple [pq42.1])>>=λz57=>R.ok (z57, pq42.2)))>>=λv58=>R.ok (v58.1, v58.2)) else ((nox (((PyData.int 2)<&>λt69=>R.ok (t69, v7.2))>>=λpq66=>(((PyData.int 3)<&>λt71=>R.ok (t71, pq66.2))>>=λpq70=>(m_law_take_2 pq70.2 [pq70.1])>>=λq72=>R.ok (q72.1, q72.2))>>=λq67=>(pyAdd pq66.1 q67.1)>>=λz68=>R.ok (z68, q67.2)))>>=λv73=>((PyData.list [])<&>λv74=>(((nox ((((PyData.int 1)<&>λt88=>R.ok (t88, v73.2))>>=λpq85=>((p2<&>λt90=>R.ok (t90, pq85.2))>>=λpq89=>(m_law_take_2 pq89.2 [pq89.1])>>=λq91=>R.ok (q91.1, q91.2))>>=λq86=>(pyAdd pq85.1 q86.1)>>=λz87=>R.ok (z87, q86.2))>>=λpq84=>(pyRange [pq84.1])>>=λz92=>R.ok (z92, pq84.2)))>>=λb93=>foldR (λd=>R.ok d) (fun (j94 : (D × D)) a95 => (((lstD j94.2)>>=λu129=>(nox ((((p1<&>λx122=>(PyData.int 0)<&>λx123=>pyIx x122 x123)>>=λx124=>pyRange [x124])>>=λi121=>R.ok (i121, j94.1))>>=λpq117=>(mapJ (fun d119 s120 => ((λd=>R.ok d) d119)>>=λa102=>(((v73.1)<&>λt126=>R.ok (t126, s120))>>=λpq125=>(m_law_take_2 pq125.2 [pq125.1])>>=λq127=>R.ok (q127.1, q127.2))) pq117.1 pq117.2)>>=λr118=>R.ok (PyData.list r118.1, r118.2)))>>=λv128=>(appD j94.2 v128.1)>>=λr130=>R.ok (v128.2, r130))>>=λj131=>(R.ok (j131.1, j131.2)))) b93.1 (b93.2, v74))>>=λj132=>((PyData.list [])<&>λv133=>((((p1<&>λx134=>(PyData.int 1)<&>λx135=>pyIx x134 x135)>>=λx136=>items x136)>>=λb137=>foldR (λd=>R.ok d) (fun (j138 : (D × D)) a139 => ((((j132.2)<&>λx140=>items x140)>>=λis150=>(mapR (λd152=>((λd=>R.ok d) d152)>>=λa141=>(((a139<&>λx142=>items x142)>>=λis146=>(mapR (λd148=>((λd=>R.ok d) d148)>>=λa143=>(a141<&>λx144=>a143<&>λx145=>pyIx x144 x145)) is146)>>=λrs147=>R.ok (PyData.list rs147))>>=λx149=>pyTuple [x149])) is150)>>=λrs151=>R.ok (PyData.list rs151))>>=λv153=>((((v7.1)<&>λx154=>(PyData.int 2)<&>λx155=>(pyEq x154 x155).bind asB)>>=λb157=>if b157 = true then (((lstD v153)>>=λu219=>(nox ((((a139<&>λx213=>items x213)>>=λi212=>R.ok (i212, j138.1))>>=λpq208=>(mapJ (fun d210 s211 => ((λd=>R.ok d) d210)>>=λa192=>(((v73.1)<&>λt215=>R.ok (t215, s211))>>=λpq214=>(m_law_take_2 pq214.2 [pq214.1])>>=λq216=>R.ok (q216.1, q216.2))) pq208.1 pq208.2)>>=λr209=>R.ok (PyData.list r209.1, r209.2))>>=λpq207=>(pyTuple [pq207.1])>>=λz217=>R.ok (z217, pq207.2)))>>=λv218=>(appD v153 v218.1)>>=λr220=>R.ok (v218.2, r220))>>=λj221=>(R.ok (j221.1, j221.2))) else (R.ok (j138.1, v153)))>>=λj222=>(((lstD j138.2)>>=λu226=>(((j222.2)<&>λx223=>pySortedSet x223)>>=λx224=>pyTuple [x224])>>=λv225=>(appD j138.2 v225)>>=λr227=>R.ok r227)>>=λj228=>(R.ok (j222.1, j228)))))) b137 (j132.1, v133))>>=λj229=>(((j229.2)<&>λx230=>pyTuple [x230])>>=λv231=>R.ok (v231, j229.1)))))))))
  | _, _ => R.no
def m_layout_text : List D → R D
  | [p0] => ((((p0<&>λx1=>(PyData.int 1)<&>λx2=>pyIx x1 x2)>>=λx3=>items x3)>>=λis13=>(mapR (λd15=>((λd=>R.ok d) d15)>>=λa4=>((PyData.str ",")<&>λx11=>(strOk x11)>>=λ_=>((a4<&>λx5=>items x5)>>=λis8=>(mapR (λd10=>((λd=>R.ok d) d10)>>=λa6=>(a6<&>λx7=>pyStr [x7])) is8)>>=λrs9=>R.ok (PyData.list rs9))>>=λx12=>pyJoin x11 x12)) is13)>>=λrs14=>R.ok (PyData.list rs14))>>=λv16=>(((PyData.str " ")<&>λx24=>(strOk x24)>>=λ_=>((((p0<&>λx17=>(PyData.int 0)<&>λx18=>pyIx x17 x18)>>=λx19=>pyStr [x19])>>=λx20=>(PyData.str ":")<&>λx21=>R.ok (PyData.list [x20, x21]))>>=λx22=>v16<&>λx23=>pyAdd x22 x23)>>=λx25=>pyJoin x24 x25)>>=λv26=>R.ok v26))
  | _ => R.no
def m_row_text : List D → R D
  | [p0] => (((PyData.str "")<&>λx7=>(strOk x7)>>=λ_=>((p0<&>λx1=>items x1)>>=λis4=>(mapR (λd6=>((λd=>R.ok d) d6)>>=λa2=>(a2<&>λx3=>pyStr [x3])) is4)>>=λrs5=>R.ok (PyData.list rs5))>>=λx8=>pyJoin x7 x8)>>=λv9=>R.ok v9)
  | _ => R.no
def m_table_text : List D → R D
  | [p0] => ((((PyData.str " ")<&>λx7=>(strOk x7)>>=λ_=>((p0<&>λx1=>items x1)>>=λis4=>(mapR (λd6=>((λd=>R.ok d) d6)>>=λa2=>(a2<&>λx3=>m_row_text [x3])) is4)>>=λrs5=>R.ok (PyData.list rs5))>>=λx8=>pyJoin x7 x8)>>=λx9=>(tru x9)>>=λk10=>if k10 = true then R.ok x9 else (R.ok (PyData.str "none")))>>=λv11=>R.ok v11)
  | _ => R.no
def m_figure_in : List D → R D
  | [p0] => ((((p0<&>λx1=>pyLen [x1])>>=λx2=>(PyData.int 1)<&>λx3=>(pyNe x2 x3).bind asB)>>=λk8=>if k8 = true then R.ok true else (p0<&>λx5=>(PyData.str "0123456789")<&>λx6=>(pyNotIn x5 x6).bind asB))>>=λb9=>if b9 = true then ((PyData.none)<&>λv10=>R.ok v10) else ((p0<&>λx11=>pyIntS [x11])>>=λv12=>R.ok v12))
  | _ => R.no
def m_layout_read : List D → R D
  | [p0] => ((((p0<&>λx1=>isD ["str"] x1).bind tru)>>=λk2=>R.ok (!k2))>>=λb3=>if b3 = true then (R.ex "NoText") else ((p0<&>λx4=>(strOk x4)>>=λ_=>(PyData.str " ")<&>λx5=>pySplit x4 x5)>>=λv6=>((((v6<&>λx7=>pyLen [x7])>>=λx8=>(PyData.int 2)<&>λx9=>(pyLt x8 x9).bind asB)>>=λk16=>if k16 = true then R.ok true else ((v6<&>λx11=>(PyData.int 1)<&>λx12=>pyIx x11 x12)>>=λx13=>(PyData.str ":")<&>λx14=>(pyNe x13 x14).bind asB))>>=λb17=>if b17 = true then (R.ex "NoText") else (((((v6<&>λx19=>((PyData.int 2)<&>λx18=>partD x18)>>=λx20=>(none : Option Int)<&>λx21=>pySl x19 x20 x21)>>=λx22=>items x22)>>=λis33=>(mapR (λd35=>((λd=>R.ok d) d35)>>=λa23=>((((a23<&>λx24=>(strOk x24)>>=λ_=>(PyData.str ",")<&>λx25=>pySplit x24 x25)>>=λx26=>items x26)>>=λis29=>(mapR (λd31=>((λd=>R.ok d) d31)>>=λa27=>(a27<&>λx28=>m_figure_in [x28])) is29)>>=λrs30=>R.ok (PyData.list rs30))>>=λx32=>pyTuple [x32])) is33)>>=λrs34=>R.ok (PyData.list rs34))>>=λx36=>pyTuple [x36])>>=λv37=>((((v6<&>λx38=>(PyData.int 0)<&>λx39=>pyIx x38 x39)>>=λx40=>m_figure_in [x40])>>=λx41=>v37<&>λx42=>R.ok (PyData.tuple [x41, x42]))>>=λv43=>((((v43<&>λx44=>m_is_layout [x44]).bind tru)>>=λk45=>R.ok (!k45))>>=λb46=>if b46 = true then (R.ex "NoText") else (v43<&>λv47=>R.ok v47)))))))
  | _ => R.no
def m_row_in : List D → R D
  | [p0] => (((((PyData.int 1)<&>λx2=>(p0<&>λx1=>pyLen [x1])>>=λx3=>(pyLe x2 x3)>>=λx4=>(asB x4)>>=λx5=>if x5 = true then (PyData.int 7)<&>λx6=>(pyLe x3 x6).bind asB else R.ok false)>>=λk8=>R.ok (!k8))>>=λk18=>if k18 = true then R.ok true else (((((p0<&>λx9=>signsD x9)>>=λis13=>(mapR (λd15=>((λd=>R.ok d) d15)>>=λa10=>(a10<&>λx11=>(PyData.str "0123456789")<&>λx12=>pyIn x11 x12)) is13)>>=λrs14=>R.ok (PyData.list rs14))>>=λx16=>pyAll [x16]).bind tru)>>=λk17=>R.ok (!k17)))>>=λb19=>if b19 = true then ((PyData.none)<&>λv20=>R.ok v20) else ((((p0<&>λx21=>signsD x21)>>=λis24=>(mapR (λd26=>((λd=>R.ok d) d26)>>=λa22=>(a22<&>λx23=>pyIntS [x23])) is24)>>=λrs25=>R.ok (PyData.list rs25))>>=λx27=>pyTuple [x27])>>=λv28=>R.ok v28))
  | _ => R.no
def m_table_read : List D → R D
  | [p0] => ((((p0<&>λx1=>isD ["str"] x1).bind tru)>>=λk2=>R.ok (!k2))>>=λb3=>if b3 = true then (R.ex "NoText") else ((p0<&>λx4=>(PyData.str "none")<&>λx5=>(pyEq x4 x5).bind asB)>>=λb7=>if b7 = true then ((PyData.tuple [])<&>λv8=>R.ok v8) else ((((p0<&>λx9=>(strOk x9)>>=λ_=>(PyData.str " ")<&>λx10=>pySplit x9 x10)>>=λx11=>items x11)>>=λis14=>(mapR (λd16=>((λd=>R.ok d) d16)>>=λa12=>(a12<&>λx13=>m_row_in [x13])) is14)>>=λrs15=>R.ok (PyData.list rs15))>>=λv17=>((((PyData.none)<&>λx18=>v17<&>λx19=>(pyIn x18 x19).bind asB)>>=λk28=>if k28 = true then R.ok true else ((((v17<&>λx21=>pyTuple [x21])>>=λx22=>((v17<&>λx23=>(PyData.int 0)<&>λx24=>pyIx x23 x24)>>=λx25=>pyLen [x25])>>=λx26=>m_is_table [x22, x26]).bind tru)>>=λk27=>R.ok (!k27)))>>=λb29=>if b29 = true then (R.ex "NoText") else ((v17<&>λx30=>pyTuple [x30])>>=λv31=>R.ok v31)))))
  | _ => R.no
def m_law_text : List D → R D
  | [p0] => (((PyData.str " ")<&>λx23=>(strOk x23)>>=λ_=>((((p0<&>λx1=>(PyData.int 0)<&>λx2=>pyIx x1 x2)>>=λx3=>pyStr [x3])>>=λx4=>(PyData.str ":")<&>λx5=>R.ok (PyData.list [x4, x5]))>>=λx21=>(((p0<&>λx6=>(PyData.int 1)<&>λx7=>pyIx x6 x7)>>=λx8=>items x8)>>=λis18=>(mapR (λd20=>((λd=>R.ok d) d20)>>=λa9=>((PyData.str ",")<&>λx16=>(strOk x16)>>=λ_=>((a9<&>λx10=>items x10)>>=λis13=>(mapR (λd15=>((λd=>R.ok d) d15)>>=λa11=>(a11<&>λx12=>pyStr [x12])) is13)>>=λrs14=>R.ok (PyData.list rs14))>>=λx17=>pyJoin x16 x17)) is18)>>=λrs19=>R.ok (PyData.list rs19))>>=λx22=>pyAdd x21 x22)>>=λx24=>pyJoin x23 x24)>>=λv25=>R.ok v25)
  | _ => R.no
def m_law_table_text : List D → R D
  | [p0] => ((((PyData.str " ")<&>λx14=>(strOk x14)>>=λ_=>((p0<&>λx1=>items x1)>>=λis11=>(mapR (λd13=>((λd=>R.ok d) d13)>>=λa2=>((PyData.str "")<&>λx9=>(strOk x9)>>=λ_=>((a2<&>λx3=>items x3)>>=λis6=>(mapR (λd8=>((λd=>R.ok d) d8)>>=λa4=>(a4<&>λx5=>pyStr [x5])) is6)>>=λrs7=>R.ok (PyData.list rs7))>>=λx10=>pyJoin x9 x10)) is11)>>=λrs12=>R.ok (PyData.list rs12))>>=λx15=>pyJoin x14 x15)>>=λx16=>(tru x16)>>=λk17=>if k17 = true then R.ok x16 else (R.ok (PyData.str "none")))>>=λv18=>R.ok v18)
  | _ => R.no
noncomputable def m_law_k91 : List D → R D
  | [p0] => (thenO (J := Unit) ((((PyData.int 1)<&>λx1=>((p0<&>λx2=>pyLen [x2])>>=λx3=>(PyData.int 6)<&>λx4=>pyMin [x3, x4])>>=λx5=>pyMax [x1, x5])>>=λx6=>pyRange [x6])>>=λb7=>foldO (λd=>R.ok d) (fun (j8 : Unit) a9 => ((p0<&>λx10=>a9<&>λx11=>m_law_box_2 [x10, x11])>>=λv12=>((nox (((PyData.int 7)<&>λt20=>R.ok (t20, v12))>>=λpq18=>((PyData.int 6)<&>λt21=>R.ok (t21, pq18.2))>>=λpq19=>(m_law_layout_2 pq19.2 [pq18.1, pq19.1])>>=λq22=>R.ok (q22.1, q22.2)))>>=λv23=>(((v23.1)<&>λx24=>m_layout_text [x24])>>=λv25=>(((((v25<&>λx26=>isD ["str"] x26).bind tru)>>=λk27=>R.ok (!k27))>>=λk37=>if k37 = true then R.ok true else ((v25<&>λx29=>((v23.1)<&>λx28=>m_law_text [x28])>>=λx30=>(pyNe x29 x30).bind asB)>>=λk36=>if k36 = true then R.ok true else ((v25<&>λx32=>m_layout_read [x32])>>=λx33=>(v23.1)<&>λx34=>(pyNe x33 x34).bind asB)))>>=λb38=>if b38 = true then ((PyData.bool false)<&>λv39=>R.ok (Oc.rt v39 PyData.none)) else (thenO (J := (D)) ((nox ((((v23.1)<&>λt51=>R.ok (t51, v23.2))>>=λpq49=>((PyData.int 8)<&>λt52=>R.ok (t52, pq49.2))>>=λpq50=>(m_law_tables pq50.2 [pq49.1, pq50.1])>>=λq53=>R.ok (q53.1, q53.2))>>=λpq47=>(items pq47.1)>>=λi48=>R.ok (i48, pq47.2)))>>=λb54=>foldO (λd=>R.ok d) (fun (j55 : (D)) a56 => ((a56<&>λx57=>m_table_text [x57])>>=λv58=>(((((v58<&>λx59=>isD ["str"] x59).bind tru)>>=λk60=>R.ok (!k60))>>=λk70=>if k70 = true then R.ok true else ((v58<&>λx62=>(a56<&>λx61=>m_law_table_text [x61])>>=λx63=>(pyNe x62 x63).bind asB)>>=λk69=>if k69 = true then R.ok true else ((v58<&>λx65=>m_table_read [x65])>>=λx66=>a56<&>λx67=>(pyNe x66 x67).bind asB)))>>=λb71=>if b71 = true then ((PyData.bool false)<&>λv72=>R.ok (Oc.rt v72 PyData.none)) else (R.ok (Oc.nx j55))))) b54.1 b54.2) (fun t b => (Oc.rt t b)) (λj73=>(R.ok (Oc.nx ()))))))))) b7 ()) (fun t b => t) (λj74=>(((((PyData.int 625)<&>λx75=>pyRange [x75])>>=λis88=>(mapR (λd90=>((λd=>R.ok d) d90)>>=λa76=>((a76<&>λx77=>(PyData.int 100)<&>λx78=>pyDiv x77 x78)>>=λx79=>((a76<&>λx80=>(PyData.int 10)<&>λx81=>pyDiv x80 x81)>>=λx82=>(PyData.int 10)<&>λx83=>pyMod x82 x83)>>=λx84=>(a76<&>λx85=>(PyData.int 10)<&>λx86=>pyMod x85 x86)>>=λx87=>R.ok (PyData.tuple [x79, x84, x87]))) is88)>>=λrs89=>R.ok (PyData.list rs89))>>=λx91=>pyTuple [x91])>>=λv92=>(((((v92<&>λx93=>m_law_table_text [x93])>>=λx94=>m_table_read [x94])>>=λx95=>v92<&>λx96=>pyEq x95 x96)>>=λx105=>(tru x105)>>=λk106=>if k106 = true then ((((PyData.tuple [])<&>λx97=>m_table_text [x97])>>=λx98=>(PyData.str "none")<&>λx99=>pyEq x98 x99)>>=λx103=>(tru x103)>>=λk104=>if k104 = true then (((PyData.str "none")<&>λx100=>m_table_read [x100])>>=λx101=>(PyData.tuple [])<&>λx102=>pyEq x101 x102) else R.ok x103) else R.ok x105)>>=λv107=>R.ok v107))))
  | _ => R.no
end JT
namespace LK91
open PySem PySem.Spec PyProof.Rows L2 TL JT
def topS (i : Nat) : Stmt := PySem.Challenge.pw_jointrees_k91_layouts_and_tables_written.main.body.getD i (.Pass ⟨0, 0, 0, 0⟩)
abbrev s_is_whole : Stmt := topS 6
theorem sc_is_whole : FnScope ["thing"] ["thing"] (defScope s_is_whole) := ⟨rfl, rfl, rfl, by decide +kernel, rfl, by decide +kernel, by decide +kernel⟩
abbrev s_is_upto : Stmt := topS 7
theorem sc_is_upto : FnScope ["thing", "many"] ["thing", "many"] (defScope s_is_upto) := ⟨rfl, rfl, rfl, by decide +kernel, rfl, by decide +kernel, by decide +kernel⟩
abbrev s_is_rising : Stmt := topS 8
theorem sc_is_rising : FnScope ["things", "one", "other"] ["things"] (defScope s_is_rising) := ⟨rfl, rfl, rfl, by decide +kernel, rfl, by decide +kernel, by decide +kernel⟩
abbrev s_is_head : Stmt := topS 9
theorem sc_is_head : FnScope ["thing", "many", "one"] ["thing", "many"] (defScope s_is_head) := ⟨rfl, rfl, rfl, by decide +kernel, rfl, by decide +kernel, by decide +kernel⟩
abbrev s_is_layout : Stmt := topS 10
theorem sc_is_layout : FnScope ["thing", "head"] ["thing"] (defScope s_is_layout) := ⟨rfl, rfl, rfl, by decide +kernel, rfl, by decide +kernel, by decide +kernel⟩
abbrev s_is_row : Stmt := topS 14
theorem sc_is_row : FnScope ["thing", "many", "one"] ["thing", "many"] (defScope s_is_row) := ⟨rfl, rfl, rfl, by decide +kernel, rfl, by decide +kernel, by decide +kernel⟩
abbrev s_is_table : Stmt := topS 15
theorem sc_is_table : FnScope ["thing", "many", "row", "one", "other"] ["thing", "many"] (defScope s_is_table) := ⟨rfl, rfl, rfl, by decide +kernel, rfl, by decide +kernel, by decide +kernel⟩
abbrev s_layout_text : Stmt := topS 19
theorem sc_layout_text : FnScope ["layout", "heads", "head", "column"] ["layout"] (defScope s_layout_text) := ⟨rfl, rfl, rfl, by decide +kernel, rfl, by decide +kernel, by decide +kernel⟩
abbrev s_row_text : Stmt := topS 20
theorem sc_row_text : FnScope ["row", "number"] ["row"] (defScope s_row_text) := ⟨rfl, rfl, rfl, by decide +kernel, rfl, by decide +kernel, by decide +kernel⟩
abbrev s_table_text : Stmt := topS 21
theorem sc_table_text : FnScope ["table", "row"] ["table"] (defScope s_table_text) := ⟨rfl, rfl, rfl, by decide +kernel, rfl, by decide +kernel, by decide +kernel⟩
abbrev s_figure_in : Stmt := topS 22
theorem sc_figure_in : FnScope ["word"] ["word"] (defScope s_figure_in) := ⟨rfl, rfl, rfl, by decide +kernel, rfl, by decide +kernel, by decide +kernel⟩
abbrev s_layout_read : Stmt := topS 23
theorem sc_layout_read : FnScope ["text", "words", "heads", "word", "part", "found"] ["text"] (defScope s_layout_read) := ⟨rfl, rfl, rfl, by decide +kernel, rfl, by decide +kernel, by decide +kernel⟩
abbrev s_row_in : Stmt := topS 24
theorem sc_row_in : FnScope ["word", "sign"] ["word"] (defScope s_row_in) := ⟨rfl, rfl, rfl, by decide +kernel, rfl, by decide +kernel, by decide +kernel⟩
abbrev s_table_read : Stmt := topS 25
theorem sc_table_read : FnScope ["text", "rows", "word"] ["text"] (defScope s_table_read) := ⟨rfl, rfl, rfl, by decide +kernel, rfl, by decide +kernel, by decide +kernel⟩
abbrev s__law_cell : Stmt := topS 27
theorem sc__law_cell : FnScope ["_law_script", "_law_k"] ["_law_script", "_law_k"] (defScope s__law_cell) := ⟨rfl, rfl, rfl, by decide +kernel, rfl, by decide +kernel, by decide +kernel⟩
abbrev s__law_mix : Stmt := topS 28
theorem sc__law_mix : FnScope ["_law_cell_here", "_law_k", "_law_number"] ["_law_cell_here", "_law_k"] (defScope s__law_mix) := ⟨rfl, rfl, rfl, by decide +kernel, rfl, by decide +kernel, by decide +kernel⟩
abbrev s__law_box : Stmt := topS 29
theorem sc__law_box : FnScope ["_law_script", "_law_k", "_law_here", "_law_number", "_law_j"] ["_law_script", "_law_k"] (defScope s__law_box) := ⟨rfl, rfl, rfl, by decide +kernel, rfl, by decide +kernel, by decide +kernel⟩
abbrev s__law_take : Stmt := topS 30
theorem sc__law_take : FnScope ["_law_box_here", "_law_many", "_law_left", "_law_digit"] ["_law_box_here", "_law_many"] (defScope s__law_take) := ⟨rfl, rfl, rfl, by decide +kernel, rfl, by decide +kernel, by decide +kernel⟩
abbrev s__law_head : Stmt := topS 31
theorem sc__law_head : FnScope ["_law_box_here", "_law_many", "_law_some", "_law_column"] ["_law_box_here", "_law_many"] (defScope s__law_head) := ⟨rfl, rfl, rfl, by decide +kernel, rfl, by decide +kernel, by decide +kernel⟩
abbrev s__law_grown : Stmt := topS 32
theorem sc__law_grown : FnScope ["_law_box_here", "_law_many", "_law_heads", "_law_found", "_law_turn", "_law_way", "_law_base", "_law_kept", "_law_column", "_law_met", "_law_head_here", "_law_fresh"] ["_law_box_here", "_law_many", "_law_heads"] (defScope s__law_grown) := ⟨rfl, rfl, rfl, by decide +kernel, rfl, by decide +kernel, by decide +kernel⟩
abbrev s__law_barred : Stmt := topS 33
theorem sc__law_barred : FnScope ["_law_box_here", "_law_many", "_law_size", "_law_lack", "_law_column"] ["_law_box_here", "_law_many"] (defScope s__law_barred) := ⟨rfl, rfl, rfl, by decide +kernel, rfl, by decide +kernel, by decide +kernel⟩
abbrev s__law_named : Stmt := topS 34
theorem sc__law_named : FnScope ["_law_box_here", "_law_many", "_law_heads", "_law_left", "_law_names", "_law_turn", "_law_rows_here", "_law_head_here", "_law_column", "_law_found"] ["_law_box_here", "_law_many", "_law_heads"] (defScope s__law_named) := ⟨rfl, rfl, rfl, by decide +kernel, rfl, by decide +kernel, by decide +kernel⟩
abbrev s__law_layout : Stmt := topS 35
theorem sc__law_layout : FnScope ["_law_box_here", "_law_most", "_law_heads", "_law_many", "_law_number", "_law_way", "_law_some", "_law_extra", "_law_turn"] ["_law_box_here", "_law_most", "_law_heads"] (defScope s__law_layout) := ⟨rfl, rfl, rfl, by decide +kernel, rfl, by decide +kernel, by decide +kernel⟩
abbrev s__law_rows : Stmt := topS 36
theorem sc__law_rows : FnScope ["_law_box_here", "_law_wide", "_law_most", "_law_found", "_law_small", "_law_turn", "_law_column"] ["_law_box_here", "_law_wide", "_law_most"] (defScope s__law_rows) := ⟨rfl, rfl, rfl, by decide +kernel, rfl, by decide +kernel, by decide +kernel⟩
abbrev s__law_tables : Stmt := topS 37
theorem sc__law_tables : FnScope ["_law_box_here", "_law_layout_here", "_law_most", "_law_way", "_law_head_here", "_law_small", "_law_whole", "_law_turn", "_law_column", "_law_found", "_law_rows_here", "_law_row"] ["_law_box_here", "_law_layout_here", "_law_most"] (defScope s__law_tables) := ⟨rfl, rfl, rfl, by decide +kernel, rfl, by decide +kernel, by decide +kernel⟩
abbrev s__law_text : Stmt := topS 38
theorem sc__law_text : FnScope ["_law_layout_here", "_law_head_here", "_law_column"] ["_law_layout_here"] (defScope s__law_text) := ⟨rfl, rfl, rfl, by decide +kernel, rfl, by decide +kernel, by decide +kernel⟩
abbrev s__law_table_text : Stmt := topS 39
theorem sc__law_table_text : FnScope ["_law_table", "_law_row", "_law_number"] ["_law_table"] (defScope s__law_table_text) := ⟨rfl, rfl, rfl, by decide +kernel, rfl, by decide +kernel, by decide +kernel⟩
abbrev s_law : Stmt := topS 40
theorem sc_law : FnScope ["_law_script", "_law_k", "_law_box_here", "_law_layout_here", "_law_text_here", "_law_table", "_law_rows_here", "_law_number"] ["_law_script"] (defScope s_law) := ⟨rfl, rfl, rfl, by decide +kernel, rfl, by decide +kernel, by decide +kernel⟩
theorem k_is_whole {P : Program} {w : World} {K : PySem.W.Frag} {mg : Str → Option Value} {base : Heap} {fa : Addr} {fd : FuncData} (F : Fun K "is_whole" "is_whole" s_is_whole fa fd) (hb : Binds K fd ["thing"] []) (hm : mg "is_whole" = some (.ref fa)) (z_bool : mg "bool" = none) (z_int : mg "int" = none) (z_isinstance : mg "isinstance" = none) : CalOk P w K mg base 1 "is_whole" (spP K mg 1 .fz m_is_whole) :=
  cal_fn (N := ["thing"]) F sc_is_whole hb hm rfl fun cdv A outer s H E hr ts hl => match ts, hl with
    | [p0], _ => by
      have hu : (A.deeper (envOfC "is_whole" (defScope s_is_whole) s.heap.objs.size fa cdv)).units + 66 < cLine := by
        have := hr.un
        omega
      rw [m_is_whole]
      exact (show BS _ E false .fz [] [some p0] _ _ _ _ from (bs_ret (g := fun (v7 : D) => v7) (bx := fun (v7 : D) => PyData.none) (vp_p (ρe := [some p0]) (xq (ep_and (ep_isi (n := "int") z_isinstance z_int (ep_var 0)) (ep_one (ep_not (ep_isi (n := "bool") z_isinstance z_bool (ep_var 0))))))) (hb := (fun _ z => nomatch z))))
theorem k_is_upto {P : Program} {w : World} {K : PySem.W.Frag} {mg : Str → Option Value} {base : Heap} {fa : Addr} {fd : FuncData} (F : Fun K "is_upto" "is_upto" s_is_upto fa fd) (hb : Binds K fd ["thing", "many"] []) (hm : mg "is_upto" = some (.ref fa))  (c_is_whole : CalOk P w K mg base 1 "is_whole" (spP K mg 1 .fz m_is_whole)) : CalOk P w K mg base 2 "is_upto" (spP K mg 2 .fz m_is_upto) :=
  cal_fn (N := ["thing", "many"]) F sc_is_upto hb hm rfl fun cdv A outer s H E hr ts hl => match ts, hl with
    | [p0, p1], _ => by
      have hu : (A.deeper (envOfC "is_upto" (defScope s_is_upto) s.heap.objs.size fa cdv)).units + 66 < cLine := by
        have := hr.un
        omega
      rw [m_is_upto]
      exact (show BS _ E false .fz [] [some p0, some p1] _ _ _ _ from (bs_ret (g := fun (v10 : D) => v10) (bx := fun (v10 : D) => PyData.none) (vp_p (ρe := [some p0, some p1]) (xq (ep_and (xp_call c_is_whole hr (by omega) pass_cx (ea_cons (ep_var 0) ea_nil)) (ep_one (ep_chain od_le (od_lt hu) ep_int (ep_var 0) (ep_var 1)))))) (hb := (fun _ z => nomatch z))))
theorem k_is_rising {P : Program} {w : World} {K : PySem.W.Frag} {mg : Str → Option Value} {base : Heap} {fa : Addr} {fd : FuncData} (F : Fun K "is_rising" "is_rising" s_is_rising fa fd) (hb : Binds K fd ["things"] []) (hm : mg "is_rising" = some (.ref fa)) (z_all : mg "all" = none) (z_zip : mg "zip" = none) : CalOk P w K mg base 1 "is_rising" (spP K mg 1 .fz m_is_rising) :=
  cal_fn (N := ["things", "one", "other"]) F sc_is_rising hb hm rfl fun cdv A outer s H E hr ts hl => match ts, hl with
    | [p0], _ => by
      have hu : (A.deeper (envOfC "is_rising" (defScope s_is_rising) s.heap.objs.size fa cdv)).units + 66 < cLine := by
        have := hr.un
        omega
      rw [m_is_rising]
      exact (show BS _ E false .fz [] [some p0, none, none] _ _ _ _ from (bs_ret (g := fun (v19 : D) => v19) (bx := fun (v19 : D) => PyData.none) (vp_p (ρe := [some p0, none, none]) (xq (ep_callB (cd_all rfl) z_all (ea_cons (xp_of_xf (xf_lc (lcx_lc (own := [("one", 1), ("other", 2)]) (me := λa12=>((a12.1)<&>λx13=>(a12.2)<&>λx14=>pyLt x13 x14)) sc_is_rising.nd (xi_zip z_zip (ea_cons (xp_slice (ep_var 0) xo_none (xo_some (ep_un ud_neg ep_int))) (ea_cons (xp_slice (ep_var 0) (xo_some ep_int) xo_none) ea_nil))) (fun s H C cl fp => xg_pair 1 2 sc_is_rising.nd) (fun s H C cl fp a12 => xq (ep_cmp (od_lt hu) (ep_var 1) (ep_var 2))) (blkOk_by (N := ["things", "one", "other"]) (sc := defScope s_is_rising) (by decide +kernel))))) ea_nil)))) (hb := (fun _ z => nomatch z))))
theorem k_is_head {P : Program} {w : World} {K : PySem.W.Frag} {mg : Str → Option Value} {base : Heap} {fa : Addr} {fd : FuncData} (F : Fun K "is_head" "is_head" s_is_head fa fd) (hb : Binds K fd ["thing", "many"] []) (hm : mg "is_head" = some (.ref fa)) (z_all : mg "all" = none) (z_isinstance : mg "isinstance" = none) (z_tuple : mg "tuple" = none) (c_is_rising : CalOk P w K mg base 1 "is_rising" (spP K mg 1 .fz m_is_rising)) (c_is_upto : CalOk P w K mg base 2 "is_upto" (spP K mg 2 .fz m_is_upto)) : CalOk P w K mg base 3 "is_head" (spP K mg 2 .fz m_is_head) :=
  cal_fn (N := ["thing", "many", "one"]) F sc_is_head hb hm rfl fun cdv A outer s H E hr ts hl => match ts, hl with
    | [p0, p1], _ => by
      have hu : (A.deeper (envOfC "is_head" (defScope s_is_head) s.heap.objs.size fa cdv)).units + 66 < cLine := by
        have := hr.un
        omega
      rw [m_is_head]
      exact (show BS _ E false .fz [] [some p0, some p1, none] _ _ _ _ from (bs_if (vb_p (ρe := [some p0, some p1, none]) (xqB (eb_w (ew_or (eb_not (eb_val (ep_isi (n := "tuple") z_isinstance z_tuple (ep_var 0)))) (ew_or (eb_cmp (od_eq hu) (ep_var 0) (ep_tup ea_nil)) (ew_or1 (eb_not (eb_val (ep_callB (cd_all rfl) z_all (ea_cons (xp_of_xf (xf_lc (lcx_lc (own := [("one", 2)]) (me := λa7=>(a7<&>λx8=>p1<&>λx9=>m_is_upto [x8, x9])) sc_is_head.nd (xi_val (ep_var 0)) (fun s H C cl fp => xg_name 2 sc_is_head.nd) (fun s H C cl fp a7 => xq (xp_call c_is_upto hr (by omega) passN (ea_cons (ep_var 2) (ea_cons (ep_var 1) ea_nil)))) (blkOk_by (N := ["thing", "many", "one"]) (sc := defScope s_is_head) (by decide +kernel))))) ea_nil))))))))) (.inr rfl)) (λb17=>(show BS _ _ _ _ [] [some p0, some p1, none] _ _ _ _ from by exact (bs_ret (g := fun (v18 : D) => v18) (bx := fun (v18 : D) => PyData.none) (vp_p (ρe := [some p0, some p1, none]) (xq ep_bool)) (hb := (fun _ z => nomatch z))))) (λb17=>(show BS _ _ _ _ [] [some p0, some p1, none] _ _ _ _ from by exact (bs_ret (g := fun (v20 : D) => v20) (bx := fun (v20 : D) => PyData.none) (vp_p (ρe := [some p0, some p1, none]) (xq (xp_call c_is_rising hr (by omega) pass_cx (ea_cons (ep_var 0) ea_nil)))) (hb := (fun _ z => nomatch z))))) (by intro _ _ _ _ h; exact nomatch h)))
theorem k_is_layout {P : Program} {w : World} {K : PySem.W.Frag} {mg : Str → Option Value} {base : Heap} {fa : Addr} {fd : FuncData} (F : Fun K "is_layout" "is_layout" s_is_layout fa fd) (hb : Binds K fd ["thing"] []) (hm : mg "is_layout" = some (.ref fa)) (z_all : mg "all" = none) (z_isinstance : mg "isinstance" = none) (z_len : mg "len" = none) (z_tuple : mg "tuple" = none) {tk_MOST_COLUMNS : Tok} (g_MOST_COLUMNS : mg "MOST_COLUMNS" = some (.int 7 tk_MOST_COLUMNS)) {tk_MOST_HEADS : Tok} (g_MOST_HEADS : mg "MOST_HEADS" = some (.int 6 tk_MOST_HEADS)) (c_is_upto : CalOk P w K mg base 2 "is_upto" (spP K mg 2 .fz m_is_upto)) (c_is_head : CalOk P w K mg base 3 "is_head" (spP K mg 2 .fz m_is_head)) : CalOk P w K mg base 4 "is_layout" (spP K mg 1 .fz m_is_layout) :=
  cal_fn (N := ["thing", "head"]) F sc_is_layout hb hm rfl fun cdv A outer s H E hr ts hl => match ts, hl with
    | [p0], _ => by
      have hu : (A.deeper (envOfC "is_layout" (defScope s_is_layout) s.heap.objs.size fa cdv)).units + 66 < cLine := by
        have := hr.un
        omega
      rw [m_is_layout]
      exact (show BS _ E false .fz [] [some p0, none] _ _ _ _ from (bs_if (vb_p (ρe := [some p0, none]) (xqB (eb_w (ew_or (eb_not (eb_val (ep_isi (n := "tuple") z_isinstance z_tuple (ep_var 0)))) (ew_or (eb_cmp (od_ne hu) (ep_callB cd_len z_len (ea_cons (ep_var 0) ea_nil)) ep_int) (ew_or (eb_not (eb_val (xp_call c_is_upto hr (by omega) pass_cx (ea_cons (ep_ix id_ix (ep_var 0) ep_int) (ea_cons (ep_bin od_add (ep_gint g_MOST_COLUMNS) ep_int) ea_nil))))) (ew_or1 (eb_cmp (od_eq hu) (ep_ix id_ix (ep_var 0) ep_int) ep_int))))))) (.inr rfl)) (λb22=>(show BS _ _ _ _ [] [some p0, none] _ _ _ _ from by exact (bs_ret (g := fun (v23 : D) => v23) (bx := fun (v23 : D) => PyData.none) (vp_p (ρe := [some p0, none]) (xq ep_bool)) (hb := (fun _ z => nomatch z))))) (λb22=>(show BS _ _ _ _ [] [some p0, none] _ _ _ _ from by exact (bs_if (vb_p (ρe := [some p0, none]) (xqB (eb_w (ew_or (eb_not (eb_val (ep_isi (n := "tuple") z_isinstance z_tuple (ep_ix id_ix (ep_var 0) ep_int)))) (ew_or1 (eb_not (eb_chain od_le od_le ep_int (ep_callB cd_len z_len (ea_cons (ep_ix id_ix (ep_var 0) ep_int) ea_nil)) (ep_gint g_MOST_HEADS))))))) (.inr rfl)) (λb39=>(show BS _ _ _ _ [] [some p0, none] _ _ _ _ from by exact (bs_ret (g := fun (v40 : D) => v40) (bx := fun (v40 : D) => PyData.none) (vp_p (ρe := [some p0, none]) (xq ep_bool)) (hb := (fun _ z => nomatch z))))) (λb39=>(show BS _ _ _ _ [] [some p0, none] _ _ _ _ from by exact (bs_ret (g := fun (v53 : D) => v53) (bx := fun (v53 : D) => PyData.none) (vp_p (ρe := [some p0, none]) (xq (ep_callB (cd_all rfl) z_all (ea_cons (xp_of_xf (xf_lc (lcx_lc (own := [("head", 1)]) (me := λa44=>(a44<&>λx45=>(p0<&>λx46=>(PyData.int 0)<&>λx47=>pyIx x46 x47)>>=λx48=>m_is_head [x45, x48])) sc_is_layout.nd (xi_val (ep_ix id_ix (ep_var 0) ep_int)) (fun s H C cl fp => xg_name 1 sc_is_layout.nd) (fun s H C cl fp a44 => xq (xp_call c_is_head hr (by omega) passN (ea_cons (ep_var 1) (ea_cons (ep_ix id_ix (ep_var 0) ep_int) ea_nil)))) (blkOk_by (N := ["thing", "head"]) (sc := defScope s_is_layout) (by decide +kernel))))) ea_nil)))) (hb := (fun _ z => nomatch z))))) (by intro _ _ _ _ h; exact nomatch h)))) (by intro _ _ _ _ h; exact nomatch h)))
theorem k_is_row {P : Program} {w : World} {K : PySem.W.Frag} {mg : Str → Option Value} {base : Heap} {fa : Addr} {fd : FuncData} (F : Fun K "is_row" "is_row" s_is_row fa fd) (hb : Binds K fd ["thing", "many"] []) (hm : mg "is_row" = some (.ref fa)) (z_all : mg "all" = none) (z_isinstance : mg "isinstance" = none) (z_len : mg "len" = none) (z_tuple : mg "tuple" = none) {tk_NUMBERS : Tok} (g_NUMBERS : mg "NUMBERS" = some (.int 10 tk_NUMBERS)) (c_is_upto : CalOk P w K mg base 2 "is_upto" (spP K mg 2 .fz m_is_upto)) : CalOk P w K mg base 3 "is_row" (spP K mg 2 .fz m_is_row) :=
  cal_fn (N := ["thing", "many", "one"]) F sc_is_row hb hm rfl fun cdv A outer s H E hr ts hl => match ts, hl with
    | [p0, p1], _ => by
      have hu : (A.deeper (envOfC "is_row" (defScope s_is_row) s.heap.objs.size fa cdv)).units + 66 < cLine := by
        have := hr.un
        omega
      rw [m_is_row]
      exact (show BS _ E false .fz [] [some p0, some p1, none] _ _ _ _ from (bs_ret (g := fun (v17 : D) => v17) (bx := fun (v17 : D) => PyData.none) (vp_p (ρe := [some p0, some p1, none]) (xq (ep_and (ep_isi (n := "tuple") z_isinstance z_tuple (ep_var 0)) (ep_and (ep_cmp (od_eq hu) (ep_callB cd_len z_len (ea_cons (ep_var 0) ea_nil)) (ep_var 1)) (ep_one (ep_callB (cd_all rfl) z_all (ea_cons (xp_of_xf (xf_lc (lcx_lc (own := [("one", 2)]) (me := λa6=>(a6<&>λx7=>(PyData.int 10)<&>λx8=>m_is_upto [x7, x8])) sc_is_row.nd (xi_val (ep_var 0)) (fun s H C cl fp => xg_name 2 sc_is_row.nd) (fun s H C cl fp a6 => xq (xp_call c_is_upto hr (by omega) passN (ea_cons (ep_var 2) (ea_cons (ep_gint g_NUMBERS) ea_nil)))) (blkOk_by (N := ["thing", "many", "one"]) (sc := defScope s_is_row) (by decide +kernel))))) ea_nil))))))) (hb := (fun _ z => nomatch z))))
theorem k_is_table {P : Program} {w : World} {K : PySem.W.Frag} {mg : Str → Option Value} {base : Heap} {fa : Addr} {fd : FuncData} (F : Fun K "is_table" "is_table" s_is_table fa fd) (hb : Binds K fd ["thing", "many"] []) (hm : mg "is_table" = some (.ref fa)) (z_all : mg "all" = none) (z_isinstance : mg "isinstance" = none) (z_len : mg "len" = none) (z_tuple : mg "tuple" = none) (z_zip : mg "zip" = none) {tk_MOST_ROWS : Tok} (g_MOST_ROWS : mg "MOST_ROWS" = some (.int 625 tk_MOST_ROWS)) (c_is_row : CalOk P w K mg base 3 "is_row" (spP K mg 2 .fz m_is_row)) : CalOk P w K mg base 4 "is_table" (spP K mg 2 .fz m_is_table) :=
  cal_fn (N := ["thing", "many", "row", "one", "other"]) F sc_is_table hb hm rfl fun cdv A outer s H E hr ts hl => match ts, hl with
    | [p0, p1], _ => by
      have hu : (A.deeper (envOfC "is_table" (defScope s_is_table) s.heap.objs.size fa cdv)).units + 66 < cLine := by
        have := hr.un
        omega
      rw [m_is_table]
      exact (show BS _ E false .fz [] [some p0, some p1, none, none, none] _ _ _ _ from (bs_if (vb_p (ρe := [some p0, some p1, none, none, none]) (xqB (eb_w (ew_or (eb_not (eb_val (ep_isi (n := "tuple") z_isinstance z_tuple (ep_var 0)))) (ew_or (eb_cmp od_gt (ep_callB cd_len z_len (ea_cons (ep_var 0) ea_nil)) (ep_gint g_MOST_ROWS)) (ew_or1 (eb_not (eb_val (ep_callB (cd_all rfl) z_all (ea_cons (xp_of_xf (xf_lc (lcx_lc (own := [("row", 2)]) (me := λa8=>(a8<&>λx9=>p1<&>λx10=>m_is_row [x9, x10])) sc_is_table.nd (xi_val (ep_var 0)) (fun s H C cl fp => xg_name 2 sc_is_table.nd) (fun s H C cl fp a8 => xq (xp_call c_is_row hr (by omega) passN (ea_cons (ep_var 2) (ea_cons (ep_var 1) ea_nil)))) (blkOk_by (N := ["thing", "many", "row", "one", "other"]) (sc := defScope s_is_table) (by decide +kernel))))) ea_nil))))))))) (.inr rfl)) (λb18=>(show BS _ _ _ _ [] [some p0, some p1, none, none, none] _ _ _ _ from by exact (bs_ret (g := fun (v19 : D) => v19) (bx := fun (v19 : D) => PyData.none) (vp_p (ρe := [some p0, some p1, none, none, none]) (xq ep_bool)) (hb := (fun _ z => nomatch z))))) (λb18=>(show BS _ _ _ _ [] [some p0, some p1, none, none, none] _ _ _ _ from by exact (bs_ret (g := fun (v33 : D) => v33) (bx := fun (v33 : D) => PyData.none) (vp_p (ρe := [some p0, some p1, none, none, none]) (xq (ep_callB (cd_all rfl) z_all (ea_cons (xp_of_xf (xf_lc (lcx_lc (own := [("one", 3), ("other", 4)]) (me := λa26=>((a26.1)<&>λx27=>(a26.2)<&>λx28=>pyLt x27 x28)) sc_is_table.nd (xi_zip z_zip (ea_cons (ep_var 0) (ea_cons (xp_slice (ep_var 0) (xo_some ep_int) xo_none) ea_nil))) (fun s H C cl fp => xg_pair 3 4 sc_is_table.nd) (fun s H C cl fp a26 => xq (ep_cmp (od_lt hu) (ep_var 3) (ep_var 4))) (blkOk_by (N := ["thing", "many", "row", "one", "other"]) (sc := defScope s_is_table) (by decide +kernel))))) ea_nil)))) (hb := (fun _ z => nomatch z))))) (by intro _ _ _ _ h; exact nomatch h)))
theorem k_layout_text {P : Program} {w : World} {K : PySem.W.Frag} {mg : Str → Option Value} {base : Heap} {fa : Addr} {fd : FuncData} (F : Fun K "layout_text" "layout_text" s_layout_text fa fd) (hb : Binds K fd ["layout"] []) (hm : mg "layout_text" = some (.ref fa)) (z_str : mg "str" = none) : CalOk P w K mg base 1 "layout_text" (spP K mg 1 .fz m_layout_text) :=
  cal_fn (N := ["layout", "heads", "head", "column"]) F sc_layout_text hb hm rfl fun cdv A outer s H E hr ts hl => match ts, hl with
    | [p0], _ => by
      have hu : (A.deeper (envOfC "layout_text" (defScope s_layout_text) s.heap.objs.size fa cdv)).units + 66 < cLine := by
        have := hr.un
        omega
      rw [m_layout_text]
      exact (show BS _ E false .fz [] [some p0, none, none, none] _ _ _ _ from (bs_seq (emb := λv16=>[some p0, some v16, none, none]) (own1 := []) (ss_setLc 1 (lv_p (ρe := [some p0, none, none, none]) (lq (lcx_lc (own := [("head", 2)]) (me := λa4=>((PyData.str ",")<&>λx11=>(strOk x11)>>=λ_=>((a4<&>λx5=>items x5)>>=λis8=>(mapR (λd10=>((λd=>R.ok d) d10)>>=λa6=>(a6<&>λx7=>pyStr [x7])) is8)>>=λrs9=>R.ok (PyData.list rs9))>>=λx12=>pyJoin x11 x12)) sc_layout_text.nd (xi_val (ep_ix id_ix (ep_var 0) ep_int)) (fun s H C cl fp => xg_name 2 sc_layout_text.nd) (fun s H C cl fp a4 => xq (xp_join ep_str (xp_of_xf (xf_lc (lcx_lc (own := [("column", 3)]) (me := λa6=>(a6<&>λx7=>pyStr [x7])) sc_layout_text.nd (xi_val (ep_var 2)) (fun s H C cl fp => xg_name 3 sc_layout_text.nd) (fun s H C cl fp a6 => xq (ep_callT cd_str z_str (ea_cons (ep_var 3) ea_nil))) (blkOk_by (by rfl))))))) (blkOk_by (N := ["layout", "heads", "head", "column"]) (sc := defScope s_layout_text) (by decide +kernel)))))) (λv16=>by exact (bs_ret (g := fun (v26 : D) => v26) (bx := fun (v26 : D) => PyData.none) (vp_p (ρe := [some p0, some v16, none, none]) (xq (xp_join ep_str (ep_bin od_add (ep_lst (ea_cons (ep_callT cd_str z_str (ea_cons (ep_ix id_ix (ep_var 0) ep_int) ea_nil)) (ea_cons ep_str ea_nil))) (ep_var 1))))) (hb := (fun _ z => nomatch z))))))
theorem k_row_text {P : Program} {w : World} {K : PySem.W.Frag} {mg : Str → Option Value} {base : Heap} {fa : Addr} {fd : FuncData} (F : Fun K "row_text" "row_text" s_row_text fa fd) (hb : Binds K fd ["row"] []) (hm : mg "row_text" = some (.ref fa)) (z_str : mg "str" = none) : CalOk P w K mg base 1 "row_text" (spP K mg 1 .fz m_row_text) :=
  cal_fn (N := ["row", "number"]) F sc_row_text hb hm rfl fun cdv A outer s H E hr ts hl => match ts, hl with
    | [p0], _ => by
      have hu : (A.deeper (envOfC "row_text" (defScope s_row_text) s.heap.objs.size fa cdv)).units + 66 < cLine := by
        have := hr.un
        omega
      rw [m_row_text]
      exact (show BS _ E false .fz [] [some p0, none] _ _ _ _ from (bs_ret (g := fun (v9 : D) => v9) (bx := fun (v9 : D) => PyData.none) (vp_p (ρe := [some p0, none]) (xq (xp_join ep_str (xp_of_xf (xf_lc (lcx_lc (own := [("number", 1)]) (me := λa2=>(a2<&>λx3=>pyStr [x3])) sc_row_text.nd (xi_val (ep_var 0)) (fun s H C cl fp => xg_name 1 sc_row_text.nd) (fun s H C cl fp a2 => xq (ep_callT cd_str z_str (ea_cons (ep_var 1) ea_nil))) (blkOk_by (N := ["row", "number"]) (sc := defScope s_row_text) (by decide +kernel)))))))) (hb := (fun _ z => nomatch z))))
theorem k_table_text {P : Program} {w : World} {K : PySem.W.Frag} {mg : Str → Option Value} {base : Heap} {fa : Addr} {fd : FuncData} (F : Fun K "table_text" "table_text" s_table_text fa fd) (hb : Binds K fd ["table"] []) (hm : mg "table_text" = some (.ref fa))  (c_row_text : CalOk P w K mg base 1 "row_text" (spP K mg 1 .fz m_row_text)) : CalOk P w K mg base 2 "table_text" (spP K mg 1 .fz m_table_text) :=
  cal_fn (N := ["table", "row"]) F sc_table_text hb hm rfl fun cdv A outer s H E hr ts hl => match ts, hl with
    | [p0], _ => by
      have hu : (A.deeper (envOfC "table_text" (defScope s_table_text) s.heap.objs.size fa cdv)).units + 66 < cLine := by
        have := hr.un
        omega
      rw [m_table_text]
      exact (show BS _ E false .fz [] [some p0, none] _ _ _ _ from (bs_ret (g := fun (v11 : D) => v11) (bx := fun (v11 : D) => PyData.none) (vp_p (ρe := [some p0, none]) (xq (ep_or (xp_join ep_str (xp_of_xf (xf_lc (lcx_lc (own := [("row", 1)]) (me := λa2=>(a2<&>λx3=>m_row_text [x3])) sc_table_text.nd (xi_val (ep_var 0)) (fun s H C cl fp => xg_name 1 sc_table_text.nd) (fun s H C cl fp a2 => xq (xp_call c_row_text hr (by omega) passN (ea_cons (ep_var 1) ea_nil))) (blkOk_by (N := ["table", "row"]) (sc := defScope s_table_text) (by decide +kernel)))))) (ep_one ep_str)))) (hb := (fun _ z => nomatch z))))
theorem k_figure_in {P : Program} {w : World} {K : PySem.W.Frag} {mg : Str → Option Value} {base : Heap} {fa : Addr} {fd : FuncData} (F : Fun K "figure_in" "figure_in" s_figure_in fa fd) (hb : Binds K fd ["word"] []) (hm : mg "figure_in" = some (.ref fa)) (z_int : mg "int" = none) (z_len : mg "len" = none) {tk_FIGURES : Tok} (g_FIGURES : mg "FIGURES" = some (.str "0123456789" tk_FIGURES)) : CalOk P w K mg base 1 "figure_in" (spP K mg 1 .fz m_figure_in) :=
  cal_fn (N := ["word"]) F sc_figure_in hb hm rfl fun cdv A outer s H E hr ts hl => match ts, hl with
    | [p0], _ => by
      have hu : (A.deeper (envOfC "figure_in" (defScope s_figure_in) s.heap.objs.size fa cdv)).units + 66 < cLine := by
        have := hr.un
        omega
      rw [m_figure_in]
      exact (show BS _ E false .fz [] [some p0] _ _ _ _ from (bs_if (vb_p (ρe := [some p0]) (xqB (eb_w (ew_or (eb_cmp (od_ne hu) (ep_callB cd_len z_len (ea_cons (ep_var 0) ea_nil)) ep_int) (ew_or1 (eb_cmp (od_notin hu) (ep_var 0) (ep_gstr g_FIGURES)))))) (.inr rfl)) (λb9=>(show BS _ _ _ _ [] [some p0] _ _ _ _ from by exact (bs_ret (g := fun (v10 : D) => v10) (bx := fun (v10 : D) => PyData.none) (vp_p (ρe := [some p0]) (xq ep_none)) (hb := (fun _ z => nomatch z))))) (λb9=>(show BS _ _ _ _ [] [some p0] _ _ _ _ from by exact (bs_ret (g := fun (v12 : D) => v12) (bx := fun (v12 : D) => PyData.none) (vp_p (ρe := [some p0]) (xq (ep_callT cd_intS z_int (ea_cons (ep_var 0) ea_nil)))) (hb := (fun _ z => nomatch z))))) (by intro _ _ _ _ h; exact nomatch h)))
theorem k_layout_read {P : Program} {w : World} {K : PySem.W.Frag} {mg : Str → Option Value} {base : Heap} {fa : Addr} {fd : FuncData} (F : Fun K "layout_read" "layout_read" s_layout_read fa fd) (hb : Binds K fd ["text"] []) (hm : mg "layout_read" = some (.ref fa)) (z_isinstance : mg "isinstance" = none) (z_len : mg "len" = none) (z_str : mg "str" = none) (z_tuple : mg "tuple" = none) (e_NoText : ClsX K mg "NoText") (c_figure_in : CalOk P w K mg base 1 "figure_in" (spP K mg 1 .fz m_figure_in)) (c_is_layout : CalOk P w K mg base 4 "is_layout" (spP K mg 1 .fz m_is_layout)) : CalOk P w K mg base 5 "layout_read" (spP K mg 1 .fz m_layout_read) :=
  cal_fn (N := ["text", "words", "heads", "word", "part", "found"]) F sc_layout_read hb hm rfl fun cdv A outer s H E hr ts hl => match ts, hl with
    | [p0], _ => by
      have hu : (A.deeper (envOfC "layout_read" (defScope s_layout_read) s.heap.objs.size fa cdv)).units + 66 < cLine := by
        have := hr.un
        omega
      rw [m_layout_read]
      exact (show BS _ E false .fz [] [some p0, none, none, none, none, none] _ _ _ _ from (bs_if (vb_p (ρe := [some p0, none, none, none, none, none]) (xqB (eb_not (eb_val (ep_isi (n := "str") z_isinstance z_str (ep_var 0))))) (.inr rfl)) (λb3=>(show BS _ _ _ _ [] [some p0, none, none, none, none, none] _ _ _ _ from by exact (bs_raise_cx e_NoText))) (λb3=>(show BS _ _ _ _ [] [some p0, none, none, none, none, none] _ _ _ _ from by exact (bs_seq (emb := λv6=>[some p0, some v6, none, none, none, none]) (own1 := []) (ss_set 1 sc_layout_read.nd (vp_p (ρe := [some p0, none, none, none, none, none]) (xq (xp_of_xf (xf_split (ep_var 0) ep_str))))) (λv6=>by exact (bs_if (vb_p (ρe := [some p0, some v6, none, none, none, none]) (xqB (eb_w (ew_or (eb_cmp (od_lt hu) (ep_callB cd_len z_len (ea_cons (ep_var 1) ea_nil)) ep_int) (ew_or1 (eb_cmp (od_ne hu) (ep_ix id_ix (ep_var 1) ep_int) ep_str))))) (.inr rfl)) (λb17=>(show BS _ _ _ _ [] [some p0, some v6, none, none, none, none] _ _ _ _ from by exact (bs_raise_cx e_NoText))) (λb17=>(show BS _ _ _ _ [] [some p0, some v6, none, none, none, none] _ _ _ _ from by exact (bs_seq (emb := λv37=>[some p0, some v6, some v37, none, none, none]) (own1 := []) (ss_set 2 sc_layout_read.nd (vp_p (ρe := [some p0, some v6, none, none, none, none]) (xq (ep_callT cd_tuple z_tuple (ea_cons (xp_of_xf (xf_lc (lcx_lc (own := [("word", 3)]) (me := λa23=>((((a23<&>λx24=>(strOk x24)>>=λ_=>(PyData.str ",")<&>λx25=>pySplit x24 x25)>>=λx26=>items x26)>>=λis29=>(mapR (λd31=>((λd=>R.ok d) d31)>>=λa27=>(a27<&>λx28=>m_figure_in [x28])) is29)>>=λrs30=>R.ok (PyData.list rs30))>>=λx32=>pyTuple [x32])) sc_layout_read.nd (xi_val (xp_slice (ep_var 1) (xo_some ep_int) xo_none)) (fun s H C cl fp => xg_name 3 sc_layout_read.nd) (fun s H C cl fp a23 => xq (ep_callT cd_tuple z_tuple (ea_cons (xp_of_xf (xf_lc (lcx_lc (own := [("part", 4)]) (me := λa27=>(a27<&>λx28=>m_figure_in [x28])) sc_layout_read.nd (xi_val (xp_of_xf (xf_split (ep_var 3) ep_str))) (fun s H C cl fp => xg_name 4 sc_layout_read.nd) (fun s H C cl fp a27 => xq (xp_call c_figure_in hr (by omega) passN (ea_cons (ep_var 4) ea_nil))) (blkOk_by (by rfl))))) ea_nil))) (blkOk_by (N := ["text", "words", "heads", "word", "part", "found"]) (sc := defScope s_layout_read) (by decide +kernel))))) ea_nil))))) (λv37=>by exact (bs_seq (emb := λv43=>[some p0, some v6, some v37, none, none, some v43]) (own1 := []) (ss_set 5 sc_layout_read.nd (vp_p (ρe := [some p0, some v6, some v37, none, none, none]) (xq (ep_tup (ea_cons (xp_call c_figure_in hr (by omega) pass_cx (ea_cons (ep_ix id_ix (ep_var 1) ep_int) ea_nil)) (ea_cons (ep_var 2) ea_nil)))))) (λv43=>by exact (bs_if (vb_p (ρe := [some p0, some v6, some v37, none, none, some v43]) (xqB (eb_not (eb_val (xp_call c_is_layout hr (by omega) pass_cx (ea_cons (ep_var 5) ea_nil))))) (.inr rfl)) (λb46=>(show BS _ _ _ _ [] [some p0, some v6, some v37, none, none, some v43] _ _ _ _ from by exact (bs_raise_cx e_NoText))) (λb46=>(show BS _ _ _ _ [] [some p0, some v6, some v37, none, none, some v43] _ _ _ _ from by exact (bs_ret (g := fun (v47 : D) => v47) (bx := fun (v47 : D) => PyData.none) (vp_p (ρe := [some p0, some v6, some v37, none, none, some v43]) (xq (ep_var 5))) (hb := (fun _ z => nomatch z))))) (by intro _ _ _ _ h; exact nomatch h)))))))) (by intro _ _ _ _ h; exact nomatch h)))))) (by intro _ _ _ _ h; exact nomatch h)))
theorem k_row_in {P : Program} {w : World} {K : PySem.W.Frag} {mg : Str → Option Value} {base : Heap} {fa : Addr} {fd : FuncData} (F : Fun K "row_in" "row_in" s_row_in fa fd) (hb : Binds K fd ["word"] []) (hm : mg "row_in" = some (.ref fa)) (z_all : mg "all" = none) (z_int : mg "int" = none) (z_len : mg "len" = none) (z_tuple : mg "tuple" = none) {tk_FIGURES : Tok} (g_FIGURES : mg "FIGURES" = some (.str "0123456789" tk_FIGURES)) {tk_MOST_WIDE : Tok} (g_MOST_WIDE : mg "MOST_WIDE" = some (.int 7 tk_MOST_WIDE)) : CalOk P w K mg base 1 "row_in" (spP K mg 1 .fz m_row_in) :=
  cal_fn (N := ["word", "sign"]) F sc_row_in hb hm rfl fun cdv A outer s H E hr ts hl => match ts, hl with
    | [p0], _ => by
      have hu : (A.deeper (envOfC "row_in" (defScope s_row_in) s.heap.objs.size fa cdv)).units + 66 < cLine := by
        have := hr.un
        omega
      rw [m_row_in]
      exact (show BS _ E false .fz [] [some p0, none] _ _ _ _ from (bs_if (vb_p (ρe := [some p0, none]) (xqB (eb_w (ew_or (eb_not (eb_chain od_le od_le ep_int (ep_callB cd_len z_len (ea_cons (ep_var 0) ea_nil)) (ep_gint g_MOST_WIDE))) (ew_or1 (eb_not (eb_val (ep_callB (cd_all rfl) z_all (ea_cons (xp_of_xf (xf_lc (lcx_lc (own := [("sign", 1)]) (me := λa10=>(a10<&>λx11=>(PyData.str "0123456789")<&>λx12=>pyIn x11 x12)) sc_row_in.nd (xi_str (ep_var 0)) (fun s H C cl fp => xg_name 1 sc_row_in.nd) (fun s H C cl fp a10 => xq (ep_cmp (od_in hu) (ep_var 1) (ep_gstr g_FIGURES))) (blkOk_by (N := ["word", "sign"]) (sc := defScope s_row_in) (by decide +kernel))))) ea_nil)))))))) (.inr rfl)) (λb19=>(show BS _ _ _ _ [] [some p0, none] _ _ _ _ from by exact (bs_ret (g := fun (v20 : D) => v20) (bx := fun (v20 : D) => PyData.none) (vp_p (ρe := [some p0, none]) (xq ep_none)) (hb := (fun _ z => nomatch z))))) (λb19=>(show BS _ _ _ _ [] [some p0, none] _ _ _ _ from by exact (bs_ret (g := fun (v28 : D) => v28) (bx := fun (v28 : D) => PyData.none) (vp_p (ρe := [some p0, none]) (xq (ep_callT cd_tuple z_tuple (ea_cons (xp_of_xf (xf_lc (lcx_lc (own := [("sign", 1)]) (me := λa22=>(a22<&>λx23=>pyIntS [x23])) sc_row_in.nd (xi_str (ep_var 0)) (fun s H C cl fp => xg_name 1 sc_row_in.nd) (fun s H C cl fp a22 => xq (ep_callT cd_intS z_int (ea_cons (ep_var 1) ea_nil))) (blkOk_by (N := ["word", "sign"]) (sc := defScope s_row_in) (by decide +kernel))))) ea_nil)))) (hb := (fun _ z => nomatch z))))) (by intro _ _ _ _ h; exact nomatch h)))
theorem k_table_read {P : Program} {w : World} {K : PySem.W.Frag} {mg : Str → Option Value} {base : Heap} {fa : Addr} {fd : FuncData} (F : Fun K "table_read" "table_read" s_table_read fa fd) (hb : Binds K fd ["text"] []) (hm : mg "table_read" = some (.ref fa)) (z_isinstance : mg "isinstance" = none) (z_len : mg "len" = none) (z_str : mg "str" = none) (z_tuple : mg "tuple" = none) (e_NoText : ClsX K mg "NoText") (c_row_in : CalOk P w K mg base 1 "row_in" (spP K mg 1 .fz m_row_in)) (c_is_table : CalOk P w K mg base 4 "is_table" (spP K mg 2 .fz m_is_table)) : CalOk P w K mg base 5 "table_read" (spP K mg 1 .fz m_table_read) :=
  cal_fn (N := ["text", "rows", "word"]) F sc_table_read hb hm rfl fun cdv A outer s H E hr ts hl => match ts, hl with
    | [p0], _ => by
      have hu : (A.deeper (envOfC "table_read" (defScope s_table_read) s.heap.objs.size fa cdv)).units + 66 < cLine := by
        have := hr.un
        omega
      rw [m_table_read]
      exact (show BS _ E false .fz [] [some p0, none, none] _ _ _ _ from (bs_if (vb_p (ρe := [some p0, none, none]) (xqB (eb_not (eb_val (ep_isi (n := "str") z_isinstance z_str (ep_var 0))))) (.inr rfl)) (λb3=>(show BS _ _ _ _ [] [some p0, none, none] _ _ _ _ from by exact (bs_raise_cx e_NoText))) (λb3=>(show BS _ _ _ _ [] [some p0, none, none] _ _ _ _ from by exact (bs_if (vb_p (ρe := [some p0, none, none]) (xqB (eb_cmp (od_eq hu) (ep_var 0) ep_str)) (.inr rfl)) (λb7=>(show BS _ _ _ _ [] [some p0, none, none] _ _ _ _ from by exact (bs_ret (g := fun (v8 : D) => v8) (bx := fun (v8 : D) => PyData.none) (vp_p (ρe := [some p0, none, none]) (xq (ep_tup ea_nil))) (hb := (fun _ z => nomatch z))))) (λb7=>(show BS _ _ _ _ [] [some p0, none, none] _ _ _ _ from by exact (bs_seq (emb := λv17=>[some p0, some v17, none]) (own1 := []) (ss_setLc 1 (lv_p (ρe := [some p0, none, none]) (lq (lcx_lc (own := [("word", 2)]) (me := λa12=>(a12<&>λx13=>m_row_in [x13])) sc_table_read.nd (xi_val (xp_of_xf (xf_split (ep_var 0) ep_str))) (fun s H C cl fp => xg_name 2 sc_table_read.nd) (fun s H C cl fp a12 => xq (xp_call c_row_in hr (by omega) passN (ea_cons (ep_var 2) ea_nil))) (blkOk_by (N := ["text", "rows", "word"]) (sc := defScope s_table_read) (by decide +kernel)))))) (λv17=>by exact (bs_if (vb_p (ρe := [some p0, some v17, none]) (xqB (eb_w (ew_or (eb_cmp (od_in hu) ep_none (ep_var 1)) (ew_or1 (eb_not (eb_val (xp_call c_is_table hr (by omega) pass_cx (ea_cons (ep_callT cd_tuple z_tuple (ea_cons (ep_var 1) ea_nil)) (ea_cons (ep_callB cd_len z_len (ea_cons (ep_ix id_ix (ep_var 1) ep_int) ea_nil)) ea_nil))))))))) (.inr rfl)) (λb29=>(show BS _ _ _ _ [] [some p0, some v17, none] _ _ _ _ from by exact (bs_raise_cx e_NoText))) (λb29=>(show BS _ _ _ _ [] [some p0, some v17, none] _ _ _ _ from by exact (bs_ret (g := fun (v31 : D) => v31) (bx := fun (v31 : D) => PyData.none) (vp_p (ρe := [some p0, some v17, none]) (xq (ep_callT cd_tuple z_tuple (ea_cons (ep_var 1) ea_nil)))) (hb := (fun _ z => nomatch z))))) (by intro _ _ _ _ h; exact nomatch h)))))) (by intro _ _ _ _ h; exact nomatch h)))) (by intro _ _ _ _ h; exact nomatch h)))
theorem k__law_cell {P : Program} {w : World} {K : PySem.W.Frag} {mg : Str → Option Value} {base : Heap} {fa : Addr} {fd : FuncData} (F : Fun K "_law_cell" "_law_cell" s__law_cell fa fd) (hb : Binds K fd ["_law_script", "_law_k"] []) (hm : mg "_law_cell" = some (.ref fa)) (z_len : mg "len" = none) : CalOk P w K mg base 1 "_law_cell" (spP K mg 2 .fz m_law_cell) :=
  cal_fn (N := ["_law_script", "_law_k"]) F sc__law_cell hb hm rfl fun cdv A outer s H E hr ts hl => match ts, hl with
    | [p0, p1], _ => by
      have hu : (A.deeper (envOfC "_law_cell" (defScope s__law_cell) s.heap.objs.size fa cdv)).units + 66 < cLine := by
        have := hr.un
        omega
      rw [m_law_cell]
      exact (show BS _ E false .fz [] [some p0, some p1] _ _ _ _ from (bs_if (vb_p (ρe := [some p0, some p1]) (xqB (eb_cmp (od_lt hu) (ep_var 1) (ep_callB cd_len z_len (ea_cons (ep_var 0) ea_nil)))) (.inr rfl)) (λb5=>(show BS _ _ _ _ [] [some p0, some p1] _ _ _ _ from by exact (bs_ret (g := fun (v8 : D) => v8) (bx := fun (v8 : D) => PyData.none) (vp_p (ρe := [some p0, some p1]) (xq (ep_ix id_ix (ep_var 0) (ep_var 1)))) (hb := (fun _ z => nomatch z))))) (λb5=>(show BS _ _ _ _ [] [some p0, some p1] _ _ _ _ from by exact (bs_ret (g := fun (v13 : D) => v13) (bx := fun (v13 : D) => PyData.none) (vp_p (ρe := [some p0, some p1]) (xq (ep_bin od_add (ep_bin od_mul ep_int (ep_var 1)) ep_int))) (hb := (fun _ z => nomatch z))))) (by intro _ _ _ _ h; exact nomatch h)))
theorem k__law_mix {P : Program} {w : World} {K : PySem.W.Frag} {mg : Str → Option Value} {base : Heap} {fa : Addr} {fd : FuncData} (F : Fun K "_law_mix" "_law_mix" s__law_mix fa fd) (hb : Binds K fd ["_law_cell_here", "_law_k"] []) (hm : mg "_law_mix" = some (.ref fa))  : CalOk P w K mg base 1 "_law_mix" (spP K mg 2 .fz m_law_mix) :=
  cal_fn (N := ["_law_cell_here", "_law_k", "_law_number"]) F sc__law_mix hb hm rfl fun cdv A outer s H E hr ts hl => match ts, hl with
    | [p0, p1], _ => by
      have hu : (A.deeper (envOfC "_law_mix" (defScope s__law_mix) s.heap.objs.size fa cdv)).units + 66 < cLine := by
        have := hr.un
        omega
      rw [m_law_mix]
      exact (show BS _ E false .fz [] [some p0, some p1, none] _ _ _ _ from (bs_seq (emb := λv9=>[some p0, some p1, some v9]) (own1 := []) (ss_set 2 sc__law_mix.nd (vp_p (ρe := [some p0, some p1, none]) (xq (ep_bin od_add (ep_bin od_mul (ep_bin od_add (ep_var 0) ep_int) ep_int) (ep_bin od_mul ep_int (ep_var 1)))))) (λv9=>by exact (bs_seq (emb := λv16=>[some p0, some p1, some v16]) (own1 := []) (ss_set 2 sc__law_mix.nd (vp_p (ρe := [some p0, some p1, some v9]) (xq (ep_bin od_add (ep_bin od_mod (ep_bin od_mul (ep_var 2) (ep_var 2)) ep_int) (ep_var 1))))) (λv16=>by exact (bs_ret (g := fun (v23 : D) => v23) (bx := fun (v23 : D) => PyData.none) (vp_p (ρe := [some p0, some p1, some v16]) (xq (ep_bin od_mod (ep_bin od_mul (ep_var 2) (ep_bin od_add (ep_var 2) ep_int)) ep_int))) (hb := (fun _ z => nomatch z))))))))
theorem k__law_box {P : Program} {w : World} {K : PySem.W.Frag} {mg : Str → Option Value} {base : Heap} {fa : Addr} {fd : FuncData} (F : Fun K "_law_box" "_law_box" s__law_box fa fd) (hb : Binds K fd ["_law_script", "_law_k"] []) (hm : mg "_law_box" = some (.ref fa)) (z_range : mg "range" = none) (c__law_cell : CalOk P w K mg base 1 "_law_cell" (spP K mg 2 .fz m_law_cell)) (c__law_mix : CalOk P w K mg base 1 "_law_mix" (spP K mg 2 .fz m_law_mix)) : CalOk P w K mg base 2 "_law_box" (spP K mg 2 .nw m_law_box_2) :=
  cal_fn (N := ["_law_script", "_law_k", "_law_here", "_law_number", "_law_j"]) F sc__law_box hb hm rfl fun cdv A outer s H E hr ts hl => match ts, hl with
    | [p0, p1], _ => by
      have hu : (A.deeper (envOfC "_law_box" (defScope s__law_box) s.heap.objs.size fa cdv)).units + 66 < cLine := by
        have := hr.un
        omega
      rw [m_law_box_2]
      exact (show BS _ E false .nw [] [some p0, some p1, none, none, none] _ _ _ _ from (bs_seq (emb := λv3=>[some p0, some p1, some v3, none, none]) (own1 := []) (ss_set 2 sc__law_box.nd (vp_p (ρe := [some p0, some p1, none, none, none]) (xq (xp_call c__law_cell hr (by omega) pass_cx (ea_cons (ep_var 0) (ea_cons (ep_var 1) ea_nil)))))) (λv3=>by exact (bs_if (vb_p (ρe := [some p0, some p1, some v3, none, none]) (xqB (eb_cmp (od_eq hu) (ep_bin od_mod (ep_var 2) ep_int) ep_int)) (.inr rfl)) (λb9=>(show BS _ _ _ _ [] [some p0, some p1, some v3, none, none] _ _ _ _ from by exact (bs_retF (g := fun (v13 : D) => v13) (bx := fun (v13 : D) => PyData.none) (vf_p (ρe := [some p0, some p1, some v3, none, none]) (xqF (xf_lst (ea_cons (ep_bin od_div (ep_var 2) ep_int) ea_nil)))) (hb := (fun _ z => nomatch z))))) (λb9=>(show BS _ _ _ _ [] [some p0, some p1, some v3, none, none] _ _ _ _ from by exact (bs_seq (emb := λv14=>[some p0, some p1, some v3, some v14, none]) (own1 := []) (ss_set 3 sc__law_box.nd (vp_p (ρe := [some p0, some p1, some v3, none, none]) (xq ep_int))) (λv14=>by exact (bs_seq (emb := fun (j26 : (D)) => [some p0, some p1, some v3, some j26, none]) (own1 := []) (ss_for (emb := fun (j17 : (D)) => [some p0, some p1, some v3, some j17, none]) (λb16=>v14) own_cx rfl (vi_p (xqI (xi_range1 z_range (ea_cons ep_int ea_nil)))) (xg_name 4 sc__law_box.nd) (fun j17 a18 => (show BS _ _ _ _ [] [some p0, some p1, some v3, some j17, some a18] _ _ _ _ from by exact (bs_seq (emb := λv25=>[some p0, some p1, some v3, some v25, some a18]) (own1 := []) (ss_set 3 sc__law_box.nd (vp_p (ρe := [some p0, some p1, some v3, some j17, some a18]) (xq (ep_bin od_add (ep_bin od_mul (ep_var 3) ep_int) (xp_call c__law_mix hr (by omega) pass_cx (ea_cons (ep_var 2) (ea_cons (ep_var 4) ea_nil))))))) (λv25=>by exact (bs_end [4] (a := v25))))))) (λj26=>by exact (bs_retF (g := fun (v28 : D) => v28) (bx := fun (v28 : D) => PyData.none) (vf_p (ρe := [some p0, some p1, some v3, some j26, none]) (xqF (xf_lst (ea_cons (ep_var 3) ea_nil)))) (hb := (fun _ z => nomatch z))))))))) (by intro _ _ _ _ h; exact nomatch h)))))
theorem k__law_take {P : Program} {w : World} {K : PySem.W.Frag} {mg : Str → Option Value} {base : Heap} {fa : Addr} {fd : FuncData} (F : Fun K "_law_take" "_law_take" s__law_take fa fd) (hb : Binds K fd ["_law_box_here", "_law_many"] []) (hm : mg "_law_take" = some (.ref fa)) (z_divmod : mg "divmod" = none) : CalOk P w K mg base 1 "_law_take" (spB K 2 .fz m_law_take_2) :=
  cal_box (N := ["_law_box_here", "_law_many", "_law_left", "_law_digit"]) F sc__law_take hb hm rfl fun cdv A outer s H E hr b ts hl => match b, ts, hl with
    | p0, [p1], _ => by
      have hu : (A.deeper (envOfC "_law_take" (defScope s__law_take) s.heap.objs.size fa cdv)).units + 66 < cLine := by
        have := hr.un
        omega
      rw [m_law_take_2]
      exact (show BS _ E true .fz [0] [some p0, some p1, none, none] _ _ _ _ from (bs_seq (emb := λr1=>[some p0, some p1, some r1.2.1, some r1.2.2]) (own1 := [0]) (ss_asgG (vp_p (ρe := [some p0, some p1, none, none]) (xp_nl (xq (ep_callB cd_divmod z_divmod (ea_cons (ep_ix id_ix (ep_var 0) ep_int) (ea_cons (ep_var 1) ea_nil))))) (bor_flat nl_nl)) (xg_pair 2 3 sc__law_take.nd)) (λr1=>by exact (bs_seq (emb := λj11=>[some j11, some p1, some r1.2.1, some r1.2.2]) (own1 := [0]) (ss_store 0 (ts := λv8=>p0) (mi := λv8=>(R.ok (PyData.int 0))) (fun v8 r10 => r10) (vp_p (ρe := hideE [0] [some p0, some p1, some r1.2.1, some r1.2.2]) (xq (ep_var 2)) bor_hide) (λv8=>xq ep_int)) (λj11=>by exact (bs_ret (g := fun (v12 : D) => (v12, j11)) (bx := fun (v12 : D) => j11) (vp_p (ρe := hideE [0] [some j11, some p1, some r1.2.1, some r1.2.2]) (xq (ep_var 3)) bor_hide) (hb := (fun _ _ => rfl))))))))
theorem k__law_head {P : Program} {w : World} {K : PySem.W.Frag} {mg : Str → Option Value} {base : Heap} {fa : Addr} {fd : FuncData} (F : Fun K "_law_head" "_law_head" s__law_head fa fd) (hb : Binds K fd ["_law_box_here", "_law_many"] []) (hm : mg "_law_head" = some (.ref fa)) (z_range : mg "range" = none) (z_tuple : mg "tuple" = none) (c__law_take : CalOk P w K mg base 1 "_law_take" (spB K 2 .fz m_law_take_2)) : CalOk P w K mg base 2 "_law_head" (spB K 2 .fz m_law_head) :=
  cal_box (N := ["_law_box_here", "_law_many", "_law_some", "_law_column"]) F sc__law_head hb hm rfl fun cdv A outer s H E hr b ts hl => match b, ts, hl with
    | p0, [p1], _ => by
      have hu : (A.deeper (envOfC "_law_head" (defScope s__law_head) s.heap.objs.size fa cdv)).units + 66 < cLine := by
        have := hr.un
        omega
      rw [m_law_head]
      exact (show BS _ E true .fz [0] [some p0, some p1, none, none] _ _ _ _ from (bs_seq (emb := λv59=>[some v59.2, some p1, some v59.1, none]) (own1 := [0]) (ss_setLc 2 (lv_j (emb := (fun (s : D) => [some s, some p1, none, none])) (m := λs=>(((p1<&>λx24=>pyRange [x24])>>=λi23=>R.ok (i23, s))>>=λpq17=>(filJ (fun d19 s20 => ((λd=>R.ok d) d19)>>=λa3=>((((PyData.int 3)<&>λt34=>R.ok (t34, s20))>>=λpq33=>(m_law_take_2 pq33.2 [pq33.1])>>=λq35=>R.ok (q35.1, q35.2))>>=λpq29=>((PyData.int 0)<&>λt36=>R.ok (t36, pq29.2))>>=λq30=>((pyEq pq29.1 q30.1).bind asB)>>=λz31=>R.ok (z31, q30.2))) (fun d21 s22 => ((λd=>R.ok d) d21)>>=λa3=>(a3<&>λt37=>R.ok (t37, s22))) pq17.1 pq17.2)>>=λr18=>R.ok (PyData.list r18.1, r18.2))) p0 (ljq (jlcx_lcf (ow := [("_law_column", 3)]) (cond := fun a3 s => ((((PyData.int 3)<&>λt13=>R.ok (t13, s))>>=λpq12=>(m_law_take_2 pq12.2 [pq12.1])>>=λq14=>R.ok (q14.1, q14.2))>>=λpq8=>((PyData.int 0)<&>λt15=>R.ok (t15, pq8.2))>>=λq9=>((pyEq pq8.1 q9.1).bind asB)>>=λz10=>R.ok (z10, q9.2))) (me := fun a3 s => (a3<&>λt16=>R.ok (t16, s))) sc__law_head.nd ⟨fun _ _ j hj => (match j, hj with | 0, hj => absurd (by decide) hj | 1, _ => rfl | 2, _ => rfl | 3, _ => rfl | _ + 4, _ => rfl), fun _ _ => rfl⟩ (ji_of (m := λs=>(p1<&>λx2=>pyRange [x2])) (λs=>xqI (xi_range1 z_range (ea_cons (ep_var 1) ea_nil)))) (fun s H C cl fp => xg_name 3 sc__law_head.nd) (fun s H C cl fp a3 => jqB (show JB _ _ (fun (s : D) => [some s, some p1, none, some a3]) _ _ from (jb_cmp (od_eq hu) (jp_box (get := λs=>s) (put := fun s d => d) 0 ⟨λ_=>rfl, fun _ _ => rfl⟩ c__law_take hr (by omega) passN (ja_cons (jp_of (ρe := fun (s : D) => hideE [0] [some s, some p1, none, some a3]) (m := λs=>(R.ok (PyData.int 3))) (λs=>xq ep_int) (λs=>bor_hide)) ja_nil)) (jp_of (ρe := fun (s : D) => hideE [0] [some s, some p1, none, some a3]) (m := λs=>(R.ok (PyData.int 0))) (λs=>xq ep_int) (λs=>bor_hide))))) (fun s H C cl fp a3 => jq (show JP _ _ (fun (s : D) => [some s, some p1, none, some a3]) _ _ from (jp_of (ρe := fun (s : D) => hideE [0] [some s, some p1, none, some a3]) (m := λs=>(R.ok a3)) (λs=>xq (ep_var 3)) (λs=>bor_hide)))) (blkOk_by (N := ["_law_box_here", "_law_many", "_law_some", "_law_column"]) (sc := defScope s__law_head) (by decide +kernel)))))) (λv59=>by exact (bs_seq (emb := fun (j82 : (D × D)) => [some j82.1, some p1, some j82.2, none]) (own1 := [0]) (ss_if (vb_p (ρe := hideE [0] [some v59.2, some p1, some v59.1, none]) (xqB (eb_cmp (od_eq hu) (ep_var 2) (ep_lst ea_nil))) (.inl rfl)) (λb63=>(show BS _ _ _ _ [0] [some v59.2, some p1, some v59.1, none] _ _ _ _ from by exact (bs_seq (emb := λv81=>[some v81.2, some p1, some v81.1, none]) (own1 := [0]) (ss_set 2 sc__law_head.nd (vp_j (emb := (fun (s : D) => [some s, some p1, some v59.1, none])) (m := λs=>(((p1<&>λt75=>R.ok (t75, s))>>=λpq74=>(m_law_take_2 pq74.2 [pq74.1])>>=λq76=>R.ok (q76.1, q76.2))>>=λpq73=>R.ok (PyData.list [pq73.1], pq73.2))) v59.2 (jq (jp_lst (ja_cons (jp_box (get := λs=>s) (put := fun s d => d) 0 ⟨λ_=>rfl, fun _ _ => rfl⟩ c__law_take hr (by omega) passN (ja_cons (jp_of (ρe := fun (s : D) => hideE [0] [some s, some p1, some v59.1, none]) (m := λs=>(R.ok p1)) (λs=>xq (ep_var 1)) (λs=>bor_hide)) ja_nil)) ja_nil))))) (λv81=>by exact (bs_end [] (a := (v81.2, v81.1))))))) (λb63=>(show BS _ _ _ _ [0] [some v59.2, some p1, some v59.1, none] _ _ _ _ from by exact (bs_end [] (a := (v59.2, v59.1)))))) (λj82=>by exact (bs_ret (g := fun (v84 : D) => (v84, j82.1)) (bx := fun (v84 : D) => j82.1) (vp_p (ρe := hideE [0] [some j82.1, some p1, some j82.2, none]) (xq (ep_callT cd_tuple z_tuple (ea_cons (ep_var 2) ea_nil))) bor_hide) (hb := (fun _ _ => rfl))))))))
theorem k__law_grown {P : Program} {w : World} {K : PySem.W.Frag} {mg : Str → Option Value} {base : Heap} {fa : Addr} {fd : FuncData} (F : Fun K "_law_grown" "_law_grown" s__law_grown fa fd) (hb : Binds K fd ["_law_box_here", "_law_many", "_law_heads"] []) (hm : mg "_law_grown" = some (.ref fa)) (z_int : mg "int" = none) (z_len : mg "len" = none) (z_range : mg "range" = none) (z_sorted : mg "sorted" = none) (z_tuple : mg "tuple" = none) (c__law_head : CalOk P w K mg base 2 "_law_head" (spB K 2 .fz m_law_head)) (c__law_take : CalOk P w K mg base 1 "_law_take" (spB K 2 .fz m_law_take_2)) : CalOk P w K mg base 3 "_law_grown" (spB K 3 .nw m_law_grown) :=
  cal_box (N := ["_law_box_here", "_law_many", "_law_heads", "_law_found", "_law_turn", "_law_way", "_law_base", "_law_kept", "_law_column", "_law_met", "_law_head_here", "_law_fresh"]) F sc__law_grown hb hm rfl fun cdv A outer s H E hr b ts hl => match b, ts, hl with
    | p0, [p1, p2], _ => by
      have hu : (A.deeper (envOfC "_law_grown" (defScope s__law_grown) s.heap.objs.size fa cdv)).units + 66 < cLine := by
        have := hr.un
        omega
      rw [m_law_grown]
      exact (show BS _ E true .nw [0] [some p0, some p1, some p2, none, none, none, none, none, none, none, none, none] _ _ _ _ from (bs_seq (emb := λv9=>[some v9.2, some p1, some p2, some v9.1, none, none, none, none, none, none, none, none]) (own1 := [3, 0]) (ss_setF 3 sc__law_grown.nd (vf_j (emb := (fun (s : D) => [some s, some p1, some p2, none, none, none, none, none, none, none, none, none])) (m := λs=>(((p1<&>λt3=>R.ok (t3, s))>>=λpq2=>(m_law_head pq2.2 [pq2.1])>>=λq4=>R.ok (q4.1, q4.2))>>=λpq1=>R.ok (PyData.list [pq1.1], pq1.2))) p0 (jqF (jf_lst (ja_cons (jp_box (get := λs=>s) (put := fun s d => d) 0 ⟨λ_=>rfl, fun _ _ => rfl⟩ c__law_head hr (by omega) passN (ja_cons (jp_of (ρe := fun (s : D) => hideE [0] [some s, some p1, some p2, none, none, none, none, none, none, none, none, none]) (m := λs=>(R.ok p1)) (λs=>xq (ep_var 1)) (λs=>bor_hide)) ja_nil)) ja_nil))))) (λv9=>by exact (bs_seq (emb := fun (j276 : (D × D)) => [some j276.1, some p1, some p2, some j276.2, none, none, none, none, none, none, none, none]) (own1 := [3, 0]) (ss_for (emb := fun (j14 : (D × D)) => [some j14.1, some p1, some p2, some j14.2, none, none, none, none, none, none, none, none]) (λb13=>(v9.2, v9.1)) own_cx rfl (vi_p (xqI (xi_range1 z_range (ea_cons (ep_bin od_sub (ep_var 2) ep_int) ea_nil)))) (xg_name 4 sc__law_grown.nd) (fun j14 a15 => (show BS _ _ _ _ [3, 0] [some j14.1, some p1, some p2, some j14.2, some a15, none, none, none, none, none, none, none] _ _ _ _ from by exact (bs_seq (emb := λv22=>[some v22.2, some p1, some p2, some j14.2, some a15, some v22.1, none, none, none, none, none, none]) (own1 := [3, 0]) (ss_set 5 sc__law_grown.nd (vp_j (emb := (fun (s : D) => [some s, some p1, some p2, some j14.2, some a15, none, none, none, none, none, none, none])) (m := λs=>(((PyData.int 4)<&>λt17=>R.ok (t17, s))>>=λpq16=>(m_law_take_2 pq16.2 [pq16.1])>>=λq18=>R.ok (q18.1, q18.2))) j14.1 (jq (jp_box (get := λs=>s) (put := fun s d => d) 0 ⟨λ_=>rfl, fun _ _ => rfl⟩ c__law_take hr (by omega) passN (ja_cons (jp_of (ρe := fun (s : D) => hideE [3, 0] [some s, some p1, some p2, some j14.2, some a15, none, none, none, none, none, none, none]) (m := λs=>(R.ok (PyData.int 4))) (λs=>xq ep_int) (λs=>bor_hide)) ja_nil))))) (λv22=>by exact (bs_seq (emb := λv68=>[some v68.2, some p1, some p2, some j14.2, some a15, some v22.1, some v68.1, none, none, none, none, none]) (own1 := [3, 0]) (ss_set 6 sc__law_grown.nd (vp_j (emb := (fun (s : D) => [some s, some p1, some p2, some j14.2, some a15, some v22.1, none, none, none, none, none, none])) (m := λs=>(((((nl (((j14.2)<&>λx38=>pyLen [x38])>>=λx39=>(PyData.int 1)<&>λx40=>pySub x39 x40))>>=λt37=>R.ok (t37, s))>>=λpq35=>(((nl ((j14.2)<&>λx43=>pyLen [x43]))>>=λt42=>R.ok (t42, pq35.2))>>=λpq41=>(m_law_take_2 pq41.2 [pq41.1])>>=λq44=>R.ok (q44.1, q44.2))>>=λpq36=>R.ok (PyData.list [pq35.1, pq36.1], pq36.2))>>=λpq32=>((((v22.1)<&>λx46=>(PyData.int 1)<&>λx47=>pyGt x46 x47)>>=λx48=>pyInt [x48])>>=λt45=>R.ok (t45, pq32.2))>>=λq33=>(pyIx pq32.1 q33.1)>>=λz34=>R.ok (z34, q33.2))>>=λq30=>(ixO j14.2 q30.1)>>=λz31=>R.ok (z31, q30.2))) v22.2 (jq (jp_ixO (get := fun (s : D) => j14.2) 3 (jp_ix id_ix (jp_lst (ja_cons (jp_of (ρe := fun (s : D) => [some s, some p1, some p2, some j14.2, some a15, some v22.1, none, none, none, none, none, none]) (m := λs=>nl (((j14.2)<&>λx23=>pyLen [x23])>>=λx24=>(PyData.int 1)<&>λx25=>pySub x24 x25)) (λs=>xp_nl (xq (ep_bin od_sub (ep_callB cd_len z_len (ea_cons (ep_var 3) ea_nil)) ep_int))) (λs=>bor_flat nl_nl)) (ja_cons (jp_box (get := λs=>s) (put := fun s d => d) 0 ⟨λ_=>rfl, fun _ _ => rfl⟩ c__law_take hr (by omega) passN (ja_cons (jp_of (ρe := fun (s : D) => [some s, some p1, some p2, some j14.2, some a15, some v22.1, none, none, none, none, none, none]) (m := λs=>nl ((j14.2)<&>λx26=>pyLen [x26])) (λs=>xp_nl (xq (ep_callB cd_len z_len (ea_cons (ep_var 3) ea_nil)))) (λs=>bor_flat nl_nl)) ja_nil)) ja_nil))) (jp_of (ρe := fun (s : D) => hideE [3, 0] [some s, some p1, some p2, some j14.2, some a15, some v22.1, none, none, none, none, none, none]) (m := λs=>(((v22.1)<&>λx27=>(PyData.int 1)<&>λx28=>pyGt x27 x28)>>=λx29=>pyInt [x29])) (λs=>xq (ep_callT cd_int z_int (ea_cons (ep_cmp od_gt (ep_var 5) ep_int) ea_nil))) (λs=>bor_hide))))))) (λv68=>by exact (bs_seq (emb := λv127=>[some v127.2, some p1, some p2, some j14.2, some a15, some v22.1, some v68.1, some v127.1, none, none, none, none]) (own1 := [3, 0]) (ss_setLc 7 (lv_j (emb := (fun (s : D) => [some s, some p1, some p2, some j14.2, some a15, some v22.1, some v68.1, none, none, none, none, none])) (m := λs=>((((v68.1)<&>λx92=>items x92)>>=λi91=>R.ok (i91, s))>>=λpq85=>(filJ (fun d87 s88 => ((λd=>R.ok d) d87)>>=λa71=>((((PyData.int 3)<&>λt102=>R.ok (t102, s88))>>=λpq101=>(m_law_take_2 pq101.2 [pq101.1])>>=λq103=>R.ok (q103.1, q103.2))>>=λpq97=>((PyData.int 0)<&>λt104=>R.ok (t104, pq97.2))>>=λq98=>((pyGt pq97.1 q98.1).bind asB)>>=λz99=>R.ok (z99, q98.2))) (fun d89 s90 => ((λd=>R.ok d) d89)>>=λa71=>(a71<&>λt105=>R.ok (t105, s90))) pq85.1 pq85.2)>>=λr86=>R.ok (PyData.list r86.1, r86.2))) v68.2 (ljq (jlcx_lcf (ow := [("_law_column", 8)]) (cond := fun a71 s => ((((PyData.int 3)<&>λt81=>R.ok (t81, s))>>=λpq80=>(m_law_take_2 pq80.2 [pq80.1])>>=λq82=>R.ok (q82.1, q82.2))>>=λpq76=>((PyData.int 0)<&>λt83=>R.ok (t83, pq76.2))>>=λq77=>((pyGt pq76.1 q77.1).bind asB)>>=λz78=>R.ok (z78, q77.2))) (me := fun a71 s => (a71<&>λt84=>R.ok (t84, s))) sc__law_grown.nd ⟨fun _ _ j hj => (match j, hj with | 0, hj => absurd (by decide) hj | 1, _ => rfl | 2, _ => rfl | 3, hj => absurd (by decide) hj | 4, _ => rfl | 5, _ => rfl | 6, _ => rfl | 7, _ => rfl | 8, _ => rfl | 9, _ => rfl | 10, _ => rfl | 11, _ => rfl | _ + 12, _ => rfl), fun _ _ => rfl⟩ (ji_of (m := λs=>((v68.1)<&>λx70=>items x70)) (λs=>xqI (xi_val (ep_var 6)))) (fun s H C cl fp => xg_name 8 sc__law_grown.nd) (fun s H C cl fp a71 => jqB (show JB _ _ (fun (s : D) => [some s, some p1, some p2, some j14.2, some a15, some v22.1, some v68.1, none, some a71, none, none, none]) _ _ from (jb_cmp od_gt (jp_box (get := λs=>s) (put := fun s d => d) 0 ⟨λ_=>rfl, fun _ _ => rfl⟩ c__law_take hr (by omega) passN (ja_cons (jp_of (ρe := fun (s : D) => hideE [3, 0] [some s, some p1, some p2, some j14.2, some a15, some v22.1, some v68.1, none, some a71, none, none, none]) (m := λs=>(R.ok (PyData.int 3))) (λs=>xq ep_int) (λs=>bor_hide)) ja_nil)) (jp_of (ρe := fun (s : D) => hideE [3, 0] [some s, some p1, some p2, some j14.2, some a15, some v22.1, some v68.1, none, some a71, none, none, none]) (m := λs=>(R.ok (PyData.int 0))) (λs=>xq ep_int) (λs=>bor_hide))))) (fun s H C cl fp a71 => jq (show JP _ _ (fun (s : D) => [some s, some p1, some p2, some j14.2, some a15, some v22.1, some v68.1, none, some a71, none, none, none]) _ _ from (jp_of (ρe := fun (s : D) => hideE [3, 0] [some s, some p1, some p2, some j14.2, some a15, some v22.1, some v68.1, none, some a71, none, none, none]) (m := λs=>(R.ok a71)) (λs=>xq (ep_var 8)) (λs=>bor_hide)))) (blkOk_by (N := ["_law_box_here", "_law_many", "_law_heads", "_law_found", "_law_turn", "_law_way", "_law_base", "_law_kept", "_law_column", "_law_met", "_law_head_here", "_law_fresh"]) (sc := defScope s__law_grown) (by decide +kernel)))))) (λv127=>by exact (bs_seq (emb := λv144=>[some v127.2, some p1, some p2, some j14.2, some a15, some v22.1, some v68.1, some v127.1, none, some v144, none, none]) (own1 := [9, 3, 0]) (ss_setF 9 sc__law_grown.nd (vf_p (ρe := [some v127.2, some p1, some p2, some j14.2, some a15, some v22.1, some v68.1, some v127.1, none, none, none, none]) (xf_nf (xqF (xf_lc (lcx_lcf (own := [("_law_column", 8)]) (cond := λa129=>((((j14.2)<&>λx133=>items x133)>>=λis135=>(filR (λd137=>((λd=>R.ok d) d137)>>=λa134=>(a129<&>λx138=>a134<&>λx139=>(pyIn x138 x139).bind asB)) (λd137=>((λd=>R.ok d) d137)>>=λa134=>(R.ok a134)) is135)>>=λrs136=>R.ok (PyData.list rs136))>>=λx141=>(PyData.list [])<&>λx142=>(pyNe x141 x142).bind asB)) (me := λa129=>(R.ok a129)) sc__law_grown.nd (xi_range1 z_range (ea_cons (ep_var 1) ea_nil)) (fun s H C cl fp => xg_name 8 sc__law_grown.nd) (fun s H C cl fp a129 => xqB (eb_cmp (od_ne hu) (xp_of_xf (xf_lc (lcx_lcf (own := [("_law_head_here", 10)]) (cond := λa134=>(a129<&>λx138=>a134<&>λx139=>(pyIn x138 x139).bind asB)) (me := λa134=>(R.ok a134)) sc__law_grown.nd (xi_val (ep_var 3)) (fun s H C cl fp => xg_name 10 sc__law_grown.nd) (fun s H C cl fp a134 => xqB (eb_cmp (od_in hu) (ep_var 8) (ep_var 10))) (fun s H C cl fp a134 => xq (ep_var 10)) (blkOk_by (by rfl))))) (ep_lst ea_nil))) (fun s H C cl fp a129 => xq (ep_var 8)) (blkOk_by (N := ["_law_box_here", "_law_many", "_law_heads", "_law_found", "_law_turn", "_law_way", "_law_base", "_law_kept", "_law_column", "_law_met", "_law_head_here", "_law_fresh"]) (sc := defScope s__law_grown) (by decide +kernel)))))) (.inr ⟨rfl, nf_nf⟩))) (λv144=>by exact (bs_freeze 9 (show BS _ _ _ _ [3, 0] [some v127.2, some p1, some p2, some j14.2, some a15, some v22.1, some v68.1, some v127.1, none, some v144, none, none] _ _ _ _ from by exact (bs_seq (emb := λv221=>[some v221.2, some p1, some p2, some j14.2, some a15, some v22.1, some v68.1, some v127.1, none, some v144, none, some v221.1]) (own1 := [3, 0]) (ss_setLc 11 (lv_j (emb := (fun (s : D) => [some s, some p1, some p2, some j14.2, some a15, some v22.1, some v68.1, some v127.1, none, some v144, none, none])) (m := λs=>(((p1<&>λx176=>pyRange [x176])>>=λi175=>R.ok (i175, s))>>=λpq169=>(filJ (fun d171 s172 => ((λd=>R.ok d) d171)>>=λa147=>(((a147<&>λx179=>v144<&>λx180=>(pyNotIn x179 x180).bind asB)>>=λt178=>R.ok (t178, s172))>>=λpq177=>if pq177.1 = true then ((((PyData.int 2)<&>λt191=>R.ok (t191, pq177.2))>>=λpq190=>(m_law_take_2 pq190.2 [pq190.1])>>=λq192=>R.ok (q192.1, q192.2))>>=λpq186=>((PyData.int 0)<&>λt193=>R.ok (t193, pq186.2))>>=λq187=>((pyEq pq186.1 q187.1).bind asB)>>=λz188=>R.ok (z188, q187.2)) else R.ok (false, pq177.2))) (fun d173 s174 => ((λd=>R.ok d) d173)>>=λa147=>(a147<&>λt194=>R.ok (t194, s174))) pq169.1 pq169.2)>>=λr170=>R.ok (PyData.list r170.1, r170.2))) v127.2 (ljq (jlcx_lcf (ow := [("_law_column", 8)]) (cond := fun a147 s => (((a147<&>λx153=>v144<&>λx154=>(pyNotIn x153 x154).bind asB)>>=λt152=>R.ok (t152, s))>>=λpq151=>if pq151.1 = true then ((((PyData.int 2)<&>λt165=>R.ok (t165, pq151.2))>>=λpq164=>(m_law_take_2 pq164.2 [pq164.1])>>=λq166=>R.ok (q166.1, q166.2))>>=λpq160=>((PyData.int 0)<&>λt167=>R.ok (t167, pq160.2))>>=λq161=>((pyEq pq160.1 q161.1).bind asB)>>=λz162=>R.ok (z162, q161.2)) else R.ok (false, pq151.2))) (me := fun a147 s => (a147<&>λt168=>R.ok (t168, s))) sc__law_grown.nd ⟨fun _ _ j hj => (match j, hj with | 0, hj => absurd (by decide) hj | 1, _ => rfl | 2, _ => rfl | 3, hj => absurd (by decide) hj | 4, _ => rfl | 5, _ => rfl | 6, _ => rfl | 7, _ => rfl | 8, _ => rfl | 9, _ => rfl | 10, _ => rfl | 11, _ => rfl | _ + 12, _ => rfl), fun _ _ => rfl⟩ (ji_of (m := λs=>(p1<&>λx146=>pyRange [x146])) (λs=>xqI (xi_range1 z_range (ea_cons (ep_var 1) ea_nil)))) (fun s H C cl fp => xg_name 8 sc__law_grown.nd) (fun s H C cl fp a147 => jqB (show JB _ _ (fun (s : D) => [some s, some p1, some p2, some j14.2, some a15, some v22.1, some v68.1, some v127.1, some a147, some v144, none, none]) _ _ from (jb_w (jw_and (jb_of (ρe := fun (s : D) => hideE [3, 0] [some s, some p1, some p2, some j14.2, some a15, some v22.1, some v68.1, some v127.1, some a147, some v144, none, none]) (m := λs=>(a147<&>λx148=>v144<&>λx149=>(pyNotIn x148 x149).bind asB)) (λs=>xqB (eb_cmp (od_notin hu) (ep_var 8) (ep_var 9))) (λs=>.inl rfl)) (jw_and1 (jb_cmp (od_eq hu) (jp_box (get := λs=>s) (put := fun s d => d) 0 ⟨λ_=>rfl, fun _ _ => rfl⟩ c__law_take hr (by omega) passN (ja_cons (jp_of (ρe := fun (s : D) => hideE [3, 0] [some s, some p1, some p2, some j14.2, some a15, some v22.1, some v68.1, some v127.1, some a147, some v144, none, none]) (m := λs=>(R.ok (PyData.int 2))) (λs=>xq ep_int) (λs=>bor_hide)) ja_nil)) (jp_of (ρe := fun (s : D) => hideE [3, 0] [some s, some p1, some p2, some j14.2, some a15, some v22.1, some v68.1, some v127.1, some a147, some v144, none, none]) (m := λs=>(R.ok (PyData.int 0))) (λs=>xq ep_int) (λs=>bor_hide)))))))) (fun s H C cl fp a147 => jq (show JP _ _ (fun (s : D) => [some s, some p1, some p2, some j14.2, some a15, some v22.1, some v68.1, some v127.1, some a147, some v144, none, none]) _ _ from (jp_of (ρe := fun (s : D) => hideE [3, 0] [some s, some p1, some p2, some j14.2, some a15, some v22.1, some v68.1, some v127.1, some a147, some v144, none, none]) (m := λs=>(R.ok a147)) (λs=>xq (ep_var 8)) (λs=>bor_hide)))) (blkOk_by (N := ["_law_box_here", "_law_many", "_law_heads", "_law_found", "_law_turn", "_law_way", "_law_base", "_law_kept", "_law_column", "_law_met", "_law_head_here", "_law_fresh"]) (sc := defScope s__law_grown) (by decide +kernel)))))) (λv221=>by exact (bs_seq (emb := λv225=>[some v221.2, some p1, some p2, some j14.2, some a15, some v22.1, some v68.1, some v127.1, none, some v144, some v225, some v221.1]) (own1 := [3, 0]) (ss_set 10 sc__law_grown.nd (vp_p (ρe := hideE [3, 0] [some v221.2, some p1, some p2, some j14.2, some a15, some v22.1, some v68.1, some v127.1, none, some v144, none, some v221.1]) (xq (xp_of_xf (xf_callB (cf_sorted hu) z_sorted (ea_cons (ep_bin od_add (ep_var 7) (ep_var 11)) ea_nil)))) bor_hide)) (λv225=>by exact (bs_seq (emb := fun (j270 : (D × D)) => [some j270.1, some p1, some p2, some j14.2, some a15, some v22.1, some v68.1, some v127.1, none, some v144, some j270.2, some v221.1]) (own1 := [3, 0]) (ss_if (vb_p (ρe := hideE [3, 0] [some v221.2, some p1, some p2, some j14.2, some a15, some v22.1, some v68.1, some v127.1, none, some v144, some v225, some v221.1]) (xqB (eb_cmp (od_eq hu) (ep_var 10) (ep_lst ea_nil))) (.inl rfl)) (λb229=>(show BS _ _ _ _ [3, 0] [some v221.2, some p1, some p2, some j14.2, some a15, some v22.1, some v68.1, some v127.1, none, some v144, some v225, some v221.1] _ _ _ _ from by exact (bs_seq (emb := λv269=>[some v269.2, some p1, some p2, some j14.2, some a15, some v22.1, some v68.1, some v127.1, none, some v144, some v269.1, some v221.1]) (own1 := [3, 0]) (ss_set 10 sc__law_grown.nd (vp_j (emb := (fun (s : D) => [some s, some p1, some p2, some j14.2, some a15, some v22.1, some v68.1, some v127.1, none, some v144, some v225, some v221.1])) (m := λs=>((((v68.1)<&>λt255=>R.ok (t255, s))>>=λpq252=>((((v68.1)<&>λx258=>pyLen [x258])>>=λt257=>R.ok (t257, pq252.2))>>=λpq256=>(m_law_take_2 pq256.2 [pq256.1])>>=λq259=>R.ok (q259.1, q259.2))>>=λq253=>(pyIx pq252.1 q253.1)>>=λz254=>R.ok (z254, q253.2))>>=λpq251=>R.ok (PyData.list [pq251.1], pq251.2))) v221.2 (jq (jp_lst (ja_cons (jp_ix id_ix (jp_of (ρe := fun (s : D) => hideE [3, 0] [some s, some p1, some p2, some j14.2, some a15, some v22.1, some v68.1, some v127.1, none, some v144, some v225, some v221.1]) (m := λs=>(R.ok v68.1)) (λs=>xq (ep_var 6)) (λs=>bor_hide)) (jp_box (get := λs=>s) (put := fun s d => d) 0 ⟨λ_=>rfl, fun _ _ => rfl⟩ c__law_take hr (by omega) passN (ja_cons (jp_of (ρe := fun (s : D) => hideE [3, 0] [some s, some p1, some p2, some j14.2, some a15, some v22.1, some v68.1, some v127.1, none, some v144, some v225, some v221.1]) (m := λs=>((v68.1)<&>λx250=>pyLen [x250])) (λs=>xq (ep_callB cd_len z_len (ea_cons (ep_var 6) ea_nil))) (λs=>bor_hide)) ja_nil))) ja_nil))))) (λv269=>by exact (bs_end [] (a := (v269.2, v269.1))))))) (λb229=>(show BS _ _ _ _ [3, 0] [some v221.2, some p1, some p2, some j14.2, some a15, some v22.1, some v68.1, some v127.1, none, some v144, some v225, some v221.1] _ _ _ _ from by exact (bs_end [] (a := (v221.2, v225)))))) (λj270=>by exact (bs_seq (emb := λj275=>[some j270.1, some p1, some p2, some j275, some a15, some v22.1, some v68.1, some v127.1, none, some v144, some j270.2, some v221.1]) (own1 := [3, 0]) (ss_meth 3 (ts := λv272=>j14.2) (fun v272 r274 => r274) PySem.F.slot_list_append PySem.F.type_list_append mt_append meth_append app_l app_r app_ex (vp_p (ρe := hideE [3, 0] [some j270.1, some p1, some p2, some j14.2, some a15, some v22.1, some v68.1, some v127.1, none, some v144, some j270.2, some v221.1]) (xq (ep_callT cd_tuple z_tuple (ea_cons (ep_var 10) ea_nil))) bor_hide)) (λj275=>by exact (bs_end [4, 5, 6, 7, 9, 10, 11] (a := (j270.1, j275)))))))))))))))))))))))) (λj276=>by exact (bs_retO 3 (t := j276.2) (b := j276.1) (a := (j276.2, j276.1)) (hb := (λ_=>rfl))))))))
theorem k__law_barred {P : Program} {w : World} {K : PySem.W.Frag} {mg : Str → Option Value} {base : Heap} {fa : Addr} {fd : FuncData} (F : Fun K "_law_barred" "_law_barred" s__law_barred fa fd) (hb : Binds K fd ["_law_box_here", "_law_many"] []) (hm : mg "_law_barred" = some (.ref fa)) (z_min : mg "min" = none) (z_range : mg "range" = none) (z_sorted : mg "sorted" = none) (z_tuple : mg "tuple" = none) (c__law_take : CalOk P w K mg base 1 "_law_take" (spB K 2 .fz m_law_take_2)) : CalOk P w K mg base 2 "_law_barred" (spB K 2 .nw m_law_barred) :=
  cal_box (N := ["_law_box_here", "_law_many", "_law_size", "_law_lack", "_law_column"]) F sc__law_barred hb hm rfl fun cdv A outer s H E hr b ts hl => match b, ts, hl with
    | p0, [p1], _ => by
      have hu : (A.deeper (envOfC "_law_barred" (defScope s__law_barred) s.heap.objs.size fa cdv)).units + 66 < cLine := by
        have := hr.un
        omega
      rw [m_law_barred]
      exact (show BS _ E true .nw [0] [some p0, some p1, none, none, none] _ _ _ _ from (bs_if (vb_j (emb := (fun (s : D) => [some s, some p1, none, none, none])) (m := λs=>(((p1<&>λx6=>(PyData.int 3)<&>λx7=>(pyEq x6 x7).bind asB)>>=λt5=>R.ok (t5, s))>>=λpq4=>if pq4.1 = true then R.ok (true, pq4.2) else ((((PyData.int 2)<&>λt18=>R.ok (t18, pq4.2))>>=λpq17=>(m_law_take_2 pq17.2 [pq17.1])>>=λq19=>R.ok (q19.1, q19.2))>>=λpq13=>((PyData.int 0)<&>λt20=>R.ok (t20, pq13.2))>>=λq14=>((pyEq pq13.1 q14.1).bind asB)>>=λz15=>R.ok (z15, q14.2)))) p0 (jqB (jb_w (jw_or (jb_of (ρe := fun (s : D) => hideE [0] [some s, some p1, none, none, none]) (m := λs=>(p1<&>λx1=>(PyData.int 3)<&>λx2=>(pyEq x1 x2).bind asB)) (λs=>xqB (eb_cmp (od_eq hu) (ep_var 1) ep_int)) (λs=>.inl rfl)) (jw_or1 (jb_cmp (od_eq hu) (jp_box (get := λs=>s) (put := fun s d => d) 0 ⟨λ_=>rfl, fun _ _ => rfl⟩ c__law_take hr (by omega) passN (ja_cons (jp_of (ρe := fun (s : D) => hideE [0] [some s, some p1, none, none, none]) (m := λs=>(R.ok (PyData.int 2))) (λs=>xq ep_int) (λs=>bor_hide)) ja_nil)) (jp_of (ρe := fun (s : D) => hideE [0] [some s, some p1, none, none, none]) (m := λs=>(R.ok (PyData.int 0))) (λs=>xq ep_int) (λs=>bor_hide)))))))) (λb38=>(show BS _ _ _ _ [0] [some b38.2, some p1, none, none, none] _ _ _ _ from by exact (bs_seq (emb := λv65=>[some v65.2, some p1, some v65.1, none, none]) (own1 := [0]) (ss_set 2 sc__law_barred.nd (vp_j (emb := (fun (s : D) => [some s, some p1, none, none, none])) (m := λs=>(((PyData.int 3)<&>λt46=>R.ok (t46, s))>>=λpq43=>(((((PyData.int 6)<&>λx49=>p1<&>λx50=>pyMin [x49, x50])>>=λx51=>(PyData.int 2)<&>λx52=>pySub x51 x52)>>=λt48=>R.ok (t48, pq43.2))>>=λpq47=>(m_law_take_2 pq47.2 [pq47.1])>>=λq53=>R.ok (q53.1, q53.2))>>=λq44=>(pyAdd pq43.1 q44.1)>>=λz45=>R.ok (z45, q44.2))) b38.2 (jq (jp_bin od_add (jp_of (ρe := fun (s : D) => hideE [0] [some s, some p1, none, none, none]) (m := λs=>(R.ok (PyData.int 3))) (λs=>xq ep_int) (λs=>bor_hide)) (jp_box (get := λs=>s) (put := fun s d => d) 0 ⟨λ_=>rfl, fun _ _ => rfl⟩ c__law_take hr (by omega) passN (ja_cons (jp_of (ρe := fun (s : D) => hideE [0] [some s, some p1, none, none, none]) (m := λs=>(((PyData.int 6)<&>λx39=>p1<&>λx40=>pyMin [x39, x40])>>=λx41=>(PyData.int 2)<&>λx42=>pySub x41 x42)) (λs=>xq (ep_bin od_sub (ep_callB (cd_min hu rfl) z_min (ea_cons ep_int (ea_cons (ep_var 1) ea_nil))) ep_int)) (λs=>bor_hide)) ja_nil)))))) (λv65=>by exact (bs_retF (g := fun (v80 : D) => (v80, v65.2)) (bx := fun (v80 : D) => v65.2) (vf_p (ρe := hideE [0] [some v65.2, some p1, some v65.1, none, none]) (xqF (xf_lc (lcx_lc (own := [("_law_lack", 3)]) (me := λa67=>((((v65.1)<&>λx68=>pyRange [x68])>>=λis70=>(filR (λd72=>((λd=>R.ok d) d72)>>=λa69=>(a69<&>λx73=>a67<&>λx74=>(pyNe x73 x74).bind asB)) (λd72=>((λd=>R.ok d) d72)>>=λa69=>(R.ok a69)) is70)>>=λrs71=>R.ok (PyData.list rs71))>>=λx76=>pyTuple [x76])) sc__law_barred.nd (xi_range1 z_range (ea_cons (ep_var 2) ea_nil)) (fun s H C cl fp => xg_name 3 sc__law_barred.nd) (fun s H C cl fp a67 => xq (ep_callT cd_tuple z_tuple (ea_cons (xp_of_xf (xf_lc (lcx_lcf (own := [("_law_column", 4)]) (cond := λa69=>(a69<&>λx73=>a67<&>λx74=>(pyNe x73 x74).bind asB)) (me := λa69=>(R.ok a69)) sc__law_barred.nd (xi_range1 z_range (ea_cons (ep_var 2) ea_nil)) (fun s H C cl fp => xg_name 4 sc__law_barred.nd) (fun s H C cl fp a69 => xqB (eb_cmp (od_ne hu) (ep_var 4) (ep_var 3))) (fun s H C cl fp a69 => xq (ep_var 4)) (blkOk_by (by rfl))))) ea_nil))) (blkOk_by (N := ["_law_box_here", "_law_many", "_law_size", "_law_lack", "_law_column"]) (sc := defScope s__law_barred) (by decide +kernel))))) borF_hide) (hb := (fun _ _ => rfl))))))) (λb38=>(show BS _ _ _ _ [0] [some b38.2, some p1, none, none, none] _ _ _ _ from by exact (bs_seq (emb := λv107=>[some v107.2, some p1, some v107.1, none, none]) (own1 := [0]) (ss_set 2 sc__law_barred.nd (vp_j (emb := (fun (s : D) => [some s, some p1, none, none, none])) (m := λs=>(((PyData.int 4)<&>λt88=>R.ok (t88, s))>>=λpq85=>(((((PyData.int 6)<&>λx91=>p1<&>λx92=>pyMin [x91, x92])>>=λx93=>(PyData.int 3)<&>λx94=>pySub x93 x94)>>=λt90=>R.ok (t90, pq85.2))>>=λpq89=>(m_law_take_2 pq89.2 [pq89.1])>>=λq95=>R.ok (q95.1, q95.2))>>=λq86=>(pyAdd pq85.1 q86.1)>>=λz87=>R.ok (z87, q86.2))) b38.2 (jq (jp_bin od_add (jp_of (ρe := fun (s : D) => hideE [0] [some s, some p1, none, none, none]) (m := λs=>(R.ok (PyData.int 4))) (λs=>xq ep_int) (λs=>bor_hide)) (jp_box (get := λs=>s) (put := fun s d => d) 0 ⟨λ_=>rfl, fun _ _ => rfl⟩ c__law_take hr (by omega) passN (ja_cons (jp_of (ρe := fun (s : D) => hideE [0] [some s, some p1, none, none, none]) (m := λs=>(((PyData.int 6)<&>λx81=>p1<&>λx82=>pyMin [x81, x82])>>=λx83=>(PyData.int 3)<&>λx84=>pySub x83 x84)) (λs=>xq (ep_bin od_sub (ep_callB (cd_min hu rfl) z_min (ea_cons ep_int (ea_cons (ep_var 1) ea_nil))) ep_int)) (λs=>bor_hide)) ja_nil)))))) (λv107=>by exact (bs_retF (g := fun (v121 : D) => (v121, v107.2)) (bx := fun (v121 : D) => v107.2) (vf_p (ρe := hideE [0] [some v107.2, some p1, some v107.1, none, none]) (xqF (xf_lc (lcx_lc (own := [("_law_column", 4)]) (me := λa109=>(((a109<&>λx110=>((a109<&>λx111=>(PyData.int 1)<&>λx112=>pyAdd x111 x112)>>=λx113=>(v107.1)<&>λx114=>pyMod x113 x114)>>=λx115=>R.ok (PyData.list [x110, x115]))>>=λx116=>pySorted [x116])>>=λx117=>pyTuple [x117])) sc__law_barred.nd (xi_range1 z_range (ea_cons (ep_var 2) ea_nil)) (fun s H C cl fp => xg_name 4 sc__law_barred.nd) (fun s H C cl fp a109 => xq (ep_callT cd_tuple z_tuple (ea_cons (xp_of_xf (xf_callB (cf_sorted hu) z_sorted (ea_cons (ep_lst (ea_cons (ep_var 4) (ea_cons (ep_bin od_mod (ep_bin od_add (ep_var 4) ep_int) (ep_var 2)) ea_nil))) ea_nil))) ea_nil))) (blkOk_by (N := ["_law_box_here", "_law_many", "_law_size", "_law_lack", "_law_column"]) (sc := defScope s__law_barred) (by decide +kernel))))) borF_hide) (hb := (fun _ _ => rfl))))))) (by intro _ _ _ _ h; exact nomatch h)))
theorem k__law_named {P : Program} {w : World} {K : PySem.W.Frag} {mg : Str → Option Value} {base : Heap} {fa : Addr} {fd : FuncData} (F : Fun K "_law_named" "_law_named" s__law_named fa fd) (hb : Binds K fd ["_law_box_here", "_law_many", "_law_heads"] []) (hm : mg "_law_named" = some (.ref fa)) (z_len : mg "len" = none) (z_list : mg "list" = none) (z_range : mg "range" = none) (z_sorted : mg "sorted" = none) (z_tuple : mg "tuple" = none) (c__law_take : CalOk P w K mg base 1 "_law_take" (spB K 2 .fz m_law_take_2)) : CalOk P w K mg base 2 "_law_named" (spB K 3 .fz m_law_named_2) :=
  cal_box (N := ["_law_box_here", "_law_many", "_law_heads", "_law_left", "_law_names", "_law_turn", "_law_rows_here", "_law_head_here", "_law_column", "_law_found"]) F sc__law_named hb hm rfl fun cdv A outer s H E hr b ts hl => match b, ts, hl with
    | p0, [p1, p2], _ => by
      have hu : (A.deeper (envOfC "_law_named" (defScope s__law_named) s.heap.objs.size fa cdv)).units + 66 < cLine := by
        have := hr.un
        omega
      rw [m_law_named_2]
      exact (show BS _ E true .fz [0] [some p0, some p1, some p2, none, none, none, none, none, none, none] _ _ _ _ from (bs_seq (emb := λv5=>[some p0, some p1, some p2, some v5, none, none, none, none, none, none]) (own1 := [3, 0]) (ss_setF 3 sc__law_named.nd (vf_p (ρe := hideE [0] [some p0, some p1, some p2, none, none, none, none, none, none, none]) (xqF (xf_listRg z_list (xrg_1 z_range (ep_var 1)))) borF_hide)) (λv5=>by exact (bs_seq (emb := λv43=>[some v43.2.2, some p1, some p2, some v43.2.1, some v43.1, none, none, none, none, none]) (own1 := [3, 0]) (ss_set 4 sc__law_named.nd (vp_j (emb := (fun (s : (D × D)) => [some s.2, some p1, some p2, some s.1, none, none, none, none, none, none])) (m := λs=>(((p1<&>λx22=>pyRange [x22])>>=λi21=>R.ok (i21, s))>>=λpq17=>(mapJ (fun d19 s20 => ((λd=>R.ok d) d19)>>=λa8=>((lstD s20.1)>>=λu25=>(((nl ((s20.1)<&>λx28=>pyLen [x28]))>>=λt27=>R.ok (t27, s20))>>=λpq26=>(m_law_take_2 pq26.2.2 [pq26.1])>>=λq29=>R.ok (q29.1, (pq26.2.1, q29.2)))>>=λpq23=>(popAtD pq23.2.1 pq23.1)>>=λq24=>R.ok (q24.1, (q24.2, pq23.2.2)))) pq17.1 pq17.2)>>=λr18=>R.ok (PyData.list r18.1, r18.2))) (v5, p0) (jq (jp_of_jf (jf_lc (jlcx_lc (ow := [("_law_turn", 5)]) (me := fun a8 s => ((lstD s.1)>>=λu12=>(((nl ((s.1)<&>λx15=>pyLen [x15]))>>=λt14=>R.ok (t14, s))>>=λpq13=>(m_law_take_2 pq13.2.2 [pq13.1])>>=λq16=>R.ok (q16.1, (pq13.2.1, q16.2)))>>=λpq10=>(popAtD pq10.2.1 pq10.1)>>=λq11=>R.ok (q11.1, (q11.2, pq10.2.2)))) sc__law_named.nd ⟨fun _ _ j hj => (match j, hj with | 0, hj => absurd (by decide) hj | 1, _ => rfl | 2, _ => rfl | 3, hj => absurd (by decide) hj | 4, _ => rfl | 5, _ => rfl | 6, _ => rfl | 7, _ => rfl | 8, _ => rfl | 9, _ => rfl | _ + 10, _ => rfl), fun _ _ => rfl⟩ (ji_of (m := λs=>(p1<&>λx7=>pyRange [x7])) (λs=>xqI (xi_range1 z_range (ea_cons (ep_var 1) ea_nil)))) (fun s H C cl fp => xg_name 5 sc__law_named.nd) (fun s H C cl fp a8 => jq (show JP _ _ (fun (s : (D × D)) => [some s.2, some p1, some p2, some s.1, none, some a8, none, none, none, none]) _ _ from (jp_popAt (get := λs=>s.1) (put := fun s d => (d, s.2)) 3 ⟨λ_=>rfl, fun _ _ => rfl⟩ (jp_box (get := λs=>s.2) (put := fun s d => (s.1, d)) 0 ⟨λ_=>rfl, fun _ _ => rfl⟩ c__law_take hr (by omega) passN (ja_cons (jp_of (ρe := fun (s : (D × D)) => [some s.2, some p1, some p2, some s.1, none, some a8, none, none, none, none]) (m := λs=>nl ((s.1)<&>λx9=>pyLen [x9])) (λs=>xp_nl (xq (ep_callB cd_len z_len (ea_cons (ep_var 3) ea_nil)))) (λs=>bor_flat nl_nl)) ja_nil))))) (blkOk_by (N := ["_law_box_here", "_law_many", "_law_heads", "_law_left", "_law_names", "_law_turn", "_law_rows_here", "_law_head_here", "_law_column", "_law_found"]) (sc := defScope s__law_named) (by decide +kernel)))))))) (λv43=>by exact (bs_freeze 3 (show BS _ _ _ _ [0] [some v43.2.2, some p1, some p2, some v43.2.1, some v43.1, none, none, none, none, none] _ _ _ _ from by exact (bs_seq (emb := λv58=>[some v43.2.2, some p1, some p2, some v43.2.1, some v43.1, none, some v58, none, none, none]) (own1 := [6, 0]) (ss_setLcF 6 (lv_fp (ρe := hideE [0] [some v43.2.2, some p1, some p2, some v43.2.1, some v43.1, none, none, none, none, none]) (lq (lcx_lc (own := [("_law_head_here", 7)]) (me := λa45=>((((a45<&>λx46=>items x46)>>=λis50=>(mapR (λd52=>((λd=>R.ok d) d52)>>=λa47=>((v43.1)<&>λx48=>a47<&>λx49=>pyIx x48 x49)) is50)>>=λrs51=>R.ok (PyData.list rs51))>>=λx53=>pySorted [x53])>>=λx54=>pyTuple [x54])) sc__law_named.nd (xi_val (ep_var 2)) (fun s H C cl fp => xg_name 7 sc__law_named.nd) (fun s H C cl fp a45 => xq (ep_callT cd_tuple z_tuple (ea_cons (xp_of_xf (xf_callB (cf_sorted hu) z_sorted (ea_cons (xp_of_xf (xf_lc (lcx_lc (own := [("_law_column", 8)]) (me := λa47=>((v43.1)<&>λx48=>a47<&>λx49=>pyIx x48 x49)) sc__law_named.nd (xi_val (ep_var 7)) (fun s H C cl fp => xg_name 8 sc__law_named.nd) (fun s H C cl fp a47 => xq (ep_ix id_ix (ep_var 4) (ep_var 8))) (blkOk_by (by rfl))))) ea_nil))) ea_nil))) (blkOk_by (N := ["_law_box_here", "_law_many", "_law_heads", "_law_left", "_law_names", "_law_turn", "_law_rows_here", "_law_head_here", "_law_column", "_law_found"]) (sc := defScope s__law_named) (by decide +kernel)))) borF_hide)) (λv58=>by exact (bs_seq (emb := λv59=>[some v43.2.2, some p1, some p2, some v43.2.1, some v43.1, none, some v58, none, none, some v59]) (own1 := [9, 6, 0]) (ss_setF 9 sc__law_named.nd (vf_p (ρe := hideE [6, 0] [some v43.2.2, some p1, some p2, some v43.2.1, some v43.1, none, some v58, none, none, none]) (xqF (xf_lst ea_nil)) borF_hide)) (λv59=>by exact (bs_seqP (emb := fun (j84 : (D × D × D)) => [some j84.1, some p1, some p2, some v43.2.1, some v43.1, none, some j84.2.1, none, none, some j84.2.2]) (own1 := [9, 6, 0]) (fun t b => (t, b)) (ss_whileO (emb := fun (j60 : (D × D × D)) => [some j60.1, some p1, some p2, some v43.2.1, some v43.1, none, some j60.2.1, none, none, some j60.2.2]) (v43.2.2, v58, v59) (fun (j60 : (D × D × D)) b64 => (j60.1, j60.2.1, j60.2.2)) own_cx (λj60=>(vb_p (ρe := [some j60.1, some p1, some p2, some v43.2.1, some v43.1, none, some j60.2.1, none, none, some j60.2.2]) (xqB (eb_cmp (od_ne hu) (ep_var 6) (ep_lst ea_nil))) (.inr rfl))) (fun j60 b64 => (show BS _ _ _ _ [9, 6, 0] [some j60.1, some p1, some p2, some v43.2.1, some v43.1, none, some j60.2.1, none, none, some j60.2.2] _ _ _ _ from by exact (bs_seq (emb := λj83=>[some j83.2.1, some p1, some p2, some v43.2.1, some v43.1, none, some j83.1, none, none, some j83.2.2]) (own1 := [9, 6, 0]) (ss_meth 9 (ts := λv80=>j60.2.2) (fun v80 r82 => (v80.2.1, v80.2.2, r82)) PySem.F.slot_list_append PySem.F.type_list_append mt_append meth_append app_l app_r app_ex (vp_j (emb := (fun (s : (D × D)) => [some s.2, some p1, some p2, some v43.2.1, some v43.1, none, some s.1, none, none, some j60.2.2])) (m := λs=>((lstD s.1)>>=λu68=>(((nl ((s.1)<&>λx71=>pyLen [x71]))>>=λt70=>R.ok (t70, s))>>=λpq69=>(m_law_take_2 pq69.2.2 [pq69.1])>>=λq72=>R.ok (q72.1, (pq69.2.1, q72.2)))>>=λpq66=>(popAtD pq66.2.1 pq66.1)>>=λq67=>R.ok (q67.1, (q67.2, pq66.2.2)))) (j60.2.1, j60.1) (jq (jp_popAt (get := λs=>s.1) (put := fun s d => (d, s.2)) 6 ⟨λ_=>rfl, fun _ _ => rfl⟩ (jp_box (get := λs=>s.2) (put := fun s d => (s.1, d)) 0 ⟨λ_=>rfl, fun _ _ => rfl⟩ c__law_take hr (by omega) passN (ja_cons (jp_of (ρe := fun (s : (D × D)) => [some s.2, some p1, some p2, some v43.2.1, some v43.1, none, some s.1, none, none, some j60.2.2]) (m := λs=>nl ((s.1)<&>λx65=>pyLen [x65])) (λs=>xp_nl (xq (ep_callB cd_len z_len (ea_cons (ep_var 6) ea_nil)))) (λs=>bor_flat nl_nl)) ja_nil)))))) (λj83=>by exact (bs_end [] (a := (Oc.nx (j83.2.1, j83.1, j83.2.2))))))))) (λj84=>by exact (bs_freeze 9 (show BS _ _ _ _ [6, 0] [some j84.1, some p1, some p2, some v43.2.1, some v43.1, none, some j84.2.1, none, none, some j84.2.2] _ _ _ _ from by exact (bs_freeze 6 (show BS _ _ _ _ [0] [some j84.1, some p1, some p2, some v43.2.1, some v43.1, none, some j84.2.1, none, none, some j84.2.2] _ _ _ _ from by exact (bs_ret (g := fun (v86 : D) => (v86, j84.1)) (bx := fun (v86 : D) => j84.1) (vp_p (ρe := hideE [0] [some j84.1, some p1, some p2, some v43.2.1, some v43.1, none, some j84.2.1, none, none, some j84.2.2]) (xq (ep_callT cd_tuple z_tuple (ea_cons (ep_var 9) ea_nil))) bor_hide) (hb := (fun _ _ => rfl))))))))))))))))))))
theorem k__law_layout {P : Program} {w : World} {K : PySem.W.Frag} {mg : Str → Option Value} {base : Heap} {fa : Addr} {fd : FuncData} (F : Fun K "_law_layout" "_law_layout" s__law_layout fa fd) (hb : Binds K fd ["_law_box_here", "_law_most", "_law_heads"] []) (hm : mg "_law_layout" = some (.ref fa)) (z_len : mg "len" = none) (z_max : mg "max" = none) (z_range : mg "range" = none) (c__law_take : CalOk P w K mg base 1 "_law_take" (spB K 2 .fz m_law_take_2)) (c__law_barred : CalOk P w K mg base 2 "_law_barred" (spB K 2 .nw m_law_barred)) (c__law_named : CalOk P w K mg base 2 "_law_named" (spB K 3 .fz m_law_named_2)) (c__law_head : CalOk P w K mg base 2 "_law_head" (spB K 2 .fz m_law_head)) (c__law_grown : CalOk P w K mg base 3 "_law_grown" (spB K 3 .nw m_law_grown)) : CalOk P w K mg base 4 "_law_layout" (spB K 3 .fz m_law_layout_2) :=
  cal_box (N := ["_law_box_here", "_law_most", "_law_heads", "_law_many", "_law_number", "_law_way", "_law_some", "_law_extra", "_law_turn"]) F sc__law_layout hb hm rfl fun cdv A outer s H E hr b ts hl => match b, ts, hl with
    | p0, [p1, p2], _ => by
      have hu : (A.deeper (envOfC "_law_layout" (defScope s__law_layout) s.heap.objs.size fa cdv)).units + 66 < cLine := by
        have := hr.un
        omega
      rw [m_law_layout_2]
      exact (show BS _ E true .fz [0] [some p0, some p1, some p2, none, none, none, none, none, none] _ _ _ _ from (bs_seq (emb := λv15=>[some v15.2, some p1, some p2, some v15.1, none, none, none, none, none]) (own1 := [0]) (ss_set 3 sc__law_layout.nd (vp_j (emb := (fun (s : D) => [some s, some p1, some p2, none, none, none, none, none, none])) (m := λs=>(((PyData.int 1)<&>λt4=>R.ok (t4, s))>>=λpq1=>((p1<&>λt6=>R.ok (t6, pq1.2))>>=λpq5=>(m_law_take_2 pq5.2 [pq5.1])>>=λq7=>R.ok (q7.1, q7.2))>>=λq2=>(pyAdd pq1.1 q2.1)>>=λz3=>R.ok (z3, q2.2))) p0 (jq (jp_bin od_add (jp_of (ρe := fun (s : D) => hideE [0] [some s, some p1, some p2, none, none, none, none, none, none]) (m := λs=>(R.ok (PyData.int 1))) (λs=>xq ep_int) (λs=>bor_hide)) (jp_box (get := λs=>s) (put := fun s d => d) 0 ⟨λ_=>rfl, fun _ _ => rfl⟩ c__law_take hr (by omega) passN (ja_cons (jp_of (ρe := fun (s : D) => hideE [0] [some s, some p1, some p2, none, none, none, none, none, none]) (m := λs=>(R.ok p1)) (λs=>xq (ep_var 1)) (λs=>bor_hide)) ja_nil)))))) (λv15=>by exact (bs_seq (emb := λv30=>[some v30.2, some p1, some p2, some v15.1, some v30.1, none, none, none, none]) (own1 := [0]) (ss_set 4 sc__law_layout.nd (vp_j (emb := (fun (s : D) => [some s, some p1, some p2, some v15.1, none, none, none, none, none])) (m := λs=>(((PyData.int 1)<&>λt19=>R.ok (t19, s))>>=λpq16=>((p2<&>λt21=>R.ok (t21, pq16.2))>>=λpq20=>(m_law_take_2 pq20.2 [pq20.1])>>=λq22=>R.ok (q22.1, q22.2))>>=λq17=>(pyAdd pq16.1 q17.1)>>=λz18=>R.ok (z18, q17.2))) v15.2 (jq (jp_bin od_add (jp_of (ρe := fun (s : D) => hideE [0] [some s, some p1, some p2, some v15.1, none, none, none, none, none]) (m := λs=>(R.ok (PyData.int 1))) (λs=>xq ep_int) (λs=>bor_hide)) (jp_box (get := λs=>s) (put := fun s d => d) 0 ⟨λ_=>rfl, fun _ _ => rfl⟩ c__law_take hr (by omega) passN (ja_cons (jp_of (ρe := fun (s : D) => hideE [0] [some s, some p1, some p2, some v15.1, none, none, none, none, none]) (m := λs=>(R.ok p2)) (λs=>xq (ep_var 2)) (λs=>bor_hide)) ja_nil)))))) (λv30=>by exact (bs_seq (emb := λv37=>[some v37.2, some p1, some p2, some v15.1, some v30.1, some v37.1, none, none, none]) (own1 := [0]) (ss_set 5 sc__law_layout.nd (vp_j (emb := (fun (s : D) => [some s, some p1, some p2, some v15.1, some v30.1, none, none, none, none])) (m := λs=>(((PyData.int 5)<&>λt32=>R.ok (t32, s))>>=λpq31=>(m_law_take_2 pq31.2 [pq31.1])>>=λq33=>R.ok (q33.1, q33.2))) v30.2 (jq (jp_box (get := λs=>s) (put := fun s d => d) 0 ⟨λ_=>rfl, fun _ _ => rfl⟩ c__law_take hr (by omega) passN (ja_cons (jp_of (ρe := fun (s : D) => hideE [0] [some s, some p1, some p2, some v15.1, some v30.1, none, none, none, none]) (m := λs=>(R.ok (PyData.int 5))) (λs=>xq ep_int) (λs=>bor_hide)) ja_nil))))) (λv37=>by exact (bs_if (vb_p (ρe := hideE [0] [some v37.2, some p1, some p2, some v15.1, some v30.1, some v37.1, none, none, none]) (xqB (eb_w (ew_and (eb_cmp (od_eq hu) (ep_var 5) ep_int) (ew_and1 (eb_cmp od_gt (ep_var 3) ep_int))))) (.inl rfl)) (λb45=>(show BS _ _ _ _ [0] [some v37.2, some p1, some p2, some v15.1, some v30.1, some v37.1, none, none, none] _ _ _ _ from by exact (bs_seq (emb := λv52=>[some v52.2, some p1, some p2, some v15.1, some v30.1, some v37.1, some v52.1, none, none]) (own1 := [0]) (ss_set 6 sc__law_layout.nd (vp_j (emb := (fun (s : D) => [some s, some p1, some p2, some v15.1, some v30.1, some v37.1, none, none, none])) (m := λs=>(((v15.1)<&>λt47=>R.ok (t47, s))>>=λpq46=>(m_law_barred pq46.2 [pq46.1])>>=λq48=>R.ok (q48.1, q48.2))) v37.2 (jq (jp_box (get := λs=>s) (put := fun s d => d) 0 ⟨λ_=>rfl, fun _ _ => rfl⟩ c__law_barred hr (by omega) passN (ja_cons (jp_of (ρe := fun (s : D) => hideE [0] [some s, some p1, some p2, some v15.1, some v30.1, some v37.1, none, none, none]) (m := λs=>(R.ok v15.1)) (λs=>xq (ep_var 3)) (λs=>bor_hide)) ja_nil))))) (λv52=>by exact (bs_seq (emb := λv102=>[some v102.2, some p1, some p2, some v15.1, some v30.1, some v37.1, some v52.1, some v102.1, none]) (own1 := [0]) (ss_setLc 7 (lv_j (emb := (fun (s : D) => [some s, some p1, some p2, some v15.1, some v30.1, some v37.1, some v52.1, none, none])) (m := λs=>((((((PyData.int 1)<&>λx76=>((PyData.int 0)<&>λx71=>(p2<&>λx73=>((v52.1)<&>λx72=>pyLen [x72])>>=λx74=>pySub x73 x74)>>=λx75=>pyMax [x71, x75])>>=λx77=>pyAdd x76 x77)>>=λt70=>R.ok (t70, s))>>=λpq69=>(m_law_take_2 pq69.2 [pq69.1])>>=λq78=>R.ok (q78.1, q78.2))>>=λpq68=>(pyRange [pq68.1])>>=λz79=>R.ok (z79, pq68.2))>>=λpq64=>(mapJ (fun d66 s67 => ((λd=>R.ok d) d66)>>=λa60=>(((v15.1)<&>λt81=>R.ok (t81, s67))>>=λpq80=>(m_law_head pq80.2 [pq80.1])>>=λq82=>R.ok (q82.1, q82.2))) pq64.1 pq64.2)>>=λr65=>R.ok (PyData.list r65.1, r65.2))) v52.2 (ljq (jlcx_lc (ow := [("_law_turn", 8)]) (me := fun a60 s => (((v15.1)<&>λt62=>R.ok (t62, s))>>=λpq61=>(m_law_head pq61.2 [pq61.1])>>=λq63=>R.ok (q63.1, q63.2))) sc__law_layout.nd ⟨fun _ _ j hj => (match j, hj with | 0, hj => absurd (by decide) hj | 1, _ => rfl | 2, _ => rfl | 3, _ => rfl | 4, _ => rfl | 5, _ => rfl | 6, _ => rfl | 7, _ => rfl | 8, _ => rfl | _ + 9, _ => rfl), fun _ _ => rfl⟩ (ji_range1 z_range (ja_cons (jp_box (get := λs=>s) (put := fun s d => d) 0 ⟨λ_=>rfl, fun _ _ => rfl⟩ c__law_take hr (by omega) passN (ja_cons (jp_of (ρe := fun (s : D) => hideE [0] [some s, some p1, some p2, some v15.1, some v30.1, some v37.1, some v52.1, none, none]) (m := λs=>((PyData.int 1)<&>λx58=>((PyData.int 0)<&>λx53=>(p2<&>λx55=>((v52.1)<&>λx54=>pyLen [x54])>>=λx56=>pySub x55 x56)>>=λx57=>pyMax [x53, x57])>>=λx59=>pyAdd x58 x59)) (λs=>xq (ep_bin od_add ep_int (ep_callB (cd_max hu rfl) z_max (ea_cons ep_int (ea_cons (ep_bin od_sub (ep_var 2) (ep_callB cd_len z_len (ea_cons (ep_var 6) ea_nil))) ea_nil))))) (λs=>bor_hide)) ja_nil)) ja_nil)) (fun s H C cl fp => xg_name 8 sc__law_layout.nd) (fun s H C cl fp a60 => jq (show JP _ _ (fun (s : D) => [some s, some p1, some p2, some v15.1, some v30.1, some v37.1, some v52.1, none, some a60]) _ _ from (jp_box (get := λs=>s) (put := fun s d => d) 0 ⟨λ_=>rfl, fun _ _ => rfl⟩ c__law_head hr (by omega) passN (ja_cons (jp_of (ρe := fun (s : D) => hideE [0] [some s, some p1, some p2, some v15.1, some v30.1, some v37.1, some v52.1, none, some a60]) (m := λs=>(R.ok v15.1)) (λs=>xq (ep_var 3)) (λs=>bor_hide)) ja_nil)))) (blkOk_by (N := ["_law_box_here", "_law_most", "_law_heads", "_law_many", "_law_number", "_law_way", "_law_some", "_law_extra", "_law_turn"]) (sc := defScope s__law_layout) (by decide +kernel)))))) (λv102=>by exact (bs_ret (g := fun (v137 : (D × D)) => (v137.1, v137.2)) (bx := fun (v137 : (D × D)) => v137.2) (vp_j (emb := (fun (s : D) => [some s, some p1, some p2, some v15.1, some v30.1, some v37.1, some v52.1, some v102.1, none])) (m := λs=>(((v15.1)<&>λt111=>R.ok (t111, s))>>=λpq109=>(((v15.1)<&>λt114=>R.ok (t114, pq109.2))>>=λpq112=>((((v52.1)<&>λx116=>(v102.1)<&>λx117=>pyAdd x116 x117)>>=λx119=>(none : Option Int)<&>λx120=>((PyData.int 6)<&>λx118=>partD x118)>>=λx121=>pySl x119 x120 x121)>>=λt115=>R.ok (t115, pq112.2))>>=λpq113=>(m_law_named_2 pq113.2 [pq112.1, pq113.1])>>=λq122=>R.ok (q122.1, q122.2))>>=λpq110=>R.ok (PyData.tuple [pq109.1, pq110.1], pq110.2))) v102.2 (jq (jp_tup (ja_cons (jp_of (ρe := fun (s : D) => hideE [0] [some s, some p1, some p2, some v15.1, some v30.1, some v37.1, some v52.1, some v102.1, none]) (m := λs=>(R.ok v15.1)) (λs=>xq (ep_var 3)) (λs=>bor_hide)) (ja_cons (jp_box (get := λs=>s) (put := fun s d => d) 0 ⟨λ_=>rfl, fun _ _ => rfl⟩ c__law_named hr (by omega) passN (ja_cons (jp_of (ρe := fun (s : D) => hideE [0] [some s, some p1, some p2, some v15.1, some v30.1, some v37.1, some v52.1, some v102.1, none]) (m := λs=>(R.ok v15.1)) (λs=>xq (ep_var 3)) (λs=>bor_hide)) (ja_cons (jp_of (ρe := fun (s : D) => hideE [0] [some s, some p1, some p2, some v15.1, some v30.1, some v37.1, some v52.1, some v102.1, none]) (m := λs=>(((v52.1)<&>λx103=>(v102.1)<&>λx104=>pyAdd x103 x104)>>=λx106=>(none : Option Int)<&>λx107=>((PyData.int 6)<&>λx105=>partD x105)>>=λx108=>pySl x106 x107 x108)) (λs=>xq (xp_slice (ep_bin od_add (ep_var 6) (ep_var 7)) xo_none (xo_some ep_int))) (λs=>bor_hide)) ja_nil))) ja_nil))))) (hb := (fun _ _ => rfl))))))))) (λb45=>(show BS _ _ _ _ [0] [some v37.2, some p1, some p2, some v15.1, some v30.1, some v37.1, none, none, none] _ _ _ _ from by exact (bs_if (vb_p (ρe := hideE [0] [some v37.2, some p1, some p2, some v15.1, some v30.1, some v37.1, none, none, none]) (xqB (eb_cmp (od_eq hu) (ep_var 5) ep_int)) (.inl rfl)) (λb141=>(show BS _ _ _ _ [0] [some v37.2, some p1, some p2, some v15.1, some v30.1, some v37.1, none, none, none] _ _ _ _ from by exact (bs_ret (g := fun (v180 : (D × D)) => (v180.1, v180.2)) (bx := fun (v180 : (D × D)) => v180.2) (vp_j (emb := (fun (s : D) => [some s, some p1, some p2, some v15.1, some v30.1, some v37.1, none, none, none])) (m := λs=>(((v15.1)<&>λt150=>R.ok (t150, s))>>=λpq148=>(((v15.1)<&>λt153=>R.ok (t153, pq148.2))>>=λpq151=>((((v30.1)<&>λx159=>pyRange [x159])>>=λi158=>R.ok (i158, pq151.2))>>=λpq154=>(mapJ (fun d156 s157 => ((λd=>R.ok d) d156)>>=λa144=>(((v15.1)<&>λt161=>R.ok (t161, s157))>>=λpq160=>(m_law_head pq160.2 [pq160.1])>>=λq162=>R.ok (q162.1, q162.2))) pq154.1 pq154.2)>>=λr155=>R.ok (PyData.list r155.1, r155.2))>>=λpq152=>(m_law_named_2 pq152.2 [pq151.1, pq152.1])>>=λq163=>R.ok (q163.1, q163.2))>>=λpq149=>R.ok (PyData.tuple [pq148.1, pq149.1], pq149.2))) v37.2 (jq (jp_tup (ja_cons (jp_of (ρe := fun (s : D) => hideE [0] [some s, some p1, some p2, some v15.1, some v30.1, some v37.1, none, none, none]) (m := λs=>(R.ok v15.1)) (λs=>xq (ep_var 3)) (λs=>bor_hide)) (ja_cons (jp_box (get := λs=>s) (put := fun s d => d) 0 ⟨λ_=>rfl, fun _ _ => rfl⟩ c__law_named hr (by omega) passN (ja_cons (jp_of (ρe := fun (s : D) => hideE [0] [some s, some p1, some p2, some v15.1, some v30.1, some v37.1, none, none, none]) (m := λs=>(R.ok v15.1)) (λs=>xq (ep_var 3)) (λs=>bor_hide)) (ja_cons (jp_of_jf (jf_lc (jlcx_lc (ow := [("_law_turn", 8)]) (me := fun a144 s => (((v15.1)<&>λt146=>R.ok (t146, s))>>=λpq145=>(m_law_head pq145.2 [pq145.1])>>=λq147=>R.ok (q147.1, q147.2))) sc__law_layout.nd ⟨fun _ _ j hj => (match j, hj with | 0, hj => absurd (by decide) hj | 1, _ => rfl | 2, _ => rfl | 3, _ => rfl | 4, _ => rfl | 5, _ => rfl | 6, _ => rfl | 7, _ => rfl | 8, _ => rfl | _ + 9, _ => rfl), fun _ _ => rfl⟩ (ji_of (m := λs=>((v30.1)<&>λx143=>pyRange [x143])) (λs=>xqI (xi_range1 z_range (ea_cons (ep_var 4) ea_nil)))) (fun s H C cl fp => xg_name 8 sc__law_layout.nd) (fun s H C cl fp a144 => jq (show JP _ _ (fun (s : D) => [some s, some p1, some p2, some v15.1, some v30.1, some v37.1, none, none, some a144]) _ _ from (jp_box (get := λs=>s) (put := fun s d => d) 0 ⟨λ_=>rfl, fun _ _ => rfl⟩ c__law_head hr (by omega) passN (ja_cons (jp_of (ρe := fun (s : D) => hideE [0] [some s, some p1, some p2, some v15.1, some v30.1, some v37.1, none, none, some a144]) (m := λs=>(R.ok v15.1)) (λs=>xq (ep_var 3)) (λs=>bor_hide)) ja_nil)))) (blkOk_by (N := ["_law_box_here", "_law_most", "_law_heads", "_law_many", "_law_number", "_law_way", "_law_some", "_law_extra", "_law_turn"]) (sc := defScope s__law_layout) (by decide +kernel))))) ja_nil))) ja_nil))))) (hb := (fun _ _ => rfl))))) (λb141=>(show BS _ _ _ _ [0] [some v37.2, some p1, some p2, some v15.1, some v30.1, some v37.1, none, none, none] _ _ _ _ from by exact (bs_ret (g := fun (v205 : (D × D)) => (v205.1, v205.2)) (bx := fun (v205 : (D × D)) => v205.2) (vp_j (emb := (fun (s : D) => [some s, some p1, some p2, some v15.1, some v30.1, some v37.1, none, none, none])) (m := λs=>(((v15.1)<&>λt183=>R.ok (t183, s))>>=λpq181=>(((v15.1)<&>λt186=>R.ok (t186, pq181.2))>>=λpq184=>(((v15.1)<&>λt189=>R.ok (t189, pq184.2))>>=λpq187=>((v30.1)<&>λt190=>R.ok (t190, pq187.2))>>=λpq188=>(m_law_grown pq188.2 [pq187.1, pq188.1])>>=λq191=>R.ok (q191.1, q191.2))>>=λpq185=>(m_law_named_2 pq185.2 [pq184.1, pq185.1])>>=λq192=>R.ok (q192.1, q192.2))>>=λpq182=>R.ok (PyData.tuple [pq181.1, pq182.1], pq182.2))) v37.2 (jq (jp_tup (ja_cons (jp_of (ρe := fun (s : D) => hideE [0] [some s, some p1, some p2, some v15.1, some v30.1, some v37.1, none, none, none]) (m := λs=>(R.ok v15.1)) (λs=>xq (ep_var 3)) (λs=>bor_hide)) (ja_cons (jp_box (get := λs=>s) (put := fun s d => d) 0 ⟨λ_=>rfl, fun _ _ => rfl⟩ c__law_named hr (by omega) passN (ja_cons (jp_of (ρe := fun (s : D) => hideE [0] [some s, some p1, some p2, some v15.1, some v30.1, some v37.1, none, none, none]) (m := λs=>(R.ok v15.1)) (λs=>xq (ep_var 3)) (λs=>bor_hide)) (ja_cons (jp_box (get := λs=>s) (put := fun s d => d) 0 ⟨λ_=>rfl, fun _ _ => rfl⟩ c__law_grown hr (by omega) passN (ja_cons (jp_of (ρe := fun (s : D) => hideE [0] [some s, some p1, some p2, some v15.1, some v30.1, some v37.1, none, none, none]) (m := λs=>(R.ok v15.1)) (λs=>xq (ep_var 3)) (λs=>bor_hide)) (ja_cons (jp_of (ρe := fun (s : D) => hideE [0] [some s, some p1, some p2, some v15.1, some v30.1, some v37.1, none, none, none]) (m := λs=>(R.ok v30.1)) (λs=>xq (ep_var 4)) (λs=>bor_hide)) ja_nil))) ja_nil))) ja_nil))))) (hb := (fun _ _ => rfl))))) (by intro _ _ _ _ h; exact nomatch h)))) (by intro _ _ _ _ h; exact nomatch h)))))))))
theorem k__law_rows {P : Program} {w : World} {K : PySem.W.Frag} {mg : Str → Option Value} {base : Heap} {fa : Addr} {fd : FuncData} (F : Fun K "_law_rows" "_law_rows" s__law_rows fa fd) (hb : Binds K fd ["_law_box_here", "_law_wide", "_law_most"] []) (hm : mg "_law_rows" = some (.ref fa)) (z_list : mg "list" = none) (z_range : mg "range" = none) (z_sorted : mg "sorted" = none) (z_tuple : mg "tuple" = none) (c__law_take : CalOk P w K mg base 1 "_law_take" (spB K 2 .fz m_law_take_2)) : CalOk P w K mg base 2 "_law_rows" (spB K 3 .fz m_law_rows) :=
  cal_box (N := ["_law_box_here", "_law_wide", "_law_most", "_law_found", "_law_small", "_law_turn", "_law_column"]) F sc__law_rows hb hm rfl fun cdv A outer s H E hr b ts hl => match b, ts, hl with
    | p0, [p1, p2], _ => by
      have hu : (A.deeper (envOfC "_law_rows" (defScope s__law_rows) s.heap.objs.size fa cdv)).units + 66 < cLine := by
        have := hr.un
        omega
      rw [m_law_rows]
      exact (show BS _ E true .fz [0] [some p0, some p1, some p2, none, none, none, none] _ _ _ _ from (bs_seq (emb := λv1=>[some p0, some p1, some p2, some v1, none, none, none]) (own1 := [3, 0]) (ss_setF 3 sc__law_rows.nd (vf_p (ρe := hideE [0] [some p0, some p1, some p2, none, none, none, none]) (xqF xf_dict0) borF_hide)) (λv1=>by exact (bs_seq (emb := λv25=>[some v25.2, some p1, some p2, some v1, some v25.1, none, none]) (own1 := [3, 0]) (ss_set 4 sc__law_rows.nd (vp_j (emb := (fun (s : D) => [some s, some p1, some p2, some v1, none, none, none])) (m := λs=>((((PyData.int 2)<&>λx9=>(PyData.int 3)<&>λx10=>(PyData.int 10)<&>λx11=>R.ok (PyData.list [x9, x10, x11]))>>=λt8=>R.ok (t8, s))>>=λpq5=>(((PyData.int 3)<&>λt13=>R.ok (t13, pq5.2))>>=λpq12=>(m_law_take_2 pq12.2 [pq12.1])>>=λq14=>R.ok (q14.1, q14.2))>>=λq6=>(pyIx pq5.1 q6.1)>>=λz7=>R.ok (z7, q6.2))) p0 (jq (jp_ix id_ix (jp_of (ρe := fun (s : D) => hideE [3, 0] [some s, some p1, some p2, some v1, none, none, none]) (m := λs=>((PyData.int 2)<&>λx2=>(PyData.int 3)<&>λx3=>(PyData.int 10)<&>λx4=>R.ok (PyData.list [x2, x3, x4]))) (λs=>xq (ep_lst (ea_cons ep_int (ea_cons ep_int (ea_cons ep_int ea_nil))))) (λs=>bor_hide)) (jp_box (get := λs=>s) (put := fun s d => d) 0 ⟨λ_=>rfl, fun _ _ => rfl⟩ c__law_take hr (by omega) passN (ja_cons (jp_of (ρe := fun (s : D) => hideE [3, 0] [some s, some p1, some p2, some v1, none, none, none]) (m := λs=>(R.ok (PyData.int 3))) (λs=>xq ep_int) (λs=>bor_hide)) ja_nil)))))) (λv25=>by exact (bs_seq (emb := fun (j77 : (D × D)) => [some j77.1, some p1, some p2, some j77.2, some v25.1, none, none]) (own1 := [3, 0]) (ss_for (emb := fun (j43 : (D × D)) => [some j43.1, some p1, some p2, some j43.2, some v25.1, none, none]) (λb42=>(b42.2, v1)) own_cx rfl (vi_j (emb := (fun (s : D) => [some s, some p1, some p2, some v1, some v25.1, none, none])) (m := λs=>((((p2<&>λx31=>(PyData.int 1)<&>λx32=>pyAdd x31 x32)>>=λt30=>R.ok (t30, s))>>=λpq29=>(m_law_take_2 pq29.2 [pq29.1])>>=λq33=>R.ok (q33.1, q33.2))>>=λpq28=>(pyRange [pq28.1])>>=λz34=>R.ok (z34, pq28.2))) v25.2 (jqI (ji_range1 z_range (ja_cons (jp_box (get := λs=>s) (put := fun s d => d) 0 ⟨λ_=>rfl, fun _ _ => rfl⟩ c__law_take hr (by omega) passN (ja_cons (jp_of (ρe := fun (s : D) => hideE [3, 0] [some s, some p1, some p2, some v1, some v25.1, none, none]) (m := λs=>(p2<&>λx26=>(PyData.int 1)<&>λx27=>pyAdd x26 x27)) (λs=>xq (ep_bin od_add (ep_var 2) ep_int)) (λs=>bor_hide)) ja_nil)) ja_nil)))) (xg_name 5 sc__law_rows.nd) (fun j43 a44 => (show BS _ _ _ _ [3, 0] [some j43.1, some p1, some p2, some j43.2, some v25.1, some a44, none] _ _ _ _ from by exact (bs_seq (emb := λj48=>[some j48.1, some p1, some p2, some j48.2, some v25.1, some a44, none]) (own1 := [3, 0]) (ss_storeJ hu 3 (ts := λv45=>j43.2) (embi := fun v45 (s : D) => [some s, some p1, some p2, some j43.2, some v25.1, some a44, none]) (mi := fun v45 s => ((((p1<&>λx61=>pyRange [x61])>>=λi60=>R.ok (i60, s))>>=λpq56=>(mapJ (fun d58 s59 => ((λd=>R.ok d) d58)>>=λa51=>(((v25.1)<&>λt63=>R.ok (t63, s59))>>=λpq62=>(m_law_take_2 pq62.2 [pq62.1])>>=λq64=>R.ok (q64.1, q64.2))) pq56.1 pq56.2)>>=λr57=>R.ok (PyData.list r57.1, r57.2))>>=λpq55=>(pyTuple [pq55.1])>>=λz65=>R.ok (z65, pq55.2))) (fun v45 s r47 => (s, r47)) (λv45=>j43.1) (vp_p (ρe := hideE [3, 0] [some j43.1, some p1, some p2, some j43.2, some v25.1, some a44, none]) (xq ep_bool) bor_hide) (λv45=>jq (jp_callT cd_tuple z_tuple (ja_cons (jp_of_jf (jf_lc (jlcx_lc (ow := [("_law_column", 6)]) (me := fun a51 s => (((v25.1)<&>λt53=>R.ok (t53, s))>>=λpq52=>(m_law_take_2 pq52.2 [pq52.1])>>=λq54=>R.ok (q54.1, q54.2))) sc__law_rows.nd ⟨fun _ _ j hj => (match j, hj with | 0, hj => absurd (by decide) hj | 1, _ => rfl | 2, _ => rfl | 3, hj => absurd (by decide) hj | 4, _ => rfl | 5, _ => rfl | 6, _ => rfl | _ + 7, _ => rfl), fun _ _ => rfl⟩ (ji_of (m := λs=>(p1<&>λx50=>pyRange [x50])) (λs=>xqI (xi_range1 z_range (ea_cons (ep_var 1) ea_nil)))) (fun s H C cl fp => xg_name 6 sc__law_rows.nd) (fun s H C cl fp a51 => jq (show JP _ _ (fun (s : D) => [some s, some p1, some p2, some j43.2, some v25.1, some a44, some a51]) _ _ from (jp_box (get := λs=>s) (put := fun s d => d) 0 ⟨λ_=>rfl, fun _ _ => rfl⟩ c__law_take hr (by omega) passN (ja_cons (jp_of (ρe := fun (s : D) => hideE [3, 0] [some s, some p1, some p2, some j43.2, some v25.1, some a44, some a51]) (m := λs=>(R.ok v25.1)) (λs=>xq (ep_var 4)) (λs=>bor_hide)) ja_nil)))) (blkOk_by (N := ["_law_box_here", "_law_wide", "_law_most", "_law_found", "_law_small", "_law_turn", "_law_column"]) (sc := defScope s__law_rows) (by decide +kernel))))) ja_nil)))) (λj48=>by exact (bs_end [5] (a := (j48.1, j48.2)))))))) (λj77=>by exact (bs_freeze 3 (show BS _ _ _ _ [0] [some j77.1, some p1, some p2, some j77.2, some v25.1, none, none] _ _ _ _ from by exact (bs_ret (g := fun (v81 : D) => (v81, j77.1)) (bx := fun (v81 : D) => j77.1) (vp_p (ρe := hideE [0] [some j77.1, some p1, some p2, some j77.2, some v25.1, none, none]) (xq (ep_callT cd_tuple z_tuple (ea_cons (xp_of_xf (xf_callB (cf_sorted hu) z_sorted (ea_cons (xp_of_xf (xf_callT (cf_listD rfl) z_list (ea_cons (ep_var 3) ea_nil))) ea_nil))) ea_nil))) bor_hide) (hb := (fun _ _ => rfl))))))))))))
theorem k__law_tables {P : Program} {w : World} {K : PySem.W.Frag} {mg : Str → Option Value} {base : Heap} {fa : Addr} {fd : FuncData} (F : Fun K "_law_tables" "_law_tables" s__law_tables fa fd) (hb : Binds K fd ["_law_box_here", "_law_layout_here", "_law_most"] []) (hm : mg "_law_tables" = some (.ref fa)) (z_len : mg "len" = none) (z_range : mg "range" = none) (z_set : mg "set" = none) (z_sorted : mg "sorted" = none) (z_tuple : mg "tuple" = none) (c__law_take : CalOk P w K mg base 1 "_law_take" (spB K 2 .fz m_law_take_2)) (c__law_rows : CalOk P w K mg base 2 "_law_rows" (spB K 3 .fz m_law_rows)) : CalOk P w K mg base 3 "_law_tables" (spB K 3 .fz m_law_tables) :=
  cal_box (N := ["_law_box_here", "_law_layout_here", "_law_most", "_law_way", "_law_head_here", "_law_small", "_law_whole", "_law_turn", "_law_column", "_law_found", "_law_rows_here", "_law_row"]) F sc__law_tables hb hm rfl fun cdv A outer s H E hr b ts hl => match b, ts, hl with
    | p0, [p1, p2], _ => by
      have hu : (A.deeper (envOfC "_law_tables" (defScope s__law_tables) s.heap.objs.size fa cdv)).units + 66 < cLine := by
        have := hr.un
        omega
      rw [m_law_tables]
      exact (show BS _ E true .fz [0] [some p0, some p1, some p2, none, none, none, none, none, none, none, none, none] _ _ _ _ from (bs_seq (emb := λv7=>[some v7.2, some p1, some p2, some v7.1, none, none, none, none, none, none, none, none]) (own1 := [0]) (ss_set 3 sc__law_tables.nd (vp_j (emb := (fun (s : D) => [some s, some p1, some p2, none, none, none, none, none, none, none, none, none])) (m := λs=>(((PyData.int 3)<&>λt2=>R.ok (t2, s))>>=λpq1=>(m_law_take_2 pq1.2 [pq1.1])>>=λq3=>R.ok (q3.1, q3.2))) p0 (jq (jp_box (get := λs=>s) (put := fun s d => d) 0 ⟨λ_=>rfl, fun _ _ => rfl⟩ c__law_take hr (by omega) passN (ja_cons (jp_of (ρe := fun (s : D) => hideE [0] [some s, some p1, some p2, none, none, none, none, none, none, none, none, none]) (m := λs=>(R.ok (PyData.int 3))) (λs=>xq ep_int) (λs=>bor_hide)) ja_nil))))) (λv7=>by exact (bs_if (vb_p (ρe := hideE [0] [some v7.2, some p1, some p2, some v7.1, none, none, none, none, none, none, none, none]) (xqB (eb_cmp (od_eq hu) (ep_var 3) ep_int)) (.inl rfl)) (λb11=>(show BS _ _ _ _ [0] [some v7.2, some p1, some p2, some v7.1, none, none, none, none, none, none, none, none] _ _ _ _ from by exact (bs_ret (g := fun (v58 : (D × D)) => (v58.1, v58.2)) (bx := fun (v58 : (D × D)) => v58.2) (vp_j (emb := (fun (s : D) => [some s, some p1, some p2, some v7.1, none, none, none, none, none, none, none, none])) (m := λs=>(((((p1<&>λx32=>(PyData.int 1)<&>λx33=>pyIx x32 x33)>>=λx34=>items x34)>>=λi31=>R.ok (i31, s))>>=λpq27=>(mapJ (fun d29 s30 => ((λd=>R.ok d) d29)>>=λa18=>(((a18<&>λx38=>pyLen [x38])>>=λt37=>R.ok (t37, s30))>>=λpq35=>(p2<&>λt39=>R.ok (t39, pq35.2))>>=λpq36=>(m_law_rows pq36.2 [pq35.1, pq36.1])>>=λq40=>R.ok (q40.1, q40.2))) pq27.1 pq27.2)>>=λr28=>R.ok (PyData.list r28.1, r28.2))>>=λpq26=>(pyTuple [pq26.1])>>=λz41=>R.ok (z41, pq26.2))) v7.2 (jq (jp_callT cd_tuple z_tuple (ja_cons (jp_of_jf (jf_lc (jlcx_lc (ow := [("_law_head_here", 4)]) (me := fun a18 s => (((a18<&>λx23=>pyLen [x23])>>=λt22=>R.ok (t22, s))>>=λpq20=>(p2<&>λt24=>R.ok (t24, pq20.2))>>=λpq21=>(m_law_rows pq21.2 [pq20.1, pq21.1])>>=λq25=>R.ok (q25.1, q25.2))) sc__law_tables.nd ⟨fun _ _ j hj => (match j, hj with | 0, hj => absurd (by decide) hj | 1, _ => rfl | 2, _ => rfl | 3, _ => rfl | 4, _ => rfl | 5, _ => rfl | 6, _ => rfl | 7, _ => rfl | 8, _ => rfl | 9, _ => rfl | 10, _ => rfl | 11, _ => rfl | _ + 12, _ => rfl), fun _ _ => rfl⟩ (ji_of (m := λs=>((p1<&>λx15=>(PyData.int 1)<&>λx16=>pyIx x15 x16)>>=λx17=>items x17)) (λs=>xqI (xi_val (ep_ix id_ix (ep_var 1) ep_int)))) (fun s H C cl fp => xg_name 4 sc__law_tables.nd) (fun s H C cl fp a18 => jq (show JP _ _ (fun (s : D) => [some s, some p1, some p2, some v7.1, some a18, none, none, none, none, none, none, none]) _ _ from (jp_box (get := λs=>s) (put := fun s d => d) 0 ⟨λ_=>rfl, fun _ _ => rfl⟩ c__law_rows hr (by omega) passN (ja_cons (jp_of (ρe := fun (s : D) => hideE [0] [some s, some p1, some p2, some v7.1, some a18, none, none, none, none, none, none, none]) (m := λs=>(a18<&>λx19=>pyLen [x19])) (λs=>xq (ep_callB cd_len z_len (ea_cons (ep_var 4) ea_nil))) (λs=>bor_hide)) (ja_cons (jp_of (ρe := fun (s : D) => hideE [0] [some s, some p1, some p2, some v7.1, some a18, none, none, none, none, none, none, none]) (m := λs=>(R.ok p2)) (λs=>xq (ep_var 2)) (λs=>bor_hide)) ja_nil))))) (blkOk_by (N := ["_law_box_here", "_law_layout_here", "_law_most", "_law_way", "_law_head_here", "_law_small", "_law_whole", "_law_turn", "_law_column", "_law_found", "_law_rows_here", "_law_row"]) (sc := defScope s__law_tables) (by decide +kernel))))) ja_nil)))) (hb := (fun _ _ => rfl))))) (λb11=>(show BS _ _ _ _ [0] [some v7.2, some p1, some p2, some v7.1, none, none, none, none, none, none, none, none] _ _ _ _ from by exact (bs_seq (emb := λv73=>[some v73.2, some p1, some p2, some v7.1, none, some v73.1, none, none, none, none, none, none]) (own1 := [0]) (ss_set 5 sc__law_tables.nd (vp_j (emb := (fun (s : D) => [some s, some p1, some p2, some v7.1, none, none, none, none, none, none, none, none])) (m := λs=>(((PyData.int 2)<&>λt62=>R.ok (t62, s))>>=λpq59=>(((PyData.int 3)<&>λt64=>R.ok (t64, pq59.2))>>=λpq63=>(m_law_take_2 pq63.2 [pq63.1])>>=λq65=>R.ok (q65.1, q65.2))>>=λq60=>(pyAdd pq59.1 q60.1)>>=λz61=>R.ok (z61, q60.2))) v7.2 (jq (jp_bin od_add (jp_of (ρe := fun (s : D) => hideE [0] [some s, some p1, some p2, some v7.1, none, none, none, none, none, none, none, none]) (m := λs=>(R.ok (PyData.int 2))) (λs=>xq ep_int) (λs=>bor_hide)) (jp_box (get := λs=>s) (put := fun s d => d) 0 ⟨λ_=>rfl, fun _ _ => rfl⟩ c__law_take hr (by omega) passN (ja_cons (jp_of (ρe := fun (s : D) => hideE [0] [some s, some p1, some p2, some v7.1, none, none, none, none, none, none, none, none]) (m := λs=>(R.ok (PyData.int 3))) (λs=>xq ep_int) (λs=>bor_hide)) ja_nil)))))) (λv73=>by exact (bs_seq (emb := λv74=>[some v73.2, some p1, some p2, some v7.1, none, some v73.1, some v74, none, none, none, none, none]) (own1 := [6, 0]) (ss_setF 6 sc__law_tables.nd (vf_p (ρe := hideE [0] [some v73.2, some p1, some p2, some v7.1, none, some v73.1, none, none, none, none, none, none]) (xqF (xf_lst ea_nil)) borF_hide)) (λv74=>by exact (bs_seq (emb := fun (j132 : (D × D)) => [some j132.1, some p1, some p2, some v7.1, none, some v73.1, some j132.2, none, none, none, none, none]) (own1 := [6, 0]) (ss_for (emb := fun (j94 : (D × D)) => [some j94.1, some p1, some p2, some v7.1, none, some v73.1, some j94.2, none, none, none, none, none]) (λb93=>(b93.2, v74)) own_cx rfl (vi_j (emb := (fun (s : D) => [some s, some p1, some p2, some v7.1, none, some v73.1, some v74, none, none, none, none, none])) (m := λs=>((((PyData.int 1)<&>λt79=>R.ok (t79, s))>>=λpq76=>((p2<&>λt81=>R.ok (t81, pq76.2))>>=λpq80=>(m_law_take_2 pq80.2 [pq80.1])>>=λq82=>R.ok (q82.1, q82.2))>>=λq77=>(pyAdd pq76.1 q77.1)>>=λz78=>R.ok (z78, q77.2))>>=λpq75=>(pyRange [pq75.1])>>=λz83=>R.ok (z83, pq75.2))) v73.2 (jqI (ji_range1 z_range (ja_cons (jp_bin od_add (jp_of (ρe := fun (s : D) => hideE [6, 0] [some s, some p1, some p2, some v7.1, none, some v73.1, some v74, none, none, none, none, none]) (m := λs=>(R.ok (PyData.int 1))) (λs=>xq ep_int) (λs=>bor_hide)) (jp_box (get := λs=>s) (put := fun s d => d) 0 ⟨λ_=>rfl, fun _ _ => rfl⟩ c__law_take hr (by omega) passN (ja_cons (jp_of (ρe := fun (s : D) => hideE [6, 0] [some s, some p1, some p2, some v7.1, none, some v73.1, some v74, none, none, none, none, none]) (m := λs=>(R.ok p2)) (λs=>xq (ep_var 2)) (λs=>bor_hide)) ja_nil))) ja_nil)))) (xg_name 7 sc__law_tables.nd) (fun j94 a95 => (show BS _ _ _ _ [6, 0] [some j94.1, some p1, some p2, some v7.1, none, some v73.1, some j94.2, some a95, none, none, none, none] _ _ _ _ from by exact (bs_seq (emb := λj131=>[some j131.1, some p1, some p2, some v7.1, none, some v73.1, some j131.2, some a95, none, none, none, none]) (own1 := [6, 0]) (ss_meth 6 (ts := λv128=>j94.2) (fun v128 r130 => (v128.2, r130)) PySem.F.slot_list_append PySem.F.type_list_append mt_append meth_append app_l app_r app_ex (vp_j (emb := (fun (s : D) => [some s, some p1, some p2, some v7.1, none, some v73.1, some j94.2, some a95, none, none, none, none])) (m := λs=>((((p1<&>λx111=>(PyData.int 0)<&>λx112=>pyIx x111 x112)>>=λx113=>pyRange [x113])>>=λi110=>R.ok (i110, s))>>=λpq106=>(mapJ (fun d108 s109 => ((λd=>R.ok d) d108)>>=λa102=>(((v73.1)<&>λt115=>R.ok (t115, s109))>>=λpq114=>(m_law_take_2 pq114.2 [pq114.1])>>=λq116=>R.ok (q116.1, q116.2))) pq106.1 pq106.2)>>=λr107=>R.ok (PyData.list r107.1, r107.2))) j94.1 (jq (jp_of_jf (jf_lc (jlcx_lc (ow := [("_law_column", 8)]) (me := fun a102 s => (((v73.1)<&>λt104=>R.ok (t104, s))>>=λpq103=>(m_law_take_2 pq103.2 [pq103.1])>>=λq105=>R.ok (q105.1, q105.2))) sc__law_tables.nd ⟨fun _ _ j hj => (match j, hj with | 0, hj => absurd (by decide) hj | 1, _ => rfl | 2, _ => rfl | 3, _ => rfl | 4, _ => rfl | 5, _ => rfl | 6, hj => absurd (by decide) hj | 7, _ => rfl | 8, _ => rfl | 9, _ => rfl | 10, _ => rfl | 11, _ => rfl | _ + 12, _ => rfl), fun _ _ => rfl⟩ (ji_of (m := λs=>((p1<&>λx99=>(PyData.int 0)<&>λx100=>pyIx x99 x100)>>=λx101=>pyRange [x101])) (λs=>xqI (xi_range1 z_range (ea_cons (ep_ix id_ix (ep_var 1) ep_int) ea_nil)))) (fun s H C cl fp => xg_name 8 sc__law_tables.nd) (fun s H C cl fp a102 => jq (show JP _ _ (fun (s : D) => [some s, some p1, some p2, some v7.1, none, some v73.1, some j94.2, some a95, some a102, none, none, none]) _ _ from (jp_box (get := λs=>s) (put := fun s d => d) 0 ⟨λ_=>rfl, fun _ _ => rfl⟩ c__law_take hr (by omega) passN (ja_cons (jp_of (ρe := fun (s : D) => hideE [6, 0] [some s, some p1, some p2, some v7.1, none, some v73.1, some j94.2, some a95, some a102, none, none, none]) (m := λs=>(R.ok v73.1)) (λs=>xq (ep_var 5)) (λs=>bor_hide)) ja_nil)))) (blkOk_by (N := ["_law_box_here", "_law_layout_here", "_law_most", "_law_way", "_law_head_here", "_law_small", "_law_whole", "_law_turn", "_law_column", "_law_found", "_law_rows_here", "_law_row"]) (sc := defScope s__law_tables) (by decide +kernel)))))))) (λj131=>by exact (bs_end [7] (a := (j131.1, j131.2)))))))) (λj132=>by exact (bs_freeze 6 (show BS _ _ _ _ [0] [some j132.1, some p1, some p2, some v7.1, none, some v73.1, some j132.2, none, none, none, none, none] _ _ _ _ from by exact (bs_seq (emb := λv133=>[some j132.1, some p1, some p2, some v7.1, none, some v73.1, some j132.2, none, none, some v133, none, none]) (own1 := [9, 0]) (ss_setF 9 sc__law_tables.nd (vf_p (ρe := hideE [0] [some j132.1, some p1, some p2, some v7.1, none, some v73.1, some j132.2, none, none, none, none, none]) (xqF (xf_lst ea_nil)) borF_hide)) (λv133=>by exact (bs_seq (emb := fun (j229 : (D × D)) => [some j229.1, some p1, some p2, some v7.1, none, some v73.1, some j132.2, none, none, some j229.2, none, none]) (own1 := [9, 0]) (ss_for (emb := fun (j138 : (D × D)) => [some j138.1, some p1, some p2, some v7.1, none, some v73.1, some j132.2, none, none, some j138.2, none, none]) (λb137=>(j132.1, v133)) own_cx rfl (vi_p (xqI (xi_val (ep_ix id_ix (ep_var 1) ep_int)))) (xg_name 4 sc__law_tables.nd) (fun j138 a139 => (show BS _ _ _ _ [9, 0] [some j138.1, some p1, some p2, some v7.1, some a139, some v73.1, some j132.2, none, none, some j138.2, none, none] _ _ _ _ from by exact (bs_seq (emb := λv153=>[some j138.1, some p1, some p2, some v7.1, some a139, some v73.1, some j132.2, none, none, some j138.2, some v153, none]) (own1 := [10, 9, 0]) (ss_setLcF 10 (lv_fp (ρe := hideE [9, 0] [some j138.1, some p1, some p2, some v7.1, some a139, some v73.1, some j132.2, none, none, some j138.2, none, none]) (lq (lcx_lc (own := [("_law_row", 11)]) (me := λa141=>(((a139<&>λx142=>items x142)>>=λis146=>(mapR (λd148=>((λd=>R.ok d) d148)>>=λa143=>(a141<&>λx144=>a143<&>λx145=>pyIx x144 x145)) is146)>>=λrs147=>R.ok (PyData.list rs147))>>=λx149=>pyTuple [x149])) sc__law_tables.nd (xi_val (ep_var 6)) (fun s H C cl fp => xg_name 11 sc__law_tables.nd) (fun s H C cl fp a141 => xq (ep_callT cd_tuple z_tuple (ea_cons (xp_of_xf (xf_lc (lcx_lc (own := [("_law_column", 8)]) (me := λa143=>(a141<&>λx144=>a143<&>λx145=>pyIx x144 x145)) sc__law_tables.nd (xi_val (ep_var 4)) (fun s H C cl fp => xg_name 8 sc__law_tables.nd) (fun s H C cl fp a143 => xq (ep_ix id_ix (ep_var 11) (ep_var 8))) (blkOk_by (by rfl))))) ea_nil))) (blkOk_by (N := ["_law_box_here", "_law_layout_here", "_law_most", "_law_way", "_law_head_here", "_law_small", "_law_whole", "_law_turn", "_law_column", "_law_found", "_law_rows_here", "_law_row"]) (sc := defScope s__law_tables) (by decide +kernel)))) borF_hide)) (λv153=>by exact (bs_seq (emb := fun (j222 : (D × D)) => [some j222.1, some p1, some p2, some v7.1, some a139, some v73.1, some j132.2, none, none, some j138.2, some j222.2, none]) (own1 := [9, 0]) (ss_if (vb_p (ρe := hideE [10, 9, 0] [some j138.1, some p1, some p2, some v7.1, some a139, some v73.1, some j132.2, none, none, some j138.2, some v153, none]) (xqB (eb_cmp (od_eq hu) (ep_var 3) ep_int)) (.inl rfl)) (λb157=>(show BS _ _ _ _ [10, 9, 0] [some j138.1, some p1, some p2, some v7.1, some a139, some v73.1, some j132.2, none, none, some j138.2, some v153, none] _ _ _ _ from by exact (bs_seq (emb := λj221=>[some j221.1, some p1, some p2, some v7.1, some a139, some v73.1, some j132.2, none, none, some j138.2, some j221.2, none]) (own1 := [10, 9, 0]) (ss_meth 10 (ts := λv218=>v153) (fun v218 r220 => (v218.2, r220)) PySem.F.slot_list_append PySem.F.type_list_append mt_append meth_append app_l app_r app_ex (vp_j (emb := (fun (s : D) => [some s, some p1, some p2, some v7.1, some a139, some v73.1, some j132.2, none, none, some j138.2, some v153, none])) (m := λs=>((((a139<&>λx202=>items x202)>>=λi201=>R.ok (i201, s))>>=λpq197=>(mapJ (fun d199 s200 => ((λd=>R.ok d) d199)>>=λa192=>(((v73.1)<&>λt204=>R.ok (t204, s200))>>=λpq203=>(m_law_take_2 pq203.2 [pq203.1])>>=λq205=>R.ok (q205.1, q205.2))) pq197.1 pq197.2)>>=λr198=>R.ok (PyData.list r198.1, r198.2))>>=λpq196=>(pyTuple [pq196.1])>>=λz206=>R.ok (z206, pq196.2))) j138.1 (jq (jp_callT cd_tuple z_tuple (ja_cons (jp_of_jf (jf_lc (jlcx_lc (ow := [("_law_column", 8)]) (me := fun a192 s => (((v73.1)<&>λt194=>R.ok (t194, s))>>=λpq193=>(m_law_take_2 pq193.2 [pq193.1])>>=λq195=>R.ok (q195.1, q195.2))) sc__law_tables.nd ⟨fun _ _ j hj => (match j, hj with | 0, hj => absurd (by decide) hj | 1, _ => rfl | 2, _ => rfl | 3, _ => rfl | 4, _ => rfl | 5, _ => rfl | 6, _ => rfl | 7, _ => rfl | 8, _ => rfl | 9, hj => absurd (by decide) hj | 10, hj => absurd (by decide) hj | 11, _ => rfl | _ + 12, _ => rfl), fun _ _ => rfl⟩ (ji_of (m := λs=>(a139<&>λx191=>items x191)) (λs=>xqI (xi_val (ep_var 4)))) (fun s H C cl fp => xg_name 8 sc__law_tables.nd) (fun s H C cl fp a192 => jq (show JP _ _ (fun (s : D) => [some s, some p1, some p2, some v7.1, some a139, some v73.1, some j132.2, none, some a192, some j138.2, some v153, none]) _ _ from (jp_box (get := λs=>s) (put := fun s d => d) 0 ⟨λ_=>rfl, fun _ _ => rfl⟩ c__law_take hr (by omega) passN (ja_cons (jp_of (ρe := fun (s : D) => hideE [10, 9, 0] [some s, some p1, some p2, some v7.1, some a139, some v73.1, some j132.2, none, some a192, some j138.2, some v153, none]) (m := λs=>(R.ok v73.1)) (λs=>xq (ep_var 5)) (λs=>bor_hide)) ja_nil)))) (blkOk_by (N := ["_law_box_here", "_law_layout_here", "_law_most", "_law_way", "_law_head_here", "_law_small", "_law_whole", "_law_turn", "_law_column", "_law_found", "_law_rows_here", "_law_row"]) (sc := defScope s__law_tables) (by decide +kernel))))) ja_nil))))) (λj221=>by exact (bs_freeze 10 (show BS _ _ _ _ [9, 0] [some j221.1, some p1, some p2, some v7.1, some a139, some v73.1, some j132.2, none, none, some j138.2, some j221.2, none] _ _ _ _ from by exact (bs_end [] (a := (j221.1, j221.2))))))))) (λb157=>(show BS _ _ _ _ [10, 9, 0] [some j138.1, some p1, some p2, some v7.1, some a139, some v73.1, some j132.2, none, none, some j138.2, some v153, none] _ _ _ _ from by exact (bs_freeze 10 (show BS _ _ _ _ [9, 0] [some j138.1, some p1, some p2, some v7.1, some a139, some v73.1, some j132.2, none, none, some j138.2, some v153, none] _ _ _ _ from by exact (bs_end [] (a := (j138.1, v153)))))))) (λj222=>by exact (bs_seq (emb := λj228=>[some j222.1, some p1, some p2, some v7.1, some a139, some v73.1, some j132.2, none, none, some j228, some j222.2, none]) (own1 := [9, 0]) (ss_meth 9 (ts := λv225=>j138.2) (fun v225 r227 => r227) PySem.F.slot_list_append PySem.F.type_list_append mt_append meth_append app_l app_r app_ex (vp_p (ρe := hideE [9, 0] [some j222.1, some p1, some p2, some v7.1, some a139, some v73.1, some j132.2, none, none, some j138.2, some j222.2, none]) (xq (ep_callT cd_tuple z_tuple (ea_cons (xp_of_xf (xf_sortedSet hu z_sorted z_set (ep_var 10))) ea_nil))) bor_hide)) (λj228=>by exact (bs_end [4, 10] (a := (j222.1, j228)))))))))))) (λj229=>by exact (bs_freeze 9 (show BS _ _ _ _ [0] [some j229.1, some p1, some p2, some v7.1, none, some v73.1, some j132.2, none, none, some j229.2, none, none] _ _ _ _ from by exact (bs_ret (g := fun (v231 : D) => (v231, j229.1)) (bx := fun (v231 : D) => j229.1) (vp_p (ρe := hideE [0] [some j229.1, some p1, some p2, some v7.1, none, some v73.1, some j132.2, none, none, some j229.2, none, none]) (xq (ep_callT cd_tuple z_tuple (ea_cons (ep_var 9) ea_nil))) bor_hide) (hb := (fun _ _ => rfl))))))))))))))))))) (by intro _ _ _ _ h; exact nomatch h)))))
theorem k__law_text {P : Program} {w : World} {K : PySem.W.Frag} {mg : Str → Option Value} {base : Heap} {fa : Addr} {fd : FuncData} (F : Fun K "_law_text" "_law_text" s__law_text fa fd) (hb : Binds K fd ["_law_layout_here"] []) (hm : mg "_law_text" = some (.ref fa)) (z_str : mg "str" = none) : CalOk P w K mg base 1 "_law_text" (spP K mg 1 .fz m_law_text) :=
  cal_fn (N := ["_law_layout_here", "_law_head_here", "_law_column"]) F sc__law_text hb hm rfl fun cdv A outer s H E hr ts hl => match ts, hl with
    | [p0], _ => by
      have hu : (A.deeper (envOfC "_law_text" (defScope s__law_text) s.heap.objs.size fa cdv)).units + 66 < cLine := by
        have := hr.un
        omega
      rw [m_law_text]
      exact (show BS _ E false .fz [] [some p0, none, none] _ _ _ _ from (bs_ret (g := fun (v25 : D) => v25) (bx := fun (v25 : D) => PyData.none) (vp_p (ρe := [some p0, none, none]) (xq (xp_join ep_str (ep_bin od_add (ep_lst (ea_cons (ep_callT cd_str z_str (ea_cons (ep_ix id_ix (ep_var 0) ep_int) ea_nil)) (ea_cons ep_str ea_nil))) (xp_of_xf (xf_lc (lcx_lc (own := [("_law_head_here", 1)]) (me := λa9=>((PyData.str ",")<&>λx16=>(strOk x16)>>=λ_=>((a9<&>λx10=>items x10)>>=λis13=>(mapR (λd15=>((λd=>R.ok d) d15)>>=λa11=>(a11<&>λx12=>pyStr [x12])) is13)>>=λrs14=>R.ok (PyData.list rs14))>>=λx17=>pyJoin x16 x17)) sc__law_text.nd (xi_val (ep_ix id_ix (ep_var 0) ep_int)) (fun s H C cl fp => xg_name 1 sc__law_text.nd) (fun s H C cl fp a9 => xq (xp_join ep_str (xp_of_xf (xf_lc (lcx_lc (own := [("_law_column", 2)]) (me := λa11=>(a11<&>λx12=>pyStr [x12])) sc__law_text.nd (xi_val (ep_var 1)) (fun s H C cl fp => xg_name 2 sc__law_text.nd) (fun s H C cl fp a11 => xq (ep_callT cd_str z_str (ea_cons (ep_var 2) ea_nil))) (blkOk_by (by rfl))))))) (blkOk_by (N := ["_law_layout_here", "_law_head_here", "_law_column"]) (sc := defScope s__law_text) (by decide +kernel))))))))) (hb := (fun _ z => nomatch z))))
theorem k__law_table_text {P : Program} {w : World} {K : PySem.W.Frag} {mg : Str → Option Value} {base : Heap} {fa : Addr} {fd : FuncData} (F : Fun K "_law_table_text" "_law_table_text" s__law_table_text fa fd) (hb : Binds K fd ["_law_table"] []) (hm : mg "_law_table_text" = some (.ref fa)) (z_str : mg "str" = none) : CalOk P w K mg base 1 "_law_table_text" (spP K mg 1 .fz m_law_table_text) :=
  cal_fn (N := ["_law_table", "_law_row", "_law_number"]) F sc__law_table_text hb hm rfl fun cdv A outer s H E hr ts hl => match ts, hl with
    | [p0], _ => by
      have hu : (A.deeper (envOfC "_law_table_text" (defScope s__law_table_text) s.heap.objs.size fa cdv)).units + 66 < cLine := by
        have := hr.un
        omega
      rw [m_law_table_text]
      exact (show BS _ E false .fz [] [some p0, none, none] _ _ _ _ from (bs_ret (g := fun (v18 : D) => v18) (bx := fun (v18 : D) => PyData.none) (vp_p (ρe := [some p0, none, none]) (xq (ep_or (xp_join ep_str (xp_of_xf (xf_lc (lcx_lc (own := [("_law_row", 1)]) (me := λa2=>((PyData.str "")<&>λx9=>(strOk x9)>>=λ_=>((a2<&>λx3=>items x3)>>=λis6=>(mapR (λd8=>((λd=>R.ok d) d8)>>=λa4=>(a4<&>λx5=>pyStr [x5])) is6)>>=λrs7=>R.ok (PyData.list rs7))>>=λx10=>pyJoin x9 x10)) sc__law_table_text.nd (xi_val (ep_var 0)) (fun s H C cl fp => xg_name 1 sc__law_table_text.nd) (fun s H C cl fp a2 => xq (xp_join ep_str (xp_of_xf (xf_lc (lcx_lc (own := [("_law_number", 2)]) (me := λa4=>(a4<&>λx5=>pyStr [x5])) sc__law_table_text.nd (xi_val (ep_var 1)) (fun s H C cl fp => xg_name 2 sc__law_table_text.nd) (fun s H C cl fp a4 => xq (ep_callT cd_str z_str (ea_cons (ep_var 2) ea_nil))) (blkOk_by (by rfl))))))) (blkOk_by (N := ["_law_table", "_law_row", "_law_number"]) (sc := defScope s__law_table_text) (by decide +kernel)))))) (ep_one ep_str)))) (hb := (fun _ z => nomatch z))))
theorem k_law {P : Program} {w : World} {K : PySem.W.Frag} {mg : Str → Option Value} {base : Heap} {fa : Addr} {fd : FuncData} (F : Fun K "law" "law" s_law fa fd) (hb : Binds K fd ["_law_script"] []) (hm : mg "law" = some (.ref fa)) (z_isinstance : mg "isinstance" = none) (z_len : mg "len" = none) (z_max : mg "max" = none) (z_min : mg "min" = none) (z_range : mg "range" = none) (z_str : mg "str" = none) (z_tuple : mg "tuple" = none) (c__law_box : CalOk P w K mg base 2 "_law_box" (spP K mg 2 .nw m_law_box_2)) (c__law_layout : CalOk P w K mg base 4 "_law_layout" (spB K 3 .fz m_law_layout_2)) (c_layout_text : CalOk P w K mg base 1 "layout_text" (spP K mg 1 .fz m_layout_text)) (c__law_tables : CalOk P w K mg base 3 "_law_tables" (spB K 3 .fz m_law_tables)) (c_table_text : CalOk P w K mg base 2 "table_text" (spP K mg 1 .fz m_table_text)) (c_table_read : CalOk P w K mg base 5 "table_read" (spP K mg 1 .fz m_table_read)) (c__law_text : CalOk P w K mg base 1 "_law_text" (spP K mg 1 .fz m_law_text)) (c_layout_read : CalOk P w K mg base 5 "layout_read" (spP K mg 1 .fz m_layout_read)) (c__law_table_text : CalOk P w K mg base 1 "_law_table_text" (spP K mg 1 .fz m_law_table_text)) : FnOk P w K mg base (L2N.CX P w) 6 fa fd ["_law_script"] (spP K mg 1 .fz m_law_k91) :=
  fn_fn (N := ["_law_script", "_law_k", "_law_box_here", "_law_layout_here", "_law_text_here", "_law_table", "_law_rows_here", "_law_number"]) F sc_law rfl fun cdv A outer s H E hr ts hl => match ts, hl with
    | [p0], _ => by
      have hu : (A.deeper (envOfC "law" (defScope s_law) s.heap.objs.size fa cdv)).units + 66 < cLine := by
        have := hr.un
        omega
      rw [m_law_k91]
      exact (show BS _ E false .fz [] [some p0, none, none, none, none, none, none, none] _ _ _ _ from (bs_seqN (emb := fun (j74 : Unit) => [some p0, none, none, none, none, none, none, none]) (own1 := []) (fun t b => t) (ss_forO (emb := fun (j8 : Unit) => [some p0, none, none, none, none, none, none, none]) (λb7=>()) own_cx rfl (vi_p (xqI (xi_range1 z_range (ea_cons (ep_callB (cd_max hu rfl) z_max (ea_cons ep_int (ea_cons (ep_callB (cd_min hu rfl) z_min (ea_cons (ep_callB cd_len z_len (ea_cons (ep_var 0) ea_nil)) (ea_cons ep_int ea_nil))) ea_nil))) ea_nil)))) (xg_name 1 sc_law.nd) (fun j8 a9 => (show BS _ _ _ _ [] [some p0, some a9, none, none, none, none, none, none] _ _ _ _ from by exact (bs_seq (emb := λv12=>[some p0, some a9, some v12, none, none, none, none, none]) (own1 := [2]) (ss_setF 2 sc_law.nd (vf_p (ρe := [some p0, some a9, none, none, none, none, none, none]) (xqF (xf_call c__law_box hr (by omega) pass_cx (ea_cons (ep_var 0) (ea_cons (ep_var 1) ea_nil)))))) (λv12=>by exact (bs_seq (emb := λv23=>[some p0, some a9, some v23.2, some v23.1, none, none, none, none]) (own1 := [2]) (ss_set 3 sc_law.nd (vp_j (emb := (fun (s : D) => [some p0, some a9, some s, none, none, none, none, none])) (m := λs=>(((PyData.int 7)<&>λt15=>R.ok (t15, s))>>=λpq13=>((PyData.int 6)<&>λt16=>R.ok (t16, pq13.2))>>=λpq14=>(m_law_layout_2 pq14.2 [pq13.1, pq14.1])>>=λq17=>R.ok (q17.1, q17.2))) v12 (jq (jp_box (get := λs=>s) (put := fun s d => d) 2 ⟨λ_=>rfl, fun _ _ => rfl⟩ c__law_layout hr (by omega) passN (ja_cons (jp_of (ρe := fun (s : D) => hideE [2] [some p0, some a9, some s, none, none, none, none, none]) (m := λs=>(R.ok (PyData.int 7))) (λs=>xq ep_int) (λs=>bor_hide)) (ja_cons (jp_of (ρe := fun (s : D) => hideE [2] [some p0, some a9, some s, none, none, none, none, none]) (m := λs=>(R.ok (PyData.int 6))) (λs=>xq ep_int) (λs=>bor_hide)) ja_nil)))))) (λv23=>by exact (bs_seq (emb := λv25=>[some p0, some a9, some v23.2, some v23.1, some v25, none, none, none]) (own1 := [2]) (ss_set 4 sc_law.nd (vp_p (ρe := hideE [2] [some p0, some a9, some v23.2, some v23.1, none, none, none, none]) (xq (xp_call c_layout_text hr (by omega) pass_cx (ea_cons (ep_var 3) ea_nil))) bor_hide)) (λv25=>by exact (bs_if (vb_p (ρe := hideE [2] [some p0, some a9, some v23.2, some v23.1, some v25, none, none, none]) (xqB (eb_w (ew_or (eb_not (eb_val (ep_isi (n := "str") z_isinstance z_str (ep_var 4)))) (ew_or (eb_cmp (od_ne hu) (ep_var 4) (xp_call c__law_text hr (by omega) pass_cx (ea_cons (ep_var 3) ea_nil))) (ew_or1 (eb_cmp (od_ne hu) (xp_call c_layout_read hr (by omega) pass_cx (ea_cons (ep_var 4) ea_nil)) (ep_var 3))))))) (.inl rfl)) (λb38=>(show BS _ _ _ _ [2] [some p0, some a9, some v23.2, some v23.1, some v25, none, none, none] _ _ _ _ from by exact (bs_freeze 2 (show BS _ _ _ _ [] [some p0, some a9, some v23.2, some v23.1, some v25, none, none, none] _ _ _ _ from by exact (bs_ret (g := fun (v39 : D) => (Oc.rt v39 PyData.none)) (bx := fun (v39 : D) => PyData.none) (vp_p (ρe := [some p0, some a9, some v23.2, some v23.1, some v25, none, none, none]) (xq ep_bool)) (hb := (fun _ z => nomatch z))))))) (λb38=>(show BS _ _ _ _ [2] [some p0, some a9, some v23.2, some v23.1, some v25, none, none, none] _ _ _ _ from by exact (bs_less [4] (show BS _ _ _ _ [2] [some p0, some a9, some v23.2, some v23.1, none, none, none, none] _ _ _ _ from by exact (bs_seqP (emb := fun (j73 : (D)) => [some p0, some a9, some j73, some v23.1, none, none, none, none]) (own1 := [2]) (fun t b => (Oc.rt t b)) (ss_forO (emb := fun (j55 : (D)) => [some p0, some a9, some j55, some v23.1, none, none, none, none]) (λb54=>b54.2) own_cx rfl (vi_j (emb := (fun (s : D) => [some p0, some a9, some s, some v23.1, none, none, none, none])) (m := λs=>((((v23.1)<&>λt44=>R.ok (t44, s))>>=λpq42=>((PyData.int 8)<&>λt45=>R.ok (t45, pq42.2))>>=λpq43=>(m_law_tables pq43.2 [pq42.1, pq43.1])>>=λq46=>R.ok (q46.1, q46.2))>>=λpq40=>(items pq40.1)>>=λi41=>R.ok (i41, pq40.2))) v23.2 (jqI (ji_val (jp_box (get := λs=>s) (put := fun s d => d) 2 ⟨λ_=>rfl, fun _ _ => rfl⟩ c__law_tables hr (by omega) passN (ja_cons (jp_of (ρe := fun (s : D) => hideE [2] [some p0, some a9, some s, some v23.1, none, none, none, none]) (m := λs=>(R.ok v23.1)) (λs=>xq (ep_var 3)) (λs=>bor_hide)) (ja_cons (jp_of (ρe := fun (s : D) => hideE [2] [some p0, some a9, some s, some v23.1, none, none, none, none]) (m := λs=>(R.ok (PyData.int 8))) (λs=>xq ep_int) (λs=>bor_hide)) ja_nil)))))) (xg_name 5 sc_law.nd) (fun j55 a56 => (show BS _ _ _ _ [2] [some p0, some a9, some j55, some v23.1, none, some a56, none, none] _ _ _ _ from by exact (bs_seq (emb := λv58=>[some p0, some a9, some j55, some v23.1, some v58, some a56, none, none]) (own1 := [2]) (ss_set 4 sc_law.nd (vp_p (ρe := hideE [2] [some p0, some a9, some j55, some v23.1, none, some a56, none, none]) (xq (xp_call c_table_text hr (by omega) pass_cx (ea_cons (ep_var 5) ea_nil))) bor_hide)) (λv58=>by exact (bs_if (vb_p (ρe := hideE [2] [some p0, some a9, some j55, some v23.1, some v58, some a56, none, none]) (xqB (eb_w (ew_or (eb_not (eb_val (ep_isi (n := "str") z_isinstance z_str (ep_var 4)))) (ew_or (eb_cmp (od_ne hu) (ep_var 4) (xp_call c__law_table_text hr (by omega) pass_cx (ea_cons (ep_var 5) ea_nil))) (ew_or1 (eb_cmp (od_ne hu) (xp_call c_table_read hr (by omega) pass_cx (ea_cons (ep_var 4) ea_nil)) (ep_var 5))))))) (.inl rfl)) (λb71=>(show BS _ _ _ _ [2] [some p0, some a9, some j55, some v23.1, some v58, some a56, none, none] _ _ _ _ from by exact (bs_freeze 2 (show BS _ _ _ _ [] [some p0, some a9, some j55, some v23.1, some v58, some a56, none, none] _ _ _ _ from by exact (bs_ret (g := fun (v72 : D) => (Oc.rt v72 PyData.none)) (bx := fun (v72 : D) => PyData.none) (vp_p (ρe := [some p0, some a9, some j55, some v23.1, some v58, some a56, none, none]) (xq ep_bool)) (hb := (fun _ z => nomatch z))))))) (λb71=>(show BS _ _ _ _ [2] [some p0, some a9, some j55, some v23.1, some v58, some a56, none, none] _ _ _ _ from by exact (bs_end [4, 5] (a := (Oc.nx j55))))) (λ_=>by repeat' (first | exact nev_rt | exact nev_bk | exact nev_ex | refine nev_then λ_=>?_ | refine nev_bind λ_=>?_ | refine nev_ite ?_ ?_)))))))) (λj73=>by exact (bs_freeze 2 (show BS _ _ _ _ [] [some p0, some a9, some j73, some v23.1, none, none, none, none] _ _ _ _ from by exact (bs_end [1, 2, 3] (a := (Oc.nx ()))))))))))) (λ_=>by repeat' (first | exact nev_rt | exact nev_bk | exact nev_ex | refine nev_then λ_=>?_ | refine nev_bind λ_=>?_ | refine nev_ite ?_ ?_)))))))))))) (λj74=>by exact (bs_seq (emb := λv92=>[some p0, none, none, none, none, none, some v92, none]) (own1 := []) (ss_set 6 sc_law.nd (vp_p (ρe := [some p0, none, none, none, none, none, none, none]) (xq (ep_callT cd_tuple z_tuple (ea_cons (xp_of_xf (xf_lc (lcx_lc (own := [("_law_number", 7)]) (me := λa76=>((a76<&>λx77=>(PyData.int 100)<&>λx78=>pyDiv x77 x78)>>=λx79=>((a76<&>λx80=>(PyData.int 10)<&>λx81=>pyDiv x80 x81)>>=λx82=>(PyData.int 10)<&>λx83=>pyMod x82 x83)>>=λx84=>(a76<&>λx85=>(PyData.int 10)<&>λx86=>pyMod x85 x86)>>=λx87=>R.ok (PyData.tuple [x79, x84, x87]))) sc_law.nd (xi_range1 z_range (ea_cons ep_int ea_nil)) (fun s H C cl fp => xg_name 7 sc_law.nd) (fun s H C cl fp a76 => xq (ep_tup (ea_cons (ep_bin od_div (ep_var 7) ep_int) (ea_cons (ep_bin od_mod (ep_bin od_div (ep_var 7) ep_int) ep_int) (ea_cons (ep_bin od_mod (ep_var 7) ep_int) ea_nil))))) (blkOk_by (N := ["_law_script", "_law_k", "_law_box_here", "_law_layout_here", "_law_text_here", "_law_table", "_law_rows_here", "_law_number"]) (sc := defScope s_law) (by decide +kernel))))) ea_nil))))) (λv92=>by exact (bs_ret (g := fun (v107 : D) => v107) (bx := fun (v107 : D) => PyData.none) (vp_p (ρe := [some p0, none, none, none, none, none, some v92, none]) (xq (ep_and (ep_cmp (od_eq hu) (xp_call c_table_read hr (by omega) pass_cx (ea_cons (xp_call c__law_table_text hr (by omega) pass_cx (ea_cons (ep_var 6) ea_nil)) ea_nil)) (ep_var 6)) (ep_and (ep_cmp (od_eq hu) (xp_call c_table_text hr (by omega) pass_cx (ea_cons (ep_tup ea_nil) ea_nil)) ep_str) (ep_one (ep_cmp (od_eq hu) (xp_call c_table_read hr (by omega) pass_cx (ea_cons ep_str ea_nil)) (ep_tup ea_nil))))))) (hb := (fun _ z => nomatch z))))))))
end LK91
set_option maxRecDepth 512
namespace TP
open PySem PySem.Spec PyProof.Rows L2 TL
def Sat {α : Type} (m : R α) (P : α → Prop) : Prop := ∃ a, m = .ok a ∧ P a
section
variable {α β : Type}
theorem Sat.ok {a : α} {P : α → Prop} (h : P a) : Sat (.ok a) P := ⟨a, rfl, h⟩
theorem Sat.bind {m : R α} {f : α → R β} {P : α → Prop} {Q : β → Prop} (h : Sat m P) (k : ∀ a, P a → Sat (f a) Q) : Sat (m.bind f) Q := by
  obtain ⟨a, e, p⟩ := h
  rw [e]
  exact k a p
theorem Sat.mono {m : R α} {P Q : α → Prop} (h : Sat m P) (k : ∀ a, P a → Q a) : Sat m Q := by
  obtain ⟨a, e, p⟩ := h
  exact ⟨a, e, k a p⟩
theorem Sat.nox {m : R α} {P : α → Prop} (h : Sat m P) : Sat (TL.nox m) P := by
  obtain ⟨a, e, p⟩ := h
  rw [e]
  exact ⟨a, rfl, p⟩
theorem Sat.eq {m : R α} {a : α} (h : Sat m fun x => x = a) : m = .ok a := by
  obtain ⟨_, e, rfl⟩ := h
  exact e
theorem Sat.ite {c : Prop} [Decidable c] {m n : R α} {P : α → Prop} (h1 : c → Sat m P) (h2 : ¬ c → Sat n P) : Sat (if c then m else n) P := by
  by_cases hc : c
  · rw [if_pos hc]; exact h1 hc
  · rw [if_neg hc]; exact h2 hc
end
theorem okb {α β : Type} (a : α) (f : α → R β) : R.bind (.ok a) f = f a := id (Eq.refl _)
def fitk (k : Nat) (d : D) : Prop := flat d = true ∧ d.depth ≤ k
theorem fitk.fit {k : Nat} {d : D} (h : fitk k d) (hk : k ≤ 60) : TL.fit d = true := by
  unfold TL.fit
  rw [Bool.and_eq_true]
  exact ⟨h.1, decide_eq_true (Nat.le_trans h.2 hk)⟩
theorem fitk.mono {k l : Nat} {d : D} (h : fitk k d) (hk : k ≤ l) : fitk l d := ⟨h.1, Nat.le_trans h.2 hk⟩
theorem flatAll_of : ∀ {xs : List D}, (∀ x ∈ xs, flat x = true) → flatAll xs = true
  | [], _ => rfl
  | x :: xs, h => by
    rw [flatAll, h x List.mem_cons_self, flatAll_of fun y hy => h y (List.mem_cons_of_mem _ hy)]
    rfl
theorem depthAll_of {k : Nat} : ∀ {xs : List D}, (∀ x ∈ xs, x.depth ≤ k) → PyData.depthAll xs ≤ k
  | [], _ => Nat.zero_le _
  | x :: xs, h => by
    rw [PyData.depthAll]
    exact Nat.max_le.mpr ⟨h x List.mem_cons_self, depthAll_of fun y hy => h y (List.mem_cons_of_mem _ hy)⟩
theorem fitk_int (i : Int) : fitk 0 (.int i) := ⟨rfl, Nat.le_refl _⟩
theorem fitk_str (x : Str) : fitk 0 (.str x) := ⟨rfl, Nat.le_refl _⟩
theorem fitk_list {k : Nat} {xs : List D} (h : ∀ x ∈ xs, fitk k x) : fitk (k + 1) (.list xs) := ⟨flatAll_of fun x hx => (h x hx).1, by
  rw [PyData.depth]
  exact Nat.succ_le_succ (depthAll_of fun x hx => (h x hx).2)⟩
theorem fitk_tuple {k : Nat} {xs : List D} (h : ∀ x ∈ xs, fitk k x) : fitk (k + 1) (.tuple xs) := ⟨flatAll_of fun x hx => (h x hx).1, by
  rw [PyData.depth]
  exact Nat.succ_le_succ (depthAll_of fun x hx => (h x hx).2)⟩
mutual
theorem eqv_refl : ∀ {d : D}, flat d = true → PyData.eqv d d = true
  | .none, _ => rfl
  | .bool b, _ => by cases b <;> rfl
  | .int i, _ => by rw [PyData.eqv]; exact beq_self_eq_true i
  | .str x, _ => by rw [PyData.eqv]; exact beq_self_eq_true x
  | .list xs, h => by rw [PyData.eqv]; exact eqvAll_refl h
  | .tuple xs, h => by rw [PyData.eqv]; exact eqvAll_refl h
  | .dict _, h => nomatch h
theorem eqvAll_refl : ∀ {ds : List D}, flatAll ds = true → PyData.eqvAll ds ds = true
  | [], _ => rfl
  | d :: ds, h => by
    rw [flatAll, Bool.and_eq_true] at h
    rw [PyData.eqvAll, eqv_refl h.1, eqvAll_refl h.2]
    rfl
end
theorem eqv_int (i j : Int) : PyData.eqv (.int i) (.int j) = decide (i = j) := by
  rw [PyData.eqv]
  exact (Bool.beq_eq_decide_eq i j)
theorem pyEq_int (i j : Int) : pyEq (.int i) (.int j) = .ok (.bool (decide (i = j))) := by
  unfold pyEq
  rw [if_pos ⟨(fitk_int i).fit (by decide), (fitk_int j).fit (by decide)⟩, eqv_int]
theorem pyEq_of {x y : D} {k : Nat} (hx : fitk k x) (hy : fitk k y) (hk : k ≤ 60) : pyEq x y = .ok (.bool (PyData.eqv x y)) := by
  unfold pyEq
  rw [if_pos ⟨hx.fit hk, hy.fit hk⟩]
theorem pyNe_of {x y : D} {k : Nat} (hx : fitk k x) (hy : fitk k y) (hk : k ≤ 60) : pyNe x y = .ok (.bool (!PyData.eqv x y)) := by
  unfold pyNe
  rw [if_pos ⟨hx.fit hk, hy.fit hk⟩]
theorem eqv_nil (xs : List D) : PyData.eqv (.list xs) (.list []) = xs.isEmpty := by
  cases xs <;> rfl
theorem fitk_nil : fitk 1 (.list []) := fitk_list fun _ h => nomatch h
theorem ints_fit (ns : List Int) : ∀ x ∈ ns.map PyData.int, fitk 0 x := fun x hx => by
  obtain ⟨n, _, rfl⟩ := List.mem_map.mp hx
  exact fitk_int n
theorem pix_list {xs : List D} {n : Nat} {d : D} (h : xs[n]? = some d) : pyIx (.list xs) (.int n) = .ok d := by
  simp only [pyIx, atI_nat h]
theorem pix_tuple {xs : List D} {n : Nat} {d : D} (h : xs[n]? = some d) : pyIx (.tuple xs) (.int n) = .ok d := by
  simp only [pyIx, atI_nat h]
theorem ixO_list {xs : List D} {n : Nat} {d : D} (h : xs[n]? = some d) : ixO (.list xs) (.int n) = .ok d := by
  simp only [ixO, atI_nat h]
theorem bools_map {α : Type} (p : α → Bool) : ∀ xs : List α, bools (xs.map fun x => PyData.bool (p x)) = some (xs.map p)
  | [] => rfl
  | x :: xs => by
    rw [List.map_cons, bools, bools_map p xs]
    rfl
theorem pyAny_map {α : Type} (p : α → Bool) (xs : List α) : pyAny [.list (xs.map fun x => PyData.bool (p x))] = .ok (.bool (xs.any p)) := by
  simp only [pyAny, bools_map]
  rw [List.any_map]
  rfl
theorem pyAll_map {α : Type} (p : α → Bool) (xs : List α) : pyAll [.list (xs.map fun x => PyData.bool (p x))] = .ok (.bool (xs.all p)) := by
  simp only [pyAll, bools_map]
  rw [List.all_map]
  rfl
section
variable {α β γ J : Type}
theorem mapR_map {f : D → R D} {g : α → D} {k : α → D} : ∀ {xs : List α}, (∀ x ∈ xs, f (g x) = .ok (k x)) → mapR f (xs.map g) = .ok (xs.map k)
  | [], _ => rfl
  | x :: xs, h => by
    rw [List.map_cons, mapR, h x List.mem_cons_self, nox_ok, R.ok_bind, mapR_map fun y hy => h y (List.mem_cons_of_mem _ hy)]
    rfl
theorem filR_map {p : D → R Bool} {f : D → R D} {g : α → D} {q : α → Bool} {k : α → D} : ∀ {xs : List α}, (∀ x ∈ xs, p (g x) = .ok (q x)) → (∀ x ∈ xs, q x = true → f (g x) = .ok (k x)) → filR p f (xs.map g) = .ok ((xs.filter q).map k)
  | [], _, _ => rfl
  | x :: xs, h1, h2 => by
    have ih := filR_map (fun y hy => h1 y (List.mem_cons_of_mem _ hy)) (fun y hy => h2 y (List.mem_cons_of_mem x hy))
    rw [List.map_cons, filR, h1 x List.mem_cons_self, nox_ok, R.ok_bind]
    cases hq : q x with
    | false =>
      rw [if_neg Bool.false_ne_true, ih, List.filter_cons_of_neg (by rw [hq]; exact Bool.false_ne_true)]
    | true =>
      rw [if_pos rfl, h2 x List.mem_cons_self hq, nox_ok, R.ok_bind, ih, List.filter_cons_of_pos hq]
      rfl
theorem foldR_inv {u : D → R β} {mb : J → β → R J} {g : α → D} {h : α → β} {P : Nat → J → Prop} : ∀ {xs : List α} {i : Nat} {j : J}, (∀ x ∈ xs, u (g x) = .ok (h x)) → (∀ k j x, xs[k]? = some x → P (i + k) j → Sat (mb j (h x)) (P (i + k + 1))) → P i j → Sat (foldR u mb (xs.map g) j) (P (i + xs.length))
  | [], i, j, _, _, p => ⟨j, rfl, p⟩
  | x :: xs, i, j, hu, hm, p => by
    rw [List.map_cons, foldR, hu x List.mem_cons_self, nox_ok, R.ok_bind]
    refine Sat.bind (hm 0 j x rfl p) fun j' p' => ?_
    have := foldR_inv (xs := xs) (i := i + 1) (j := j') (P := P) (fun y hy => hu y (List.mem_cons_of_mem _ hy)) (fun k j y hy pj => by
      have := hm (k + 1) j y (by simpa using hy) (by rw [show i + (k + 1) = i + 1 + k by omega]; exact pj)
      rw [show i + (k + 1) = i + 1 + k by omega] at this
      exact this) p'
    rw [List.length_cons, show i + (xs.length + 1) = i + 1 + xs.length by omega]
    exact this
theorem appD_of {xs : List D} {d : D} (h : xs.length < 16777216) : appD (.list xs) d = .ok (.list (xs ++ [d])) := by
  simp only [appD]
  rw [if_pos (by rw [sizeLine_eq]; exact h)]
theorem foldO_nx {u : D → R β} {mb : J → β → R (Oc J)} {g : α → D} {h : α → β} {P : J → Prop} : ∀ {xs : List α} {j : J}, (∀ x ∈ xs, u (g x) = .ok (h x)) → (∀ j, ∀ x ∈ xs, P j → Sat (mb j (h x)) fun o => ∃ j', o = Oc.nx j' ∧ P j') → P j → Sat (foldO u mb (xs.map g) j) fun o => ∃ j', o = Oc.nx j' ∧ P j'
  | [], j, _, _, p => ⟨_, rfl, j, rfl, p⟩
  | x :: xs, j, hu, hm, p => by
    rw [List.map_cons, foldO, hu x List.mem_cons_self, nox_ok, R.ok_bind]
    refine Sat.bind (hm j x List.mem_cons_self p) fun o ⟨j', e, p'⟩ => ?_
    subst e
    exact foldO_nx (fun y hy => hu y (List.mem_cons_of_mem _ hy)) (fun j y hy => hm j y (List.mem_cons_of_mem _ hy)) p'
variable {S : Type}
theorem mapJ_inv {f : D → S → R (D × S)} {g : α → D} {I : Nat → S → Prop} {Q : D → Prop} : ∀ {xs : List α} {i : Nat} {s : S}, (∀ k x s, xs[k]? = some x → I (i + k) s → Sat (f (g x) s) fun p => Q p.1 ∧ I (i + k + 1) p.2) → I i s → Sat (mapJ f (xs.map g) s) fun p => p.1.length = xs.length ∧ (∀ d ∈ p.1, Q d) ∧ I (i + xs.length) p.2
  | [], i, s, _, p => ⟨_, rfl, rfl, (fun _ h => nomatch h), p⟩
  | x :: xs, i, s, h, p => by
    rw [List.map_cons, mapJ]
    refine Sat.bind (h 0 x s rfl p) fun r ⟨hq, hi⟩ => ?_
    refine Sat.bind (mapJ_inv (Q := Q) (xs := xs) (i := i + 1) (fun k y s hy pj => ?_) hi) fun r2 ⟨h1, h2, h3⟩ => ?_
    · have := h (k + 1) y s (by simpa using hy) (by rw [show i + (k + 1) = i + 1 + k by omega]; exact pj)
      rw [show i + (k + 1) = i + 1 + k by omega] at this
      exact this
    · refine ⟨_, rfl, by simp [h1], fun d hd => ?_, by rw [List.length_cons, show i + (xs.length + 1) = i + 1 + xs.length by omega]; exact h3⟩
      rcases List.mem_cons.mp hd with e | e
      · rw [e]; exact hq
      · exact h2 d e
theorem filJ_inv {p : D → S → R (Bool × S)} {f : D → S → R (D × S)} {g k : α → D} {I : S → Prop} : ∀ {xs : List α} {s : S}, (∀ x ∈ xs, ∀ s, I s → Sat (p (g x) s) fun r => I r.2) → (∀ x ∈ xs, ∀ s, I s → Sat (f (g x) s) fun r => r.1 = k x ∧ I r.2) → I s → Sat (filJ p f (xs.map g) s) fun r => ∃ ys : List α, ys.Sublist xs ∧ r.1 = ys.map k ∧ I r.2
  | [], s, _, _, i => ⟨_, rfl, [], List.Sublist.refl _, rfl, i⟩
  | x :: xs, s, hp, hf, i => by
    rw [List.map_cons, filJ]
    refine Sat.bind (hp x List.mem_cons_self s i) fun r i1 => ?_
    have hp' := fun y (hy : y ∈ xs) => hp y (List.mem_cons_of_mem _ hy)
    have hf' := fun y (hy : y ∈ xs) => hf y (List.mem_cons_of_mem _ hy)
    refine Sat.ite (fun _ => ?_) fun _ => ?_
    · refine Sat.bind (hf x List.mem_cons_self r.2 i1) fun r2 ⟨e2, i2⟩ => ?_
      refine Sat.bind (filJ_inv hp' hf' i2) fun r3 ⟨ys, h1, h2, h3⟩ => ?_
      exact ⟨_, rfl, x :: ys, h1.cons₂ x, by rw [List.map_cons, ← e2, ← h2], h3⟩
    · exact (filJ_inv hp' hf' i1).mono fun r3 ⟨ys, h1, h2, h3⟩ => ⟨ys, h1.cons x, h2, h3⟩
end
theorem upto0 (n : Nat) : upto 0 n = (List.range n).map fun k : Nat => .int k := by
  unfold upto
  exact List.map_congr_left fun k _ => by rw [Int.zero_add]
theorem pyRange1 (j : Int) (h : 0 ≤ j) (h2 : j ≤ 16777216) : pyRange [.int j] = .ok ((List.range j.toNat).map fun k : Nat => .int k) := by
  simp only [pyRange, upto0]
  rw [if_pos ⟨by omega, h2⟩]
theorem rgL0 (j : Int) (h : 0 ≤ j) (h2 : j ≤ 16777216) : rgL (0, j) = .ok ((List.range j.toNat).map fun k : Nat => .int k) := by
  unfold rgL
  have : rgOk 0 j = true := decide_eq_true ⟨by omega, by omega, by omega, by omega, by omega⟩
  simp only [this, if_true, Int.sub_zero, upto0]
theorem pyMul_of {i j : Int} {a b : Nat} (ha : i.natAbs < 2 ^ a) (hb : j.natAbs < 2 ^ b) (h : a + b ≤ 134217728) : pyMul (.int i) (.int j) = .ok (.int (i * j)) := by
  simp only [pyMul]
  rw [if_pos (mulx_ok ha hb h)]
theorem pyDiv_of {i j : Int} (h : 0 < j) (h2 : j < 1073741824) : pyDiv (.int i) (.int j) = .ok (.int (i / j)) := by
  simp only [pyDiv]
  rw [if_pos ⟨h, h2⟩]
theorem pyMod_of {i j : Int} (h : 0 < j) : pyMod (.int i) (.int j) = .ok (.int (i % j)) := by
  simp only [pyMod]
  rw [if_pos h]
theorem alike_int (i j : Int) : PySem.W.alike (.int i) (.int j) = true := by first | rfl | simp [PySem.W.alike]
theorem sortable_ints (ns : List Int) : sortable (ns.map .int) = true := by
  unfold sortable
  simp only [Bool.and_eq_true, Bool.or_eq_true, List.all_eq_true]
  refine ⟨⟨fun d hd e he => ?_, fun d hd => (ints_fit ns d hd).fit (by decide)⟩, .inr fun d hd => ?_⟩
  · obtain ⟨i, _, rfl⟩ := List.mem_map.mp hd
    obtain ⟨j, _, rfl⟩ := List.mem_map.mp he
    exact alike_int i j
  · obtain ⟨i, _, rfl⟩ := List.mem_map.mp hd
    rfl
theorem zip_ll (xs ys : List D) : pyZip [.list xs, .list ys] = .ok (pairs xs ys) := rfl
theorem zip_tt (xs ys : List D) : pyZip [.tuple xs, .tuple ys] = .ok (pairs xs ys) := rfl
theorem zip_lt (xs ys : List D) : pyZip [.list xs, .tuple ys] = .ok (pairs xs ys) := rfl
theorem zip_tl (xs ys : List D) : pyZip [.tuple xs, .list ys] = .ok (pairs xs ys) := rfl
end TP
namespace TP
open PySem PySem.Spec PyProof.Rows L2 TL
def nD (n : Nat) : D := .int (n : Int)
def tN (xs : List Nat) : D := .tuple (xs.map nD)
def lN (xs : List Nat) : D := .list (xs.map nD)
theorem int_lit (n : Nat) : PyData.int (no_index (@OfNat.ofNat Int n _)) = nD (@OfNat.ofNat Nat n _) := id (Eq.refl _)
theorem tN_def (xs : List Nat) : PyData.tuple (xs.map nD) = tN xs := id (Eq.refl _)
theorem map_nD (xs : List Nat) : xs.map nD = (xs.map fun n : Nat => (n : Int)).map PyData.int := by rw [List.map_map]; rfl
structure EqD {α : Type} (k : Nat) (f : α → D) : Prop where
  fit : ∀ a, fitk k (f a)
  eqv : ∀ a b, PyData.eqv (f a) (f b) = true ↔ a = b
theorem eqd_nD : EqD 0 nD := ⟨fun a => fitk_int _, fun a b => by
  unfold nD
  rw [eqv_int, decide_eq_true_iff]
  omega⟩
theorem eqvAll_map {α : Type} {f : α → D} (h : ∀ a b, PyData.eqv (f a) (f b) = true ↔ a = b) : ∀ xs ys : List α, PyData.eqvAll (xs.map f) (ys.map f) = true ↔ xs = ys
  | [], [] => by simp [PyData.eqvAll]
  | [], y :: ys => by simp [PyData.eqvAll]
  | x :: xs, [] => by simp [PyData.eqvAll]
  | x :: xs, y :: ys => by
    rw [List.map_cons, List.map_cons, PyData.eqvAll, Bool.and_eq_true, h, eqvAll_map h xs ys, List.cons.injEq]
theorem EqD.tup {α : Type} {f : α → D} {k : Nat} (h : EqD k f) : EqD (k + 1) fun xs : List α => .tuple (xs.map f) := ⟨fun xs => fitk_tuple fun x hx => by
  obtain ⟨a, _, rfl⟩ := List.mem_map.mp hx
  exact h.fit a, fun xs ys => by rw [PyData.eqv]; exact eqvAll_map h.eqv xs ys⟩
theorem EqD.lst {α : Type} {f : α → D} {k : Nat} (h : EqD k f) : EqD (k + 1) fun xs : List α => .list (xs.map f) := ⟨fun xs => fitk_list fun x hx => by
  obtain ⟨a, _, rfl⟩ := List.mem_map.mp hx
  exact h.fit a, fun xs ys => by rw [PyData.eqv]; exact eqvAll_map h.eqv xs ys⟩
theorem eqd_tN : EqD 1 tN := eqd_nD.tup
theorem eqd_lN : EqD 1 lN := eqd_nD.lst
theorem fitk2 {k l : Nat} {x y : D} (h1 : fitk k x) (h2 : fitk l y) (hk : k ≤ 60) (hl : l ≤ 60) : TL.fit x = true ∧ TL.fit y = true := ⟨h1.fit hk, h2.fit hl⟩
section
variable {α : Type} {f : α → D} {k : Nat}
theorem EqD.eq (h : EqD k f) (hk : k ≤ 60) (a b : α) [Decidable (a = b)] : pyEq (f a) (f b) = .ok (.bool (decide (a = b))) := by
  unfold pyEq
  rw [if_pos (fitk2 (h.fit a) (h.fit b) hk hk)]
  congr 2
  rw [Bool.eq_iff_iff, decide_eq_true_iff]
  exact h.eqv a b
theorem EqD.ne (h : EqD k f) (hk : k ≤ 60) (a b : α) [Decidable (a = b)] : pyNe (f a) (f b) = .ok (.bool (decide (a ≠ b))) := by
  unfold pyNe
  rw [if_pos (fitk2 (h.fit a) (h.fit b) hk hk)]
  congr 2
  rw [Bool.eq_iff_iff, decide_eq_true_iff, Bool.not_eq_true', ← Bool.not_eq_true, h.eqv]
theorem EqD.isIn (h : EqD k f) (a : α) (xs : List α) [Decidable (a ∈ xs)] : isIn (f a) (xs.map f) = decide (a ∈ xs) := by
  rw [Bool.eq_iff_iff, decide_eq_true_iff]
  unfold TL.isIn
  rw [List.any_map, List.any_eq_true]
  constructor
  · rintro ⟨x, hx, e⟩
    rw [← (h.eqv x a).mp e]
    exact hx
  · exact fun hx => ⟨a, hx, (h.eqv a a).mpr rfl⟩
theorem EqD.inL (h : EqD k f) (hk : k + 1 ≤ 60) (a : α) (xs : List α) [Decidable (a ∈ xs)] : pyIn (f a) (.list (xs.map f)) = .ok (.bool (decide (a ∈ xs))) := by
  simp only [pyIn]
  rw [if_pos (fitk2 (h.fit a) (h.lst.fit xs) (by omega) hk), h.isIn]
theorem EqD.inT (h : EqD k f) (hk : k + 1 ≤ 60) (a : α) (xs : List α) [Decidable (a ∈ xs)] : pyIn (f a) (.tuple (xs.map f)) = .ok (.bool (decide (a ∈ xs))) := by
  simp only [pyIn]
  rw [if_pos (fitk2 (h.fit a) (h.tup.fit xs) (by omega) hk), h.isIn]
theorem EqD.ninL (h : EqD k f) (hk : k + 1 ≤ 60) (a : α) (xs : List α) [Decidable (a ∈ xs)] : pyNotIn (f a) (.list (xs.map f)) = .ok (.bool (decide (a ∉ xs))) := by
  simp only [pyNotIn]
  rw [if_pos (fitk2 (h.fit a) (h.lst.fit xs) (by omega) hk), h.isIn, decide_not]
theorem EqD.ninT (h : EqD k f) (hk : k + 1 ≤ 60) (a : α) (xs : List α) [Decidable (a ∈ xs)] : pyNotIn (f a) (.tuple (xs.map f)) = .ok (.bool (decide (a ∉ xs))) := by
  simp only [pyNotIn]
  rw [if_pos (fitk2 (h.fit a) (h.tup.fit xs) (by omega) hk), h.isIn, decide_not]
end
theorem eq_nilL {k : Nat} {xs : List D} (h : ∀ x ∈ xs, fitk k x) (hk : k + 1 ≤ 60) : pyEq (.list xs) (.list []) = .ok (.bool (decide (xs = []))) := by
  rw [pyEq_of (fitk_list h) (fitk_nil.mono (by omega)) hk, eqv_nil]
  cases xs <;> rfl
theorem ne_nilL {k : Nat} {xs : List D} (h : ∀ x ∈ xs, fitk k x) (hk : k + 1 ≤ 60) : pyNe (.list xs) (.list []) = .ok (.bool (decide (xs ≠ []))) := by
  rw [pyNe_of (fitk_list h) (fitk_nil.mono (by omega)) hk, eqv_nil]
  cases xs <;> rfl
theorem fitk_nilT : fitk 1 (.tuple []) := fitk_tuple fun _ h => nomatch h
theorem fit_map {α : Type} {f : α → D} {k : Nat} (h : EqD k f) (xs : List α) : ∀ x ∈ xs.map f, fitk k x := fun x hx => by
  obtain ⟨a, _, rfl⟩ := List.mem_map.mp hx
  exact h.fit a
@[simp] theorem eqN (a b : Nat) : pyEq (nD a) (nD b) = .ok (.bool (decide (a = b))) := eqd_nD.eq (by decide) a b
@[simp] theorem neN (a b : Nat) : pyNe (nD a) (nD b) = .ok (.bool (decide (a ≠ b))) := eqd_nD.ne (by decide) a b
@[simp] theorem ltN (a b : Nat) : pyLt (nD a) (nD b) = .ok (.bool (decide (a < b))) := by simp [pyLt, nD]
@[simp] theorem leN (a b : Nat) : pyLe (nD a) (nD b) = .ok (.bool (decide (a ≤ b))) := by simp [pyLe, nD]
@[simp] theorem gtN (a b : Nat) : pyGt (nD a) (nD b) = .ok (.bool (decide (b < a))) := by simp [pyGt, nD]
@[simp] theorem geN (a b : Nat) : pyGe (nD a) (nD b) = .ok (.bool (decide (b ≤ a))) := by simp [pyGe, nD]
@[simp] theorem addN (a b : Nat) : pyAdd (nD a) (nD b) = .ok (nD (a + b)) := by simp [pyAdd, nD]
theorem subN {a b : Nat} (h : b ≤ a) : pySub (nD a) (nD b) = .ok (nD (a - b)) := by simp [pySub, nD]; omega
theorem modN {a b : Nat} (h : 0 < b) : pyMod (nD a) (nD b) = .ok (nD (a % b)) := by
  unfold nD
  rw [pyMod_of (by omega)]
  rfl
@[simp] theorem minN (a b : Nat) : pyMin [nD a, nD b] = .ok (nD (min a b)) := by
  simp only [nD, pyMin]
  congr 2
  split <;> omega
@[simp] theorem maxN (a b : Nat) : pyMax [nD a, nD b] = .ok (nD (max a b)) := by
  simp only [nD, pyMax]
  congr 2
  split <;> omega
@[simp] theorem truN (a : Nat) : tru (nD a) = .ok (decide (a ≠ 0)) := by
  simp only [nD, tru]
  congr 1
  rw [Bool.eq_iff_iff]
  simp
@[simp] theorem truB (b : Bool) : tru (.bool b) = .ok b := rfl
@[simp] theorem asBB (b : Bool) : asB (.bool b) = .ok b := rfl
@[simp] theorem asIntN (n : Nat) : asInt (nD n) = .ok (n : Int) := rfl
@[simp] theorem partN (n : Nat) : partD (nD n) = .ok (some (n : Int)) := rfl
@[simp] theorem noxo {α : Type} (a : α) : nox (.ok a) = .ok a := id (Eq.refl _)
theorem nox_bind {α β : Type} (m : R α) (f : α → R β) : nox (m.bind f) = (nox m).bind fun a => nox (f a) := by cases m <;> rfl
theorem nox_nox {α : Type} (m : R α) : nox (nox m) = nox m := by cases m <;> rfl
theorem nox_no' {α : Type} : nox (.no : R α) = .no := id (Eq.refl _)
theorem bind_as {α β γ : Type} (m : R α) (f : α → R β) (g : β → R γ) : (m.bind f).bind g = m.bind fun a => (f a).bind g := by cases m <;> rfl
@[simp] theorem nlN (n : Nat) : noL (nD n) = true := id (Eq.refl _)
theorem nl_okN (n : Nat) : nl (.ok (nD n)) = .ok (nD n) := id (Eq.refl _)
theorem noLAll_map {α : Type} {f : α → D} (h : ∀ a, noL (f a) = true) : ∀ xs : List α, noLAll (xs.map f) = true
  | [] => rfl
  | x :: xs => by rw [List.map_cons, noLAll, h x, noLAll_map h xs]; rfl
@[simp] theorem nltN (xs : List Nat) : noL (tN xs) = true := by
  unfold tN
  rw [noL]
  exact noLAll_map nlN xs
theorem nl_ok {d : D} (h : noL d = true) : nl (.ok d) = .ok d := by
  unfold nl
  rw [okb, if_pos h]
theorem nl_bool (b : Bool) : nl (.ok (.bool b)) = .ok (.bool b) := id (Eq.refl _)
theorem nl_tN (xs : List Nat) : nl (.ok (tN xs)) = .ok (tN xs) := nl_ok (nltN xs)
theorem nf_ok (xs : List Nat) : nf (.ok (.list (xs.map nD))) = .ok (.list (xs.map nD)) := by
  unfold nf
  rw [okb, if_pos (by rw [itemsFlat]; exact noLAll_map nlN xs)]
@[simp] theorem lstD_ok (xs : List D) : lstD (.list xs) = .ok () := id (Eq.refl _)
@[simp] theorem items_l (xs : List D) : items (.list xs) = .ok xs := id (Eq.refl _)
@[simp] theorem items_t (xs : List D) : items (.tuple xs) = .ok xs := id (Eq.refl _)
@[simp] theorem items_tN (xs : List Nat) : items (tN xs) = .ok (xs.map nD) := id (Eq.refl _)
@[simp] theorem len_l (xs : List D) : TL.pyLen [.list xs] = .ok (nD xs.length) := id (Eq.refl _)
@[simp] theorem len_t (xs : List D) : TL.pyLen [.tuple xs] = .ok (nD xs.length) := id (Eq.refl _)
@[simp] theorem len_tN (xs : List Nat) : TL.pyLen [tN xs] = .ok (nD xs.length) := by
  unfold tN
  rw [len_t, List.length_map]
@[simp] theorem tuple_l (xs : List D) : pyTuple [.list xs] = .ok (.tuple xs) := id (Eq.refl _)
@[simp] theorem tuple_t (xs : List D) : pyTuple [.tuple xs] = .ok (.tuple xs) := id (Eq.refl _)
@[simp] theorem list_l (xs : List D) : pyList [.list xs] = .ok (.list xs) := id (Eq.refl _)
@[simp] theorem list_t (xs : List D) : pyList [.tuple xs] = .ok (.list xs) := id (Eq.refl _)
@[simp] theorem list_tN (xs : List Nat) : pyList [tN xs] = .ok (.list (xs.map nD)) := id (Eq.refl _)
@[simp] theorem ix0 (a : D) (xs : List D) : pyIx (.tuple (a :: xs)) (nD 0) = .ok a := pix_tuple (n := 0) rfl
@[simp] theorem ix1 (a b : D) (xs : List D) : pyIx (.tuple (a :: b :: xs)) (nD 1) = .ok b := pix_tuple (n := 1) rfl
@[simp] theorem ix2 (a b c : D) (xs : List D) : pyIx (.tuple (a :: b :: c :: xs)) (nD 2) = .ok c := pix_tuple (n := 2) rfl
@[simp] theorem ix0l (a : D) (xs : List D) : pyIx (.list (a :: xs)) (nD 0) = .ok a := pix_list (n := 0) rfl
@[simp] theorem ix1l (a b : D) (xs : List D) : pyIx (.list (a :: b :: xs)) (nD 1) = .ok b := pix_list (n := 1) rfl
theorem ixL {xs : List D} {n : Nat} (h : n < xs.length) : pyIx (.list xs) (nD n) = .ok xs[n] := pix_list (List.getElem?_eq_getElem h)
theorem getD_map {α : Type} {f : α → D} {xs : List α} {n : Nat} (h : n < xs.length) (z : α) : (xs.map f)[n]? = some (f (xs.getD n z)) := by
  rw [List.getElem?_map, List.getElem?_eq_getElem h, List.getD_eq_getElem?_getD, List.getElem?_eq_getElem h]
  rfl
theorem ixTm {α : Type} {f : α → D} {xs : List α} {n : Nat} (z : α) (h : n < xs.length) : pyIx (.tuple (xs.map f)) (nD n) = .ok (f (xs.getD n z)) := pix_tuple (getD_map h z)
theorem ixLm {α : Type} {f : α → D} {xs : List α} {n : Nat} (z : α) (h : n < xs.length) : pyIx (.list (xs.map f)) (nD n) = .ok (f (xs.getD n z)) := pix_list (getD_map h z)
theorem ixtN {xs : List Nat} {n : Nat} (h : n < xs.length) : pyIx (tN xs) (nD n) = .ok (nD (xs.getD n 0)) := ixTm 0 h
theorem ixOm {α : Type} {f : α → D} {xs : List α} {n : Nat} (z : α) (h : n < xs.length) : ixO (.list (xs.map f)) (nD n) = .ok (f (xs.getD n z)) := ixO_list (getD_map h z)
@[simp] theorem inLN (a : Nat) (xs : List Nat) : pyIn (nD a) (.list (xs.map nD)) = .ok (.bool (decide (a ∈ xs))) := eqd_nD.inL (by decide) a xs
@[simp] theorem inTN (a : Nat) (xs : List Nat) : pyIn (nD a) (tN xs) = .ok (.bool (decide (a ∈ xs))) := eqd_nD.inT (by decide) a xs
@[simp] theorem ninLN (a : Nat) (xs : List Nat) : pyNotIn (nD a) (.list (xs.map nD)) = .ok (.bool (decide (a ∉ xs))) := eqd_nD.ninL (by decide) a xs
@[simp] theorem ninTN (a : Nat) (xs : List Nat) : pyNotIn (nD a) (tN xs) = .ok (.bool (decide (a ∉ xs))) := eqd_nD.ninT (by decide) a xs
@[simp] theorem inLT (a : List Nat) (xs : List (List Nat)) : pyIn (tN a) (.list (xs.map tN)) = .ok (.bool (decide (a ∈ xs))) := eqd_tN.inL (by decide) a xs
@[simp] theorem inTT (a : List Nat) (xs : List (List Nat)) : pyIn (tN a) (.tuple (xs.map tN)) = .ok (.bool (decide (a ∈ xs))) := eqd_tN.inT (by decide) a xs
@[simp] theorem ninLT (a : List Nat) (xs : List (List Nat)) : pyNotIn (tN a) (.list (xs.map tN)) = .ok (.bool (decide (a ∉ xs))) := eqd_tN.ninL (by decide) a xs
@[simp] theorem ninTT (a : List Nat) (xs : List (List Nat)) : pyNotIn (tN a) (.tuple (xs.map tN)) = .ok (.bool (decide (a ∉ xs))) := eqd_tN.ninT (by decide) a xs
@[simp] theorem eqT (a b : List Nat) : pyEq (tN a) (tN b) = .ok (.bool (decide (a = b))) := eqd_tN.eq (by decide) a b
@[simp] theorem neT (a b : List Nat) : pyNe (tN a) (tN b) = .ok (.bool (decide (a ≠ b))) := eqd_tN.ne (by decide) a b
@[simp] theorem eqT0 (a : List Nat) : pyEq (tN a) (.tuple []) = .ok (.bool (decide (a = []))) := eqT a []
@[simp] theorem neT0 (a : List Nat) : pyNe (tN a) (.tuple []) = .ok (.bool (decide (a ≠ []))) := neT a []
@[simp] theorem eqL0 (xs : List Nat) : pyEq (.list (xs.map nD)) (.list []) = .ok (.bool (decide (xs = []))) := by
  rw [eq_nilL (fit_map eqd_nD xs) (by decide)]
  simp
@[simp] theorem neL0 (xs : List Nat) : pyNe (.list (xs.map nD)) (.list []) = .ok (.bool (decide (xs ≠ []))) := by
  rw [ne_nilL (fit_map eqd_nD xs) (by decide)]
  simp
@[simp] theorem unp2_t (a b : D) : unp2 (.tuple [a, b]) = .ok (a, b) := id (Eq.refl _)
@[simp] theorem unp3_t (a b c : D) : unp3 (.tuple [a, b, c]) = .ok (a, b, c) := id (Eq.refl _)
theorem range1 {n : Nat} (h : n ≤ 16777216) : pyRange [nD n] = .ok ((List.range n).map nD) := by
  unfold nD
  rw [pyRange1 (n : Int) (by omega) (by omega)]
  rfl
theorem rgl1 {n : Nat} (h : n ≤ 16777216) : rgL (0, (n : Int)) = .ok ((List.range n).map nD) := by
  rw [rgL0 (n : Int) (by omega) (by omega)]
  rfl
theorem addL {xs ys : List D} (h : xs.length + ys.length ≤ 16777216) : pyAdd (.list xs) (.list ys) = .ok (.list (xs ++ ys)) := by
  simp only [pyAdd]
  rw [if_pos (by rw [sizeLine_eq]; exact h)]
theorem slTo {xs : List D} {n : Nat} : TL.cutD xs none (some (n : Int)) = xs.take n := by
  unfold TL.cutD
  rw [HT.sIx_none, HT.sIx_nat, List.drop_zero, Nat.sub_zero]
  rcases Nat.le_total n xs.length with h | h
  · rw [Nat.min_eq_left h]
  · rw [Nat.min_eq_right h, List.take_length, List.take_of_length_le h]
theorem slFrom {xs : List D} {n : Nat} : TL.cutD xs (some (n : Int)) none = xs.drop n := by
  unfold TL.cutD
  rw [HT.sIx_none, HT.sIx_nat]
  rcases Nat.le_total n xs.length with h | h
  · rw [Nat.min_eq_left h, ← List.length_drop, List.take_length]
  · rw [Nat.min_eq_right h, Nat.sub_self, List.take_zero, List.drop_of_length_le h]
@[simp] theorem sl_to (xs : List D) (n : Nat) : pySl (.tuple xs) none (some (n : Int)) = .ok (.tuple (xs.take n)) := by rw [pySl, slTo]
@[simp] theorem sl_from (xs : List D) (n : Nat) : pySl (.tuple xs) (some (n : Int)) none = .ok (.tuple (xs.drop n)) := by rw [pySl, slFrom]
@[simp] theorem sl_tol (xs : List D) (n : Nat) : pySl (.list xs) none (some (n : Int)) = .ok (.list (xs.take n)) := by rw [pySl, slTo]
@[simp] theorem sl_froml (xs : List D) (n : Nat) : pySl (.list xs) (some (n : Int)) none = .ok (.list (xs.drop n)) := by rw [pySl, slFrom]
@[simp] theorem sl_totN (xs : List Nat) (n : Nat) : pySl (tN xs) none (some (n : Int)) = .ok (tN (xs.take n)) := by
  unfold tN
  rw [sl_to, List.map_take]
@[simp] theorem sl_fromtN (xs : List Nat) (n : Nat) : pySl (tN xs) (some (n : Int)) none = .ok (tN (xs.drop n)) := by
  unfold tN
  rw [sl_from, List.map_drop]
def sortN (xs : List Nat) : List Nat := xs.mergeSort fun a b => decide (a ≤ b)
theorem sortN_perm (xs : List Nat) : (sortN xs).Perm xs := List.mergeSort_perm _ _
theorem sortN_mem {n : Nat} {xs : List Nat} : n ∈ sortN xs ↔ n ∈ xs := (sortN_perm xs).mem_iff
theorem sortN_length (xs : List Nat) : (sortN xs).length = xs.length := (sortN_perm xs).length_eq
theorem sortN_le (xs : List Nat) : (sortN xs).Pairwise (· ≤ ·) := by
  have := List.pairwise_mergeSort (le := fun a b : Nat => decide (a ≤ b)) (fun a b c h1 h2 => by simp at *; omega) (fun a b => by simp; omega) xs
  exact this.imp fun h => by simpa using h
theorem sortN_lt {xs : List Nat} (h : xs.Nodup) : (sortN xs).Pairwise (· < ·) := by
  have h1 := sortN_le xs
  have h2 : (sortN xs).Nodup := (sortN_perm xs).nodup_iff.mpr h
  exact (h1.and h2).imp fun h => by omega
@[simp] theorem sortedN (xs : List Nat) : pySorted [.list (xs.map nD)] = .ok (.list ((sortN xs).map nD)) := by
  simp only [pySorted]
  rw [if_pos (by rw [map_nD]; exact sortable_ints _)]
  congr 2
  unfold sortD sortN
  refine (List.map_mergeSort fun a _ b _ => ?_).symm
  have := congrFun (congrFun (PySem.W.dataLe_int fun n : Nat => (n : Int)) a) b
  have h2 : PySem.W.dataLe false (fun d => d) (nD a) (nD b) = PySem.W.dataLe false (fun b : Nat => PyData.int (b : Int)) a b := rfl
  rw [h2, this]
  rw [Bool.eq_iff_iff]
  simp
section
variable {B J : Type}
theorem whX_sat {mc : J → R B} {vb : B → Bool} {mb : J → B → R (Oc J)} {out : J → B → J} {I : J → Prop} {μ : J → Nat} {P : Oc J → Prop}
    (hstep : ∀ j, I j → Sat (mc j) fun b => if vb b = true then Sat (mb j b) (fun o => match o with
      | .nx j' => I j' ∧ μ j' < μ j
      | .rt t b => P (.rt t b)
      | .bk j' => P (.nx j')) else P (.nx (out j b))) : ∀ {j : J}, I j → Sat (whX mc vb mb out j) P := by
  have key : ∀ n j, μ j < n → I j → Sat (whO mc vb mb out n j) P := by
    intro n
    induction n with
    | zero => intro j h; omega
    | succ n ih =>
      intro j hj hi
      obtain ⟨b, eb, hb⟩ := hstep j hi
      unfold whO
      rw [eb, okb]
      by_cases hv : vb b = true
      · rw [if_pos hv] at hb ⊢
        obtain ⟨o, eo, ho⟩ := hb
        rw [eo, okb]
        cases o with
        | nx j' => exact ih j' (by have := ho.2; omega) ho.1
        | rt t b => exact ⟨_, rfl, ho⟩
        | bk j' => exact ⟨_, rfl, ho⟩
      · rw [if_neg hv] at hb ⊢
        exact ⟨_, rfl, hb⟩
  intro j hi
  obtain ⟨o, eo, ho⟩ := key (μ j + 1) j (by omega) hi
  exact ⟨o, by rw [whX_eq (n := μ j + 1) (by rw [eo]; exact fun z => nomatch z), eo], ho⟩
end
end TP
namespace TP
open PySem PySem.Spec PyProof.Rows L2 TL
def pN (p : Nat × Nat) : D := .tuple [nD p.1, nD p.2]
@[simp] theorem unp2_pN (p : Nat × Nat) : unp2 (pN p) = .ok (nD p.1, nD p.2) := id (Eq.refl _)
@[simp] theorem ix0p (p : Nat × Nat) : pyIx (pN p) (nD 0) = .ok (nD p.1) := ix0 _ _
@[simp] theorem ix1p (p : Nat × Nat) : pyIx (pN p) (nD 1) = .ok (nD p.2) := ix1 _ _ _
theorem eqd_pN : EqD 1 pN := ⟨fun p => fitk_tuple fun x hx => by
  rcases List.mem_cons.mp hx with e | e
  · rw [e]; exact fitk_int _
  · rw [List.mem_singleton.mp e]; exact fitk_int _, fun p q => by
  unfold pN
  simp only [PyData.eqv, PyData.eqvAll, Bool.and_eq_true, Bool.and_true]
  rw [eqd_nD.eqv, eqd_nD.eqv]
  constructor
  · rintro ⟨h1, h2⟩; exact Prod.ext h1 h2
  · rintro rfl; exact ⟨rfl, rfl⟩⟩
@[simp] theorem eqP (a b : Nat × Nat) : pyEq (pN a) (pN b) = .ok (.bool (decide (a = b))) := eqd_pN.eq (by decide) a b
@[simp] theorem nltP (p : Nat × Nat) : noL (pN p) = true := id (Eq.refl _)
theorem nf_okP (xs : List (Nat × Nat)) : nf (.ok (.list (xs.map pN))) = .ok (.list (xs.map pN)) := by
  unfold nf
  rw [okb, if_pos (by rw [itemsFlat]; exact noLAll_map nltP xs)]
theorem nf_okT (xs : List (List Nat)) : nf (.ok (.list (xs.map tN))) = .ok (.list (xs.map tN)) := by
  unfold nf
  rw [okb, if_pos (by rw [itemsFlat]; exact noLAll_map nltN xs)]
theorem nl_okP (p : Nat × Nat) : nl (.ok (pN p)) = .ok (pN p) := nl_ok (nltP p)
@[simp] theorem neL0P (xs : List (Nat × Nat)) : pyNe (.list (xs.map pN)) (.list []) = .ok (.bool (decide (xs ≠ []))) := by
  rw [ne_nilL (fit_map eqd_pN xs) (by decide)]
  simp
@[simp] theorem eqL0P (xs : List (Nat × Nat)) : pyEq (.list (xs.map pN)) (.list []) = .ok (.bool (decide (xs = []))) := by
  rw [eq_nilL (fit_map eqd_pN xs) (by decide)]
  simp
@[simp] theorem neL0T (xs : List (List Nat)) : pyNe (.list (xs.map tN)) (.list []) = .ok (.bool (decide (xs ≠ []))) := by
  rw [ne_nilL (fit_map eqd_tN xs) (by decide)]
  simp
@[simp] theorem eqL0T (xs : List (List Nat)) : pyEq (.list (xs.map tN)) (.list []) = .ok (.bool (decide (xs = []))) := by
  rw [eq_nilL (fit_map eqd_tN xs) (by decide)]
  simp
@[simp] theorem inLP (a : Nat × Nat) (xs : List (Nat × Nat)) : pyIn (pN a) (.list (xs.map pN)) = .ok (.bool (decide (a ∈ xs))) := eqd_pN.inL (by decide) a xs
@[simp] theorem inTP (a : Nat × Nat) (xs : List (Nat × Nat)) : pyIn (pN a) (.tuple (xs.map pN)) = .ok (.bool (decide (a ∈ xs))) := eqd_pN.inT (by decide) a xs
@[simp] theorem any_m {α : Type} (p : α → Bool) (xs : List α) : pyAny [.list (xs.map fun x => PyData.bool (p x))] = .ok (.bool (xs.any p)) := pyAny_map p xs
@[simp] theorem all_m {α : Type} (p : α → Bool) (xs : List α) : pyAll [.list (xs.map fun x => PyData.bool (p x))] = .ok (.bool (xs.all p)) := pyAll_map p xs
@[simp] theorem is_none (d : D) : pyIs d .none = .ok (.bool (isNone d)) := id (Eq.refl _)
@[simp] theorem isnot_none (d : D) : pyIsNot d .none = .ok (.bool (!isNone d)) := id (Eq.refl _)
@[simp] theorem isNone_n : isNone .none = true := id (Eq.refl _)
@[simp] theorem isNone_N (n : Nat) : isNone (nD n) = false := id (Eq.refl _)
@[simp] theorem isNone_T (n : List Nat) : isNone (tN n) = false := id (Eq.refl _)
@[simp] theorem isNone_t (n : List D) : isNone (.tuple n) = false := id (Eq.refl _)
@[simp] theorem isNone_l (n : List D) : isNone (.list n) = false := id (Eq.refl _)
theorem thenO_nx {A J : Type} (j : J) (r : D → D → A) (k : J → R A) : thenO (.ok (.nx j)) r k = k j := id (Eq.refl _)
theorem thenO_rt {A J : Type} (t b : D) (r : D → D → A) (k : J → R A) : thenO (J := J) (.ok (.rt t b)) r k = .ok (r t b) := id (Eq.refl _)
theorem mapR_m {α : Type} {f : D → R D} {g : α → D} (k : α → D) {xs : List α} (h : ∀ x ∈ xs, f (g x) = .ok (k x)) : mapR f (xs.map g) = .ok (xs.map k) := mapR_map h
theorem filR_m {α : Type} {p : D → R Bool} {f : D → R D} {g : α → D} (q : α → Bool) (k : α → D) {xs : List α} (h1 : ∀ x ∈ xs, p (g x) = .ok (q x)) (h2 : ∀ x ∈ xs, q x = true → f (g x) = .ok (k x)) : filR p f (xs.map g) = .ok ((xs.filter q).map k) := filR_map h1 h2
end TP
namespace TP
open PySem PySem.Spec PyProof.Rows L2 TL JT
theorem isD_of {d : D} {n T : String} {b : Bool} (h : tyN d = some n) (k : kitB n T = some b) : isD [T] d = .ok (.bool b) := by
  have : isAny [T] d = some b := by
    unfold isAny isA1
    rw [h]
    show (kitB n T).bind _ = _
    rw [k]
    cases b <;> rfl
  unfold isD
  rw [this]
theorem isD_of2 {d : D} {n T U : String} {b c : Bool} (h : tyN d = some n) (k : kitB n T = some b) (l : kitB n U = some c) : isD [T, U] d = .ok (.bool (b || c)) := by
  have : isAny [T, U] d = some (b || c) := by
    unfold isAny isA1
    rw [h]
    show (kitB n T).bind _ = _
    rw [k]
    cases b with
    | true => rfl
    | false =>
      show isAny [U] d = _
      unfold isAny isA1
      rw [h]
      show (kitB n U).bind _ = _
      rw [l]
      cases c <;> rfl
  unfold isD
  rw [this]
@[simp] theorem is_tuple_none : isD ["tuple"] .none = .ok (.bool false) := isD_of (n := "NoneType") rfl (by decide +kernel)
@[simp] theorem is_tuple_bool (b : Bool) : isD ["tuple"] (.bool b) = .ok (.bool false) := isD_of (n := "bool") rfl (by decide +kernel)
@[simp] theorem is_tuple_int (i : Int) : isD ["tuple"] (.int i) = .ok (.bool false) := isD_of (n := "int") rfl (by decide +kernel)
@[simp] theorem is_tuple_str (s : Str) : isD ["tuple"] (.str s) = .ok (.bool false) := isD_of (n := "str") rfl (by decide +kernel)
@[simp] theorem is_tuple_list (xs : List D) : isD ["tuple"] (.list xs) = .ok (.bool false) := isD_of (n := "list") rfl (by decide +kernel)
@[simp] theorem is_tuple_tuple (xs : List D) : isD ["tuple"] (.tuple xs) = .ok (.bool true) := isD_of (n := "tuple") rfl (by decide +kernel)
@[simp] theorem is_tuple_dict : isD ["tuple"] (.dict []) = .ok (.bool false) := isD_of (n := "dict") rfl (by decide +kernel)
@[simp] theorem is_tuple_N (n : Nat) : isD ["tuple"] (nD n) = .ok (.bool false) := isD_of (n := "int") rfl (by decide +kernel)
@[simp] theorem is_tuple_T (n : List Nat) : isD ["tuple"] (tN n) = .ok (.bool true) := isD_of (n := "tuple") rfl (by decide +kernel)
@[simp] theorem is_tuple_P (n : Nat × Nat) : isD ["tuple"] (pN n) = .ok (.bool true) := isD_of (n := "tuple") rfl (by decide +kernel)
@[simp] theorem is_list_none : isD ["list"] .none = .ok (.bool false) := isD_of (n := "NoneType") rfl (by decide +kernel)
@[simp] theorem is_list_bool (b : Bool) : isD ["list"] (.bool b) = .ok (.bool false) := isD_of (n := "bool") rfl (by decide +kernel)
@[simp] theorem is_list_int (i : Int) : isD ["list"] (.int i) = .ok (.bool false) := isD_of (n := "int") rfl (by decide +kernel)
@[simp] theorem is_list_str (s : Str) : isD ["list"] (.str s) = .ok (.bool false) := isD_of (n := "str") rfl (by decide +kernel)
@[simp] theorem is_list_list (xs : List D) : isD ["list"] (.list xs) = .ok (.bool true) := isD_of (n := "list") rfl (by decide +kernel)
@[simp] theorem is_list_tuple (xs : List D) : isD ["list"] (.tuple xs) = .ok (.bool false) := isD_of (n := "tuple") rfl (by decide +kernel)
@[simp] theorem is_list_dict : isD ["list"] (.dict []) = .ok (.bool false) := isD_of (n := "dict") rfl (by decide +kernel)
@[simp] theorem is_list_N (n : Nat) : isD ["list"] (nD n) = .ok (.bool false) := isD_of (n := "int") rfl (by decide +kernel)
@[simp] theorem is_list_T (n : List Nat) : isD ["list"] (tN n) = .ok (.bool false) := isD_of (n := "tuple") rfl (by decide +kernel)
@[simp] theorem is_list_P (n : Nat × Nat) : isD ["list"] (pN n) = .ok (.bool false) := isD_of (n := "tuple") rfl (by decide +kernel)
@[simp] theorem is_int_none : isD ["int"] .none = .ok (.bool false) := isD_of (n := "NoneType") rfl (by decide +kernel)
@[simp] theorem is_int_bool (b : Bool) : isD ["int"] (.bool b) = .ok (.bool true) := isD_of (n := "bool") rfl (by decide +kernel)
@[simp] theorem is_int_int (i : Int) : isD ["int"] (.int i) = .ok (.bool true) := isD_of (n := "int") rfl (by decide +kernel)
@[simp] theorem is_int_str (s : Str) : isD ["int"] (.str s) = .ok (.bool false) := isD_of (n := "str") rfl (by decide +kernel)
@[simp] theorem is_int_list (xs : List D) : isD ["int"] (.list xs) = .ok (.bool false) := isD_of (n := "list") rfl (by decide +kernel)
@[simp] theorem is_int_tuple (xs : List D) : isD ["int"] (.tuple xs) = .ok (.bool false) := isD_of (n := "tuple") rfl (by decide +kernel)
@[simp] theorem is_int_dict : isD ["int"] (.dict []) = .ok (.bool false) := isD_of (n := "dict") rfl (by decide +kernel)
@[simp] theorem is_int_N (n : Nat) : isD ["int"] (nD n) = .ok (.bool true) := isD_of (n := "int") rfl (by decide +kernel)
@[simp] theorem is_int_T (n : List Nat) : isD ["int"] (tN n) = .ok (.bool false) := isD_of (n := "tuple") rfl (by decide +kernel)
@[simp] theorem is_int_P (n : Nat × Nat) : isD ["int"] (pN n) = .ok (.bool false) := isD_of (n := "tuple") rfl (by decide +kernel)
@[simp] theorem is_bool_none : isD ["bool"] .none = .ok (.bool false) := isD_of (n := "NoneType") rfl (by decide +kernel)
@[simp] theorem is_bool_bool (b : Bool) : isD ["bool"] (.bool b) = .ok (.bool true) := isD_of (n := "bool") rfl (by decide +kernel)
@[simp] theorem is_bool_int (i : Int) : isD ["bool"] (.int i) = .ok (.bool false) := isD_of (n := "int") rfl (by decide +kernel)
@[simp] theorem is_bool_str (s : Str) : isD ["bool"] (.str s) = .ok (.bool false) := isD_of (n := "str") rfl (by decide +kernel)
@[simp] theorem is_bool_list (xs : List D) : isD ["bool"] (.list xs) = .ok (.bool false) := isD_of (n := "list") rfl (by decide +kernel)
@[simp] theorem is_bool_tuple (xs : List D) : isD ["bool"] (.tuple xs) = .ok (.bool false) := isD_of (n := "tuple") rfl (by decide +kernel)
@[simp] theorem is_bool_dict : isD ["bool"] (.dict []) = .ok (.bool false) := isD_of (n := "dict") rfl (by decide +kernel)
@[simp] theorem is_bool_N (n : Nat) : isD ["bool"] (nD n) = .ok (.bool false) := isD_of (n := "int") rfl (by decide +kernel)
@[simp] theorem is_bool_T (n : List Nat) : isD ["bool"] (tN n) = .ok (.bool false) := isD_of (n := "tuple") rfl (by decide +kernel)
@[simp] theorem is_bool_P (n : Nat × Nat) : isD ["bool"] (pN n) = .ok (.bool false) := isD_of (n := "tuple") rfl (by decide +kernel)
@[simp] theorem is_str_none : isD ["str"] .none = .ok (.bool false) := isD_of (n := "NoneType") rfl (by decide +kernel)
@[simp] theorem is_str_bool (b : Bool) : isD ["str"] (.bool b) = .ok (.bool false) := isD_of (n := "bool") rfl (by decide +kernel)
@[simp] theorem is_str_int (i : Int) : isD ["str"] (.int i) = .ok (.bool false) := isD_of (n := "int") rfl (by decide +kernel)
@[simp] theorem is_str_str (s : Str) : isD ["str"] (.str s) = .ok (.bool true) := isD_of (n := "str") rfl (by decide +kernel)
@[simp] theorem is_str_list (xs : List D) : isD ["str"] (.list xs) = .ok (.bool false) := isD_of (n := "list") rfl (by decide +kernel)
@[simp] theorem is_str_tuple (xs : List D) : isD ["str"] (.tuple xs) = .ok (.bool false) := isD_of (n := "tuple") rfl (by decide +kernel)
@[simp] theorem is_str_dict : isD ["str"] (.dict []) = .ok (.bool false) := isD_of (n := "dict") rfl (by decide +kernel)
@[simp] theorem is_str_N (n : Nat) : isD ["str"] (nD n) = .ok (.bool false) := isD_of (n := "int") rfl (by decide +kernel)
@[simp] theorem is_str_T (n : List Nat) : isD ["str"] (tN n) = .ok (.bool false) := isD_of (n := "tuple") rfl (by decide +kernel)
@[simp] theorem is_str_P (n : Nat × Nat) : isD ["str"] (pN n) = .ok (.bool false) := isD_of (n := "tuple") rfl (by decide +kernel)
@[simp] theorem is_seq_none : isD ["tuple", "list"] .none = .ok (.bool false) := isD_of2 (n := "NoneType") (b := false) (c := false) rfl (by decide +kernel) (by decide +kernel)
@[simp] theorem is_seq_bool (b : Bool) : isD ["tuple", "list"] (.bool b) = .ok (.bool false) := isD_of2 (n := "bool") (b := false) (c := false) rfl (by decide +kernel) (by decide +kernel)
@[simp] theorem is_seq_int (i : Int) : isD ["tuple", "list"] (.int i) = .ok (.bool false) := isD_of2 (n := "int") (b := false) (c := false) rfl (by decide +kernel) (by decide +kernel)
@[simp] theorem is_seq_str (s : Str) : isD ["tuple", "list"] (.str s) = .ok (.bool false) := isD_of2 (n := "str") (b := false) (c := false) rfl (by decide +kernel) (by decide +kernel)
@[simp] theorem is_seq_list (xs : List D) : isD ["tuple", "list"] (.list xs) = .ok (.bool true) := isD_of2 (n := "list") (b := false) (c := true) rfl (by decide +kernel) (by decide +kernel)
@[simp] theorem is_seq_tuple (xs : List D) : isD ["tuple", "list"] (.tuple xs) = .ok (.bool true) := isD_of2 (n := "tuple") (b := true) (c := false) rfl (by decide +kernel) (by decide +kernel)
@[simp] theorem is_seq_dict : isD ["tuple", "list"] (.dict []) = .ok (.bool false) := isD_of2 (n := "dict") (b := false) (c := false) rfl (by decide +kernel) (by decide +kernel)
@[simp] theorem is_seq_N (n : Nat) : isD ["tuple", "list"] (nD n) = .ok (.bool false) := isD_of2 (n := "int") (b := false) (c := false) rfl (by decide +kernel) (by decide +kernel)
@[simp] theorem is_seq_T (n : List Nat) : isD ["tuple", "list"] (tN n) = .ok (.bool true) := isD_of2 (n := "tuple") (b := true) (c := false) rfl (by decide +kernel) (by decide +kernel)
@[simp] theorem is_seq_P (n : Nat × Nat) : isD ["tuple", "list"] (pN n) = .ok (.bool true) := isD_of2 (n := "tuple") (b := true) (c := false) rfl (by decide +kernel) (by decide +kernel)
def wholeB : D → Bool
  | .int _ => true
  | _ => false
def NoDict : D → Prop
  | .dict (_ :: _) => False
  | _ => True
theorem whole_is {d : D} (h : NoDict d) : m_is_whole [d] = .ok (.bool (wholeB d)) := by
  rw [m_is_whole]
  cases d with
  | dict es =>
    cases es with
    | nil => simp only [okb, int_lit, tN_def, nox_bind, bind_as, noxo, nox_nox, nox_no', R.bind_ok, eqN, neN, ltN, leN, gtN, geN, addN, minN, maxN, truN, truB, asBB, asIntN, partN, nl_okN, nl_bool, lstD_ok, items_l, items_t, items_tN, len_l, len_t, len_tN, tuple_l, tuple_t, list_l, list_t, list_tN, ix0, ix1, ix2, ix0l, ix1l, inLN, inTN, ninLN, ninTN, inLT, inTT, ninLT, ninTT, eqT, neT, eqT0, neT0, eqL0, neL0, unp2_t, unp3_t, sl_to, sl_from, sl_tol, sl_froml, sl_totN, sl_fromtN, sortedN, decide_eq_true_eq, Bool.false_eq_true, if_true, if_false, List.length_map, List.length_range, nl_tN, nf_ok, unp2_pN, ix0p, ix1p, eqP, nf_okP, nf_okT, nl_okP, neL0P, eqL0P, neL0T, eqL0T, inLP, inTP, any_m, all_m, is_none, isnot_none, isNone_n, isNone_N, isNone_T, isNone_t, isNone_l, thenO_nx, thenO_rt, Bool.not_true, Bool.not_false, is_tuple_none, is_tuple_bool, is_tuple_int, is_tuple_str, is_tuple_list, is_tuple_tuple, is_tuple_dict, is_tuple_N, is_tuple_T, is_tuple_P, is_list_none, is_list_bool, is_list_int, is_list_str, is_list_list, is_list_tuple, is_list_dict, is_list_N, is_list_T, is_list_P, is_int_none, is_int_bool, is_int_int, is_int_str, is_int_list, is_int_tuple, is_int_dict, is_int_N, is_int_T, is_int_P, is_bool_none, is_bool_bool, is_bool_int, is_bool_str, is_bool_list, is_bool_tuple, is_bool_dict, is_bool_N, is_bool_T, is_bool_P, is_str_none, is_str_bool, is_str_int, is_str_str, is_str_list, is_str_tuple, is_str_dict, is_str_N, is_str_T, is_str_P, is_seq_none, is_seq_bool, is_seq_int, is_seq_str, is_seq_list, is_seq_tuple, is_seq_dict, is_seq_N, is_seq_T, is_seq_P, zip_ll, zip_tt, zip_lt, zip_tl]; rfl
    | cons e es => exact h.elim
  | bool b => simp only [okb, int_lit, tN_def, nox_bind, bind_as, noxo, nox_nox, nox_no', R.bind_ok, eqN, neN, ltN, leN, gtN, geN, addN, minN, maxN, truN, truB, asBB, asIntN, partN, nl_okN, nl_bool, lstD_ok, items_l, items_t, items_tN, len_l, len_t, len_tN, tuple_l, tuple_t, list_l, list_t, list_tN, ix0, ix1, ix2, ix0l, ix1l, inLN, inTN, ninLN, ninTN, inLT, inTT, ninLT, ninTT, eqT, neT, eqT0, neT0, eqL0, neL0, unp2_t, unp3_t, sl_to, sl_from, sl_tol, sl_froml, sl_totN, sl_fromtN, sortedN, decide_eq_true_eq, Bool.false_eq_true, if_true, if_false, List.length_map, List.length_range, nl_tN, nf_ok, unp2_pN, ix0p, ix1p, eqP, nf_okP, nf_okT, nl_okP, neL0P, eqL0P, neL0T, eqL0T, inLP, inTP, any_m, all_m, is_none, isnot_none, isNone_n, isNone_N, isNone_T, isNone_t, isNone_l, thenO_nx, thenO_rt, Bool.not_true, Bool.not_false, is_tuple_none, is_tuple_bool, is_tuple_int, is_tuple_str, is_tuple_list, is_tuple_tuple, is_tuple_dict, is_tuple_N, is_tuple_T, is_tuple_P, is_list_none, is_list_bool, is_list_int, is_list_str, is_list_list, is_list_tuple, is_list_dict, is_list_N, is_list_T, is_list_P, is_int_none, is_int_bool, is_int_int, is_int_str, is_int_list, is_int_tuple, is_int_dict, is_int_N, is_int_T, is_int_P, is_bool_none, is_bool_bool, is_bool_int, is_bool_str, is_bool_list, is_bool_tuple, is_bool_dict, is_bool_N, is_bool_T, is_bool_P, is_str_none, is_str_bool, is_str_int, is_str_str, is_str_list, is_str_tuple, is_str_dict, is_str_N, is_str_T, is_str_P, is_seq_none, is_seq_bool, is_seq_int, is_seq_str, is_seq_list, is_seq_tuple, is_seq_dict, is_seq_N, is_seq_T, is_seq_P, zip_ll, zip_tt, zip_lt, zip_tl]; rfl
  | _ => simp only [okb, int_lit, tN_def, nox_bind, bind_as, noxo, nox_nox, nox_no', R.bind_ok, eqN, neN, ltN, leN, gtN, geN, addN, minN, maxN, truN, truB, asBB, asIntN, partN, nl_okN, nl_bool, lstD_ok, items_l, items_t, items_tN, len_l, len_t, len_tN, tuple_l, tuple_t, list_l, list_t, list_tN, ix0, ix1, ix2, ix0l, ix1l, inLN, inTN, ninLN, ninTN, inLT, inTT, ninLT, ninTT, eqT, neT, eqT0, neT0, eqL0, neL0, unp2_t, unp3_t, sl_to, sl_from, sl_tol, sl_froml, sl_totN, sl_fromtN, sortedN, decide_eq_true_eq, Bool.false_eq_true, if_true, if_false, List.length_map, List.length_range, nl_tN, nf_ok, unp2_pN, ix0p, ix1p, eqP, nf_okP, nf_okT, nl_okP, neL0P, eqL0P, neL0T, eqL0T, inLP, inTP, any_m, all_m, is_none, isnot_none, isNone_n, isNone_N, isNone_T, isNone_t, isNone_l, thenO_nx, thenO_rt, Bool.not_true, Bool.not_false, is_tuple_none, is_tuple_bool, is_tuple_int, is_tuple_str, is_tuple_list, is_tuple_tuple, is_tuple_dict, is_tuple_N, is_tuple_T, is_tuple_P, is_list_none, is_list_bool, is_list_int, is_list_str, is_list_list, is_list_tuple, is_list_dict, is_list_N, is_list_T, is_list_P, is_int_none, is_int_bool, is_int_int, is_int_str, is_int_list, is_int_tuple, is_int_dict, is_int_N, is_int_T, is_int_P, is_bool_none, is_bool_bool, is_bool_int, is_bool_str, is_bool_list, is_bool_tuple, is_bool_dict, is_bool_N, is_bool_T, is_bool_P, is_str_none, is_str_bool, is_str_int, is_str_str, is_str_list, is_str_tuple, is_str_dict, is_str_N, is_str_T, is_str_P, is_seq_none, is_seq_bool, is_seq_int, is_seq_str, is_seq_list, is_seq_tuple, is_seq_dict, is_seq_N, is_seq_T, is_seq_P, zip_ll, zip_tt, zip_lt, zip_tl]; rfl
def uptoB (d : D) (n : Nat) : Bool := match d with
  | .int i => decide (0 ≤ i ∧ i < (n : Int))
  | _ => false
theorem upto_is {d : D} (h : NoDict d) (n : Nat) : m_is_upto [d, nD n] = .ok (.bool (uptoB d n)) := by
  rw [m_is_upto]
  simp only [okb, int_lit, tN_def, nox_bind, bind_as, noxo, nox_nox, nox_no', R.bind_ok, eqN, neN, ltN, leN, gtN, geN, addN, minN, maxN, truN, truB, asBB, asIntN, partN, nl_okN, nl_bool, lstD_ok, items_l, items_t, items_tN, len_l, len_t, len_tN, tuple_l, tuple_t, list_l, list_t, list_tN, ix0, ix1, ix2, ix0l, ix1l, inLN, inTN, ninLN, ninTN, inLT, inTT, ninLT, ninTT, eqT, neT, eqT0, neT0, eqL0, neL0, unp2_t, unp3_t, sl_to, sl_from, sl_tol, sl_froml, sl_totN, sl_fromtN, sortedN, decide_eq_true_eq, Bool.false_eq_true, if_true, if_false, List.length_map, List.length_range, nl_tN, nf_ok, unp2_pN, ix0p, ix1p, eqP, nf_okP, nf_okT, nl_okP, neL0P, eqL0P, neL0T, eqL0T, inLP, inTP, any_m, all_m, is_none, isnot_none, isNone_n, isNone_N, isNone_T, isNone_t, isNone_l, thenO_nx, thenO_rt, Bool.not_true, Bool.not_false, is_tuple_none, is_tuple_bool, is_tuple_int, is_tuple_str, is_tuple_list, is_tuple_tuple, is_tuple_dict, is_tuple_N, is_tuple_T, is_tuple_P, is_list_none, is_list_bool, is_list_int, is_list_str, is_list_list, is_list_tuple, is_list_dict, is_list_N, is_list_T, is_list_P, is_int_none, is_int_bool, is_int_int, is_int_str, is_int_list, is_int_tuple, is_int_dict, is_int_N, is_int_T, is_int_P, is_bool_none, is_bool_bool, is_bool_int, is_bool_str, is_bool_list, is_bool_tuple, is_bool_dict, is_bool_N, is_bool_T, is_bool_P, is_str_none, is_str_bool, is_str_int, is_str_str, is_str_list, is_str_tuple, is_str_dict, is_str_N, is_str_T, is_str_P, is_seq_none, is_seq_bool, is_seq_int, is_seq_str, is_seq_list, is_seq_tuple, is_seq_dict, is_seq_N, is_seq_T, is_seq_P, zip_ll, zip_tt, zip_lt, zip_tl, whole_is h]
  cases d with
  | int i =>
    simp only [wholeB, if_true, nD, pyLe, pyLt, okb, asBB, uptoB]
    by_cases h1 : (0 : Int) ≤ i
    · simp [h1]
    · simp [h1]
  | _ => rfl
@[simp] theorem upto_N (a n : Nat) : m_is_upto [nD a, nD n] = .ok (.bool (decide (a < n))) := by
  rw [upto_is (d := nD a) trivial]
  simp [uptoB, nD]
@[simp] theorem whole_N (a : Nat) : m_is_whole [nD a] = .ok (.bool true) := whole_is (d := nD a) trivial
end TP
namespace TP
open PySem PySem.Spec PyProof.Rows L2 TL JT
def IsBox (s : D) : Prop := ∃ b : Int, s = .list [.int b]
def Drawn (n : Nat) (p : D × D) : Prop := (∃ k : Nat, k < n ∧ p.1 = nD k) ∧ IsBox p.2
theorem mod_2 (i : Int) : pyMod (.int i) (.int 2) = .ok (.int (i % 2)) := pyMod_of (by decide)
theorem div_2 (i : Int) : pyDiv (.int i) (.int 2) = .ok (.int (i / 2)) := pyDiv_of (by decide) (by decide)
def layD (m : Nat) (hs : List (List Nat)) : D := .tuple [nD m, .tuple (hs.map tN)]
structure LayV (m : Nat) (hs : List (List Nat)) : Prop where
  m1 : 1 ≤ m
  m7 : m ≤ 7
  n1 : 1 ≤ hs.length
  n6 : hs.length ≤ 6
  ne : ∀ h ∈ hs, h ≠ []
  up : ∀ h ∈ hs, h.Pairwise (· < ·)
  lt : ∀ h ∈ hs, ∀ c ∈ h, c < m
theorem rise_len {m : Nat} : ∀ {h : List Nat} {a : Nat}, h.Pairwise (· < ·) → (∀ c ∈ h, c < m) → (∀ c ∈ h, a ≤ c) → a ≤ m → h.length + a ≤ m
  | [], a, _, _, _, ha => by simpa using ha
  | c :: h, a, h1, h2, h3, ha => by
    rw [List.pairwise_cons] at h1
    have hc := h2 c List.mem_cons_self
    have h4 := h3 c List.mem_cons_self
    have := rise_len (a := c + 1) h1.2 (fun d hd => h2 d (List.mem_cons_of_mem _ hd)) (fun d hd => h1.1 d hd) hc
    rw [List.length_cons]
    omega
theorem LayV.len {m : Nat} {hs : List (List Nat)} (v : LayV m hs) {h : List Nat} (hh : h ∈ hs) : h.length ≤ m := by
  have := rise_len (a := 0) (v.up h hh) (v.lt h hh) (fun _ _ => Nat.zero_le _) (Nat.zero_le _)
  omega
theorem erase_map {α β : Type} (f : α → β) : ∀ (l : List α) (k : Nat), (l.map f).eraseIdx k = (l.eraseIdx k).map f
  | [], _ => rfl
  | _ :: _, 0 => rfl
  | x :: l, k + 1 => congrArg (f x :: ·) (erase_map f l k)
theorem perm_erase {α : Type} : ∀ {l : List α} {k : Nat} (h : k < l.length), (l[k] :: l.eraseIdx k).Perm l
  | x :: l, 0, _ => List.Perm.refl _
  | x :: l, k + 1, h => by
    have h' : k < l.length := Nat.lt_of_succ_lt_succ h
    exact (List.Perm.swap x l[k] _).trans ((perm_erase h').cons x)
theorem popAt_is {α : Type} {f : α → D} {l : List α} {k : Nat} (z : α) (h : k < l.length) (h2 : l.length ≤ 16777216) : popAtD (.list (l.map f)) (nD k) = .ok (f (l.getD k z), .list ((l.eraseIdx k).map f)) := by
  have g := getD_map (f := f) h z
  simp only [popAtD, nD, List.length_map]
  rw [if_pos ⟨by omega, by omega⟩, seqIndex_of (by omega) (by omega)]
  simp only [Int.toNat_natCast, g, erase_map]
theorem head_len {m : Nat} {h : List Nat} (h1 : h.Pairwise (· < ·)) (h2 : ∀ c ∈ h, c < m) : h.length ≤ m := by
  have := rise_len (a := 0) h1 h2 (fun _ _ => Nat.zero_le _) (Nat.zero_le _)
  omega
end TP
namespace TP
open PySem PySem.Spec PyProof.Rows L2 TL JT
structure OrD {α : Type} [LT α] (k : Nat) (f : α → D) : Prop where
  eq : EqD k f
  al : ∀ a b, PySem.W.alike (f a) (f b) = true
  lt : ∀ a b, PySem.W.dataLt (f a) (f b) = true ↔ a < b
theorem ord_nD : OrD 0 nD := ⟨eqd_nD, fun a b => alike_int _ _, fun a b => by
  unfold nD
  rw [PySem.W.dataLt_int, decide_eq_true_iff]
  omega⟩
theorem alike_all {α : Type} {f : α → D} (h : ∀ a b, PySem.W.alike (f a) (f b) = true) : ∀ xs ys : List α, PySem.W.alikeAll (xs.map f) (ys.map f) = true
  | [], ys => by cases ys <;> simp [PySem.W.alikeAll]
  | x :: xs, [] => by simp [PySem.W.alikeAll]
  | x :: xs, y :: ys => by
    rw [List.map_cons, List.map_cons, PySem.W.alikeAll, h, alike_all h xs ys]
    rfl
theorem rowLt_map {α : Type} [LT α] {k : Nat} {f : α → D} (h : OrD k f) : ∀ xs ys : List α, PySem.W.rowLt (xs.map f) (ys.map f) = true ↔ xs < ys
  | [], [] => by
    have e : PySem.W.rowLt [] [] = false := lex_irrefl _
    simp [e]
  | [], y :: ys => by
    have e : PySem.W.rowLt [] (f y :: ys.map f) = true := by
      unfold PySem.W.rowLt
      rw [PySem.W.toks_all_cons]
      simp only [PySem.W.keyToksAll]
      rw [lex_diff (O := itemOrd) (by simp)]
      rfl
    simpa using e
  | x :: xs, [] => by
    have e : PySem.W.rowLt (f x :: xs.map f) [] = false := by
      unfold PySem.W.rowLt
      rw [PySem.W.toks_all_cons]
      simp only [PySem.W.keyToksAll]
      rw [lex_diff (O := itemOrd) (by simp)]
      rfl
    simpa using e
  | x :: xs, y :: ys => by
    have e : PySem.W.rowLt (f x :: xs.map f) (f y :: ys.map f) = if PyData.eqv (f x) (f y) = true then PySem.W.rowLt (xs.map f) (ys.map f) else PySem.W.dataLt (f x) (f y) := PySem.W.dataLt_cons (h.al x y) _ _
    rw [List.map_cons, List.map_cons, e, List.cons_lt_cons_iff]
    by_cases c : x = y
    · subst c
      rw [if_pos ((h.eq.eqv x x).mpr rfl), rowLt_map h xs ys]
      have irr : ¬ x < x := fun z => by
        have := (h.lt x x).mpr z
        unfold PySem.W.dataLt at this
        rw [lex_irrefl] at this
        cases this
      simp [irr]
    · rw [if_neg (fun z => c ((h.eq.eqv x y).mp z)), h.lt]
      simp [c]
theorem OrD.tup {α : Type} [LT α] {f : α → D} {k : Nat} (h : OrD k f) : OrD (k + 1) fun xs : List α => .tuple (xs.map f) :=
  ⟨h.eq.tup, fun xs ys => by simp only [PySem.W.alike]; exact alike_all h.al xs ys, fun xs ys => by
    rw [PySem.W.dataLt_tuple]
    exact rowLt_map h xs ys⟩
theorem ord_tN : OrD 1 tN := ord_nD.tup
section
variable {α : Type} [LT α] {f : α → D} {k : Nat}
def srt (xs : List α) [DecidableRel (α := α) (· < ·)] : List α := xs.mergeSort fun a b => decide (¬ b < a)
theorem OrD.sorted [DecidableRel (α := α) (· < ·)] (h : OrD k f) (hk : k ≤ 60) {xs : List α} (hs : (∀ x ∈ xs, ∃ y ys, f x = .tuple (y :: ys)) ∨ ∀ x ∈ xs, f x ≠ .none ∧ ∀ ys, f x ≠ .tuple ys) : pySorted [.list (xs.map f)] = .ok (.list ((srt xs).map f)) := by
  simp only [pySorted]
  rw [if_pos ?_]
  · congr 2
    unfold sortD srt
    refine (List.map_mergeSort fun a _ b _ => ?_).symm
    show _ = (!PySem.W.dataLt (f b) (f a))
    rw [Bool.eq_iff_iff, decide_eq_true_iff, Bool.not_eq_true', ← Bool.not_eq_true, h.lt]
  · unfold sortable
    simp only [Bool.and_eq_true, Bool.or_eq_true, List.all_eq_true]
    refine ⟨⟨fun d hd e he => ?_, fun d hd => ?_⟩, hs.imp (fun g d hd => ?_) fun g d hd => ?_⟩
    · obtain ⟨a, _, rfl⟩ := List.mem_map.mp hd
      obtain ⟨b, _, rfl⟩ := List.mem_map.mp he
      exact h.al a b
    · obtain ⟨a, _, rfl⟩ := List.mem_map.mp hd
      exact (h.eq.fit a).fit hk
    · obtain ⟨a, ha, rfl⟩ := List.mem_map.mp hd
      obtain ⟨y, ys, e⟩ := g a ha
      rw [e]
    · obtain ⟨a, ha, rfl⟩ := List.mem_map.mp hd
      obtain ⟨g1, g2⟩ := g a ha
      cases e : f a with
      | none => exact absurd e g1
      | tuple ys => exact absurd e (g2 ys)
      | _ => rfl
end
theorem sortedT {xs : List (List Nat)} (h : ∀ x ∈ xs, x ≠ []) : pySorted [.list (xs.map tN)] = .ok (.list ((srt xs).map tN)) :=
  ord_tN.sorted (by decide) (.inl fun x hx => by
    cases x with
    | nil => exact absurd rfl (h _ hx)
    | cons y ys => exact ⟨nD y, ys.map nD, rfl⟩)
@[simp] theorem ltT (a b : List Nat) : pyLt (tN a) (tN b) = .ok (.bool (decide (a < b))) := by
  show pyLt (.tuple (a.map nD)) (.tuple (b.map nD)) = _
  simp only [pyLt]
  rw [if_pos ⟨ord_tN.al a b, (eqd_tN.fit a).fit (by decide), (eqd_tN.fit b).fit (by decide)⟩]
  congr 2
  rw [Bool.eq_iff_iff, decide_eq_true_iff]
  exact ord_tN.lt a b
def Fine (o : Oc Unit) : Prop := o = .nx ()
theorem turns {α β : Type} {u : D → R β} {mb : Unit → β → R (Oc Unit)} {g : α → D} {h : α → β} {xs : List α} (hu : ∀ x ∈ xs, u (g x) = .ok (h x)) (hm : ∀ x ∈ xs, Sat (mb () (h x)) Fine) : Sat (foldO u mb (xs.map g) ()) Fine := by
  induction xs with
  | nil => exact ⟨_, rfl, rfl⟩
  | cons x xs ih =>
    rw [List.map_cons, foldO, hu x List.mem_cons_self, nox_ok, okb]
    obtain ⟨o, e, rfl⟩ := hm x List.mem_cons_self
    rw [e, okb]
    exact ih (fun y hy => hu y (List.mem_cons_of_mem _ hy)) fun y hy => hm y (List.mem_cons_of_mem _ hy)
theorem turnsN {mb : Unit → D → R (Oc Unit)} {n : Nat} (hm : ∀ k, k < n → Sat (mb () (nD k)) Fine) : Sat (foldO (fun d => R.ok d) mb ((List.range n).map nD) ()) Fine :=
  turns (h := nD) (fun _ _ => rfl) fun k hk => hm k (List.mem_range.mp hk)
theorem thenFine {A : Type} {m : R (Oc Unit)} {r : D → D → A} {k : Unit → R A} {Q : A → Prop} (h : Sat m Fine) (h1 : Sat (k ()) Q) : Sat (thenO m r k) Q := by
  obtain ⟨o, e, rfl⟩ := h
  rw [e]
  exact h1
theorem len_scr (ns : List Int) : TL.pyLen [scrD ns] = .ok (nD ns.length) := by
  show R.ok (PyData.int ((ns.map PyData.int).length : Nat)) = _
  rw [List.length_map]
  rfl
@[simp] theorem enum_t (xs : List D) : pyEnum [.tuple xs] = .ok (enumD xs) := id (Eq.refl _)
@[simp] theorem enum_l (xs : List D) : pyEnum [.list xs] = .ok (enumD xs) := id (Eq.refl _)
@[simp] theorem ix0Lm {α : Type} (f : α → D) (x : α) (xs : List α) : pyIx (.list ((x :: xs).map f)) (nD 0) = .ok (f x) := ix0l _ _
@[simp] theorem ix0Tm {α : Type} (f : α → D) (x : α) (xs : List α) : pyIx (.tuple ((x :: xs).map f)) (nD 0) = .ok (f x) := ix0 _ _
@[simp] theorem neg1 : pyNeg (nD 1) = .ok (.int (-1)) := id (Eq.refl _)
theorem atI_last {xs : List D} {d : D} : atI (xs ++ [d]) (-1) = some d := by
  unfold atI ixN
  have e : (-1 + ((xs.length : Int) + 1)).toNat = xs.length := by omega
  simp only [List.length_append, List.length_cons, List.length_nil]
  rw [if_neg (by decide), if_pos (by omega)]
  show (xs ++ [d])[((-1 : Int) + ((xs.length + (0 + 1) : Nat) : Int)).toNat]? = some d
  rw [show ((-1 : Int) + ((xs.length + (0 + 1) : Nat) : Int)).toNat = xs.length by omega]
  simp
@[simp] theorem ix_last (xs : List D) (d : D) : pyIx (.list (xs ++ [d])) (.int (-1)) = .ok d := by simp only [pyIx, atI_last]
@[simp] theorem ix_lastT (xs : List D) (d : D) : pyIx (.tuple (xs ++ [d])) (.int (-1)) = .ok d := by simp only [pyIx, atI_last]
end TP
namespace TP
open PySem PySem.Spec PyProof.Rows L2 TL JT
theorem pick_sat {xs : List D} {k : Nat} {P : D → Prop} (h : ∀ x ∈ xs, P x) (hk : k < xs.length) : Sat (pyIx (.list xs) (nD k)) P := ⟨_, ixL hk, h _ (List.getElem_mem hk)⟩
theorem pick_nox {xs : List D} {k : Nat} {P : D → Prop} (h : ∀ x ∈ xs, P x) (hk : k < xs.length) : Sat (nox (pyIx (.list xs) (nD k))) P := (pick_sat h hk).nox
def Thing (d : D) : Prop := NoDict d ∧ match d with
  | .tuple xs => ∀ x ∈ xs, NoDict x
  | _ => True
theorem thing_T (o : List Nat) : Thing (tN o) := ⟨trivial, fun x hx => by
  obtain ⟨n, _, rfl⟩ := List.mem_map.mp hx
  exact trivial⟩
def natOf : D → Option Nat
  | .int i => if 0 ≤ i then some i.toNat else none
  | _ => none
def natsOf : List D → Option (List Nat)
  | [] => some []
  | x :: xs => match natOf x, natsOf xs with
    | some n, some ns => some (n :: ns)
    | _, _ => none
theorem natOf_N (n : Nat) : natOf (nD n) = some n := by simp [natOf, nD]
theorem natsOf_map (ns : List Nat) : natsOf (ns.map nD) = some ns := by
  induction ns with
  | nil => rfl
  | cons n ns ih => rw [List.map_cons, natsOf, natOf_N, ih]
theorem upto_some {d : D} {n : Nat} (h : uptoB d n = true) : ∃ k, d = nD k ∧ k < n := by
  cases d with
  | int i =>
    have := of_decide_eq_true h
    exact ⟨i.toNat, by unfold nD; congr 1; omega, by omega⟩
  | _ => cases h
theorem upto_all : ∀ {xs : List D} {n : Nat}, xs.all (fun x => uptoB x n) = true → ∃ o : List Nat, xs = o.map nD ∧ ∀ c ∈ o, c < n
  | [], _, _ => ⟨[], rfl, fun _ h => nomatch h⟩
  | x :: xs, n, h => by
    rw [List.all_cons, Bool.and_eq_true] at h
    obtain ⟨k, rfl, hk⟩ := upto_some h.1
    obtain ⟨o, rfl, ho⟩ := upto_all h.2
    exact ⟨k :: o, rfl, fun c hc => (List.mem_cons.mp hc).elim (fun e => e ▸ hk) (ho c)⟩
theorem map_upto {xs : List D} (h : ∀ x ∈ xs, NoDict x) (n : Nat) : mapR (fun x => m_is_upto [x, nD n]) xs = .ok (xs.map fun x => PyData.bool (uptoB x n)) := by
  have := mapR_m (f := fun x => m_is_upto [x, nD n]) (g := fun x : D => x) (fun x => PyData.bool (uptoB x n)) (xs := xs) fun x hx => upto_is (h x hx) n
  rwa [List.map_id'] at this
@[simp] theorem sortedtN (xs : List Nat) : pySorted [tN xs] = .ok (.list ((sortN xs).map nD)) := sortedN xs
@[simp] theorem eqL (a b : List Nat) : pyEq (.list (a.map nD)) (.list (b.map nD)) = .ok (.bool (decide (a = b))) := eqd_lN.eq (by decide) a b
@[simp] theorem neL (a b : List Nat) : pyNe (.list (a.map nD)) (.list (b.map nD)) = .ok (.bool (decide (a ≠ b))) := eqd_lN.ne (by decide) a b
@[simp] theorem rev_tN (xs : List Nat) : pyRev (tN xs) = .ok (tN xs.reverse) := by
  show R.ok (PyData.tuple (xs.map nD).reverse) = _
  rw [← List.map_reverse]
  rfl
def optT : Option (List Nat) → D
  | some l => tN l
  | none => .none
@[simp] theorem isNone_optT (o : Option (List Nat)) : isNone (optT o) = o.isNone := by cases o <;> rfl
end TP
local macro_rules
  | `(tactic| simp! only $[$l:location]?) => `(tactic| simp only [TP.okb, TP.int_lit, TP.tN_def, TP.nox_bind, TP.bind_as, TP.noxo, TP.nox_nox, TP.nox_no', TL.R.bind_ok, TP.eqN, TP.neN, TP.ltN, TP.leN, TP.gtN, TP.geN, TP.addN, TP.minN, TP.maxN, TP.truN, TP.truB, TP.asBB, TP.asIntN, TP.partN, TP.nl_okN, TP.nl_bool, TP.lstD_ok, TP.items_l, TP.items_t, TP.items_tN, TP.len_l, TP.len_t, TP.len_tN, TP.tuple_l, TP.tuple_t, TP.list_l, TP.list_t, TP.list_tN, TP.ix0, TP.ix1, TP.ix2, TP.ix0l, TP.ix1l, TP.inLN, TP.inTN, TP.ninLN, TP.ninTN, TP.inLT, TP.inTT, TP.ninLT, TP.ninTT, TP.eqT, TP.neT, TP.eqT0, TP.neT0, TP.eqL0, TP.neL0, TP.unp2_t, TP.unp3_t, TP.sl_to, TP.sl_from, TP.sl_tol, TP.sl_froml, TP.sl_totN, TP.sl_fromtN, TP.sortedN, decide_eq_true_eq, Bool.false_eq_true, if_true, if_false, List.length_map, List.length_range, TP.nl_tN, TP.nf_ok, TP.unp2_pN, TP.ix0p, TP.ix1p, TP.eqP, TP.nf_okP, TP.nf_okT, TP.nl_okP, TP.neL0P, TP.eqL0P, TP.neL0T, TP.eqL0T, TP.inLP, TP.inTP, TP.any_m, TP.all_m, TP.is_none, TP.isnot_none, TP.isNone_n, TP.isNone_N, TP.isNone_T, TP.isNone_t, TP.isNone_l, TP.thenO_nx, TP.thenO_rt, Bool.not_true, Bool.not_false, TP.is_tuple_none, TP.is_tuple_bool, TP.is_tuple_int, TP.is_tuple_str, TP.is_tuple_list, TP.is_tuple_tuple, TP.is_tuple_dict, TP.is_tuple_N, TP.is_tuple_T, TP.is_tuple_P, TP.is_list_none, TP.is_list_bool, TP.is_list_int, TP.is_list_str, TP.is_list_list, TP.is_list_tuple, TP.is_list_dict, TP.is_list_N, TP.is_list_T, TP.is_list_P, TP.is_int_none, TP.is_int_bool, TP.is_int_int, TP.is_int_str, TP.is_int_list, TP.is_int_tuple, TP.is_int_dict, TP.is_int_N, TP.is_int_T, TP.is_int_P, TP.is_bool_none, TP.is_bool_bool, TP.is_bool_int, TP.is_bool_str, TP.is_bool_list, TP.is_bool_tuple, TP.is_bool_dict, TP.is_bool_N, TP.is_bool_T, TP.is_bool_P, TP.is_str_none, TP.is_str_bool, TP.is_str_int, TP.is_str_str, TP.is_str_list, TP.is_str_tuple, TP.is_str_dict, TP.is_str_N, TP.is_str_T, TP.is_str_P, TP.is_seq_none, TP.is_seq_bool, TP.is_seq_int, TP.is_seq_str, TP.is_seq_list, TP.is_seq_tuple, TP.is_seq_dict, TP.is_seq_N, TP.is_seq_T, TP.is_seq_P, TP.zip_ll, TP.zip_tt, TP.zip_lt, TP.zip_tl, TP.upto_N, TP.whole_N, TP.enum_t, TP.enum_l, TP.ix0Lm, TP.ix0Tm, TP.neg1, TP.ix_last, TP.ix_lastT, TP.sortedtN, TP.eqL, TP.neL, TP.rev_tN, TP.isNone_optT] $[$l:location]?)
  | `(tactic| simp! only [$xs,*] $[$l:location]?) => `(tactic| simp only [TP.okb, TP.int_lit, TP.tN_def, TP.nox_bind, TP.bind_as, TP.noxo, TP.nox_nox, TP.nox_no', TL.R.bind_ok, TP.eqN, TP.neN, TP.ltN, TP.leN, TP.gtN, TP.geN, TP.addN, TP.minN, TP.maxN, TP.truN, TP.truB, TP.asBB, TP.asIntN, TP.partN, TP.nl_okN, TP.nl_bool, TP.lstD_ok, TP.items_l, TP.items_t, TP.items_tN, TP.len_l, TP.len_t, TP.len_tN, TP.tuple_l, TP.tuple_t, TP.list_l, TP.list_t, TP.list_tN, TP.ix0, TP.ix1, TP.ix2, TP.ix0l, TP.ix1l, TP.inLN, TP.inTN, TP.ninLN, TP.ninTN, TP.inLT, TP.inTT, TP.ninLT, TP.ninTT, TP.eqT, TP.neT, TP.eqT0, TP.neT0, TP.eqL0, TP.neL0, TP.unp2_t, TP.unp3_t, TP.sl_to, TP.sl_from, TP.sl_tol, TP.sl_froml, TP.sl_totN, TP.sl_fromtN, TP.sortedN, decide_eq_true_eq, Bool.false_eq_true, if_true, if_false, List.length_map, List.length_range, TP.nl_tN, TP.nf_ok, TP.unp2_pN, TP.ix0p, TP.ix1p, TP.eqP, TP.nf_okP, TP.nf_okT, TP.nl_okP, TP.neL0P, TP.eqL0P, TP.neL0T, TP.eqL0T, TP.inLP, TP.inTP, TP.any_m, TP.all_m, TP.is_none, TP.isnot_none, TP.isNone_n, TP.isNone_N, TP.isNone_T, TP.isNone_t, TP.isNone_l, TP.thenO_nx, TP.thenO_rt, Bool.not_true, Bool.not_false, TP.is_tuple_none, TP.is_tuple_bool, TP.is_tuple_int, TP.is_tuple_str, TP.is_tuple_list, TP.is_tuple_tuple, TP.is_tuple_dict, TP.is_tuple_N, TP.is_tuple_T, TP.is_tuple_P, TP.is_list_none, TP.is_list_bool, TP.is_list_int, TP.is_list_str, TP.is_list_list, TP.is_list_tuple, TP.is_list_dict, TP.is_list_N, TP.is_list_T, TP.is_list_P, TP.is_int_none, TP.is_int_bool, TP.is_int_int, TP.is_int_str, TP.is_int_list, TP.is_int_tuple, TP.is_int_dict, TP.is_int_N, TP.is_int_T, TP.is_int_P, TP.is_bool_none, TP.is_bool_bool, TP.is_bool_int, TP.is_bool_str, TP.is_bool_list, TP.is_bool_tuple, TP.is_bool_dict, TP.is_bool_N, TP.is_bool_T, TP.is_bool_P, TP.is_str_none, TP.is_str_bool, TP.is_str_int, TP.is_str_str, TP.is_str_list, TP.is_str_tuple, TP.is_str_dict, TP.is_str_N, TP.is_str_T, TP.is_str_P, TP.is_seq_none, TP.is_seq_bool, TP.is_seq_int, TP.is_seq_str, TP.is_seq_list, TP.is_seq_tuple, TP.is_seq_dict, TP.is_seq_N, TP.is_seq_T, TP.is_seq_P, TP.zip_ll, TP.zip_tt, TP.zip_lt, TP.zip_tl, TP.upto_N, TP.whole_N, TP.enum_t, TP.enum_l, TP.ix0Lm, TP.ix0Tm, TP.neg1, TP.ix_last, TP.ix_lastT, TP.sortedtN, TP.eqL, TP.neL, TP.rev_tN, TP.isNone_optT, $xs,*] $[$l:location]?)
namespace TP
open PySem PySem.Spec PyProof.Rows L2 TL JT
def hd (hs : List (List Nat)) (i : Nat) : List Nat := hs.getD i []
structure Sm (hs : List (List Nat)) : Prop where
  n : hs.length ≤ 64
  h : ∀ h ∈ hs, h.length ≤ 64
theorem hd_mem {hs : List (List Nat)} {i : Nat} (h : i < hs.length) : hd hs i ∈ hs := by
  unfold hd
  rw [List.getD_eq_getElem?_getD, List.getElem?_eq_getElem h]
  exact List.getElem_mem _
theorem thenSat {A J : Type} {m : R (Oc J)} {r : D → D → A} {k : J → R A} {P : Oc J → Prop} {Q : A → Prop} (h : Sat m P) (h1 : ∀ j, P (.nx j) → Sat (k j) Q) (h2 : ∀ t b, P (.rt t b) → Q (r t b)) (h3 : ∀ j, ¬ P (.bk j)) : Sat (thenO m r k) Q := by
  obtain ⟨o, rfl, ho⟩ := h
  cases o with
  | nx j => exact h1 j ho
  | rt t b => exact ⟨_, rfl, h2 t b ho⟩
  | bk j => exact absurd ho (h3 j)
@[simp] theorem popD_last (xs : List D) (d : D) : popD (.list (xs ++ [d])) = .ok (d, .list xs) := by
  simp only [popD]
  rw [show (xs ++ [d]).length - 1 = xs.length by simp, List.getElem?_append_right (Nat.le_refl _)]
  simp
theorem lay0 (m : Nat) (hs : List (List Nat)) : pyIx (layD m hs) (nD 0) = .ok (nD m) := ix0 _ _
theorem lay1 (m : Nat) (hs : List (List Nat)) : pyIx (layD m hs) (nD 1) = .ok (.tuple (hs.map tN)) := ix1 _ _ _
@[simp] theorem sqOk_T (xs : List D) : sqOk (.tuple xs) = .ok () := id (Eq.refl _)
@[simp] theorem sqOk_tN (xs : List Nat) : sqOk (tN xs) = .ok () := id (Eq.refl _)
end TP
namespace TP
open PySem PySem.Spec PyProof.Rows L2 TL JT
@[simp] theorem sl_m1 (xs : List D) : pySl (.tuple xs) none (some (-1)) = .ok (.tuple xs.dropLast) := by
  rw [pySl]
  unfold TL.cutD
  rw [HT.sIx_none, List.drop_zero, Nat.sub_zero, List.dropLast_eq_take]
  congr 3
  unfold HT.sIx
  simp only []
  rw [if_pos (by decide)]
  omega
@[simp] theorem sl_m1N (xs : List Nat) : pySl (tN xs) none (some (-1)) = .ok (tN xs.dropLast) := by
  unfold tN
  rw [sl_m1, List.map_dropLast]
@[simp] theorem zipNN (xs ys : List Nat) : pyZip [tN xs, tN ys] = .ok ((xs.zip ys).map pN) := by
  show R.ok (pairs (xs.map nD) (ys.map nD)) = _
  unfold pairs
  rw [List.zipWith_map, List.zip, List.map_zipWith]
  rfl
theorem rise_zip : ∀ xs : List Nat, ((xs.dropLast.zip (xs.drop 1)).all fun p => decide (p.1 < p.2)) = decide (xs.Pairwise (· < ·))
  | [] => rfl
  | [a] => by simp
  | a :: b :: t => by
    have ih := rise_zip (b :: t)
    rw [List.dropLast_cons₂, List.drop_one, List.tail_cons, List.zip_cons_cons, List.all_cons]
    rw [List.drop_one, List.tail_cons] at ih
    rw [ih, Bool.eq_iff_iff, Bool.and_eq_true, decide_eq_true_iff, decide_eq_true_iff, decide_eq_true_iff, List.pairwise_cons (a := a)]
    refine ⟨fun ⟨h1, h2⟩ => ⟨fun c hc => ?_, h2⟩, fun ⟨h1, h2⟩ => ⟨h1 b List.mem_cons_self, h2⟩⟩
    rcases List.mem_cons.mp hc with e | e
    · rw [e]; exact h1
    · have := (List.pairwise_cons.mp h2).1 c e
      show a < c
      have h1' : a < b := h1
      omega
theorem is_rising_is (xs : List Nat) : m_is_rising [tN xs] = .ok (.bool (decide (xs.Pairwise (· < ·)))) := by
  rw [m_is_rising]
  have e : partD (.int (-1)) = .ok (some (-1)) := rfl
  simp! only [e, sl_m1N, zipNN]
  have e2 : pySl (tN xs) (some ((1 : Nat) : Int)) none = .ok (tN (xs.drop 1)) := sl_fromtN xs 1
  rw [mapR_m (fun p : Nat × Nat => PyData.bool (decide (p.1 < p.2))) (fun p _ => by simp! only)]
  simp! only [rise_zip]
def headB (h : List Nat) (m : Nat) : Bool := decide (h ≠ []) && (h.all fun c => decide (c < m)) && decide (h.Pairwise (· < ·))
theorem is_head_is (h : List Nat) (m : Nat) : m_is_head [tN h, nD m] = .ok (.bool (headB h m)) := by
  rw [m_is_head]
  simp! only
  rw [mapR_m (fun c => PyData.bool (decide (c < m))) (fun c _ => by simp! only)]
  unfold headB
  by_cases h0 : h = []
  · simp! only [h0, decide_true, ne_eq, not_true, decide_false, Bool.false_and]
  · simp! only [h0, decide_false, ne_eq, not_false_eq_true, decide_true, Bool.true_and]
    cases h1 : h.all fun c => decide (c < m) with
    | false => simp! only [Bool.false_and]
    | true => simp! only [Bool.true_and, is_rising_is]
theorem is_layout_yes {m : Nat} {hs : List (List Nat)} (v : LayV m hs) : m_is_layout [layD m hs] = .ok (.bool true) := by
  rw [m_is_layout]
  have h1 := v.m1
  have h2 := v.m7
  have h3 := v.n1
  have h4 := v.n6
  have ht : isD ["tuple"] (layD m hs) = .ok (.bool true) := is_tuple_tuple _
  have hl : TL.pyLen [layD m hs] = .ok (nD 2) := rfl
  simp! only [lay0, lay1, ht, hl, show m < 7 + 1 by omega, show m ≠ 0 by omega, show 1 ≤ hs.length from h3, show hs.length ≤ 6 from h4, decide_true, decide_false, ne_eq, not_true]
  rw [mapR_m (fun h => PyData.bool (headB h m)) (fun h _ => is_head_is h m)]
  simp! only
  have : hs.all (fun h => headB h m) = true := List.all_eq_true.mpr fun h hh => by
    unfold headB
    rw [decide_eq_true (v.ne h hh), decide_eq_true (v.up h hh), List.all_eq_true.mpr fun c hc => decide_eq_true (v.lt h hh c hc)]
    rfl
  rw [this]
end TP
namespace TP
open PySem PySem.Spec PyProof.Rows L2 TL JT
open Builtin.Int (intBits)
theorem take2_is (b : Int) (n : Nat) (h : 0 < n) (h2 : n < 1073741824) : m_law_take_2 (.list [.int b]) [nD n] = .ok (.int (b % n), .list [.int (b / n)]) := by
  rw [m_law_take_2]
  have e1 : pyIx (.list [.int b]) (nD 0) = .ok (.int b) := ix0l _ _
  have e2 : pyDivmod [.int b, nD n] = .ok (.tuple [.int (b / n), .int (b % n)]) := by
    unfold nD
    simp only [pyDivmod]
    rw [if_pos ⟨by omega, by omega⟩]
  have e3 : nl (.ok (.tuple [.int (b / n), .int (b % n)])) = .ok (.tuple [.int (b / n), .int (b % n)]) := nl_ok rfl
  have e4 : setD (.list [.int b]) (nD 0) (.int (b / n)) = .ok (.list [.int (b / n)]) := rfl
  simp! only [e1, e2, e3, e4]
theorem take2_sat {s : D} {n : Nat} (hb : IsBox s) (h : 0 < n) (h2 : n < 1073741824) : Sat (m_law_take_2 s [nD n]) (Drawn n) := by
  obtain ⟨b, rfl⟩ := hb
  rw [take2_is b n h h2]
  refine ⟨_, rfl, ⟨(b % n).toNat, ?_, ?_⟩, _, rfl⟩
  · have := Int.emod_lt_of_pos b (show (0 : Int) < n by omega)
    have := Int.emod_nonneg b (show (n : Int) ≠ 0 by omega)
    omega
  · have := Int.emod_nonneg b (show (n : Int) ≠ 0 by omega)
    show PyData.int (b % n) = .int _
    rw [Int.toNat_of_nonneg this]
theorem take2_nox {s : D} {n : Nat} (hb : IsBox s) (h : 0 < n) (h2 : n < 1073741824) : Sat (nox (m_law_take_2 s [nD n])) (Drawn n) := (take2_sat hb h h2).nox
theorem cell_small (ns : List Int) (k : Nat) (hk : k ≤ 1000) (hs : Small ns) : ∃ c : Int, m_law_cell [scrD ns, nD k] = .ok (.int c) ∧ c.natAbs < 2 ^ 1048576 := by
  rw [m_law_cell]
  have e : TL.pyLen [scrD ns] = .ok (nD ns.length) := by
    show R.ok (PyData.int ((ns.map PyData.int).length : Nat)) = _
    rw [List.length_map]
    rfl
  simp! only [e]
  by_cases hl : k < ns.length
  · rw [if_pos hl]
    have h2 : (ns.map PyData.int)[k]? = some (.int ns[k]) := by rw [List.getElem?_map, List.getElem?_eq_getElem hl]; rfl
    refine ⟨ns[k], ?_, intBits_le_iff.mp (hs _ (List.getElem_mem hl))⟩
    show pyIx (.dict [(.none, .list (ns.map .int))]) (.int k) = _
    simp only [pyIx, atI_nat h2]
  · rw [if_neg hl]
    refine ⟨6151 * (k : Int) + 29, ?_, ?_⟩
    · unfold nD
      rw [pyMul_of (a := 13) (b := 10) (by decide) (by rw [Int.natAbs_natCast]; omega) (by decide)]
      rfl
    · have h1 : (6151 * (k : Int) + 29).natAbs < 2 ^ 24 := by omega
      exact Nat.lt_of_lt_of_le h1 (Nat.pow_le_pow_right (by decide) (by decide))
theorem bit_add {i j : Int} {a : Nat} (h1 : i.natAbs < 2 ^ a) (h2 : j.natAbs < 2 ^ a) : (i + j).natAbs < 2 ^ (a + 1) := by
  rw [Nat.pow_succ]
  omega
theorem bit_mul {i j : Int} {a b : Nat} (h1 : i.natAbs < 2 ^ a) (h2 : j.natAbs < 2 ^ b) : (i * j).natAbs < 2 ^ (a + b) := by
  rw [Int.natAbs_mul, Nat.pow_add]
  exact Nat.mul_lt_mul'' h1 h2
theorem bit_le {i : Int} {a b : Nat} (h : i.natAbs < 2 ^ a) (hab : a ≤ b) : i.natAbs < 2 ^ b := Nat.lt_of_lt_of_le h (Nat.pow_le_pow_right (by decide) hab)
theorem mix_is {c : Int} {k : Nat} (hc : c.natAbs < 2 ^ 1048576) (hk : k ≤ 1000) : ∃ r : Int, m_law_mix [.int c, nD k] = .ok (.int r) ∧ r.natAbs < 2 ^ 31 := by
  rw [m_law_mix]
  have hk' : ((k : Nat) : Int).natAbs < 2 ^ 10 := by omega
  have b1 : (c + 1).natAbs < 2 ^ 1048577 := bit_add hc (bit_le (a := 1) (by decide) (by decide))
  have b2 : ((c + 1) * 40692).natAbs < 2 ^ (1048577 + 16) := bit_mul b1 (by decide)
  have b3 : (104729 * (k : Int)).natAbs < 2 ^ (17 + 10) := bit_mul (by decide) hk'
  have b4 : ((c + 1) * 40692 + 104729 * (k : Int)).natAbs < 2 ^ (1048577 + 16 + 1) := bit_add b2 (bit_le b3 (by decide))
  unfold nD
  have e1 : ∀ i j : Int, pyAdd (.int i) (.int j) = .ok (.int (i + j)) := fun _ _ => rfl
  simp only [okb, e1]
  rw [pyMul_of (i := c + 1) (j := 40692) b1 (b := 16) (by decide) (by decide), okb, pyMul_of (i := 104729) (j := (k : Int)) (a := 17) (by decide) hk' (by decide), okb, e1, okb, pyMul_of b4 b4 (by decide), okb, pyMod_of (by decide), okb, e1, okb, e1, okb]
  generalize hn : ((c + 1) * 40692 + 104729 * (k : Int)) * ((c + 1) * 40692 + 104729 * (k : Int)) % 2147483399 = n
  have h1 : 0 ≤ n := by rw [← hn]; exact Int.emod_nonneg _ (by decide)
  have h2 : n < 2147483399 := by rw [← hn]; exact Int.emod_lt_of_pos _ (by decide)
  rw [pyMul_of (i := n + (k : Int)) (j := n + (k : Int) + 31) (a := 33) (b := 33) (by omega) (by omega) (by decide), okb, pyMod_of (by decide), okb]
  refine ⟨_, rfl, ?_⟩
  have h3 := Int.emod_nonneg ((n + (k : Int)) * (n + (k : Int) + 31)) (show (2147483563 : Int) ≠ 0 by decide)
  have h4 := Int.emod_lt_of_pos ((n + (k : Int)) * (n + (k : Int) + 31)) (show (0 : Int) < 2147483563 by decide)
  generalize ((n + (k : Int)) * (n + (k : Int) + 31)) % 2147483563 = r at h3 h4 ⊢
  omega
theorem box2_is (ns : List Int) (k : Nat) (hk : k ≤ 1000) (hs : Small ns) : Sat (m_law_box_2 [scrD ns, nD k]) IsBox := by
  obtain ⟨c, ec, hc⟩ := cell_small ns k hk hs
  rw [m_law_box_2]
  have m2 : pyMod (.int c) (nD 2) = .ok (.int (c % 2)) := mod_2 c
  have d2 : pyDiv (.int c) (nD 2) = .ok (.int (c / 2)) := div_2 c
  have q2 : pyEq (.int (c % 2)) (nD 0) = .ok (.bool (decide (c % 2 = 0))) := pyEq_int _ _
  simp! only [ec, m2, d2, q2, range1 (show 24 ≤ 16777216 by decide)]
  refine Sat.ite (fun _ => ⟨_, rfl, _, rfl⟩) fun _ => ?_
  refine Sat.bind (foldR_inv (i := 0) (h := fun j : Nat => nD j) (P := fun i j => ∃ a : Int, j = .int a ∧ a.natAbs < 2 ^ (64 * i + 1)) (fun _ _ => rfl) (fun i j x hx hp => ?_) ⟨0, rfl, by decide⟩) fun j ⟨a, e, _⟩ => ?_
  · obtain ⟨a, rfl, h1⟩ := hp
    have hx24 : i < 24 ∧ x < 24 := by
      obtain ⟨q1, q2⟩ := List.getElem?_eq_some_iff.mp hx
      simp only [List.length_range] at q1
      rw [List.getElem_range] at q2
      exact ⟨by omega, by omega⟩
    obtain ⟨r, er, hr⟩ := mix_is (k := x) hc (by omega)
    have e2 : pyMul (.int a) (nD 2147483647) = .ok (.int (a * 2147483647)) := pyMul_of (a := 64 * (0 + i) + 1) (b := 32) h1 (by decide) (by omega)
    have b1 : (a * 2147483647).natAbs < 2 ^ (64 * (0 + i) + 1 + 32) := bit_mul h1 (by decide)
    have b2 : (a * 2147483647 + r).natAbs < 2 ^ (64 * (0 + i) + 1 + 32 + 1) := bit_add b1 (bit_le hr (by omega))
    simp! only [e2, er]
    exact ⟨_, rfl, _, rfl, bit_le b2 (by omega)⟩
  · rw [e]
    exact ⟨_, rfl, _, rfl⟩
def HV (m : Nat) (h : List Nat) : Prop := h ≠ [] ∧ h.Pairwise (· < ·) ∧ ∀ c ∈ h, c < m
def HVs (m : Nat) (d : D) (n : Nat) : Prop := ∃ hs : List (List Nat), d = .list (hs.map tN) ∧ hs.length = n ∧ ∀ h ∈ hs, HV m h
theorem filJ_invQ {α S : Type} {p : D → S → R (Bool × S)} {f : D → S → R (D × S)} {g k : α → D} {I : S → Prop} {Q : α → Prop} : ∀ {xs : List α} {s : S}, (∀ x ∈ xs, ∀ s, I s → Sat (p (g x) s) fun r => (r.1 = true → Q x) ∧ I r.2) → (∀ x ∈ xs, ∀ s, I s → Sat (f (g x) s) fun r => r.1 = k x ∧ I r.2) → I s → Sat (filJ p f (xs.map g) s) fun r => ∃ ys : List α, ys.Sublist xs ∧ (∀ y ∈ ys, Q y) ∧ r.1 = ys.map k ∧ I r.2
  | [], s, _, _, i => ⟨_, rfl, [], List.Sublist.refl _, fun _ h => (nomatch h), rfl, i⟩
  | x :: xs, s, hp, hf, i => by
    rw [List.map_cons, filJ]
    refine Sat.bind (hp x List.mem_cons_self s i) fun r ⟨hq, i1⟩ => ?_
    have hp' := fun y (hy : y ∈ xs) => hp y (List.mem_cons_of_mem _ hy)
    have hf' := fun y (hy : y ∈ xs) => hf y (List.mem_cons_of_mem _ hy)
    refine Sat.ite (fun hr => ?_) fun _ => ?_
    · refine Sat.bind (hf x List.mem_cons_self r.2 i1) fun r2 ⟨e2, i2⟩ => ?_
      refine Sat.bind (filJ_invQ hp' hf' i2) fun r3 ⟨ys, h1, h0, h2, h3⟩ => ?_
      refine ⟨_, rfl, x :: ys, h1.cons₂ x, fun y hy => ?_, by rw [List.map_cons, ← e2, ← h2], h3⟩
      rcases List.mem_cons.mp hy with e | e
      · rw [e]; exact hq hr
      · exact h0 y e
    · exact (filJ_invQ hp' hf' i1).mono fun r3 ⟨ys, h1, h0, h2, h3⟩ => ⟨ys, h1.cons x, h0, h2, h3⟩
theorem head2_sat {s : D} {m : Nat} (hb : IsBox s) (h1 : 1 ≤ m) (h7 : m ≤ 64) : Sat (m_law_head s [nD m]) fun p => (∃ h, p.1 = tN h ∧ HV m h) ∧ IsBox p.2 := by
  rw [m_law_head]
  simp! only [range1 (show m ≤ 16777216 by omega)]
  refine Sat.bind (filJ_inv (I := IsBox) (k := nD) (fun x _ s hs => Sat.bind (take2_sat hs (show 0 < 3 by decide) (by decide)) fun p ⟨⟨k, hk, e⟩, hb⟩ => by
    rw [e]
    simp! only
    exact ⟨_, rfl, hb⟩) (fun x _ s hs => ⟨_, rfl, rfl, hs⟩) hb).nox ?_
  rintro ⟨_, s1⟩ ⟨ys, sub, rfl, b1⟩
  have hv : ys ≠ [] → HV m ys := fun h => ⟨h, List.pairwise_lt_range.sublist sub, fun c hc => List.mem_range.mp (sub.subset hc)⟩
  simp! only
  by_cases he : ys = []
  · rw [if_pos he]
    simp! only
    refine Sat.bind (take2_nox b1 (by omega) (by omega)) ?_
    rintro ⟨_, s2⟩ ⟨⟨k, hk, rfl⟩, b2⟩
    simp! only
    exact ⟨_, rfl, ⟨[k], rfl, by simp, by simp, fun c hc => by rw [List.mem_singleton.mp hc]; exact hk⟩, b2⟩
  · rw [if_neg he]
    simp! only
    exact ⟨_, rfl, ⟨ys, rfl, hv he⟩, b1⟩
theorem pyInt_b (b : Bool) : TL.pyInt [.bool b] = .ok (nD (if b then 1 else 0)) := by cases b <;> rfl
theorem grown_sat {s : D} {m n : Nat} (hb : IsBox s) (h1 : 1 ≤ m) (h7 : m ≤ 64) (n1 : 1 ≤ n) (n6 : n ≤ 64) : Sat (m_law_grown s [nD m, nD n]) fun p => HVs m p.1 n ∧ IsBox p.2 := by
  rw [m_law_grown]
  simp! only [subN n1, range1 (show n - 1 ≤ 16777216 by omega), range1 (show m ≤ 16777216 by omega)]
  refine Sat.bind (head2_sat hb h1 h7).nox ?_
  rintro ⟨_, s1⟩ ⟨⟨h0, rfl, v0⟩, b1⟩
  refine Sat.bind (P := fun j : D × D => IsBox j.1 ∧ HVs m j.2 n) ?_ fun j ⟨bj, vj⟩ => ⟨_, rfl, vj, bj⟩
  refine (foldR_inv (i := 0) (h := nD) (P := fun i (j : D × D) => IsBox j.1 ∧ HVs m j.2 (i + 1)) (fun _ _ => rfl) (fun i j x hx hp => ?_) ⟨b1, [h0], rfl, rfl, by simpa using v0⟩).mono fun j hj => by
    rw [Nat.zero_add, List.length_range, show n - 1 + 1 = n by omega] at hj
    exact hj
  have hi : i < n - 1 := by
    have := (List.getElem?_eq_some_iff.mp hx).1
    rwa [List.length_range] at this
  rw [Nat.zero_add] at hp ⊢
  obtain ⟨jb, jd⟩ := j
  obtain ⟨bj, hs, rfl, lj, vj⟩ := hp
  simp! only
  refine Sat.bind (take2_nox bj (by omega) (by omega)) ?_
  rintro ⟨_, s2⟩ ⟨⟨w, hw, rfl⟩, b2⟩
  simp! only [subN (show 1 ≤ hs.length by omega)]
  refine Sat.bind (take2_nox b2 (show 0 < hs.length by omega) (by omega)) ?_
  rintro ⟨_, s3⟩ ⟨⟨k, hk, rfl⟩, b3⟩
  simp! only [pyInt_b]
  refine Sat.bind (pick_nox (P := fun d => ∃ q, q < hs.length ∧ d = nD q) ?_ (by split <;> simp)) ?_
  · simp only [List.forall_mem_cons, List.not_mem_nil, false_imp_iff, implies_true, and_true]
    exact ⟨⟨_, by omega, rfl⟩, k, hk, rfl⟩
  rintro _ ⟨q, hq, rfl⟩
  rw [ixOm [] hq]
  simp! only
  have hbm : hs.getD q [] ∈ hs := by
    rw [List.getD_eq_getElem?_getD, List.getElem?_eq_getElem hq]
    exact List.getElem_mem _
  generalize hs.getD q [] = base at hbm
  have vb := vj base hbm
  refine Sat.bind (filJ_inv (I := IsBox) (k := nD) (fun x _ s hs => Sat.bind (take2_sat hs (show 0 < 3 by decide) (by decide)) fun p ⟨⟨k, hk, e⟩, hb⟩ => by
    rw [e]
    simp! only
    exact ⟨_, rfl, hb⟩) (fun x _ s hs => ⟨_, rfl, rfl, hs⟩) b3).nox ?_
  rintro ⟨_, s4⟩ ⟨kept, sub1, rfl, b4⟩
  rw [filR_m (fun c => decide (hs.filter (fun h => decide (c ∈ h)) ≠ [])) nD (fun c _ => by
    rw [filR_m (fun h => decide (c ∈ h)) tN (fun h _ => by simp! only) (fun _ _ _ => rfl)]
    simp! only) (fun _ _ _ => rfl)]
  simp! only
  generalize hmet : (List.range m).filter (fun c => decide (hs.filter (fun h => decide (c ∈ h)) ≠ [])) = met
  have inmet : ∀ c ∈ base, c ∈ met := fun c hc => by
    rw [← hmet, List.mem_filter, List.mem_range, decide_eq_true_iff]
    refine ⟨vb.2.2 c hc, fun z => ?_⟩
    rw [List.filter_eq_nil_iff] at z
    exact z base hbm (decide_eq_true hc)
  refine Sat.bind (filJ_invQ (I := IsBox) (k := nD) (Q := fun c => c ∉ met) (fun x _ s hs => by
    simp! only
    refine Sat.ite (fun hx => ?_) fun _ => ⟨_, rfl, (fun z => nomatch z), hs⟩
    refine Sat.bind (take2_sat hs (show 0 < 2 by decide) (by decide)) fun p ⟨⟨k, hk, e⟩, hb⟩ => ?_
    rw [e]
    simp! only
    exact ⟨_, rfl, fun _ => hx, hb⟩) (fun x _ s hs => ⟨_, rfl, rfl, hs⟩) b4).nox ?_
  rintro ⟨_, s5⟩ ⟨fresh, sub2, hfr, rfl, b5⟩
  have kl : kept.length ≤ 64 := by
    have := sub1.length_le
    have := head_len vb.2.1 vb.2.2
    omega
  have fl : fresh.length ≤ 64 := by
    have := sub2.length_le
    simp at this
    omega
  have ea : pyAdd (.list (kept.map nD)) (.list (fresh.map nD)) = .ok (.list ((kept ++ fresh).map nD)) := by
    rw [addL (by simp; omega), List.map_append]
  have hnd : (kept ++ fresh).Nodup := by
    rw [List.nodup_append]
    refine ⟨(vb.2.1.sublist sub1).imp fun h => Nat.ne_of_lt h, (List.nodup_range.sublist sub2), fun a ha b hb e => ?_⟩
    subst e
    exact hfr a hb (inmet a (sub1.subset ha))
  have hlt : ∀ c ∈ kept ++ fresh, c < m := fun c hc => by
    rcases List.mem_append.mp hc with h | h
    · exact vb.2.2 c (sub1.subset h)
    · exact List.mem_range.mp (sub2.subset h)
  simp! only [ea]
  have fin : ∀ (h : List Nat) (s : D), HV m h → IsBox s → Sat ((appD (.list (hs.map tN)) (tN h)).bind fun j275 => R.ok (s, j275)) fun j : D × D => IsBox j.1 ∧ HVs m j.2 (i + 1 + 1) := fun h s vh bs => by
    rw [appD_of (by simp; omega), okb]
    refine ⟨_, rfl, bs, hs ++ [h], by simp, by simp [lj], fun g hg => ?_⟩
    rcases List.mem_append.mp hg with e | e
    · exact vj g e
    · rw [List.mem_singleton.mp e]; exact vh
  by_cases he : sortN (kept ++ fresh) = []
  · rw [if_pos he]
    have hb0 : 0 < base.length := List.length_pos_iff.mpr vb.1
    have := head_len vb.2.1 vb.2.2
    simp! only
    refine Sat.bind (take2_nox b5 hb0 (by omega)) ?_
    rintro ⟨_, s6⟩ ⟨⟨p, hp, rfl⟩, b6⟩
    simp! only [ixtN hp]
    have hin : base.getD p 0 ∈ base := by
      rw [List.getD_eq_getElem?_getD, List.getElem?_eq_getElem hp]
      exact List.getElem_mem _
    exact fin [base.getD p 0] s6 ⟨by simp, by simp, fun c hc => by rw [List.mem_singleton.mp hc]; exact vb.2.2 _ hin⟩ b6
  · rw [if_neg he]
    simp! only
    exact fin (sortN (kept ++ fresh)) s5 ⟨he, sortN_lt hnd, fun c hc => hlt c (sortN_mem.mp hc)⟩ b5
theorem barred_sat {s : D} {m : Nat} (hb : IsBox s) (h3 : 3 ≤ m) (h7 : m ≤ 64) : Sat (m_law_barred s [nD m]) fun p => (∃ n, 3 ≤ n ∧ n ≤ 6 ∧ HVs m p.1 n) ∧ IsBox p.2 := by
  rw [m_law_barred]
  simp! only
  refine Sat.bind (P := fun p : Bool × D => (p.1 = false → 4 ≤ m) ∧ IsBox p.2) ?_ ?_
  · by_cases h : m = 3
    · rw [if_pos h]
      exact ⟨_, rfl, (fun z => nomatch z), hb⟩
    · rw [if_neg h, nox_bind]
      refine Sat.bind (take2_nox hb (by decide) (by decide)) ?_
      rintro ⟨_, s1⟩ ⟨⟨k, hk, rfl⟩, b1⟩
      simp! only
      exact ⟨_, rfl, (fun _ => by omega), b1⟩
  rintro ⟨b, s1⟩ ⟨h4, b1⟩
  refine Sat.ite (fun _ => ?_) fun hbf => ?_
  · have hv : 3 ≤ min 6 m ∧ min 6 m ≤ 6 ∧ min 6 m ≤ m := by omega
    generalize min 6 m = v at hv ⊢
    simp! only [subN (show 2 ≤ v by omega)]
    refine Sat.bind (take2_nox b1 (by omega) (by omega)) ?_
    rintro ⟨_, s4⟩ ⟨⟨k4, hk4, rfl⟩, b4⟩
    simp! only
    have hz : 3 ≤ 3 + k4 ∧ 3 + k4 ≤ 6 ∧ 3 + k4 ≤ m := by omega
    generalize 3 + k4 = z at hz ⊢
    simp! only [range1 (show z ≤ 16777216 by omega)]
    rw [mapR_map (k := fun o : Nat => tN ((List.range z).filter fun k => decide (k ≠ o))) (fun o _ => by
      rw [filR_map (q := fun k : Nat => decide (k ≠ o)) (k := nD) (fun k _ => by simp! only) (fun k _ _ => rfl)]
      simp! only)]
    refine ⟨_, rfl, ⟨z, hz.1, hz.2.1, (List.range z).map fun o => (List.range z).filter fun k => decide (k ≠ o), by rw [List.map_map]; rfl, by simp, fun h hh => ?_⟩, b4⟩
    obtain ⟨o, ho, rfl⟩ := List.mem_map.mp hh
    refine ⟨fun e => ?_, List.Pairwise.filter _ List.pairwise_lt_range, fun c hc => ?_⟩
    · have h1 : (if o = 0 then 1 else 0) ∈ (List.range z).filter fun k => decide (k ≠ o) := by
        rw [List.mem_filter, List.mem_range]
        split
        · exact ⟨by omega, decide_eq_true (by omega)⟩
        · exact ⟨by omega, decide_eq_true (by omega)⟩
      rw [e] at h1
      cases h1
    · have := List.mem_range.mp (List.mem_filter.mp hc).1
      omega
  · have hm4 := h4 (by simpa using hbf)
    have hv : 4 ≤ min 6 m ∧ min 6 m ≤ 6 ∧ min 6 m ≤ m := by omega
    generalize min 6 m = v at hv ⊢
    simp! only [subN (show 3 ≤ v by omega)]
    refine Sat.bind (take2_nox b1 (by omega) (by omega)) ?_
    rintro ⟨_, s4⟩ ⟨⟨k4, hk4, rfl⟩, b4⟩
    simp! only
    have hz : 4 ≤ 4 + k4 ∧ 4 + k4 ≤ 6 ∧ 4 + k4 ≤ m := by omega
    generalize 4 + k4 = z at hz ⊢
    simp! only [range1 (show z ≤ 16777216 by omega)]
    rw [mapR_map (k := fun k : Nat => tN (sortN [k, (k + 1) % z])) (fun k _ => by
      have e := sortedN [k, (k + 1) % z]
      simp only [List.map_cons, List.map_nil] at e
      simp! only [modN (show 0 < z by omega), e])]
    refine ⟨_, rfl, ⟨z, by omega, hz.2.1, (List.range z).map fun k => sortN [k, (k + 1) % z], by rw [List.map_map]; rfl, by simp, fun h hh => ?_⟩, b4⟩
    obtain ⟨k, hk, rfl⟩ := List.mem_map.mp hh
    have hk := List.mem_range.mp hk
    refine ⟨fun e => ?_, sortN_lt ?_, fun c hc => ?_⟩
    · have := sortN_length [k, (k + 1) % z]
      rw [e] at this
      cases this
    · have : (k + 1) % z ≠ k := by
        rcases Nat.lt_or_ge (k + 1) z with h | h
        · rw [Nat.mod_eq_of_lt h]; omega
        · rw [show k + 1 = z by omega, Nat.mod_self]; omega
      simp only [List.nodup_cons, List.mem_singleton, List.not_mem_nil, not_false_eq_true, List.nodup_nil, and_true]
      exact fun e => this e.symm
    · have := Nat.mod_lt (k + 1) (show 0 < z by omega)
      rcases List.mem_cons.mp (sortN_mem.mp hc) with e | e
      · omega
      · rw [List.mem_singleton.mp e]; omega
theorem order2_drawn {s : D} {n : Nat} (hn : n ≤ 1000) (hb : IsBox s) :
    Sat (mapJ (fun d s => (lstD s.1).bind fun u => (nl (TL.pyLen [s.1])).bind fun a => (m_law_take_2 s.2 [a]).bind fun a => (popAtD s.1 a.1).bind fun q => R.ok (q.1, q.2, a.2)) ((List.range n).map nD) (PyData.list ((List.range n).map nD), s)) fun r => (∃ o : List Nat, o.Perm (List.range n) ∧ r.1 = o.map nD) ∧ IsBox r.2.2 := by
  have key : ∀ (k : Nat) (l : List Nat) (s : D) (xs : List D), xs.length = k → l.length = k → k ≤ 1000 → IsBox s → Sat (mapJ (fun (d : D) (s : D × D) => (lstD s.1).bind fun u => (nl (TL.pyLen [s.1])).bind fun a => (m_law_take_2 s.2 [a]).bind fun a => (popAtD s.1 a.1).bind fun q => R.ok (q.1, q.2, a.2)) xs (PyData.list (l.map nD), s)) fun r => (∃ o : List Nat, o.Perm l ∧ r.1 = o.map nD) ∧ IsBox r.2.2 := by
    intro k
    induction k with
    | zero =>
      intro l s xs hx hl _ hb
      rw [List.length_eq_zero_iff.mp hx, List.length_eq_zero_iff.mp hl]
      exact ⟨_, rfl, ⟨[], List.Perm.refl _, rfl⟩, hb⟩
    | succ k ih =>
      intro l s xs hx hl hk hb
      cases xs with
      | nil => cases hx
      | cons x xs =>
        rw [mapJ]
        simp! only
        refine Sat.bind (take2_sat hb (by omega) (by omega)) fun p ⟨⟨j, hj, e⟩, hb2⟩ => ?_
        rw [e, popAt_is 0 hj (by omega)]
        simp only [okb]
        refine Sat.bind (ih (l.eraseIdx j) p.2 xs (by simpa using hx) (by rw [List.length_eraseIdx, if_pos hj]; omega) (by omega) hb2) fun r ⟨⟨o, ho, e2⟩, hb3⟩ => ?_
        refine ⟨_, rfl, ⟨l.getD j 0 :: o, ?_, by rw [e2]; rfl⟩, hb3⟩
        have e3 : l.getD j 0 = l[j] := by rw [List.getD_eq_getElem?_getD, List.getElem?_eq_getElem hj]; rfl
        rw [e3]
        exact (ho.cons _).trans (perm_erase hj)
  exact key n (List.range n) s _ (by simp) (by simp) hn hb
theorem named2_sat {s : D} {m n : Nat} {d : D} (hb : IsBox s) (hm : m ≤ 64) (hn : n ≤ 64) (hd : HVs m d n) : Sat (m_law_named_2 s [nD m, d]) fun p => (∃ hs : List (List Nat), p.1 = .tuple (hs.map tN) ∧ hs.length = n ∧ ∀ h ∈ hs, HV m h) ∧ IsBox p.2 := by
  obtain ⟨hs, rfl, hl, hv⟩ := hd
  rw [m_law_named_2]
  simp! only [rgl1 (show m ≤ 16777216 by omega), range1 (show m ≤ 16777216 by omega)]
  refine Sat.bind (order2_drawn (by omega) hb).nox ?_
  rintro ⟨_, l0, s1⟩ ⟨⟨o, po, rfl⟩, b1⟩
  have ol : o.length = m := by simpa using po.length_eq
  have ond : o.Nodup := po.nodup_iff.mpr List.nodup_range
  have oin : ∀ c, c < m → o.getD c 0 < m ∧ ∀ e, e < m → o.getD c 0 = o.getD e 0 → c = e := fun c hc => by
    have hc' : c < o.length := by omega
    have g : o.getD c 0 = o[c] := by rw [List.getD_eq_getElem?_getD, List.getElem?_eq_getElem hc']; rfl
    refine ⟨by rw [g]; exact List.mem_range.mp (po.mem_iff.mp (List.getElem_mem hc')), fun e he h => ?_⟩
    have he' : e < o.length := by omega
    have g2 : o.getD e 0 = o[e] := by rw [List.getD_eq_getElem?_getD, List.getElem?_eq_getElem he']; rfl
    rw [g, g2] at h
    rw [← ond.idxOf_getElem c hc', ← ond.idxOf_getElem e he', h]
  simp! only
  rw [mapR_m (fun h => tN (sortN (h.map fun c => o.getD c 0))) (fun h hh => by
    simp! only
    rw [mapR_m (fun c => nD (o.getD c 0)) (fun c hc => ixLm 0 (by rw [ol]; exact (hv h hh).2.2 c hc))]
    rw [show h.map (fun c => nD (o.getD c 0)) = (h.map fun c => o.getD c 0).map nD from by rw [List.map_map]; rfl]
    simp! only)]
  simp! only
  have hv2 : ∀ h ∈ hs.map fun h => sortN (h.map fun c => o.getD c 0), HV m h := fun h hh => by
    obtain ⟨g, hg, rfl⟩ := List.mem_map.mp hh
    obtain ⟨g1, g2, g3⟩ := hv g hg
    refine ⟨fun z => ?_, sortN_lt ?_, fun c hc => ?_⟩
    · have := congrArg List.length z
      rw [sortN_length, List.length_map] at this
      exact g1 (List.length_eq_zero_iff.mp this)
    · unfold List.Nodup
      rw [List.pairwise_map]
      exact (List.Pairwise.and_mem.mp g2).imp fun ⟨ha, hb, h⟩ e => by
        have := (oin _ (g3 _ ha)).2 _ (g3 _ hb) e
        omega
    · obtain ⟨x, hx, rfl⟩ := List.mem_map.mp (sortN_mem.mp hc)
      exact (oin x (g3 x hx)).1
  have em : hs.map (fun h => tN (sortN (h.map fun c => o.getD c 0))) = (hs.map fun h => sortN (h.map fun c => o.getD c 0)).map tN := by rw [List.map_map]; rfl
  rw [em]
  have hl2 : (hs.map fun h => sortN (h.map fun c => o.getD c 0)).length = n := by rw [List.length_map, hl]
  generalize (hs.map fun h => sortN (h.map fun c => o.getD c 0)) = gs at hv2 hl2
  refine thenSat (P := fun o => ∃ (s : D) (fs : List (List Nat)), o = Oc.nx (s, PyData.list [], PyData.list (fs.map tN)) ∧ IsBox s ∧ fs.length = n ∧ ∀ h ∈ fs, HV m h) ?_ ?_ (fun t b ⟨_, _, z, _⟩ => nomatch z) (fun j ⟨_, _, z, _⟩ => nomatch z)
  rotate_left
  · rintro j ⟨s', fs, e, b', l', v'⟩
    cases e
    simp! only
    exact ⟨_, rfl, ⟨fs, rfl, l', v'⟩, b'⟩
  · refine whX_sat (I := fun j => ∃ (s' : D) (gs fs : List (List Nat)), j = (s', .list (gs.map tN), .list (fs.map tN)) ∧ IsBox s' ∧ gs.length + fs.length = n ∧ (∀ h ∈ gs, HV m h) ∧ ∀ h ∈ fs, HV m h) (μ := fun j => match j with
      | (_, PyData.list xs, _) => xs.length
      | _ => 0) ?_ ⟨s1, gs, [], rfl, b1, by simpa using hl2, hv2, fun _ h => nomatch h⟩
    rintro _ ⟨s', gs, fs, rfl, b', l', v1, v2⟩
    simp! only
    refine ⟨_, rfl, ?_⟩
    show if decide (gs ≠ []) = true then _ else _
    by_cases hw : gs = []
    · subst hw
      have : decide (([] : List (List Nat)) ≠ []) = false := by decide
      rw [this, if_neg Bool.false_ne_true]
      exact ⟨s', fs, rfl, b', by simpa using l', v2⟩
    · rw [if_pos (decide_eq_true hw)]
      have hgl : 0 < gs.length := List.length_pos_iff.mpr hw
      refine Sat.bind (take2_nox b' hgl (by omega)) ?_
      rintro ⟨_, s2⟩ ⟨⟨k, hk, rfl⟩, b2⟩
      rw [popAt_is [] hk (by omega)]
      simp! only
      rw [appD_of (by simp; omega)]
      simp! only
      have hin : gs.getD k [] ∈ gs := by
        rw [List.getD_eq_getElem?_getD, List.getElem?_eq_getElem hk]
        exact List.getElem_mem _
      refine ⟨_, rfl, ⟨s2, gs.eraseIdx k, fs ++ [gs.getD k []], by rw [List.map_append]; rfl, b2, ?_, fun h hh => v1 h (List.mem_of_mem_eraseIdx hh), fun h hh => ?_⟩, ?_⟩
      · rw [List.length_eraseIdx, if_pos hk, List.length_append]
        simp
        omega
      · rcases List.mem_append.mp hh with e | e
        · exact v2 h e
        · rw [List.mem_singleton.mp e]; exact v1 _ hin
      · show ((gs.eraseIdx k).map tN).length < gs.length
        rw [List.length_map, List.length_eraseIdx, if_pos hk]
        omega
theorem all_tN {Q : List Nat → Prop} : ∀ {ds : List D}, (∀ d ∈ ds, ∃ h, d = tN h ∧ Q h) → ∃ es : List (List Nat), ds = es.map tN ∧ ∀ h ∈ es, Q h
  | [], _ => ⟨[], rfl, fun _ h => nomatch h⟩
  | d :: ds, dq => by
    obtain ⟨h, rfl, hv⟩ := dq d List.mem_cons_self
    obtain ⟨es, rfl, ev⟩ := all_tN fun x hx => dq x (List.mem_cons_of_mem _ hx)
    exact ⟨h :: es, rfl, by simpa using ⟨hv, ev⟩⟩
theorem layout2_is {s : D} {a b : Nat} (hb : IsBox s) (a1 : 1 ≤ a) (a7 : a ≤ 7) (b1 : 1 ≤ b) (b6 : b ≤ 6) : Sat (m_law_layout_2 s [nD a, nD b]) fun p => (∃ m hs, p.1 = layD m hs ∧ LayV m hs ∧ m ≤ a) ∧ IsBox p.2 := by
  rw [m_law_layout_2]
  simp! only
  refine Sat.bind (take2_nox hb (by omega) (by omega)) ?_
  rintro ⟨_, s1⟩ ⟨⟨k1, hk1, rfl⟩, bx1⟩
  simp! only
  refine Sat.bind (take2_nox bx1 (by omega) (by omega)) ?_
  rintro ⟨_, s2⟩ ⟨⟨k2, hk2, rfl⟩, bx2⟩
  simp! only
  refine Sat.bind (take2_nox bx2 (by omega) (by omega)) ?_
  rintro ⟨_, s3⟩ ⟨⟨way, hk3, rfl⟩, bx3⟩
  simp! only
  have hm1 : 1 ≤ 1 + k1 ∧ 1 + k1 ≤ a := by omega
  generalize 1 + k1 = m at hm1 ⊢
  have hn1 : 1 ≤ 1 + k2 ∧ 1 + k2 ≤ 6 := by omega
  generalize 1 + k2 = n at hn1 ⊢
  have fin : ∀ {d s : D} {n : Nat}, IsBox s → 1 ≤ n → n ≤ 6 → HVs m d n → Sat ((nox (m_law_named_2 s [nD m, d])).bind fun a => R.ok (PyData.tuple [nD m, a.1], a.2)) fun p : D × D => (∃ m hs, p.1 = layD m hs ∧ LayV m hs ∧ m ≤ a) ∧ IsBox p.2 := fun hs h1 h6 hv => by
    refine Sat.bind (named2_sat hs (by omega) (by omega) hv).nox ?_
    rintro ⟨_, s'⟩ ⟨⟨gs, rfl, gl, gv⟩, bs⟩
    exact ⟨_, rfl, ⟨m, gs, rfl, ⟨hm1.1, by omega, by omega, by omega, fun h hh => (gv h hh).1, fun h hh => (gv h hh).2.1, fun h hh => (gv h hh).2.2⟩, hm1.2⟩, bs⟩
  refine Sat.bind (P := fun b => b = true → 2 < m) (Sat.ite (fun _ => ⟨_, rfl, fun h => of_decide_eq_true h⟩) fun _ => ⟨_, rfl, fun h => nomatch h⟩) fun b45 h45 => Sat.ite (fun hb45 => ?_) fun _ => ?_
  · have hm2 := h45 hb45
    refine Sat.bind (barred_sat bx3 (by omega) (by omega)).nox ?_
    rintro ⟨_, s4⟩ ⟨⟨z, z3, z6, gs, rfl, gl, gv⟩, bx4⟩
    have e1 : pySub (nD b) (nD gs.length) = .ok (.int ((b : Int) - (gs.length : Int))) := rfl
    have e2 : TL.pyMax [nD 0, .int ((b : Int) - (gs.length : Int))] = .ok (nD (b - gs.length)) := by
      simp only [nD, TL.pyMax]
      congr 2
      split <;> omega
    simp! only [e1, e2]
    refine Sat.bind (take2_nox bx4 (by omega) (by omega)) ?_
    rintro ⟨_, s5⟩ ⟨⟨k5, hk5, rfl⟩, bx5⟩
    simp! only [range1 (show k5 ≤ 16777216 by omega)]
    refine Sat.bind (mapJ_inv (g := nD) (I := fun _ s => IsBox s) (Q := fun d => ∃ h, d = tN h ∧ HV m h) (i := 0) (fun k x s _ hs => Sat.bind (head2_sat hs hm1.1 (by omega)) fun p hp => ⟨_, rfl, hp⟩) bx5).nox ?_
    rintro ⟨ds, s6⟩ ⟨dl, dq, bx6⟩
    obtain ⟨es, rfl, ev⟩ := all_tN dq
    have dl' : es.length = k5 := by simpa using dl
    rw [addL (by simp; omega), ← List.map_append]
    have e3 : pySl (.list ((gs ++ es).map tN)) none (some ((6 : Nat) : Int)) = .ok (.list (((gs ++ es).take 6).map tN)) := by rw [sl_tol, List.map_take]
    simp! only [e3]
    have hlen : 1 ≤ ((gs ++ es).take 6).length ∧ ((gs ++ es).take 6).length ≤ 6 := by
      rw [List.length_take, List.length_append]
      omega
    refine fin bx6 hlen.1 hlen.2 ⟨_, rfl, rfl, fun h hh => ?_⟩
    rcases List.mem_append.mp (List.mem_of_mem_take hh) with e | e
    · exact gv h e
    · exact ev h e
  refine Sat.ite (fun _ => ?_) fun _ => ?_
  · rw [range1 (show n ≤ 16777216 by omega)]
    simp! only
    refine Sat.bind (mapJ_inv (g := nD) (I := fun _ s => IsBox s) (Q := fun d => ∃ h, d = tN h ∧ HV m h) (i := 0) (fun k x s _ hs => Sat.bind (head2_sat hs hm1.1 (by omega)) fun p hp => ⟨_, rfl, hp⟩) bx3).nox ?_
    rintro ⟨ds, s6⟩ ⟨dl, dq, bx6⟩
    obtain ⟨es, rfl, ev⟩ := all_tN dq
    have dl' : es.length = n := by simpa using dl
    exact fin bx6 hn1.1 hn1.2 ⟨es, rfl, dl', ev⟩
  · refine Sat.bind (grown_sat bx3 hm1.1 (by omega) hn1.1 (by omega)).nox ?_
    rintro ⟨d, s6⟩ ⟨dv, bx6⟩
    exact fin bx6 hn1.1 hn1.2 dv
end TP
namespace TQ
abbrev Pr := Nat × Nat
inductive Hang (E : List Pr) (a : Nat) : Nat → Prop where
  | refl : Hang E a a
  | fwd {b c : Nat} : Hang E a b → (b, c) ∈ E → Hang E a c
  | bwd {b c : Nat} : Hang E a b → (c, b) ∈ E → Hang E a c
theorem Hang.trans {E : List Pr} {a b c : Nat} (h : Hang E a b) (k : Hang E b c) : Hang E a c := by
  induction k with
  | refl => exact h
  | fwd _ m ih => exact ih.fwd m
  | bwd _ m ih => exact ih.bwd m
theorem Hang.symm {E : List Pr} {a b : Nat} (h : Hang E a b) : Hang E b a := by
  induction h with
  | refl => exact .refl
  | fwd _ m ih => exact (Hang.bwd .refl m).trans ih
  | bwd _ m ih => exact (Hang.fwd .refl m).trans ih
open Classical in
noncomputable def cls (E : List Pr) : List Nat → Nat
  | [] => 0
  | v :: vs => cls E vs + if ∃ u ∈ vs, Hang E u v then 0 else 1
def InV (V : List Nat) (E : List Pr) : Prop := ∀ e ∈ E, e.1 ∈ V ∧ e.2 ∈ V
def Forest : List Pr → Prop
  | [] => True
  | e :: E => ¬ Hang E e.1 e.2 ∧ Forest E
end TQ
namespace TQ
open Classical in
noncomputable def kp (C : List Pr) : List Pr → List Pr
  | [] => []
  | e :: L => if Hang C e.1 e.2 then kp C L else e :: kp (e :: C) L
section
variable {V : List Nat} (hV : V.Nodup)
include hV
end
end TQ
namespace TQ
def hd (hs : List (List Nat)) (i : Nat) : List Nat := hs.getD i []
def hv (hs : List (List Nat)) (c : Nat) : List Nat := (List.range hs.length).filter fun i => decide (c ∈ hd hs i)
def onC (hs : List (List Nat)) (c : Nat) (E : List Pr) : List Pr := E.filter fun e => decide (c ∈ hd hs e.1) && decide (c ∈ hd hs e.2)
def wt (m : Nat) (hs : List (List Nat)) (e : Pr) : Nat := ((List.range m).filter fun c => decide (c ∈ hd hs e.1) && decide (c ∈ hd hs e.2)).length
def due (m : Nat) (hs : List (List Nat)) : Nat := ((List.range m).map fun c => (hv hs c).length - 1).sum
def Joins (m : Nat) (hs : List (List Nat)) (E : List Pr) : Prop := ∀ c < m, ∀ u ∈ hv hs c, ∀ v ∈ hv hs c, Hang (onC hs c E) u v
def prs (n : Nat) : List Pr := (List.range n).flatMap fun i => ((List.range n).filter fun j => decide (i < j)).map fun j => (i, j)
structure JoinT (m : Nat) (hs : List (List Nat)) (E : List Pr) : Prop where
  inn : ∀ e ∈ E, e ∈ prs hs.length
  frst : Forest E
  len : E.length + 1 = hs.length
  joins : Joins m hs E
noncomputable def best (m : Nat) (hs : List (List Nat)) (H C : List Pr) : Nat := (C.map (wt m hs)).sum + ((kp C H).map (wt m hs)).sum
section
variable {m : Nat} {hs : List (List Nat)} {H : List Pr} (hH : ∀ e, e ∈ H ↔ e ∈ prs hs.length) (sH : H.Pairwise fun a b => wt m hs b ≤ wt m hs a)
include hH sH
end
end TQ
namespace TQ
def combos {α} : Nat → List α → List (List α)
  | 0, _ => [[]]
  | _ + 1, [] => []
  | k + 1, x :: L => (combos k L).map (x :: ·) ++ combos (k + 1) L
def exts {α} : List α → List (α × List α)
  | [] => []
  | x :: L => (x, L) :: exts L
def stepC {α} (rows : List (List α × List α)) : List (List α × List α) := rows.flatMap fun q => (exts q.2).map fun x => (q.1 ++ [x.1], x.2)
def iterC {α} : Nat → List (List α × List α) → List (List α × List α)
  | 0, rows => rows
  | k + 1, rows => iterC k (stepC rows)
open Classical in
noncomputable def pick (m : Nat) (hs : List (List Nat)) (H : List Pr) (C : List Pr) : List Pr → List Pr
  | [] => C
  | e :: L => if ¬ Hang C e.1 e.2 ∧ best m hs H (C ++ [e]) = due m hs then pick m hs H (C ++ [e]) L else pick m hs H C L
section
variable {m : Nat} {hs : List (List Nat)} {H : List Pr} (hH : ∀ e, e ∈ H ↔ e ∈ prs hs.length) (sH : H.Pairwise fun a b => wt m hs b ≤ wt m hs a)
include hH sH
end
end TQ
namespace TQ
variable {hs : List (List Nat)}
def Tr (hs : List (List Nat)) (L : List Nat) (i c : Nat) : Prop := c ∈ hd hs i ∧ ∃ o ∈ L, o ≠ i ∧ c ∈ hd hs o
def Holds (hs : List (List Nat)) (L : List Nat) (e h : Nat) : Prop := e ≠ h ∧ ∀ c, Tr hs L e c → c ∈ hd hs h
inductive Run (hs : List (List Nat)) : List Nat → List Nat → Prop where
  | refl (A : List Nat) : Run hs A A
  | step {A B : List Nat} {e h : Nat} : e ∈ A → h ∈ A → Holds hs A e h → Run hs (A.erase e) B → Run hs A B
def Done (hs : List (List Nat)) (L : List Nat) : Prop := ∀ e ∈ L, ∀ h ∈ L, ¬ Holds hs L e h
theorem Run.trans {A B C : List Nat} (h : Run hs A B) (k : Run hs B C) : Run hs A C := by
  induction h with
  | refl => exact k
  | step a b c _ ih => exact .step a b c (ih k)
def Le (hs : List (List Nat)) (X : Nat → Prop) (i j : Nat) : Prop := ∀ c, X c → c ∈ hd hs i → c ∈ hd hs j
theorem Le.trans {X : Nat → Prop} {i j k : Nat} (h : Le hs X i j) (g : Le hs X j k) : Le hs X i k := fun c x m => g c x (h c x m)
theorem Le.rfl {X : Nat → Prop} {i : Nat} : Le hs X i i := fun _ _ m => m
end TQ
namespace TQ
variable {hs : List (List Nat)}
inductive Steps (hs : List (List Nat)) : List Nat → List Pr → List Nat → Prop where
  | nil (A : List Nat) : Steps hs A [] A
  | cons {A B : List Nat} {S : List Pr} {e h : Nat} : e ∈ A → h ∈ A → Holds hs A e h → Steps hs (A.erase e) S B → Steps hs A ((e, h) :: S) B
theorem Steps.len {A B : List Nat} {S : List Pr} (s : Steps hs A S B) : S.length + B.length = A.length := by
  induction s with
  | nil A => simp
  | cons a b c _ ih =>
    rw [List.length_erase_of_mem a] at ih
    have := List.length_pos_of_mem a
    rw [List.length_cons]
    omega
def nrm (p : Pr) : Pr := (min p.1 p.2, max p.1 p.2)
end TQ
namespace TP
open PySem PySem.Spec PyProof.Rows L2 TL JT
open TQ (Pr Hang InV Forest prs combos JoinT onC hv wt due best pick kp)
def wi (S : List Nat) (E : List Pr) : List Pr := E.filter fun e => decide (e.1 ∈ S) && decide (e.2 ∈ S)
section
variable {E : List Pr} {S : List Nat}
end
section
variable {m : Nat} {hs : List (List Nat)} {E : List Pr} (hm : m ≤ 64) (hn : hs.length ≤ 64)
include hm hn
end
def lx (a b : Pr) : Prop := a.1 < b.1 ∨ (a.1 = b.1 ∧ a.2 < b.2)
instance (a b : Pr) : Decidable (lx a b) := inferInstanceAs (Decidable (_ ∨ _))
section
variable {m : Nat} {hs : List (List Nat)}
end
end TP
namespace TP
open PySem PySem.Spec PyProof.Rows L2 TL JT
open TQ (Pr Hang InV Forest prs combos JoinT onC hv wt due best pick kp iterC stepC exts)
section
variable {m : Nat} {hs : List (List Nat)}
end
section
variable (P : List Pr)
def RowsOk (rows : List (List Pr × Nat)) (k : Nat) : Prop := (∀ q ∈ rows, q.1.length + k ≤ 100 ∧ q.2 ≤ P.length) ∧ rows.length * 15 ^ k ≤ 1000000
theorem RowsOk.len {rows : List (List Pr × Nat)} {k : Nat} (h : RowsOk P rows k) : rows.length ≤ 1000000 := by
  have := h.2
  have h1 : 1 ≤ 15 ^ k := Nat.one_le_pow _ _ (by decide)
  calc rows.length = rows.length * 1 := by omega
    _ ≤ rows.length * 15 ^ k := Nat.mul_le_mul_left _ h1
    _ ≤ 1000000 := this
variable (hP : P.length ≤ 15)
include hP
end
end TP
namespace TP
open PySem PySem.Spec PyProof.Rows L2 TL JT
open TQ (Pr Hang InV Forest prs combos JoinT onC hv wt due best pick kp iterC stepC exts)
def hx (m : Nat) (hs : List (List Nat)) (a b : Pr) : Prop := wt m hs b < wt m hs a ∨ (wt m hs a = wt m hs b ∧ lx a b)
instance (m : Nat) (hs : List (List Nat)) (a b : Pr) : Decidable (hx m hs a b) := inferInstanceAs (Decidable (_ ∨ _))
section
variable {m : Nat} {hs : List (List Nat)} (v : LayV m hs)
include v
end
end TP
namespace TP
open PySem PySem.Spec PyProof.Rows L2 TL JT
open TQ (Pr Hang InV Forest prs combos JoinT)
instance ltPr : LT (Nat × Nat) := ⟨lx⟩
instance decLtPr : DecidableRel (α := Nat × Nat) (· < ·) := fun a b => inferInstanceAs (Decidable (lx a b))
@[simp] theorem min_pN (e : Pr) : pyMin [pN e] = .ok (nD (min e.1 e.2)) := by
  obtain ⟨a, b⟩ := e
  have : nums [nD a, nD b] = some [(a : Int), (b : Int)] := rfl
  show (match nums [nD a, nD b] with
    | some ns => if ns = [] then R.no else R.ok (PyData.int (lmin ns))
    | none => R.no) = _
  rw [this]
  show R.ok (PyData.int (lmin [(a : Int), (b : Int)])) = _
  unfold nD
  congr 2
  simp only [lmin, List.foldl]
  omega
@[simp] theorem max_pN (e : Pr) : pyMax [pN e] = .ok (nD (max e.1 e.2)) := by
  obtain ⟨a, b⟩ := e
  have : nums [nD a, nD b] = some [(a : Int), (b : Int)] := rfl
  show (match nums [nD a, nD b] with
    | some ns => if ns = [] then R.no else R.ok (PyData.int (lmax ns))
    | none => R.no) = _
  rw [this]
  show R.ok (PyData.int (lmax [(a : Int), (b : Int)])) = _
  unfold nD
  congr 2
  simp only [lmax, List.foldl]
  omega
end TP
namespace TP
open PySem PySem.Spec PyProof.Rows L2 TL JT
end TP
namespace TP
open PySem PySem.Spec PyProof.Rows L2 TL JT
open TQ (Pr Hang InV Forest prs combos JoinT)
def PThing (d : D) : Prop := NoDict d ∧ match d with
  | .tuple xs => ∀ x ∈ xs, Thing x
  | _ => True
section
variable {m : Nat} {hs : List (List Nat)}
end
end TP
namespace TP
open PySem PySem.Spec PyProof.Rows L2 TL JT
open Classical
abbrev Tb := List (List Nat)
def tT (T : Tb) : D := .tuple (T.map tN)
def tTs (Ts : List Tb) : D := .tuple (Ts.map tT)
def Row (w : Nat) (r : List Nat) : Prop := r.length = w ∧ ∀ x ∈ r, x < 10
def Tab (w : Nat) (T : Tb) : Prop := T.length ≤ 625 ∧ (∀ r ∈ T, Row w r) ∧ T.Pairwise (· < ·)
def Tabs (hs : List (List Nat)) (Ts : List Tb) : Prop := Ts.length = hs.length ∧ ∀ i, i < hs.length → Tab (hd hs i).length (Ts.getD i [])
def cI (r : List Nat) : List Int := r.map fun n : Nat => (n : Int)
theorem tN_cI (r : List Nat) : tN r = .tuple ((cI r).map .int) := by
  unfold cI
  rw [List.map_map]
  rfl
theorem cI_inj {r s : List Nat} (h : cI r = cI s) : r = s := by
  have : r.map nD = s.map nD := by
    have e1 := tN_cI r
    have e2 := tN_cI s
    rw [h, ← e2] at e1
    injection e1
  have h2 := congrArg natsOf this
  rw [natsOf_map, natsOf_map] at h2
  exact Option.some.inj h2
theorem cI_lt : ∀ {r s : List Nat}, cI r < cI s ↔ r < s
  | [], [] => by simp [cI]
  | [], y :: s => by simp [cI]
  | x :: r, [] => by simp [cI]
  | x :: r, y :: s => by
    have ih := cI_lt (r := r) (s := s)
    show ((x : Int) :: cI r) < ((y : Int) :: cI s) ↔ _
    rw [List.cons_lt_cons_iff, List.cons_lt_cons_iff, ih]
    exact or_congr Int.ofNat_lt (and_congr_left fun _ => Int.ofNat_inj)
def sT (T : Tb) : Tb := (setT' (T.map cI)).map fun k => k.map Int.toNat
theorem toNat_cI (r : List Nat) : (cI r).map Int.toNat = r := by
  unfold cI
  rw [List.map_map]
  exact (List.map_congr_left fun _ _ => rfl).trans (List.map_id' r)
theorem sT_map (T : Tb) : (sT T).map cI = setT' (T.map cI) := by
  unfold sT
  rw [List.map_map]
  refine (List.map_congr_left fun k hk => ?_).trans (List.map_id' _)
  obtain ⟨r, _, rfl⟩ := List.mem_map.mp (setT'_mem.mp hk)
  show cI ((cI r).map Int.toNat) = cI r
  rw [toNat_cI]
theorem sT_mem {T : Tb} {r : List Nat} : r ∈ sT T ↔ r ∈ T := by
  have h : cI r ∈ (sT T).map cI ↔ cI r ∈ T.map cI := by rw [sT_map]; exact setT'_mem
  constructor
  · intro hr
    obtain ⟨s, hs, e⟩ := List.mem_map.mp (h.mp (List.mem_map.mpr ⟨r, hr, rfl⟩))
    rw [← cI_inj e]; exact hs
  · intro hr
    obtain ⟨s, hs, e⟩ := List.mem_map.mp (h.mpr (List.mem_map.mpr ⟨r, hr, rfl⟩))
    rw [← cI_inj e]; exact hs
theorem sT_up {T : Tb} : (sT T).Pairwise (· < ·) := by
  have := setT'_up (ks := T.map cI)
  rw [← sT_map, List.pairwise_map] at this
  exact this.imp fun h => cI_lt.mp h
theorem sT_len (T : Tb) : (sT T).length ≤ T.length := by
  have h1 : (sT T).Nodup := List.Pairwise.imp (S := fun a b => a ≠ b) (fun {a b} (q : a < b) (e : a = b) => List.lt_irrefl a (by rw [e] at q ⊢; exact q)) sT_up
  have key : ∀ (l D : Tb), l.Nodup → (∀ x ∈ l, x ∈ D) → l.length ≤ D.length := by
    intro l
    induction l with
    | nil => intro D _ _; exact Nat.zero_le _
    | cons x l ih =>
      intro D hn hs
      obtain ⟨h1, h2⟩ := List.nodup_cons.mp hn
      have hx : x ∈ D := hs x List.mem_cons_self
      have := ih (D.erase x) h2 fun y hy => by
        have hne : y ≠ x := fun e => h1 (e ▸ hy)
        exact (List.mem_erase_of_ne hne).2 (hs y (List.mem_cons_of_mem _ hy))
      have e := List.length_erase_of_mem hx
      have hp : 0 < D.length := List.length_pos_of_mem hx
      rw [List.length_cons]
      omega
  exact key _ _ h1 fun x hx => sT_mem.mp hx
theorem setLD_rows {w : Nat} {T : Tb} (h : ∀ r ∈ T, Row w r) (hl : T.length < 4000) : setLD (T.map tN) = .ok (.list ((sT T).map tN)) := by
  have em : T.map tN = (T.map cI).map fun k => PyData.tuple (k.map .int) := by
    rw [List.map_map]
    exact List.map_congr_left fun r _ => tN_cI r
  have er : (sT T).map tN = (setT' (T.map cI)).map fun k => PyData.tuple (k.map .int) := by
    rw [← sT_map, List.map_map]
    exact List.map_congr_left fun r _ => tN_cI r
  cases T with
  | nil => rfl
  | cons e T =>
    have en : nums ((e :: T).map tN) = none := rfl
    unfold setLD
    rw [en]
    show setTD ((e :: T).map tN) = _
    unfold setTD
    rw [em, tupsOf_map, er]
    have le : ∀ r, (cI r).length = r.length := fun r => List.length_map ..
    have tok : tupsOk ((e :: T).map cI) = true := by
      show (((e :: T).map cI).all fun j => decide (j.length = (cI e).length) && j.all fun n => decide (0 ≤ n ∧ n < BT)) = true
      rw [List.all_eq_true]
      have he := h e List.mem_cons_self
      intro k hk
      obtain ⟨x, hx, rfl⟩ := List.mem_map.mp hk
      have hxr := h x hx
      rw [Bool.and_eq_true, List.all_eq_true]
      refine ⟨decide_eq_true (by rw [le, le, he.1, hxr.1]), fun c hc => decide_eq_true ?_⟩
      obtain ⟨n, hn, rfl⟩ := List.mem_map.mp hc
      have := hxr.2 n hn
      have hB : (64 : Int) < BT := by decide
      omega
    show (if ((e :: T).map cI).length < 64 ∧ tupsOk ((e :: T).map cI) = true then _ else setTB ((e :: T).map cI)) = _
    by_cases few : ((e :: T).map cI).length < 64
    · rw [if_pos ⟨few, tok⟩]
    · rw [if_neg fun z => few z.1]
      unfold setTB
      have := setT'_le ((e :: T).map cI)
      rw [List.length_map] at this
      rw [if_pos ⟨by omega, tupsOk_okB tok⟩]
theorem set_rowsL {w : Nat} {T : Tb} (hw : 1 ≤ w) (h : ∀ r ∈ T, Row w r) (hl : T.length < 4000) : pySortedSet (.list (T.map tN)) = .ok (.list ((sT T).map tN)) := setLD_rows h hl
noncomputable def rowP (w : Nat) (x : D) : Bool := decide (∃ r, x = tN r ∧ Row w r)
noncomputable def tabP (w : Nat) (x : D) : Bool := decide (∃ T, x = tT T ∧ Tab w T)
theorem rowP_no {w : Nat} {x : D} (h : ∀ xs, x ≠ .tuple xs) : rowP w x = false := decide_eq_false fun ⟨r, e, _⟩ => h _ e
theorem tabP_no {w : Nat} {x : D} (h : ∀ xs, x ≠ .tuple xs) : tabP w x = false := decide_eq_false fun ⟨r, e, _⟩ => h _ e
theorem rowP_t {w : Nat} {xs : List D} : rowP w (.tuple xs) = (decide (xs.length = w) && xs.all fun x => uptoB x 10) := by
  rw [Bool.eq_iff_iff, Bool.and_eq_true]
  unfold rowP
  rw [decide_eq_true_iff, decide_eq_true_iff]
  constructor
  · rintro ⟨r, e, h1, h2⟩
    injection e with e
    subst e
    refine ⟨by rw [List.length_map]; exact h1, ?_⟩
    rw [List.all_map, List.all_eq_true]
    intro c hc
    have := h2 c hc
    show uptoB (nD c) 10 = true
    simp [uptoB, nD]
    omega
  · rintro ⟨h1, h2⟩
    obtain ⟨o, rfl, ho⟩ := upto_all h2
    exact ⟨o, rfl, by rw [← h1, List.length_map], ho⟩
theorem is_row_is {x : D} (h : Thing x) (w : Nat) : m_is_row [x, nD w] = .ok (.bool (rowP w x)) := by
  rw [m_is_row]
  have e10 : (PyData.int 10) = nD 10 := rfl
  cases x with
  | tuple xs =>
    rw [rowP_t]
    by_cases hl : xs.length = w
    · simp! only [hl, decide_true, map_upto h.2, Bool.true_and, List.all_map, Function.comp_def, id]
    · simp! only [hl, decide_false, Bool.false_and]
  | dict es =>
    cases es with
    | nil => rw [rowP_no (by intro _ z; cases z)]; all_goals (simp! only <;> rfl)
    | cons e es => exact h.1.elim
  | _ => rw [rowP_no (by intro _ z; cases z)]; all_goals (simp! only <;> rfl)
theorem pairwise_of_next {α : Type} {R : α → α → Prop} (tr : ∀ a b c, R a b → R b c → R a c) : ∀ {l : List α}, (∀ p ∈ l.zip (l.drop 1), R p.1 p.2) → l.Pairwise R
  | [], _ => .nil
  | [a], _ => List.pairwise_singleton _ _
  | a :: b :: l, h => by
    have ih := pairwise_of_next tr (l := b :: l) fun p hp => h p (by
      simp only [List.drop_succ_cons, List.drop_zero, List.zip_cons_cons] at hp ⊢
      exact List.mem_cons_of_mem _ hp)
    have hab : R a b := h (a, b) (by simp)
    refine List.pairwise_cons.mpr ⟨fun c hc => ?_, ih⟩
    rcases List.mem_cons.mp hc with rfl | hc
    · exact hab
    · exact tr _ _ _ hab ((List.pairwise_cons.mp ih).1 c hc)
theorem next_of_pairwise {α : Type} {R : α → α → Prop} : ∀ {l : List α}, l.Pairwise R → ∀ p ∈ l.zip (l.drop 1), R p.1 p.2
  | [], _, p, h => by simp at h
  | [a], _, p, h => by simp at h
  | a :: b :: l, h, p, hp => by
    obtain ⟨h1, h2⟩ := List.pairwise_cons.mp h
    simp only [List.drop_succ_cons, List.drop_zero, List.zip_cons_cons, List.mem_cons] at hp
    rcases hp with rfl | hp
    · exact h1 b List.mem_cons_self
    · exact next_of_pairwise h2 p (by simpa using hp)
theorem rows_all {w : Nat} {xs : List D} (h : xs.all (rowP w) = true) : ∃ T : Tb, xs = T.map tN ∧ ∀ r ∈ T, Row w r := by
  induction xs with
  | nil => exact ⟨[], rfl, fun _ h => nomatch h⟩
  | cons x xs ih =>
    rw [List.all_cons, Bool.and_eq_true] at h
    obtain ⟨T, rfl, hT⟩ := ih h.2
    obtain ⟨r, rfl, hr⟩ := of_decide_eq_true h.1
    exact ⟨r :: T, rfl, fun s hs => by
      rcases List.mem_cons.mp hs with rfl | hs
      · exact hr
      · exact hT s hs⟩
theorem tT_inj {T S : Tb} (h : T.map tN = S.map tN) : T = S := by
  induction T generalizing S with
  | nil => cases S with
    | nil => rfl
    | cons s S => cases h
  | cons r T ih => cases S with
    | nil => cases h
    | cons s S =>
      have h1 := (List.cons.inj h).1
      have h2 := (List.cons.inj h).2
      rw [ih h2]
      congr 1
      have : r.map nD = s.map nD := by
        have : PyData.tuple (r.map nD) = .tuple (s.map nD) := h1
        injection this
      have h3 := congrArg natsOf this
      rw [natsOf_map, natsOf_map] at h3
      exact Option.some.inj h3
theorem tabP_t {w : Nat} {xs : List D} : tabP w (.tuple xs) = (decide (xs.length ≤ 625) && (xs.all (rowP w) && decide (∃ T : Tb, xs = T.map tN ∧ T.Pairwise (· < ·)))) := by
  rw [Bool.eq_iff_iff, Bool.and_eq_true, Bool.and_eq_true]
  unfold tabP
  rw [decide_eq_true_iff, decide_eq_true_iff, decide_eq_true_iff]
  constructor
  · rintro ⟨T, e, h1, h2, h3⟩
    have e : xs = T.map tN := by injection e
    subst e
    refine ⟨by rw [List.length_map]; exact h1, ?_, T, rfl, h3⟩
    rw [List.all_map, List.all_eq_true]
    exact fun r hr => decide_eq_true ⟨r, rfl, h2 r hr⟩
  · rintro ⟨h1, h2, T, rfl, h3⟩
    obtain ⟨S, e, hS⟩ := rows_all h2
    rw [← tT_inj e] at hS
    exact ⟨T, rfl, by simpa using h1, hS, h3⟩
theorem is_table_is {x : D} (h : PThing x) (w : Nat) : m_is_table [x, nD w] = .ok (.bool (tabP w x)) := by
  rw [m_is_table]
  cases x with
  | tuple xs =>
    rw [tabP_t]
    have e1 : pySl (.tuple xs) (some ((1 : Nat) : Int)) none = .ok (.tuple (xs.drop 1)) := sl_from xs 1
    have eG : pyGt (nD xs.length) (nD 625) = .ok (.bool (decide (625 < xs.length))) := by
      show R.ok (PyData.bool (decide (((625 : Nat) : Int) < ((xs.length : Nat) : Int)))) = _
      congr 2
      rw [Bool.eq_iff_iff, decide_eq_true_iff, decide_eq_true_iff]
      omega
    have em := mapR_m (f := fun x9 => m_is_row [x9, nD w]) (g := fun x : D => x) (fun x => PyData.bool (rowP w x)) (xs := xs) fun x hx => is_row_is (h.2 x hx) w
    rw [List.map_id'] at em
    simp! only [eG, em, e1]
    by_cases hl : xs.length ≤ 625
    · have hl' : ¬ 625 < xs.length := by omega
      simp! only [hl, hl', decide_true, decide_false, Bool.true_and, List.all_map, Function.comp_def, id]
      cases hr : xs.all (rowP w) with
      | false => simp! only [Bool.false_and]
      | true =>
        obtain ⟨T, rfl, hT⟩ := rows_all hr
        simp! only [Bool.true_and]
        rw [← List.map_drop]
        show (mapR _ (pairs (T.map tN) ((T.drop 1).map tN))).bind _ = _
        have ep : pairs (T.map tN) ((T.drop 1).map tN) = (T.zip (T.drop 1)).map fun p => .tuple [tN p.1, tN p.2] := by
          unfold pairs
          rw [List.zipWith_map, List.zip, List.map_zipWith]
        rw [ep, mapR_m (g := fun p : List Nat × List Nat => PyData.tuple [tN p.1, tN p.2]) (fun p => PyData.bool (decide (p.1 < p.2))) (fun p _ => by
          show pyLt (tN p.1) (tN p.2) = _
          rw [ltT]), okb]
        simp! only [List.all_map, Function.comp_def, id]
        congr 2
        rw [Bool.eq_iff_iff, List.all_eq_true, decide_eq_true_iff]
        constructor
        · intro h2
          exact ⟨T, rfl, pairwise_of_next (R := fun a b : List Nat => a < b) (fun _ _ _ h1 h2 => List.lt_trans h1 h2) fun p hp => of_decide_eq_true (h2 p hp)⟩
        · rintro ⟨S, e, hS⟩ p hp
          rw [← tT_inj e] at hS
          exact decide_eq_true (next_of_pairwise hS p hp)
    · have hl' : 625 < xs.length := by omega
      simp! only [hl, hl', decide_true, decide_false, Bool.false_and]
  | dict es =>
    cases es with
    | nil => rw [tabP_no (by intro _ z; cases z)]; all_goals (simp! only <;> rfl)
    | cons e es => exact h.1.elim
  | _ => rw [tabP_no (by intro _ z; cases z)]; all_goals (simp! only <;> rfl)
section
variable {m : Nat} {hs : List (List Nat)}
end
end TP
namespace TP
open PySem PySem.Spec PyProof.Rows L2 TL JT
section
variable {hs : List (List Nat)} {left : List Nat}
end
end TP
namespace TP
open PySem PySem.Spec PyProof.Rows L2 TL JT
section
variable {m : Nat} {hs : List (List Nat)}
end
section
variable {m : Nat} {hs : List (List Nat)} {left : List Nat}
end
section
variable {m : Nat} {hs : List (List Nat)}
end
end TP
namespace TP
open PySem PySem.Spec PyProof.Rows L2 TL JT
inductive Con (n : Nat) (R : Nat → Nat → Bool) (a : Nat) : Nat → Prop where
  | refl : Con n R a a
  | step {b c : Nat} : Con n R a b → R b c = true → c < n → Con n R a c
theorem Con.trans {n : Nat} {R : Nat → Nat → Bool} {a b c : Nat} (h : Con n R a b) (k : Con n R b c) : Con n R a c := by
  induction k with
  | refl => exact h
  | step _ r l ih => exact ih.step r l
theorem Con.symm {n : Nat} {R : Nat → Nat → Bool} (hR : ∀ a b, R a b = R b a) {a b : Nat} (ha : a < n) (h : Con n R a b) : Con n R b a := by
  induction h with
  | refl => exact .refl
  | step h r l ih =>
    have : Con n R _ _ := Con.step .refl (by rw [hR]; exact r) (show _ < n from by cases h with
      | refl => exact ha
      | step _ _ l => exact l)
    exact this.trans ih
section
variable {hs : List (List Nat)} (sm : Sm hs)
include sm
end
end TP
namespace TP
open PySem PySem.Spec PyProof.Rows L2 TL JT
section
variable {m : Nat} {hs : List (List Nat)} (sm : Sm hs)
include sm
end
section
variable {m : Nat} {hs : List (List Nat)} {o : List Nat} (v : LayV m hs) (po : o.Perm (List.range m))
include v po
end
end TP
namespace TP
open PySem PySem.Spec PyProof.Rows L2 TL JT
open TQ (Pr Hang InV Forest prs JoinT Tr Holds Run Done Steps nrm)
theorem lelT (a b : List Nat) : ¬ b < a ↔ a ≤ b := List.not_lt
theorem srt_perm (xs : List (List Nat)) : (srt xs).Perm xs := List.mergeSort_perm _ _
theorem srt_up (xs : List (List Nat)) : (srt xs).Pairwise (· ≤ ·) := by
  have := List.pairwise_mergeSort (le := fun a b : List Nat => decide (¬ b < a)) (fun a b c h1 h2 => by
    rw [decide_eq_true_iff, lelT] at *
    exact List.le_trans h1 h2) (fun a b => by
    rw [Bool.or_eq_true, decide_eq_true_iff, decide_eq_true_iff, lelT, lelT]
    exact List.le_total a b) xs
  exact this.imp fun h => by rwa [decide_eq_true_iff, lelT] at h
section
variable {hs : List (List Nat)} {left : List Nat}
theorem Steps.mem {A B : List Nat} {S : List Pr} (s : Steps hs A S B) : ∀ p ∈ S, p.1 ∈ A ∧ p.2 ∈ A ∧ p.1 ≠ p.2 := by
  induction s with
  | nil A => exact fun _ h => nomatch h
  | cons a b c _ ih =>
    intro p hp
    rcases List.mem_cons.mp hp with e | hp
    · rw [e]; exact ⟨a, b, c.1⟩
    · obtain ⟨h1, h2, h3⟩ := ih p hp
      exact ⟨List.mem_of_mem_erase h1, List.mem_of_mem_erase h2, h3⟩
end
section
variable {m : Nat} {hs : List (List Nat)} (v : LayV m hs) {o : List Nat} (po : o.Perm (List.range m))
include v po
end
end TP
namespace TP
open PySem PySem.Spec PyProof.Rows L2 TL JT
open TQ (Pr Hang InV Forest prs JoinT Tr Holds Run Done Steps nrm)
section
variable {m : Nat} {hs : List (List Nat)} (v : LayV m hs)
include v
end
end TP
namespace TQ
def Adj (E : List Pr) (a b : Nat) : Prop := (a, b) ∈ E ∨ (b, a) ∈ E
inductive Way (E : List Pr) : List Nat → Nat → Nat → Prop where
  | one (a : Nat) : Way E [a] a a
  | snoc {w : List Nat} {a b c : Nat} : Way E w a b → Adj E b c → c ∉ w → Way E (w ++ [c]) a c
theorem Way.mem {E : List Pr} {w : List Nat} {a b : Nat} (h : Way E w a b) : a ∈ w ∧ b ∈ w := by
  induction h with
  | one a => simp
  | snoc _ _ _ ih => simp [ih.1]
end TQ
namespace TQ
end TQ
namespace TP
open PySem PySem.Spec PyProof.Rows L2 TL JT
open TQ (Pr Hang InV Forest prs combos JoinT Way Adj)
section
variable {m : Nat} {hs : List (List Nat)} {T : List Pr}
end
end TP
namespace TP
open PySem PySem.Spec PyProof.Rows L2 TL JT
open TQ (Pr Hang InV Forest prs combos JoinT nrm)
end TP
namespace TP
open PySem PySem.Spec PyProof.Rows L2 TL JT
open TQ (Pr Hang InV Forest prs combos JoinT nrm)
section
variable {m : Nat} {hs : List (List Nat)}
def AllT (xs : List D) : Prop := ∀ x ∈ xs, Thing x
theorem AllT.set {xs : List D} (h : AllT xs) (n : Nat) {d : D} (hd : Thing d) : AllT (xs.set n d) := fun x hx => (List.mem_or_eq_of_mem_set hx).elim (h x) (fun e => e ▸ hd)
end
end TP
namespace TP
open PySem PySem.Spec PyProof.Rows L2 TL JT
def subB (a b : List Nat) : Bool := a.all fun c => decide (c ∈ b)
section
variable {m : Nat} {hs : List (List Nat)}
end
section
variable {m : Nat} {hs : List (List Nat)}
end
section
variable {m : Nat} {hs : List (List Nat)}
end
end TP
namespace TP
open PySem PySem.Spec PyProof.Rows L2 TL JT
mutual
def tiny : D → Bool
  | .none => true
  | .bool _ => true
  | .int i => decide (i.natAbs < 1000000)
  | .str x => x.cps.toList.all fun c => decide (c < 16 ^ 8)
  | .list xs => tinyAll xs
  | .tuple xs => tinyAll xs
  | .dict _ => false
def tinyAll : List D → Bool
  | [] => true
  | x :: xs => tiny x && tinyAll xs
end
theorem int_short {i : Int} (h : i.natAbs < 1000000) : (PyData.int i).shown.length ≤ 13 := by
  rw [PyData.shown_int]
  have e := int_text_length_le10 (a := i) (k := 6) (by decide) h
  rw [PySem.ofString_length]
  omega
theorem int_log {i : Int} (h : i.natAbs < 1000000) : i.natAbs.log2 < 1920 := by
  by_cases z : i.natAbs = 0
  · rw [z]; decide
  · exact Nat.lt_trans ((Nat.log2_lt z).mpr (show i.natAbs < 2 ^ 20 by omega)) (by decide)
mutual
theorem tiny_all : ∀ d : D, tiny d = true → flat d = true ∧ d.showable = true ∧ d.leavesShort 13 = true
  | .none, _ => ⟨rfl, by simp [PyData.showable], by simp [PyData.leavesShort]⟩
  | .bool _, _ => ⟨rfl, by simp [PyData.showable], by simp [PyData.leavesShort]⟩
  | .int i, h => by
    have h : i.natAbs < 1000000 := by simpa [tiny] using h
    exact ⟨rfl, by simpa [PyData.showable] using int_log h, by simpa [PyData.leavesShort] using int_short h⟩
  | .str x, h => ⟨rfl, by simp [PyData.showable], by simpa [PyData.leavesShort, tiny] using h⟩
  | .list xs, h => by
    obtain ⟨a, b, c⟩ := tinyAll_all xs (by simpa [tiny] using h)
    exact ⟨by simpa [flat] using a, by simpa [PyData.showable] using b, by simpa [PyData.leavesShort] using c⟩
  | .tuple xs, h => by
    obtain ⟨a, b, c⟩ := tinyAll_all xs (by simpa [tiny] using h)
    exact ⟨by simpa [flat] using a, by simpa [PyData.showable] using b, by simpa [PyData.leavesShort] using c⟩
  | .dict _, h => by simp [tiny] at h
theorem tinyAll_all : ∀ xs : List D, tinyAll xs = true → flatAll xs = true ∧ PyData.showableAll xs = true ∧ PyData.leavesShortAll 13 xs = true
  | [], _ => ⟨rfl, by simp [PyData.showableAll], by simp [PyData.leavesShortAll]⟩
  | x :: xs, h => by
    have h : tiny x = true ∧ tinyAll xs = true := by simpa [tinyAll] using h
    obtain ⟨a, b, c⟩ := tiny_all x h.1
    obtain ⟨a', b', c'⟩ := tinyAll_all xs h.2
    exact ⟨by simp [flatAll, a, a'], by simp [PyData.showableAll, b, b'], by simp [PyData.leavesShortAll, c, c']⟩
end
end TP
namespace TP
open PySem PySem.Spec PyProof.Rows L2 TL JT
section
variable {hs : List (List Nat)}
variable (sm : Sm hs)
include sm
end
end TP
namespace TP
open PySem PySem.Spec PyProof.Rows L2 TL JT
section
variable {m : Nat} {hs : List (List Nat)} (v : LayV m hs)
include v
end
section
variable {m : Nat} {hs : List (List Nat)} (v : LayV m hs)
include v
end
end TP
namespace TP
open PySem PySem.Spec PyProof.Rows L2 TL JT
def mateB (hs : List (List Nat)) (a b : Nat) : Bool := decide (a ≠ b) && hs.any fun h => decide (a ∈ h) && decide (b ∈ h)
def dl (o : List Nat) : Nat := (setN' (o.map fun n : Nat => (n : Int))).length
def mn (o : List Nat) : Nat := (lmin (o.map fun n : Nat => (n : Int))).toNat
def lst (o : List Nat) : Nat := o.getLastD 0
def gd (o : List Nat) (k : Nat) : Nat := o.getD k 0
section
variable {m : Nat} {hs : List (List Nat)}
end
end TP
namespace TQ
variable {hs : List (List Nat)}
def Single (hs : List (List Nat)) : Prop := ∃ x, Run hs (List.range hs.length) [x]
def cut (hs : List (List Nat)) (g : List Nat) : List (List Nat) := hs.map fun h => h.filter fun c => decide (c ∉ g)
end TQ
namespace TQ
open Classical
section
variable {g : Nat → List Nat}
def Wr (g : Nat → List Nat) (L : List Nat) (n : Nat) (hd cl : Nat → Nat) : Prop := 3 ≤ n ∧ (∀ s, s < n → hd s ∈ L) ∧ ∀ t, t < n → ∀ s, s < n → (cl t ∈ g (hd s) ↔ (s = t ∨ s = (t + 1) % n))
def Sh (g : Nat → List Nat) (E a b : Nat) : Prop := ∃ c, c ∉ g E ∧ c ∈ g a ∧ c ∈ g b
theorem Sh.symm {E a b : Nat} (h : Sh g E a b) : Sh g E b a := by
  obtain ⟨c, h1, h2, h3⟩ := h
  exact ⟨c, h1, h3, h2⟩
def Wy (g : Nat → List Nat) (E : Nat) (M : List Nat) (a b k : Nat) : Prop := ∃ f : Nat → Nat, f 0 = a ∧ f k = b ∧ (∀ i, i ≤ k → f i ∈ M) ∧ ∀ i, i < k → Sh g E (f i) (f (i + 1))
theorem Wy.snoc {E : Nat} {M : List Nat} {a b c k : Nat} (h : Wy g E M a b k) (hc : c ∈ M) (hs : Sh g E b c) : Wy g E M a c (k + 1) := by
  obtain ⟨f, h0, hk, hm, hr⟩ := h
  refine ⟨fun i => if i ≤ k then f i else c, by simp [h0], by dsimp only; rw [if_neg (by omega)], fun i hi => ?_, fun i hi => ?_⟩
  · dsimp only
    split
    · rename_i z; exact hm i z
    · exact hc
  · dsimp only
    rcases Nat.lt_or_ge i k with z | z
    · rw [if_pos (by omega), if_pos (by omega)]
      exact hr i z
    · have e : i = k := by omega
      subst e
      rw [if_pos (Nat.le_refl _), if_neg (by omega), hk]
      exact hs
theorem Wy.trans {E : Nat} {M : List Nat} {a b : Nat} : ∀ {l c k : Nat}, Wy g E M a b k → Wy g E M b c l → Wy g E M a c (k + l) := by
  intro l
  induction l with
  | zero =>
    intro c k h h2
    obtain ⟨f, h0, hk, _, _⟩ := h2
    rw [h0] at hk
    subst hk
    exact h
  | succ l ih =>
    intro c k h ⟨f, h0, hk, hm, hr⟩
    have h3 := ih h (c := f l) ⟨f, h0, rfl, fun i hi => hm i (by omega), fun i hi => hr i (by omega)⟩
    have := h3.snoc (hm (l + 1) (Nat.le_refl _)) (hr l (by omega))
    rw [hk] at this
    exact this
end
end TQ
namespace TQ
open Classical
abbrev gat (hs : List (List Nat)) (i : Nat) : List Nat := hs.getD i []
abbrev nat (l : List Nat) (i : Nat) : Nat := l.getD i 0
def StW (gs : List (List Nat)) : Prop := ∃ n hd cl, Wr (gat gs) (List.range gs.length) n hd cl
structure WrL (hs : List (List Nat)) (a c : List Nat) : Prop where
  len : a.length = c.length
  three : 3 ≤ a.length
  lt : ∀ x ∈ a, x < hs.length
  it : ∀ t, t < a.length → ∀ s, s < a.length → (nat c t ∈ gat hs (nat a s) ↔ (s = t ∨ s = (t + 1) % a.length))
theorem nat_mem {l : List Nat} {i : Nat} (h : i < l.length) : nat l i ∈ l := by
  show l.getD i 0 ∈ l
  rw [List.getD_eq_getElem?_getD, List.getElem?_eq_getElem h]
  exact List.getElem_mem h
theorem WrL.st {hs : List (List Nat)} {a c : List Nat} (w : WrL hs a c) : StW hs :=
  ⟨a.length, nat a, nat c, w.three, fun s h => List.mem_range.mpr (w.lt _ (nat_mem h)), w.it⟩
section
variable {hs : List (List Nat)} {a c : List Nat} (w : WrL hs a c)
include w
end
end TQ
namespace TP
open PySem PySem.Spec PyProof.Rows L2 TL JT
section
variable {m : Nat} {hs : List (List Nat)}
end
end TP
namespace TP
open PySem PySem.Spec PyProof.Rows L2 TL JT
theorem any_ne2 {α : Type} (p : α → Bool) (xs : List α) : decide (xs.filter p ≠ []) = xs.any p := by
  rw [Bool.eq_iff_iff, decide_eq_true_iff, List.any_eq_true]
  constructor
  · intro h
    obtain ⟨x, hx⟩ := List.exists_mem_of_ne_nil _ h
    exact ⟨x, (List.mem_filter.mp hx).1, (List.mem_filter.mp hx).2⟩
  · rintro ⟨x, hx, q⟩ z
    rw [List.filter_eq_nil_iff] at z
    exact z x hx q
theorem nil_iff {hs : List (List Nat)} {o : List Nat} : decide ((hs.filter fun h => decide (o.filter (fun c => decide (c ∉ h)) = [])) = []) = !(hs.any fun h => o.all fun c => decide (c ∈ h)) := by
  have e : (fun h : List Nat => decide (o.filter (fun c => decide (c ∉ h)) = [])) = fun h => o.all fun c => decide (c ∈ h) := by
    funext h
    rw [Bool.eq_iff_iff, decide_eq_true_iff, List.filter_eq_nil_iff, List.all_eq_true]
    refine forall_congr' fun c => forall_congr' fun _ => ?_
    simp
  rw [e, ← any_ne2]
  by_cases q : (hs.filter fun h => o.all fun c => decide (c ∈ h)) = [] <;> simp [q]
section
variable {m : Nat} {hs : List (List Nat)}
end
section
variable {hs : List (List Nat)}
end
end TP
namespace TP
open PySem PySem.Spec PyProof.Rows L2 TL JT
section
variable {m : Nat} {hs : List (List Nat)} (v : LayV m hs)
include v
end
end TP
namespace TP
open PySem PySem.Spec PyProof.Rows L2 TL JT
def mu (L : List (List Nat)) : Nat := (L.map fun l => 8 ^ (8 - l.length)).sum
theorem nodup_len {m : Nat} {l : List Nat} (hn : l.Nodup) (h : ∀ c ∈ l, c < m) : l.length ≤ m := by
  have h1 := rise_len (a := 0) (sortN_lt hn) (fun c hc => h c (sortN_mem.mp hc)) (fun _ _ => Nat.zero_le _) (Nat.zero_le m)
  rw [sortN_length] at h1
  omega
section
variable {m : Nat} {hs : List (List Nat)} (v : LayV m hs)
include v
end
section
variable {m : Nat} {hs : List (List Nat)} (v : LayV m hs)
include v
end
def W (B k : Nat) (d : D) : Prop := tiny d = true ∧ d.weight ≤ B ∧ d.depth ≤ k
end TP
namespace TQ
open Classical
section
variable {adj : Nat → Nat → Bool}
def RingF (adj : Nat → Nat → Bool) (n : Nat) (f : Nat → Nat) : Prop := 4 ≤ n ∧ (∀ a c, c < a → a < n → f a ≠ f c) ∧ ∀ a c, c < a → a < n → (adj (f a) (f c) = true ↔ (a - c = 1 ∨ a - c = n - 1))
inductive Rc (adj : Nat → Nat → Bool) (W : Nat → Prop) (a : Nat) : Nat → Prop where
  | refl : Rc adj W a a
  | step {b c : Nat} : Rc adj W a b → adj b c = true → W c → Rc adj W a c
theorem Rc.in {W : Nat → Prop} {a b : Nat} (h : Rc adj W a b) (ha : W a) : W b := by
  cases h with
  | refl => exact ha
  | step _ _ w => exact w
def Wk (adj : Nat → Nat → Bool) (C : Nat → Prop) (a b L : Nat) : Prop := ∃ f : Nat → Nat, f 0 = a ∧ f L = b ∧ (∀ i, i < L → adj (f i) (f (i + 1)) = true) ∧ ∀ i, i ≤ L → C (f i)
theorem Wk.trans {C : Nat → Prop} {a b c L M : Nat} (h : Wk adj C a b L) (k : Wk adj C b c M) : Wk adj C a c (L + M) := by
  obtain ⟨f, f0, fL, fa, fc⟩ := h
  obtain ⟨g, g0, gM, ga, gc⟩ := k
  refine ⟨fun t => if t ≤ L then f t else g (t - L), ?_, ?_, fun i hi => ?_, fun i hi => ?_⟩
  · show (if 0 ≤ L then f 0 else _) = a
    rw [if_pos (by omega), f0]
  · show (if L + M ≤ L then f (L + M) else g (L + M - L)) = c
    by_cases q : L + M ≤ L
    · have : M = 0 := by omega
      subst this
      rw [if_pos q]
      show f L = c
      rw [fL, ← g0, gM]
    · rw [if_neg q, show L + M - L = M by omega, gM]
  · show adj (if i ≤ L then f i else g (i - L)) (if i + 1 ≤ L then f (i + 1) else g (i + 1 - L)) = true
    by_cases q : i + 1 ≤ L
    · rw [if_pos (by omega), if_pos q]
      exact fa i (by omega)
    · rw [if_neg q]
      by_cases q2 : i ≤ L
      · have : i = L := by omega
        rw [if_pos q2, this, fL, ← g0, show L + 1 - L = 0 + 1 by omega]
        exact ga 0 (by omega)
      · rw [if_neg q2, show i + 1 - L = i - L + 1 by omega]
        exact ga _ (by omega)
  · show C (if i ≤ L then f i else g (i - L))
    by_cases q : i ≤ L
    · rw [if_pos q]
      exact fc i q
    · rw [if_neg q]
      exact gc _ (by omega)
end
end TQ
namespace TP
open PySem PySem.Spec PyProof.Rows L2 TL JT
section
variable {m : Nat} {hs : List (List Nat)} (sm : Sm hs) (ne : hs ≠ [])
include sm ne
end
end TP
namespace TP
open PySem PySem.Spec PyProof.Rows L2 TL JT
open TQ (Pr Hang InV Forest prs JoinT Tr Holds Run Done Steps nrm)
section
variable {m : Nat} {hs : List (List Nat)} (v : LayV m hs)
include v
end
section
variable {m : Nat} {hs : List (List Nat)} (v : LayV m hs)
include v
end
end TP
namespace TP
open PySem PySem.Spec PyProof.Rows L2 TL JT
open TQ (Pr Hang InV Forest prs JoinT Tr Holds Run Done Steps Single)
section
variable {hs : List (List Nat)}
end
section
variable {m : Nat} {hs : List (List Nat)} (v : LayV m hs)
include v
end
end TP
namespace TP
open PySem PySem.Spec PyProof.Rows L2 TL JT
open TQ (RingF)
structure CRing (m : Nat) (hs : List (List Nat)) (o : List Nat) : Prop where
  nd : o.Nodup
  lt : ∀ c ∈ o, c < m
  l4 : 4 ≤ o.length
  pr : ∀ a, a < o.length → ∀ c, c < a → (mateB hs (gd o a) (gd o c) = true ↔ (a - c = 1 ∨ a - c = o.length - 1))
  mi : ∀ i, 0 < i → i < o.length → gd o 0 < gd o i
  tw : gd o 1 < gd o (o.length - 1)
section
variable {m : Nat} {hs : List (List Nat)}
end
structure CLine (m : Nat) (hs : List (List Nat)) (l : List Nat) : Prop where
  ne : l ≠ []
  nd : l.Nodup
  lt : ∀ c ∈ l, c < m
  pr : ∀ a, a < l.length → ∀ c, c < a → (mateB hs (gd l a) (gd l c) = true ↔ a - c = 1)
  mi : ∀ i, 0 < i → i < l.length → gd l 0 < gd l i
section
variable {m : Nat} {hs : List (List Nat)}
end
end TP
namespace TP
open PySem PySem.Spec PyProof.Rows L2 TL JT
def dR (T : Tb) : D := .dict (T.map fun r => (tN r, .bool true))
theorem nums_N (r : List Nat) : nums (r.map nD) = some (cI r) := by
  rw [map_nD]
  exact nums_map _
theorem keyT_N (r : List Nat) : keyT (tN r) = some (cI r) := nums_N r
theorem allT_R (T : Tb) : allT (T.map fun r => (tN r, (PyData.bool true))) = true := by
  unfold allT
  rw [List.all_map, List.all_eq_true]
  intro r _
  show (keyT (tN r)).isSome = true
  rw [keyT_N]
  rfl
theorem putT_R (T : Tb) (r : List Nat) : putT (T.map fun r => (tN r, (PyData.bool true))) (cI r) (.bool true) = ((if r ∈ T then T else T ++ [r]).map fun r => (tN r, (PyData.bool true))) := by
  unfold putT
  have ea : ((T.map fun r => (tN r, (PyData.bool true))).any fun p => decide (keyT p.1 = some (cI r))) = decide (r ∈ T) := by
    rw [List.any_map, Bool.eq_iff_iff, List.any_eq_true, decide_eq_true_iff]
    constructor
    · rintro ⟨s, hs, e⟩
      have e : keyT (tN s) = some (cI r) := of_decide_eq_true e
      rw [keyT_N] at e
      rw [← cI_inj (Option.some.inj e)]
      exact hs
    · intro h
      exact ⟨r, h, decide_eq_true (keyT_N r)⟩
  rw [ea]
  by_cases q : r ∈ T
  · rw [if_pos (decide_eq_true q), if_pos q, List.map_map]
    refine List.map_congr_left fun s _ => ?_
    show (if keyT (tN s) = some (cI r) then (tN s, PyData.bool true) else (tN s, .bool true)) = _
    split <;> rfl
  · rw [if_neg (by simpa using q), if_neg q, List.map_append]
    congr 1
    show [(PyData.tuple ((cI r).map .int), PyData.bool true)] = [(tN r, .bool true)]
    rw [← tN_cI]
theorem store_R {T : Tb} {r : List Nat} (h : T.length < 16777216) : storeD (dR T) (.tuple (r.map nD)) (.bool true) = .ok (dR (if r ∈ T then T else T ++ [r])) := by
  show (match nums (r.map nD) with
    | some k => if allT (T.map fun r => (tN r, (PyData.bool true))) = true ∧ (T.map fun r => (tN r, (PyData.bool true))).length < sizeLine then R.ok (PyData.dict (putT (T.map fun r => (tN r, (PyData.bool true))) k (.bool true))) else .no
    | none => .no) = _
  rw [nums_N]
  dsimp only
  rw [if_pos ⟨allT_R T, by rw [List.length_map, sizeLine_eq]; exact h⟩, putT_R]
  rfl
theorem listD_R (T : Tb) : pyListD [dR T] = .ok (.list (T.map tN)) := by
  show (if allT (T.map fun r => (tN r, (PyData.bool true))) = true then R.ok (PyData.list ((T.map fun r => (tN r, (PyData.bool true))).map (·.1))) else .no) = _
  rw [if_pos (allT_R T), List.map_map]
  rfl
theorem srt_lt {T : Tb} (nd : T.Nodup) : (srt T).Pairwise (· < ·) := by
  have h1 := srt_up T
  have h2 : (srt T).Nodup := (srt_perm T).nodup_iff.mpr nd
  refine List.Pairwise.imp₂ (R := fun a b => a ≤ b) (S := fun a b => a ≠ b) (fun a b (le : a ≤ b) (ne : a ≠ b) => ?_) h1 h2
  rcases Classical.em (a < b) with z | z
  · exact z
  · exact absurd (List.le_antisymm le (List.not_lt.mp z)) ne
theorem draw_row {small : Nat} (h0 : 0 < small) (h10 : small ≤ 10) {s : D} (hb : IsBox s) (xs : List D) : Sat (mapJ (fun (d : D) (s : D) => (m_law_take_2 s [nD small]).bind fun q => R.ok (q.1, q.2)) xs s) fun p => (∃ r : List Nat, p.1 = r.map nD ∧ Row xs.length r) ∧ IsBox p.2 := by
  have := mapJ_inv (f := fun (d : D) (s : D) => (m_law_take_2 s [nD small]).bind fun q => R.ok (q.1, q.2)) (g := fun d : D => d) (I := fun _ s => IsBox s) (Q := fun d => ∃ n : Nat, n < 10 ∧ d = nD n) (xs := xs) (i := 0) (s := s) (fun k x s _ hs => by
    refine Sat.bind (take2_sat hs h0 (by omega)) ?_
    rintro ⟨_, s'⟩ ⟨⟨n, hn, rfl⟩, hb'⟩
    exact ⟨_, rfl, ⟨n, by omega, rfl⟩, hb'⟩) hb
  rw [List.map_id'] at this
  refine this.mono ?_
  rintro ⟨ds, s'⟩ ⟨h1, h2, h3⟩
  refine ⟨?_, h3⟩
  have key : ∀ ds : List D, (∀ d ∈ ds, ∃ n : Nat, n < 10 ∧ d = nD n) → ∃ r : List Nat, ds = r.map nD ∧ ∀ x ∈ r, x < 10 := by
    intro ds
    induction ds with
    | nil => intro _; exact ⟨[], rfl, fun _ h => nomatch h⟩
    | cons d ds ih =>
      intro h
      obtain ⟨n, hn, rfl⟩ := h d List.mem_cons_self
      obtain ⟨r, rfl, hr⟩ := ih fun d hd => h d (List.mem_cons_of_mem _ hd)
      exact ⟨n :: r, rfl, fun x hx => by
        rcases List.mem_cons.mp hx with rfl | hx
        · exact hn
        · exact hr x hx⟩
  obtain ⟨r, e, hr⟩ := key ds h2
  refine ⟨r, e, ?_, hr⟩
  have h1 : ds.length = xs.length := h1
  rw [e, List.length_map] at h1
  exact h1
theorem tab_srt {w : Nat} {T : Tb} (nd : T.Nodup) (h : ∀ r ∈ T, Row w r) (hl : T.length ≤ 625) : Tab w (srt T) := ⟨by rw [(srt_perm T).length_eq]; exact hl, fun r hr => h r ((srt_perm T).mem_iff.mp hr), srt_lt nd⟩
theorem law_rows_sat {w most : Nat} (hw : 1 ≤ w) (hw7 : w ≤ 64) (hm : most ≤ 60) {s : D} (hb : IsBox s) : Sat (m_law_rows s [nD w, nD most]) fun p => (∃ T : Tb, p.1 = tT T ∧ Tab w T ∧ T.length ≤ most) ∧ IsBox p.2 := by
  rw [m_law_rows]
  simp! only
  refine Sat.bind (take2_nox hb (show 0 < 3 by decide) (by decide)) ?_
  rintro ⟨_, s1⟩ ⟨⟨k, hk, rfl⟩, b1⟩
  refine Sat.bind (pick_nox (P := fun d => ∃ n : Nat, 0 < n ∧ n ≤ 10 ∧ d = nD n) (fun x hx => ?_) hk) ?_
  · rcases List.mem_cons.mp hx with e | hx
    · exact ⟨2, by decide, by decide, e⟩
    rcases List.mem_cons.mp hx with e | hx
    · exact ⟨3, by decide, by decide, e⟩
    · exact ⟨10, by decide, by decide, List.mem_singleton.mp hx⟩
  rintro _ ⟨small, h0, h10, rfl⟩
  simp! only
  refine Sat.bind (take2_nox b1 (show 0 < most + 1 by omega) (by omega)) ?_
  rintro ⟨_, s2⟩ ⟨⟨t, ht, rfl⟩, b2⟩
  rw [range1 (show t ≤ 16777216 by omega), nox_ok, okb]
  refine Sat.bind (foldR_inv (u := fun d => R.ok d) (g := nD) (h := nD) (i := 0) (P := fun k j => IsBox j.1 ∧ ∃ T : Tb, j.2 = dR T ∧ T.Nodup ∧ (∀ r ∈ T, Row w r) ∧ T.length ≤ k) (fun _ _ => rfl) (fun k j x hx ⟨hj, T, e, nd, hT, hl⟩ => ?_) ⟨b2, [], rfl, List.nodup_nil, (fun _ h => nomatch h), Nat.le_refl _⟩) ?_
  · obtain ⟨s3, j2⟩ := j
    simp only at e hj
    subst e
    have hkt : k < t := by
      have := (List.getElem?_eq_some_iff.mp hx).1
      simpa using this
    rw [range1 (show w ≤ 16777216 by omega), nox_ok, okb]
    refine Sat.bind (draw_row h0 h10 hj _).nox ?_
    rintro ⟨_, s4⟩ ⟨⟨r, rfl, hr⟩, b4⟩
    rw [List.length_map, List.length_range] at hr
    rw [store_R (by omega), okb]
    refine ⟨_, rfl, b4, _, rfl, ?_, ?_, ?_⟩
    · split
      · exact nd
      · rename_i nr
        exact List.nodup_append.mpr ⟨nd, by simp, fun x hx y hy z => by
          rw [List.mem_singleton.mp hy] at z
          exact nr (z ▸ hx)⟩
    · split
      · exact hT
      · intro x hx
        rcases List.mem_append.mp hx with hx | hx
        · exact hT x hx
        · rw [List.mem_singleton.mp hx]; exact hr
    · split
      · omega
      · rw [List.length_append, List.length_singleton]; omega
  rw [List.length_range, Nat.zero_add]
  rintro ⟨s5, j2⟩ ⟨b5, T, e, nd, hT, hl⟩
  simp only at e b5
  subst e
  rw [listD_R, okb, sortedT (fun x hx => by
    have := (hT x hx).1
    intro z
    rw [z] at this
    simp at this
    omega), okb]
  exact ⟨_, rfl, ⟨srt T, rfl, tab_srt nd hT (by omega), by rw [(srt_perm T).length_eq]; omega⟩, b5⟩
theorem mapJ_fa {α S : Type} {f : D → S → R (D × S)} {g : α → D} {I : S → Prop} {Q : α → D → Prop} : ∀ (xs : List α) (s : S), (∀ x ∈ xs, ∀ s, I s → Sat (f (g x) s) fun p => Q x p.1 ∧ I p.2) → I s → Sat (mapJ f (xs.map g) s) fun p : List D × S => (p.1.length = xs.length ∧ ∀ (i : Nat) (x : α) (d : D), xs[i]? = some x → p.1[i]? = some d → Q x d) ∧ I p.2
  | [], s, _, p => ⟨_, rfl, ⟨rfl, fun i x d h => by simp at h⟩, p⟩
  | x :: xs, s, h, p => by
    rw [List.map_cons, mapJ]
    refine Sat.bind (h x List.mem_cons_self s p) fun r ⟨hq, hi⟩ => ?_
    refine Sat.bind (mapJ_fa xs r.2 (fun y hy => h y (List.mem_cons_of_mem _ hy)) hi) fun r2 ⟨⟨h1, h2⟩, h3⟩ => ?_
    refine ⟨_, rfl, ⟨by rw [List.length_cons, List.length_cons, h1], fun i y d e1 e2 => ?_⟩, h3⟩
    cases i with
    | zero =>
      cases e1
      cases e2
      exact hq
    | succ i => exact h2 i y d (by simpa using e1) (by simpa using e2)
theorem row_at {m : Nat} {h r : List Nat} (hr : Row m r) (hh : ∀ c ∈ h, c < m) : ((mapR (fun a143 => pyIx (lN r) a143) (h.map nD)).bind fun a => R.ok (PyData.tuple a)) = .ok (tN (h.map fun c => gd r c)) ∧ Row h.length (h.map fun c => gd r c) := by
  refine ⟨?_, List.length_map .., fun x hx => ?_⟩
  · show ((mapR (fun a143 => pyIx (.list (r.map nD)) a143) (h.map nD)).bind fun a => R.ok (PyData.tuple a)) = _
    rw [mapR_m (g := nD) (fun c => nD (gd r c)) (fun c hc => ixLm 0 (by have := hh c hc; rw [hr.1]; exact this)), okb]
    show R.ok (PyData.tuple (h.map fun c => nD (gd r c))) = R.ok (PyData.tuple ((h.map fun c => gd r c).map nD))
    rw [List.map_map]
    rfl
  · obtain ⟨c, hc, rfl⟩ := List.mem_map.mp hx
    have h1 := hh c hc
    rw [← hr.1] at h1
    refine hr.2 _ ?_
    unfold gd
    rw [List.getD_eq_getElem?_getD, List.getElem?_eq_getElem h1]
    exact List.getElem_mem h1
theorem tabs_snoc {hs : List (List Nat)} {Ts : List Tb} {T : Tb} (h : ∀ i, i < Ts.length → Tab (hd hs i).length (Ts.getD i [])) (hT : Tab (hd hs Ts.length).length T) : ∀ i, i < (Ts ++ [T]).length → Tab (hd hs i).length ((Ts ++ [T]).getD i []) := fun i hi => by
  rw [List.length_append, List.length_singleton] at hi
  rw [List.getD_eq_getElem?_getD]
  by_cases q : i < Ts.length
  · rw [List.getElem?_append_left q, ← List.getD_eq_getElem?_getD]
    exact h i q
  · have e : i = Ts.length := by omega
    subst e
    rw [List.getElem?_append_right (Nat.le_refl _), Nat.sub_self]
    exact hT
section
variable {m : Nat} {hs : List (List Nat)} (v : LayV m hs)
include v
theorem law_tables_sat {most : Nat} (h1 : 1 ≤ most) (hm : most ≤ 60) {s : D} (hb : IsBox s) : Sat (m_law_tables s [layD m hs, nD most]) fun p => (∃ Ts, p.1 = tTs Ts ∧ Tabs hs Ts ∧ ∀ T ∈ Ts, T.length ≤ most + 1) ∧ IsBox p.2 := by
  have n6 := v.n6
  have m7 := v.m7
  have hne : ∀ i, i < hs.length → 1 ≤ (hd hs i).length := fun i hi => List.length_pos_iff.mpr (v.ne _ (hd_mem hi))
  have hlen : ∀ i, i < hs.length → (hd hs i).length ≤ 7 := fun i hi => by
    have hh := hd_mem hi
    have := nodup_len ((v.up _ hh).imp fun z => Nat.ne_of_lt z) (v.lt _ hh)
    omega
  have hget : ∀ k (h : List Nat), hs[k]? = some h → k < hs.length ∧ h = hd hs k := fun k h e => by
    have hk := (List.getElem?_eq_some_iff.mp e).1
    refine ⟨hk, ?_⟩
    unfold hd
    rw [List.getD_eq_getElem?_getD, e]
    rfl
  rw [m_law_tables]
  simp! only [lay0, lay1]
  refine Sat.bind (take2_nox hb (show 0 < 3 by decide) (by decide)) ?_
  rintro ⟨_, s1⟩ ⟨⟨way, hway, rfl⟩, b1⟩
  simp! only
  by_cases q0 : way = 0
  · rw [if_pos (by simpa using q0)]
    refine Sat.bind (mapJ_fa (f := fun (d45 : D) (s46 : D) => (TL.pyLen [d45]).bind fun a => (m_law_rows s46 [a, nD most]).bind fun q6 => R.ok (q6.1, q6.2)) (g := tN) (I := IsBox) (Q := fun h d => ∃ T : Tb, d = tT T ∧ T.length ≤ most ∧ Tab h.length T) hs s1 (fun h hh s hs' => ?_) b1).nox ?_
    · have hl := (v.ne _ hh)
      have hw := List.length_pos_iff.mpr hl
      have h7 := nodup_len ((v.up _ hh).imp fun z => Nat.ne_of_lt z) (v.lt _ hh)
      rw [len_tN, okb]
      refine Sat.bind (law_rows_sat (by omega) (by omega) hm hs') ?_
      rintro ⟨_, s2⟩ ⟨⟨T, rfl, hT, lT⟩, b2⟩
      exact ⟨_, rfl, ⟨T, rfl, lT, hT⟩, b2⟩
    · rintro ⟨ds, s2⟩ ⟨⟨hl, hq⟩, b2⟩
      refine ⟨_, rfl, ?_, b2⟩
      have key : ∀ (ds : List D) (hs : List (List Nat)), ds.length = hs.length → (∀ (i : Nat) (x : List Nat) (d : D), hs[i]? = some x → ds[i]? = some d → ∃ T : Tb, d = tT T ∧ T.length ≤ most ∧ Tab x.length T) → ∃ Ts : List Tb, ds = Ts.map tT ∧ Tabs hs Ts ∧ ∀ T ∈ Ts, T.length ≤ most + 1 := by
        intro ds
        induction ds with
        | nil =>
          intro hs h _
          rw [List.length_eq_zero_iff.mp h.symm]
          exact ⟨[], rfl, ⟨rfl, fun i h => absurd h (Nat.not_lt_zero _)⟩, fun _ h => nomatch h⟩
        | cons d ds ih =>
          intro hs h hq
          cases hs with
          | nil => cases h
          | cons g hs =>
            obtain ⟨Ts, rfl, ⟨e1, e2⟩, h3⟩ := ih hs (by simpa using h) fun i x d h1 h2 => hq (i + 1) x d (by simpa using h1) (by simpa using h2)
            obtain ⟨T, rfl, hT1, hT2⟩ := hq 0 g d rfl rfl
            refine ⟨T :: Ts, rfl, ⟨by simp [e1], fun i hi => ?_⟩, fun S hS => ?_⟩
            · cases i with
              | zero => exact hT2
              | succ i => exact e2 i (by simpa using hi)
            · rcases List.mem_cons.mp hS with rfl | hS
              · omega
              · exact h3 S hS
      obtain ⟨Ts, e, h3, h4⟩ := key ds hs hl hq
      have e : ds = Ts.map tT := e
      exact ⟨Ts, by show PyData.tuple ds = _; rw [e]; rfl, h3, h4⟩
  · rw [if_neg (by simpa using q0)]
    refine Sat.bind (take2_nox b1 (show 0 < 3 by decide) (by decide)) ?_
    rintro ⟨_, s2⟩ ⟨⟨k, hk, rfl⟩, b2⟩
    simp! only
    refine Sat.bind (take2_nox b2 (show 0 < most by omega) (by omega)) ?_
    rintro ⟨_, s3⟩ ⟨⟨t, ht, rfl⟩, b3⟩
    simp! only
    rw [range1 (show 1 + t ≤ 16777216 by omega), nox_ok, okb]
    refine Sat.bind (foldR_inv (u := fun d => R.ok d) (g := nD) (h := nD) (i := 0) (P := fun k j => IsBox j.1 ∧ ∃ W : Tb, j.2 = .list (W.map lN) ∧ (∀ r ∈ W, Row m r) ∧ W.length ≤ k) (fun _ _ => rfl) (fun i j x hx ⟨hj, W, e, hW, hl⟩ => ?_) ⟨b3, [], rfl, (fun _ h => nomatch h), Nat.le_refl _⟩) ?_
    · obtain ⟨s4, j2⟩ := j
      simp only at e hj
      subst e
      have hkt : i < 1 + t := by
        have := (List.getElem?_eq_some_iff.mp hx).1
        simpa using this
      simp! only
      rw [range1 (show m ≤ 16777216 by omega), nox_ok, okb]
      refine Sat.bind (draw_row (small := 2 + k) (by omega) (by omega) hj _).nox ?_
      rintro ⟨_, s5⟩ ⟨⟨r, rfl, hr⟩, b5⟩
      rw [List.length_map, List.length_range] at hr
      rw [appD_of (by rw [List.length_map]; omega), okb]
      refine ⟨_, rfl, b5, W ++ [r], by rw [List.map_append]; rfl, fun x hx => ?_, by rw [List.length_append, List.length_singleton]; omega⟩
      rcases List.mem_append.mp hx with hx | hx
      · exact hW x hx
      · rw [List.mem_singleton.mp hx]; exact hr
    rw [List.length_range, Nat.zero_add]
    rintro ⟨s6, j2⟩ ⟨b6, W, e, hW, hlW⟩
    simp only at e b6
    subst e
    simp! only
    refine Sat.bind (foldR_inv (u := fun d => R.ok d) (g := tN) (h := tN) (i := 0) (P := fun k j => IsBox j.1 ∧ ∃ Ts : List Tb, j.2 = .list (Ts.map tT) ∧ Ts.length = k ∧ (∀ i, i < Ts.length → Tab (hd hs i).length (Ts.getD i [])) ∧ ∀ T ∈ Ts, T.length ≤ most + 1) (fun _ _ => rfl) (fun i j h hx ⟨hj, Ts, e, hl, hT, hT2⟩ => ?_) ⟨b6, [], rfl, rfl, (fun i h => absurd h (Nat.not_lt_zero _)), fun _ h => nomatch h⟩) ?_
    · obtain ⟨s7, j2⟩ := j
      simp only at e hj
      subst e
      rw [Nat.zero_add] at hl ⊢
      obtain ⟨hi, rfl⟩ := hget _ _ hx
      have hh := hd_mem hi
      have hlt : ∀ c ∈ hd hs i, c < m := v.lt _ hh
      have hrow := fun r (hr : r ∈ W) => row_at (hW r hr) hlt
      rw [mapR_m (g := lN) (fun r => tN ((hd hs i).map fun c => gd r c)) (fun r hr => (hrow r hr).1), okb]
      have eW : (W.map fun r => tN ((hd hs i).map fun c => gd r c)) = (W.map fun r => (hd hs i).map fun c => gd r c).map tN := by rw [List.map_map]; rfl
      rw [eW]
      have hR : ∀ r ∈ W.map (fun r => (hd hs i).map fun c => gd r c), Row (hd hs i).length r := fun x hx => by
        obtain ⟨r, hr, rfl⟩ := List.mem_map.mp hx
        exact (hrow r hr).2
      have lR : (W.map fun r => (hd hs i).map fun c => gd r c).length ≤ most := by rw [List.length_map]; omega
      generalize W.map (fun r => (hd hs i).map fun c => gd r c) = V at hR lR ⊢
      have hfin : ∀ (V : Tb) (s8 : D), IsBox s8 → (∀ r ∈ V, Row (hd hs i).length r) → V.length ≤ most + 1 → Sat ((pySortedSet (.list (V.map tN))).bind fun a => (pyTuple [a]).bind fun a => (appD (.list (Ts.map tT)) a).bind fun j228 => R.ok (s8, j228)) fun j => IsBox j.1 ∧ ∃ Ts : List Tb, j.2 = .list (Ts.map tT) ∧ Ts.length = i + 1 ∧ (∀ i, i < Ts.length → Tab (hd hs i).length (Ts.getD i [])) ∧ ∀ T ∈ Ts, T.length ≤ most + 1 := fun V s8 b8 hV lV => by
        have hsl := sT_len V
        have hTab : Tab (hd hs Ts.length).length (sT V) := by
          rw [hl]
          exact ⟨by omega, fun r hr => hV r (sT_mem.mp hr), sT_up⟩
        rw [set_rowsL (hne i hi) hV (by omega), okb]
        show Sat ((appD (.list (Ts.map tT)) (tT (sT V))).bind _) _
        rw [appD_of (by rw [List.length_map]; omega), okb]
        refine ⟨_, rfl, b8, Ts ++ [sT V], by rw [List.map_append]; rfl, by rw [List.length_append, List.length_singleton, hl], tabs_snoc hT hTab, fun T hT => ?_⟩
        rcases List.mem_append.mp hT with hT | hT
        · exact hT2 T hT
        · rw [List.mem_singleton.mp hT]; omega
      by_cases q2 : way = 2
      · rw [if_pos (by simpa using q2)]
        simp! only
        refine Sat.bind (draw_row (small := 2 + k) (by omega) (by omega) hj ((hd hs i).map nD)).nox ?_
        rintro ⟨_, s8⟩ ⟨⟨r, rfl, hr⟩, b8⟩
        rw [List.length_map] at hr
        rw [appD_of (by rw [List.length_map]; omega), okb]
        have := hfin (V ++ [r]) s8 b8 (fun x hx => by
          rcases List.mem_append.mp hx with hx | hx
          · exact hR x hx
          · rw [List.mem_singleton.mp hx]; exact hr) (by rw [List.length_append, List.length_singleton]; omega)
        rw [List.map_append] at this
        exact this
      · rw [if_neg (by simpa using q2)]
        simp! only
        exact hfin V s7 hj hR (by omega)
    rw [Nat.zero_add]
    rintro ⟨s9, j2⟩ ⟨b9, Ts, e, hl, hT, hT2⟩
    simp only at e b9
    subst e
    exact ⟨_, rfl, ⟨Ts, rfl, ⟨hl, fun i hi => hT i (by rw [hl]; exact hi)⟩, hT2⟩, b9⟩
end
end TP
namespace TP
open PySem PySem.Spec PyProof.Rows L2 TL JT
theorem ne_self {d : D} {k : Nat} (h : fitk k d) (hk : k ≤ 60) : pyNe d d = .ok (.bool false) := by
  rw [pyNe_of h h hk, eqv_refl h.1]
  rfl
def AllN (xs : List D) : Prop := ∀ x ∈ xs, NoDict x
theorem AllN.set {xs : List D} (h : AllN xs) (n : Nat) {d : D} (hd : NoDict d) : AllN (xs.set n d) := fun x hx => (List.mem_or_eq_of_mem_set hx).elim (h x) (fun e => e ▸ hd)
end TP
namespace TP
open PySem PySem.Spec PyProof.Rows L2 TL JT
def tx (l : List Nat) : Str := ⟨l.toArray⟩
theorem tx_inj {a b : List Nat} (h : tx a = tx b) : a = b := by
  have := congrArg (fun x : Str => x.cps.toList) h
  simpa [tx] using this
theorem tx_app (a b : List Nat) : tx a ++ tx b = tx (a ++ b) := by
  show (⟨a.toArray ++ b.toArray⟩ : Str) = ⟨(a ++ b).toArray⟩
  rw [List.append_toArray]
theorem tx_len (a : List Nat) : (tx a).length = a.length := by
  show a.toArray.size = a.length
  simp
theorem txt_join (a : Str) (ys : List Str) : Txt.join a ys = Str.join a ys := eq_of_beq (join_plain_closes a ys)
def jn (c : Nat) : List (List Nat) → List Nat
  | [] => []
  | [x] => x
  | x :: y :: r => x ++ c :: jn c (y :: r)
theorem join_tx (c : Nat) : ∀ ps : List (List Nat), Str.join (tx [c]) (ps.map tx) = tx (jn c ps)
  | [] => rfl
  | [x] => rfl
  | x :: y :: r => by
    have ih := join_tx c (y :: r)
    show tx x ++ tx [c] ++ Str.join (tx [c]) ((y :: r).map tx) = tx (x ++ c :: jn c (y :: r))
    rw [ih, tx_app, tx_app, List.append_assoc]
    rfl
theorem cut_one {c : Nat} : ∀ {p q A B : List Nat}, c ∉ p → c ∉ q → p ++ c :: A = q ++ c :: B → p = q ∧ A = B
  | [], [], A, B, _, _, h => by
    injection h with _ h
    exact ⟨rfl, h⟩
  | [], y :: q, A, B, _, hq, h => by
    injection h with h _
    exact absurd (by rw [h]; exact List.mem_cons_self ..) hq
  | x :: p, [], A, B, hp, _, h => by
    injection h with h _
    exact absurd (by rw [← h]; exact List.mem_cons_self ..) hp
  | x :: p, y :: q, A, B, hp, hq, h => by
    injection h with h1 h2
    obtain ⟨e1, e2⟩ := cut_one (fun z => hp (List.mem_cons_of_mem _ z)) (fun z => hq (List.mem_cons_of_mem _ z)) h2
    exact ⟨by rw [h1, e1], e2⟩
theorem jn_inj {c : Nat} : ∀ {ps qs : List (List Nat)}, ps ≠ [] → qs ≠ [] → (∀ p ∈ ps, c ∉ p) → (∀ p ∈ qs, c ∉ p) → jn c ps = jn c qs → ps = qs
  | [], _, h, _, _, _, _ => absurd rfl h
  | _ :: _, [], _, h, _, _, _ => absurd rfl h
  | [x], [y], _, _, _, _, h => by
    have h : x = y := h
    rw [h]
  | [x], y :: z :: r, _, _, hp, _, h => by
    have h : x = y ++ c :: jn c (z :: r) := h
    exact absurd (by rw [h]; simp) (hp x (List.mem_cons_self ..))
  | x :: z :: r, [y], _, _, _, hq, h => by
    have h : x ++ c :: jn c (z :: r) = y := h
    exact absurd (by rw [← h]; simp) (hq y (List.mem_cons_self ..))
  | x :: z :: r, y :: w :: t, _, _, hp, hq, h => by
    have h : x ++ c :: jn c (z :: r) = y ++ c :: jn c (w :: t) := h
    obtain ⟨e1, e2⟩ := cut_one (hp x (List.mem_cons_self ..)) (hq y (List.mem_cons_self ..)) h
    rw [e1, jn_inj (by simp) (by simp) (fun p k => hp p (List.mem_cons_of_mem _ k)) (fun p k => hq p (List.mem_cons_of_mem _ k)) e2]
theorem split_tx {c : Nat} {ps : List (List Nat)} (hne : ps ≠ []) (hf : ∀ p ∈ ps, c ∉ p) : Txt.split (tx (jn c ps)) (tx [c]) = ps.map tx := by
  have h1 := StrLaws.join_split (tx (jn c ps)) (tx [c])
  have h2 : ∀ p ∈ Txt.split (tx (jn c ps)) (tx [c]), c ∉ p.cps.toList := StrLaws.split_free (tx (jn c ps)) c
  have h3 := PyProof.Rows.split_pos (tx (jn c ps)) (tx [c])
  generalize Txt.split (tx (jn c ps)) (tx [c]) = qs at h1 h2 h3
  have e : qs = (qs.map fun q : Str => q.cps.toList).map tx := by
    rw [List.map_map]
    exact (List.map_id qs).symm
  rw [e, join_tx] at h1
  have h4 := jn_inj (c := c) (by intro z; have := congrArg List.length z; simp at this; simp [this] at h3) hne (fun p hp => by
    obtain ⟨q, hq, rfl⟩ := List.mem_map.mp hp
    exact h2 q hq) hf (tx_inj h1)
  rw [e, h4]
theorem jn_len (c : Nat) : ∀ ps : List (List Nat), (jn c ps).length ≤ (ps.map List.length).sum + ps.length
  | [] => Nat.le_refl _
  | [x] => by
    show x.length ≤ (x.length + 0) + 1
    omega
  | x :: y :: r => by
    have ih := jn_len c (y :: r)
    show (x ++ c :: jn c (y :: r)).length ≤ (x.length + ((y :: r).map List.length).sum) + ((y :: r).length + 1)
    rw [List.length_append, List.length_cons]
    omega
theorem sum_len {B : Nat} : ∀ {ps : List (List Nat)}, (∀ p ∈ ps, p.length ≤ B) → (ps.map List.length).sum ≤ ps.length * B
  | [], _ => Nat.zero_le _
  | x :: r, h => by
    have ih := sum_len (ps := r) fun p hp => h p (List.mem_cons_of_mem _ hp)
    have := h x (List.mem_cons_self ..)
    rw [List.map_cons, List.sum_cons, List.length_cons, Nat.add_mul, Nat.one_mul]
    omega
def sD (l : List Nat) : D := .str (tx l)
theorem strsD_map : ∀ ps : List (List Nat), strsD (ps.map sD) = some (ps.map tx)
  | [] => rfl
  | p :: ps => by
    rw [List.map_cons]
    show (strsD (ps.map sD)).map (tx p :: ·) = _
    rw [strsD_map ps]
    exact rfl
theorem lens_tx (ps : List (List Nat)) : ((ps.map tx).map (·.length)).sum = (ps.map List.length).sum := by
  rw [List.map_map]
  exact congrArg List.sum (List.map_congr_left fun p _ => tx_len p)
theorem joinL_is {c B : Nat} {ps : List (List Nat)} (h : ∀ p ∈ ps, p.length ≤ B) (hz : ps.length * (B + 1) ≤ 16777216) : pyJoin (sD [c]) (.list (ps.map sD)) = .ok (sD (jn c ps)) := by
  show joinTD (tx [c]) (strsD (ps.map sD)) = _
  rw [strsD_map]
  have h1 := sum_len h
  have h2 : ((ps.map tx).map (·.length)).sum + (ps.map tx).length * (tx [c]).length ≤ 16777216 := by
    rw [lens_tx, List.length_map, tx_len]
    show _ + ps.length * 1 ≤ _
    rw [Nat.mul_add] at hz
    omega
  show (if ((ps.map tx).map (·.length)).sum + (ps.map tx).length * (tx [c]).length ≤ 16777216 then R.ok (PyData.str (Txt.join (tx [c]) (ps.map tx))) else R.no) = _
  rw [if_pos h2, txt_join, join_tx]
  rfl
theorem join0_is {l : List Nat} (hz : l.length ≤ 1000) : pyJoin (sD []) (.list (l.map fun k => sD [k])) = .ok (sD l) := by
  have e : (l.map fun k => sD [k]) = (l.map fun k => [k]).map sD := by
    rw [List.map_map]
    rfl
  rw [e]
  show joinTD (tx []) (strsD ((l.map fun k => [k]).map sD)) = _
  rw [strsD_map]
  have h1 : (((l.map fun k => [k]).map tx).map (·.length)).sum ≤ l.length := by
    rw [lens_tx]
    have := sum_len (B := 1) (ps := l.map fun k => [k]) (fun p hp => by
      obtain ⟨k, _, rfl⟩ := List.mem_map.mp hp
      exact Nat.le_refl 1)
    simpa using this
  have h2 : (((l.map fun k => [k]).map tx).map (·.length)).sum + ((l.map fun k => [k]).map tx).length * (tx []).length ≤ 16777216 := by
    rw [tx_len]
    show _ + _ * 0 ≤ _
    omega
  show (if (((l.map fun k => [k]).map tx).map (·.length)).sum + ((l.map fun k => [k]).map tx).length * (tx []).length ≤ 16777216 then R.ok (PyData.str (Txt.join (tx []) ((l.map fun k => [k]).map tx))) else R.no) = _
  rw [if_pos h2, txt_join, List.map_map]
  have := PyProof.Rows.join_ones l
  show R.ok (PyData.str (Str.join (tx []) (l.map fun k => tx [k]))) = _
  rw [show Str.join (tx []) (l.map fun k => tx [k]) = tx l from this]
  rfl
theorem split_is {c B : Nat} {ps : List (List Nat)} (hne : ps ≠ []) (hf : ∀ p ∈ ps, c ∉ p) (h : ∀ p ∈ ps, p.length ≤ B) (hz : ps.length * (B + 1) ≤ 16777000) : pySplit (sD (jn c ps)) (sD [c]) = .ok (.list (ps.map sD)) := by
  have h1 := sum_len h
  have h2 := jn_len c ps
  show (if ((tx [c]).length == 0) = false ∧ (tx (jn c ps)).length + 2 ≤ sizeLine then R.ok (PyData.list ((Txt.split (tx (jn c ps)) (tx [c])).map .str)) else R.no) = _
  rw [if_pos ⟨rfl, by
    rw [tx_len, sizeLine_eq]
    rw [Nat.mul_add] at hz
    omega⟩, split_tx hne hf, List.map_map]
  rfl
theorem sp_tx : PyData.str " " = sD [32] := rfl
theorem cm_tx : PyData.str "," = sD [44] := rfl
theorem cl_tx : PyData.str ":" = sD [58] := rfl
theorem em_tx : PyData.str "" = sD [] := rfl
theorem no_tx : PyData.str "none" = sD [110, 111, 110, 101] := rfl
theorem dig_str {k : Nat} (h : k < 10) : pyStr [nD k] = .ok (sD [48 + k]) := by
  rcases (by omega : k = 0 ∨ k = 1 ∨ k = 2 ∨ k = 3 ∨ k = 4 ∨ k = 5 ∨ k = 6 ∨ k = 7 ∨ k = 8 ∨ k = 9) with rfl | rfl | rfl | rfl | rfl | rfl | rfl | rfl | rfl | rfl <;> rfl
theorem dig_val {k : Nat} (h : k < 10) : PySem.intText? (tx [48 + k]) = some (k : Int) := by
  rcases (by omega : k = 0 ∨ k = 1 ∨ k = 2 ∨ k = 3 ∨ k = 4 ∨ k = 5 ∨ k = 6 ∨ k = 7 ∨ k = 8 ∨ k = 9) with rfl | rfl | rfl | rfl | rfl | rfl | rfl | rfl | rfl | rfl <;> decide +kernel
theorem dig_int {k : Nat} (h : k < 10) : pyIntS [sD [48 + k]] = .ok (nD k) := by
  show (match PySem.intText? (tx [48 + k]) with
    | some n => if (tx [48 + k]).length ≤ 640 then R.ok (PyData.int n) else .no
    | none => .no) = _
  rw [dig_val h]
  show (if (tx [48 + k]).length ≤ 640 then R.ok (PyData.int (k : Int)) else .no) = _
  rw [if_pos (by rw [tx_len]; show 1 ≤ 640; decide)]
  rfl
theorem dig_occ {k : Nat} (h : k < 10) : (Builtin.Str.occurrences ("0123456789" : Str) (tx [48 + k]) 0 ("0123456789" : Str).length 1).isEmpty = false := by
  rcases (by omega : k = 0 ∨ k = 1 ∨ k = 2 ∨ k = 3 ∨ k = 4 ∨ k = 5 ∨ k = 6 ∨ k = 7 ∨ k = 8 ∨ k = 9) with rfl | rfl | rfl | rfl | rfl | rfl | rfl | rfl | rfl | rfl <;> decide +kernel
theorem dig_notin {k : Nat} (h : k < 10) : pyNotIn (sD [48 + k]) (.str "0123456789") = .ok (.bool false) := by
  show R.ok (PyData.bool (!(!(Builtin.Str.occurrences ("0123456789" : Str) (tx [48 + k]) 0 ("0123456789" : Str).length 1).isEmpty))) = _
  rw [dig_occ h]
  rfl
theorem dig_in {k : Nat} (h : k < 10) : pyIn (sD [48 + k]) (.str "0123456789") = .ok (.bool true) := by
  show R.ok (PyData.bool (!(Builtin.Str.occurrences ("0123456789" : Str) (tx [48 + k]) 0 ("0123456789" : Str).length 1).isEmpty)) = _
  rw [dig_occ h]
  rfl
theorem signs_is {l : List Nat} (h : l.length ≤ 16777216) : signsD (sD l) = .ok (l.map fun c => sD [c]) := by
  show (if (tx l).cps.size ≤ sizeLine then R.ok ((tx l).cps.toList.map fun c => PyData.str ⟨#[c]⟩) else R.no) = _
  rw [if_pos (by rw [sizeLine_eq]; show l.toArray.size ≤ _; simpa using h)]
  show R.ok ((l.toArray.toList).map fun c => PyData.str ⟨#[c]⟩) = _
  rw [List.toList_toArray]
  rfl
theorem len_sD {l : List Nat} (h : l.length ≤ 16777216) : TL.pyLen [sD l] = .ok (nD l.length) := by
  show (if (tx l).length ≤ sizeLine then R.ok (PyData.int (tx l).length) else R.no) = _
  rw [tx_len, if_pos (by rw [sizeLine_eq]; exact h)]
  rfl
end TP
namespace TP
open PySem PySem.Spec PyProof.Rows L2 TL JT
open Classical
theorem thing_rows (T : Tb) : ∀ x ∈ T.map tN, Thing x := fun x hx => by
  obtain ⟨r, _, rfl⟩ := List.mem_map.mp hx
  exact thing_T r
def row3 (k : Nat) : List Nat := [k / 100, k / 10 % 10, k % 10]
theorem row3_lt {k l : Nat} (h : k < l) : row3 k < row3 l := by
  unfold row3
  rw [List.cons_lt_cons_iff, List.cons_lt_cons_iff, List.cons_lt_cons_iff]
  omega
theorem div3 (k : Nat) : ((pyDiv (nD k) (nD 100)).bind fun x98 => (pyDiv (nD k) (nD 10)).bind fun a => (pyMod a (nD 10)).bind fun x103 => (pyMod (nD k) (nD 10)).bind fun x106 => R.ok (PyData.tuple [x98, x103, x106])) = .ok (tN (row3 k)) := by
  have e1 : pyDiv (nD k) (nD 100) = .ok (nD (k / 100)) := pyDiv_of (i := k) (j := 100) (by decide) (by decide)
  have e2 : pyDiv (nD k) (nD 10) = .ok (nD (k / 10)) := pyDiv_of (i := k) (j := 10) (by decide) (by decide)
  have e3 : ∀ j : Nat, pyMod (nD j) (nD 10) = .ok (nD (j % 10)) := fun j => pyMod_of (i := j) (j := 10) (by decide)
  rw [e1, okb, e2, okb, e3, okb, e3, okb]
  rfl
end TP
namespace TP
open PySem PySem.Spec PyProof.Rows L2 TL JT
open Classical
def hwd (h : List Nat) : List Nat := jn 44 (h.map fun c => [48 + c])
def lwd (m : Nat) (hs : List (List Nat)) : List Nat := jn 32 ([48 + m] :: [58] :: hs.map hwd)
def rwd (r : List Nat) : List Nat := r.map (48 + ·)
def twd (T : Tb) : List Nat := if T = [] then [110, 111, 110, 101] else jn 32 (T.map rwd)
theorem jn_mem {c x : Nat} : ∀ {ps : List (List Nat)}, x ∈ jn c ps → x = c ∨ ∃ p ∈ ps, x ∈ p
  | [], h => by cases h
  | [p], h => .inr ⟨p, List.mem_cons_self .., h⟩
  | p :: q :: r, h => by
    have h : x ∈ p ++ c :: jn c (q :: r) := h
    rw [List.mem_append, List.mem_cons] at h
    rcases h with h | h | h
    · exact .inr ⟨p, List.mem_cons_self .., h⟩
    · exact .inl h
    · rcases jn_mem h with e | ⟨s, hs, e⟩
      · exact .inl e
      · exact .inr ⟨s, List.mem_cons_of_mem _ hs, e⟩
theorem hwd_len {h : List Nat} (hl : h.length ≤ 7) : (hwd h).length ≤ 14 := by
  have h1 := jn_len 44 (h.map fun c => [48 + c])
  have h2 := sum_len (B := 1) (ps := h.map fun c => [48 + c]) (fun p hp => by
    obtain ⟨k, _, rfl⟩ := List.mem_map.mp hp
    exact Nat.le_refl 1)
  rw [List.length_map] at h1 h2
  show (jn 44 (h.map fun c => [48 + c])).length ≤ 14
  omega
theorem hwd_free {h : List Nat} : 32 ∉ hwd h := fun z => by
  rcases jn_mem z with e | ⟨p, hp, e⟩
  · cases e
  · obtain ⟨k, _, rfl⟩ := List.mem_map.mp hp
    rw [List.mem_singleton] at e
    omega
theorem map_sD {α : Type} (f : α → List Nat) (l : List α) : (l.map fun k => sD (f k)) = (l.map f).map sD := by
  rw [List.map_map]
  rfl
theorem head_is {h : List Nat} (hl : h.length ≤ 1000) (h10 : ∀ c ∈ h, c < 10) : (mapR (fun x => TL.pyStr [x]) (h.map nD)).bind (fun a => pyJoin (sD [44]) (PyData.list a)) = .ok (sD (hwd h)) := by
  rw [mapR_m (g := nD) (fun k => sD [48 + k]) fun k hk => dig_str (h10 k hk), okb, map_sD fun k => [48 + k]]
  exact joinL_is (B := 1) (fun p hp => by
    obtain ⟨k, _, rfl⟩ := List.mem_map.mp hp
    exact Nat.le_refl 1) (by rw [List.length_map]; omega)
theorem rowt_is {h : List Nat} (hl : h.length ≤ 1000) (h10 : ∀ c ∈ h, c < 10) : (mapR (fun x => TL.pyStr [x]) (h.map nD)).bind (fun a => pyJoin (sD []) (PyData.list a)) = .ok (sD (rwd h)) := by
  rw [mapR_m (g := nD) (fun k => sD [48 + k]) fun k hk => dig_str (h10 k hk), okb]
  have e : (h.map fun k => sD [48 + k]) = (rwd h).map fun k => sD [k] := by
    unfold rwd
    rw [List.map_map]
    rfl
  rw [e]
  exact join0_is (by unfold rwd; rw [List.length_map]; exact hl)
theorem strOk_sD (l : List Nat) : strOk (sD l) = .ok () := rfl
theorem ix0_lay (m : Nat) (hs : List (List Nat)) : pyIx (layD m hs) (nD 0) = .ok (nD m) := rfl
theorem ix1_lay (m : Nat) (hs : List (List Nat)) : pyIx (layD m hs) (nD 1) = .ok (.tuple (hs.map tN)) := rfl
theorem items_T (xs : List D) : items (.tuple xs) = .ok xs := rfl
theorem items_L (xs : List D) : items (.list xs) = .ok xs := rfl
section
variable {m : Nat} {hs : List (List Nat)}
theorem lay_join (v : LayV m hs) : (pyAdd (PyData.list [sD [48 + m], sD [58]]) (PyData.list (hs.map fun h => sD (hwd h)))).bind (fun x => pyJoin (sD [32]) x) = .ok (sD (lwd m hs)) := by
  have n6 := v.n6
  have e : pyAdd (PyData.list [sD [48 + m], sD [58]]) (PyData.list (hs.map fun h => sD (hwd h))) = .ok (.list (([48 + m] :: [58] :: hs.map hwd).map sD)) := by
    rw [map_sD hwd]
    show (if ([sD [48 + m], sD [58]] : List D).length + ((hs.map hwd).map sD).length ≤ sizeLine then R.ok (PyData.list ([sD [48 + m], sD [58]] ++ (hs.map hwd).map sD)) else R.no) = _
    rw [if_pos (by
      rw [List.length_map, List.length_map, sizeLine_eq]
      show 2 + hs.length ≤ _
      omega)]
    rfl
  rw [e, okb]
  exact joinL_is (B := 14) (fun p hp => by
    rcases List.mem_cons.mp hp with rfl | hp
    · exact Nat.le_of_ble_eq_true rfl
    · rcases List.mem_cons.mp hp with rfl | hp
      · exact Nat.le_of_ble_eq_true rfl
      · obtain ⟨h, hh, rfl⟩ := List.mem_map.mp hp
        exact hwd_len (Nat.le_trans (v.len hh) v.m7)) (by
      rw [List.length_cons, List.length_cons, List.length_map]
      omega)
theorem v10 (v : LayV m hs) {h : List Nat} (hh : h ∈ hs) : ∀ c ∈ h, c < 10 := fun c hc => by
  have := v.lt h hh c hc
  have := v.m7
  omega
theorem v1000 (v : LayV m hs) {h : List Nat} (hh : h ∈ hs) : h.length ≤ 1000 := by
  have := v.len hh
  have := v.m7
  omega
theorem layout_text_is (v : LayV m hs) : m_layout_text [layD m hs] = .ok (sD (lwd m hs)) := by
  rw [m_layout_text]
  simp! only [sp_tx, cm_tx, cl_tx]
  rw [ix1_lay, okb, items_T, okb, mapR_m (g := tN) (fun h => sD (hwd h)) fun h hh => by
    simp only [strOk_sD, okb, items_tN]
    exact head_is (v1000 v hh) (v10 v hh)]
  rw [okb, strOk_sD, okb, ix0_lay, okb, dig_str (by have := v.m7; omega), okb]
  exact lay_join v
theorem law_text_is (v : LayV m hs) : m_law_text [layD m hs] = .ok (sD (lwd m hs)) := by
  rw [m_law_text]
  simp! only [sp_tx, cm_tx, cl_tx]
  rw [strOk_sD, okb, ix0_lay, okb, dig_str (by have := v.m7; omega), okb, ix1_lay, okb, items_T, okb, mapR_m (g := tN) (fun h => sD (hwd h)) fun h hh => by
    simp only [strOk_sD, okb, items_tN]
    exact head_is (v1000 v hh) (v10 v hh)]
  rw [okb]
  exact lay_join v
theorem row_text_is {r : List Nat} (hl : r.length ≤ 1000) (h10 : ∀ c ∈ r, c < 10) : m_row_text [tN r] = .ok (sD (rwd r)) := by
  rw [m_row_text]
  simp! only [em_tx, strOk_sD, okb, items_tN]
  exact rowt_is hl h10
theorem twd_ne {w : Nat} {T : Tb} (hw : 1 ≤ w) (h : Tab w T) (hT : T ≠ []) : ∃ a l, jn 32 (T.map rwd) = a :: l ∧ 48 ≤ a ∧ a < 58 := by
  obtain ⟨r, R, rfl⟩ := List.exists_cons_of_ne_nil hT
  have hr := h.2.1 r (List.mem_cons_self ..)
  obtain ⟨x, s, rfl⟩ := List.exists_cons_of_ne_nil (l := r) (fun z => by
    rw [z] at hr
    have : 0 = w := hr.1
    omega)
  have hx := hr.2 x (List.mem_cons_self ..)
  cases R with
  | nil => exact ⟨48 + x, rwd s, rfl, by omega, by omega⟩
  | cons q R => exact ⟨48 + x, rwd s ++ 32 :: jn 32 ((q :: R).map rwd), rfl, by omega, by omega⟩
theorem join_tab {w : Nat} {T : Tb} (hw7 : w ≤ 7) (h : Tab w T) : pyJoin (sD [32]) (.list (T.map fun r => sD (rwd r))) = .ok (sD (jn 32 (T.map rwd))) := by
  rw [map_sD rwd]
  have := h.1
  exact joinL_is (B := 7) (fun p hp => by
    obtain ⟨r, hr, rfl⟩ := List.mem_map.mp hp
    unfold rwd
    rw [List.length_map, (h.2.1 r hr).1]
    exact hw7) (by rw [List.length_map]; omega)
theorem tru_sD {l : List Nat} (h : l.length ≤ 16777216) : tru (sD l) = .ok (!l.isEmpty) := by
  show (if (tx l).length ≤ sizeLine then R.ok (((tx l).length : Int) != 0) else R.no) = _
  rw [tx_len, if_pos (by rw [sizeLine_eq]; exact h)]
  cases l with
  | nil => rfl
  | cons x r =>
    have : ((List.length (x :: r) : Nat) : Int) ≠ 0 := by
      rw [List.length_cons]
      omega
    simp [bne, this]
    omega
theorem tab_len {w : Nat} {T : Tb} (hw7 : w ≤ 7) (h : Tab w T) : (jn 32 (T.map rwd)).length ≤ 5000 := by
  have h1 := jn_len 32 (T.map rwd)
  have h2 := sum_len (B := 7) (ps := T.map rwd) (fun p hp => by
    obtain ⟨r, hr, rfl⟩ := List.mem_map.mp hp
    unfold rwd
    rw [List.length_map, (h.2.1 r hr).1]
    exact hw7)
  have := h.1
  rw [List.length_map] at h1 h2
  omega
theorem tab_fin {w : Nat} {T : Tb} (hw : 1 ≤ w) (hw7 : w ≤ 7) (h : Tab w T) : (pyJoin (sD [32]) (.list (T.map fun r => sD (rwd r)))).bind (fun x => (tru x).bind fun k => if k = true then R.ok x else R.ok (sD [110, 111, 110, 101])) = .ok (sD (twd T)) := by
  have := tab_len hw7 h
  rw [join_tab hw7 h, okb, tru_sD (by omega), okb]
  unfold twd
  by_cases hT : T = []
  · subst hT
    rfl
  · rw [if_neg hT]
    obtain ⟨a, l, e, _⟩ := twd_ne hw h hT
    rw [e]
    rfl
theorem table_text_is {w : Nat} {T : Tb} (hw : 1 ≤ w) (hw7 : w ≤ 7) (h : Tab w T) : m_table_text [tT T] = .ok (sD (twd T)) := by
  rw [m_table_text]
  simp! only [sp_tx, no_tx, strOk_sD, okb]
  rw [show items (tT T) = .ok (T.map tN) from rfl, okb, mapR_m (g := tN) (fun r => sD (rwd r)) fun r hr => row_text_is (by rw [(h.2.1 r hr).1]; omega) (h.2.1 r hr).2, okb]
  exact tab_fin hw hw7 h
theorem law_table_text_is {w : Nat} {T : Tb} (hw : 1 ≤ w) (hw7 : w ≤ 7) (h : Tab w T) : m_law_table_text [tT T] = .ok (sD (twd T)) := by
  rw [m_law_table_text]
  simp! only [sp_tx, no_tx, em_tx, strOk_sD, okb]
  rw [show items (tT T) = .ok (T.map tN) from rfl, okb, mapR_m (g := tN) (fun r => sD (rwd r)) fun r hr => by
    rw [items_tN, okb]
    exact rowt_is (by rw [(h.2.1 r hr).1]; omega) (h.2.1 r hr).2]
  rw [okb]
  exact tab_fin hw hw7 h
theorem figure_is {k : Nat} (h : k < 10) : m_figure_in [sD [48 + k]] = .ok (nD k) := by
  rw [m_figure_in]
  simp! only
  rw [len_sD (Nat.le_of_ble_eq_true rfl), okb]
  have e : pyNe (nD (List.length [48 + k])) (nD 1) = .ok (.bool false) := rfl
  rw [e, okb]
  simp only [asB, okb, Bool.false_eq_true, if_false]
  rw [dig_notin h, okb]
  simp only [asB, okb, Bool.false_eq_true, if_false]
  exact dig_int h
theorem bools_rep {α : Type} (l : List α) : bools (l.map fun _ => PyData.bool true) = some (l.map fun _ => true) := TP.bools_map (fun _ => true) l
theorem row_in_is {w : Nat} {r : List Nat} (hw : 1 ≤ w) (hw7 : w ≤ 7) (h : Row w r) : m_row_in [sD (rwd r)] = .ok (tN r) := by
  have hl : (rwd r).length = w := by
    unfold rwd
    rw [List.length_map]
    exact h.1
  rw [m_row_in]
  simp! only
  rw [len_sD (by omega), okb, hl]
  have e1 : pyLe (nD 1) (nD w) = .ok (.bool true) := by
    show R.ok (PyData.bool (decide ((1 : Int) ≤ (w : Int)))) = _
    rw [decide_eq_true (by omega)]
  have e2 : pyLe (nD w) (nD 7) = .ok (.bool true) := by
    show R.ok (PyData.bool (decide ((w : Int) ≤ (7 : Int)))) = _
    rw [decide_eq_true (by omega)]
  rw [e1, okb]
  simp only [asB, okb, if_true, e2]
  rw [signs_is (by omega), okb]
  have e3 : ((rwd r).map fun c => sD [c]) = r.map fun k => sD [48 + k] := by
    unfold rwd
    rw [List.map_map]
    rfl
  rw [e3, mapR_m (g := fun k => sD [48 + k]) (fun _ => PyData.bool true) fun k hk => dig_in (h.2 k hk), okb]
  have e4 : pyAll [PyData.list (r.map fun _ => PyData.bool true)] = .ok (.bool true) := by
    show (match bools (r.map fun _ => PyData.bool true) with
      | some bs => R.ok (PyData.bool (bs.all id))
      | none => R.no) = _
    rw [bools_rep]
    simp
  simp only [Bool.not_true, Bool.false_eq_true, if_false, e4, okb, tru]
  rw [mapR_m (g := fun k => sD [48 + k]) nD fun k hk => dig_int (h.2 k hk), okb]
  rfl
theorem layout_read_is (v : LayV m hs) : m_layout_read [sD (lwd m hs)] = .ok (layD m hs) := by
  have n6 := v.n6
  have n1 := v.n1
  have m7 := v.m7
  rw [m_layout_read]
  simp! only [sp_tx, cm_tx, cl_tx, strOk_sD, okb]
  have e0 : isD ["str"] (sD (lwd m hs)) = .ok (.bool true) := is_str_str _
  rw [e0, okb]
  simp only [tru, okb, Bool.not_true, Bool.false_eq_true, if_false]
  have e1 : pySplit (sD (lwd m hs)) (sD [32]) = .ok (.list (([48 + m] :: [58] :: hs.map hwd).map sD)) := split_is (B := 14) (by simp) (fun p hp => by
    rcases List.mem_cons.mp hp with rfl | hp
    · simp
      omega
    · rcases List.mem_cons.mp hp with rfl | hp
      · simp
      · obtain ⟨h, hh, rfl⟩ := List.mem_map.mp hp
        exact hwd_free) (fun p hp => by
    rcases List.mem_cons.mp hp with rfl | hp
    · exact Nat.le_of_ble_eq_true rfl
    · rcases List.mem_cons.mp hp with rfl | hp
      · exact Nat.le_of_ble_eq_true rfl
      · obtain ⟨h, hh, rfl⟩ := List.mem_map.mp hp
        exact hwd_len (Nat.le_trans (v.len hh) v.m7)) (by
      rw [List.length_cons, List.length_cons, List.length_map]
      omega)
  rw [e1, okb]
  have e2 : TL.pyLen [PyData.list (([48 + m] :: [58] :: hs.map hwd).map sD)] = .ok (nD (hs.length + 2)) := by
    show R.ok (PyData.int ((([48 + m] :: [58] :: hs.map hwd).map sD).length : Nat)) = _
    simp [nD]
    omega
  have e3 : pyLt (nD (hs.length + 2)) (nD 2) = .ok (.bool false) := by rw [ltN, decide_eq_false (by omega)]
  have e4 : pyIx (PyData.list (([48 + m] :: [58] :: hs.map hwd).map sD)) (nD 1) = .ok (sD [58]) := ix1l _ _ _
  have e5 : pyIx (PyData.list (([48 + m] :: [58] :: hs.map hwd).map sD)) (nD 0) = .ok (sD [48 + m]) := ix0l _ _
  have e6 : pyNe (sD [58]) (sD [58]) = .ok (.bool false) := ne_self (k := 0) (fitk_str _) (by decide)
  rw [e2, okb, e3, okb]
  simp only [asB, okb, Bool.false_eq_true, if_false]
  rw [e4, okb, e6, okb]
  simp only [asB, okb, Bool.false_eq_true, if_false]
  have e7 : pySl (PyData.list (([48 + m] :: [58] :: hs.map hwd).map sD)) (some ((2 : Nat) : Int)) none = .ok (.list ((hs.map hwd).map sD)) := sl_froml _ 2
  have e8 : (hs.map hwd).map sD = hs.map fun h => sD (hwd h) := by
    rw [List.map_map]
    rfl
  have e9 : mapR (fun a23 => (strOk a23).bind fun a => (pySplit a23 (sD [44])).bind fun a => (items a).bind fun a => (mapR (fun x28 => m_figure_in [x28]) a).bind fun a => R.ok (PyData.tuple a)) (hs.map fun h => sD (hwd h)) = .ok (hs.map tN) :=
    mapR_m (g := fun h => sD (hwd h)) tN fun h hh => by
      have l7 := Nat.le_trans (v.len hh) v.m7
      have f1 : pySplit (sD (hwd h)) (sD [44]) = .ok (.list ((h.map fun c => [48 + c]).map sD)) := split_is (B := 1) (fun z => v.ne h hh (by simpa using z)) (fun p hp => by
        obtain ⟨k, _, rfl⟩ := List.mem_map.mp hp
        simp
        omega) (fun p hp => by
        obtain ⟨k, _, rfl⟩ := List.mem_map.mp hp
        exact Nat.le_refl 1) (by rw [List.length_map]; omega)
      rw [strOk_sD, okb, f1, okb, items_L, okb, List.map_map]
      rw [show mapR (fun x28 => m_figure_in [x28]) (h.map (sD ∘ fun c => [48 + c])) = .ok (h.map nD) from mapR_m (g := fun k => sD [48 + k]) nD fun k hk => figure_is (v10 v hh k hk), okb]
      rfl
  rw [e7, okb, items_L, okb, e8, e9, okb, e5, okb, figure_is (by omega), okb]
  rw [show PyData.tuple [nD m, PyData.tuple (hs.map tN)] = layD m hs from rfl, is_layout_yes v, okb]
  rfl
theorem eq_sD (a b : List Nat) : pyEq (sD a) (sD b) = .ok (.bool (tx a == tx b)) := rfl
theorem table_read_is {w : Nat} {T : Tb} (hw : 1 ≤ w) (hw7 : w ≤ 7) (h : Tab w T) : m_table_read [sD (twd T)] = .ok (tT T) := by
  rw [m_table_read]
  simp! only [sp_tx, no_tx, strOk_sD, okb]
  have e0 : isD ["str"] (sD (twd T)) = .ok (.bool true) := is_str_str _
  rw [e0, okb]
  simp only [tru, okb, Bool.not_true, Bool.false_eq_true, if_false]
  by_cases hT : T = []
  · subst hT
    have e1 : pyEq (sD (twd [])) (sD [110, 111, 110, 101]) = .ok (.bool true) := rfl
    rw [e1, okb]
    rfl
  · have et : twd T = jn 32 (T.map rwd) := if_neg hT
    rw [et]
    obtain ⟨a, l, ea, a1, a2⟩ := twd_ne hw h hT
    have e1 : pyEq (sD (jn 32 (T.map rwd))) (sD [110, 111, 110, 101]) = .ok (.bool false) := by
      rw [eq_sD, ea]
      have : tx (a :: l) ≠ tx [110, 111, 110, 101] := fun z => by
        have := tx_inj z
        injection this with this _
        omega
      rw [beq_eq_false_iff_ne.mpr this]
    rw [e1, okb]
    simp only [asB, okb, Bool.false_eq_true, if_false]
    have h1 := h.1
    have e2 : pySplit (sD (jn 32 (T.map rwd))) (sD [32]) = .ok (.list ((T.map rwd).map sD)) := split_is (B := 7) (fun z => hT (by simpa using z)) (fun p hp => by
      obtain ⟨r, hr, rfl⟩ := List.mem_map.mp hp
      intro z
      obtain ⟨k, _, e⟩ := List.mem_map.mp z
      omega) (fun p hp => by
      obtain ⟨r, hr, rfl⟩ := List.mem_map.mp hp
      unfold rwd
      rw [List.length_map, (h.2.1 r hr).1]
      exact hw7) (by rw [List.length_map]; omega)
    rw [e2, okb, items_L, okb, ← map_sD rwd, mapR_m (g := fun r => sD (rwd r)) tN fun r hr => row_in_is hw hw7 (h.2.1 r hr), okb]
    have e3 : pyIn PyData.none (PyData.list (T.map tN)) = .ok (.bool false) := by
      have hf : fit (PyData.list (T.map tN)) = true := (fitk_list (k := 1) fun x hx => by
        obtain ⟨r, _, rfl⟩ := List.mem_map.mp hx
        exact eqd_tN.fit r).fit (by decide)
      show (if fit PyData.none = true ∧ fit (PyData.list (T.map tN)) = true then R.ok (PyData.bool (isIn PyData.none (T.map tN))) else R.no) = _
      rw [if_pos ⟨rfl, hf⟩]
      have : isIn PyData.none (T.map tN) = false := by
        unfold isIn
        rw [List.any_map, List.any_eq_false]
        intro r _ z
        cases z
      rw [this]
    rw [e3, okb]
    simp only [asB, okb, Bool.false_eq_true, if_false]
    have e4 : pyIx (PyData.list (T.map tN)) (nD 0) = .ok (tN (T.headD [])) := by
      obtain ⟨r, U, rfl⟩ := List.exists_cons_of_ne_nil hT
      exact ix0l _ _
    have e5 : TL.pyLen [tN (T.headD [])] = .ok (nD w) := by
      obtain ⟨r, U, rfl⟩ := List.exists_cons_of_ne_nil hT
      have := (h.2.1 r (List.mem_cons_self ..)).1
      show R.ok (PyData.int ((r.map nD).length : Nat)) = _
      rw [List.length_map, this]
      rfl
    rw [e4, okb, e5, okb]
    have e6 : m_is_table [PyData.tuple (T.map tN), nD w] = .ok (.bool true) := by
      rw [show PyData.tuple (T.map tN) = tT T from rfl, is_table_is (x := tT T) ⟨trivial, thing_rows T⟩ w, show tabP w (tT T) = true from decide_eq_true ⟨T, rfl, h⟩]
    rw [e6, okb]
    rfl
theorem fit_lay' (m : Nat) (hs : List (List Nat)) : fitk 3 (layD m hs) := fitk_tuple fun x hx => by
  rcases List.mem_cons.mp hx with e | e
  · rw [e]
    exact (eqd_nD.fit m).mono (by decide)
  · rw [List.mem_singleton.mp e]
    exact eqd_tN.tup.fit hs
theorem foldO_same {mb : D → D → R (Oc D)} {j : D} : ∀ {xs : List D}, (∀ x ∈ xs, mb j x = .ok (.nx j)) → foldO (fun d => R.ok d) mb xs j = .ok (.nx j) := fun {xs} hm => by
  have := foldO_nx (u := fun d => R.ok d) (mb := mb) (g := fun x : D => x) (h := fun x => x) (P := fun i => i = j) (xs := xs) (j := j) (fun _ _ => rfl) (fun i x hx e => by
    subst e
    exact ⟨_, hm x hx, _, rfl, rfl⟩) rfl
  rw [List.map_id'] at this
  obtain ⟨o, e, j', rfl, rfl⟩ := this
  exact e
theorem tab3 : Tab 3 ((List.range 625).map row3) := by
  refine ⟨by rw [List.length_map, List.length_range]; exact Nat.le_refl _, fun r hr => ?_, ?_⟩
  · obtain ⟨k, hk, rfl⟩ := List.mem_map.mp hr
    have hk := List.mem_range.mp hk
    refine ⟨rfl, fun x hx => ?_⟩
    unfold row3 at hx
    simp only [List.mem_cons, List.not_mem_nil, or_false] at hx
    rcases hx with e | e | e <;> rw [e] <;> omega
  · rw [List.pairwise_map]
    exact List.pairwise_lt_range.imp fun h => row3_lt h
theorem eq_self' {d : D} {k : Nat} (h : fitk k d) (hk : k ≤ 60) : pyEq d d = .ok (.bool true) := by
  have := ne_self h hk
  have hf := h.fit hk
  have e1 : pyNe d d = .ok (.bool (!PyData.eqv d d)) := if_pos ⟨hf, hf⟩
  have e2 : pyEq d d = .ok (.bool (PyData.eqv d d)) := if_pos ⟨hf, hf⟩
  rw [e1] at this
  injection this with this
  injection this with this
  rw [e2]
  cases hq : PyData.eqv d d with
  | true => rfl
  | false => rw [hq] at this; cases this
theorem k91_main (ns : List Int) (h : ns.length ≤ 63) (hb : Small ns) : m_law_k91 [scrD ns] = .ok (.bool true) := by
  rw [m_law_k91]
  simp! only [len_scr, range1 (show max 1 (min ns.length 6) ≤ 16777216 by omega)]
  apply Sat.eq
  refine thenFine (turnsN fun k hk => ?_) ?_
  · refine Sat.bind (box2_is ns k (by omega) hb) fun v12 b12 => ?_
    refine Sat.bind (layout2_is b12 (by omega) (by omega) (by omega) (by omega)).nox ?_
    rintro ⟨_, s⟩ ⟨⟨m, hs, rfl, v, _⟩, bs⟩
    have e1 := layout_text_is v
    have e2 := law_text_is v
    have e3 := layout_read_is v
    have e4 : ∀ l, isD ["str"] (sD l) = .ok (.bool true) := fun l => is_str_str _
    have e5 : ∀ l, pyNe (sD l) (sD l) = .ok (.bool false) := fun l => ne_self (k := 0) (fitk_str _) (by decide)
    have e6 : pyNe (layD m hs) (layD m hs) = .ok (.bool false) := ne_self (fit_lay' m hs) (by decide)
    simp only [e1, e2, e3, e4, e5, e6, okb, tru, asB, Bool.not_true, Bool.false_eq_true, if_false]
    obtain ⟨⟨_, s1⟩, eq, ⟨Ts, rfl, hTs, lTs⟩, b1⟩ := (law_tables_sat (m := m) v (most := 8) (by decide) (by decide) bs).nox
    have eq : nox (m_law_tables s [layD m hs, nD 8]) = .ok (tTs Ts, s1) := eq
    rw [eq, okb]
    have ei : items (tTs Ts, s1).fst = .ok (Ts.map tT) := rfl
    rw [ei, nox_ok, okb]
    rw [foldO_same fun x hx => by
      obtain ⟨T, hT, rfl⟩ := List.mem_map.mp hx
      obtain ⟨i, hi, e⟩ := List.mem_iff_getElem.mp hT
      have hi2 : i < hs.length := by rw [← hTs.1]; exact hi
      have ht := hTs.2 i hi2
      rw [List.getD_eq_getElem?_getD, List.getElem?_eq_getElem hi] at ht
      have ht : Tab (hd hs i).length Ts[i] := ht
      rw [e] at ht
      have hh := hd_mem hi2
      have h7 := Nat.le_trans (v.len hh) v.m7
      have h1 := List.length_pos_iff.mpr (v.ne _ hh)
      have e7 : pyNe (tT T) (tT T) = .ok (.bool false) := ne_self (eqd_tN.tup.fit T) (by decide)
      simp only [table_text_is h1 h7 ht, law_table_text_is h1 h7 ht, table_read_is h1 h7 ht, e4, e5, e7, okb, tru, asB, Bool.not_true, Bool.false_eq_true, if_false]]
    exact ⟨_, rfl, rfl⟩
  · have e1 : pyRange [nD 625] = .ok ((List.range 625).map nD) := range1 (by decide)
    rw [e1, okb, mapR_m (g := nD) (fun k => tN (row3 k)) (fun k _ => div3 k), okb]
    have e2 : ((List.range 625).map fun k => tN (row3 k)) = ((List.range 625).map row3).map tN := by
      rw [List.map_map]
      rfl
    rw [e2, show PyData.tuple (((List.range 625).map row3).map tN) = tT ((List.range 625).map row3) from rfl]
    rw [law_table_text_is (w := 3) (by decide) (by decide) tab3, okb, table_read_is (w := 3) (by decide) (by decide) tab3, okb]
    have e3 : pyEq (tT ((List.range 625).map row3)) (tT ((List.range 625).map row3)) = .ok (.bool true) := eq_self' (eqd_tN.tup.fit _) (by decide)
    rw [e3, okb]
    simp only [tru, okb, if_true]
    have t0 : Tab 3 [] := ⟨Nat.zero_le _, fun r hr => absurd hr List.not_mem_nil, List.Pairwise.nil⟩
    have f1 : m_table_text [PyData.tuple []] = .ok (sD [110, 111, 110, 101]) := table_text_is (w := 3) (T := []) (by decide) (by decide) t0
    have f2 : m_table_read [sD [110, 111, 110, 101]] = .ok (PyData.tuple []) := table_read_is (w := 3) (T := []) (by decide) (by decide) t0
    rw [f1, okb, no_tx, show pyEq (sD [110, 111, 110, 101]) (sD [110, 111, 110, 101]) = .ok (.bool true) from eq_self' (k := 0) (fitk_str _) (by decide), okb]
    simp only [okb, if_true]
    rw [f2, okb, eq_self' fitk_nilT (by decide)]
    exact ⟨_, rfl, rfl⟩
end
end TP
namespace LK91
open PySem PySem.Spec PyProof.Rows L2 TL JT
theorem main (ns : List Int) (h : ns.length ≤ 63) (hb : Small ns) : m_law_k91 [scrD ns] = .ok (.bool true) := TP.k91_main ns h hb
end LK91
set_option maxRecDepth 100000
namespace LK91
open PySem PySem.Spec PyProof.Rows L2 TL JT
theorem all_mk {l : PySem.W.OpenLaw} {w : World} {K : PySem.W.Frag} {h : Heap} {mg : Str → Option Value} {fa : Addr} (main : ∀ ns : List Int, ns.length ≤ 63 → Small ns → m_law_k91 [scrD ns] = .ok (.bool true)) (X : K.In h) (G : h.Ns mainGlobals mg) (hfa : mg "law" = some (.ref fa))
    {f0 : Addr} {od0 an0 : Option Addr} {sl0 : Array (Option Value)} {oc0 kV0 dc0 pm0 cd0 ct0 : Value} (a0 : PySem.W.nsIn K mainGlobals "is_whole" = some (some (.ref f0))) (l0 : K.lookup f0 = some ⟨oc0, od0, .func (PySem.W.fnOf "is_whole" "is_whole" (defArgs s_is_whole) (defBody s_is_whole) (defScope s_is_whole) .none kV0 dc0 pm0 an0 cd0 ct0), sl0⟩) (c0 : PySem.W.codeIn K cd0 "is_whole" = true) (k0 : PySem.W.keepIn K (.ref f0) = true)
    {f1 : Addr} {od1 an1 : Option Addr} {sl1 : Array (Option Value)} {oc1 kV1 dc1 pm1 cd1 ct1 : Value} (a1 : PySem.W.nsIn K mainGlobals "is_upto" = some (some (.ref f1))) (l1 : K.lookup f1 = some ⟨oc1, od1, .func (PySem.W.fnOf "is_upto" "is_upto" (defArgs s_is_upto) (defBody s_is_upto) (defScope s_is_upto) .none kV1 dc1 pm1 an1 cd1 ct1), sl1⟩) (c1 : PySem.W.codeIn K cd1 "is_upto" = true) (k1 : PySem.W.keepIn K (.ref f1) = true)
    {f2 : Addr} {od2 an2 : Option Addr} {sl2 : Array (Option Value)} {oc2 kV2 dc2 pm2 cd2 ct2 : Value} (a2 : PySem.W.nsIn K mainGlobals "is_rising" = some (some (.ref f2))) (l2 : K.lookup f2 = some ⟨oc2, od2, .func (PySem.W.fnOf "is_rising" "is_rising" (defArgs s_is_rising) (defBody s_is_rising) (defScope s_is_rising) .none kV2 dc2 pm2 an2 cd2 ct2), sl2⟩) (c2 : PySem.W.codeIn K cd2 "is_rising" = true) (k2 : PySem.W.keepIn K (.ref f2) = true)
    {f3 : Addr} {od3 an3 : Option Addr} {sl3 : Array (Option Value)} {oc3 kV3 dc3 pm3 cd3 ct3 : Value} (a3 : PySem.W.nsIn K mainGlobals "is_head" = some (some (.ref f3))) (l3 : K.lookup f3 = some ⟨oc3, od3, .func (PySem.W.fnOf "is_head" "is_head" (defArgs s_is_head) (defBody s_is_head) (defScope s_is_head) .none kV3 dc3 pm3 an3 cd3 ct3), sl3⟩) (c3 : PySem.W.codeIn K cd3 "is_head" = true) (k3 : PySem.W.keepIn K (.ref f3) = true)
    {f4 : Addr} {od4 an4 : Option Addr} {sl4 : Array (Option Value)} {oc4 kV4 dc4 pm4 cd4 ct4 : Value} (a4 : PySem.W.nsIn K mainGlobals "is_layout" = some (some (.ref f4))) (l4 : K.lookup f4 = some ⟨oc4, od4, .func (PySem.W.fnOf "is_layout" "is_layout" (defArgs s_is_layout) (defBody s_is_layout) (defScope s_is_layout) .none kV4 dc4 pm4 an4 cd4 ct4), sl4⟩) (c4 : PySem.W.codeIn K cd4 "is_layout" = true) (k4 : PySem.W.keepIn K (.ref f4) = true)
    {f5 : Addr} {od5 an5 : Option Addr} {sl5 : Array (Option Value)} {oc5 kV5 dc5 pm5 cd5 ct5 : Value} (a5 : PySem.W.nsIn K mainGlobals "is_row" = some (some (.ref f5))) (l5 : K.lookup f5 = some ⟨oc5, od5, .func (PySem.W.fnOf "is_row" "is_row" (defArgs s_is_row) (defBody s_is_row) (defScope s_is_row) .none kV5 dc5 pm5 an5 cd5 ct5), sl5⟩) (c5 : PySem.W.codeIn K cd5 "is_row" = true) (k5 : PySem.W.keepIn K (.ref f5) = true)
    {f6 : Addr} {od6 an6 : Option Addr} {sl6 : Array (Option Value)} {oc6 kV6 dc6 pm6 cd6 ct6 : Value} (a6 : PySem.W.nsIn K mainGlobals "is_table" = some (some (.ref f6))) (l6 : K.lookup f6 = some ⟨oc6, od6, .func (PySem.W.fnOf "is_table" "is_table" (defArgs s_is_table) (defBody s_is_table) (defScope s_is_table) .none kV6 dc6 pm6 an6 cd6 ct6), sl6⟩) (c6 : PySem.W.codeIn K cd6 "is_table" = true) (k6 : PySem.W.keepIn K (.ref f6) = true)
    {f7 : Addr} {od7 an7 : Option Addr} {sl7 : Array (Option Value)} {oc7 kV7 dc7 pm7 cd7 ct7 : Value} (a7 : PySem.W.nsIn K mainGlobals "layout_text" = some (some (.ref f7))) (l7 : K.lookup f7 = some ⟨oc7, od7, .func (PySem.W.fnOf "layout_text" "layout_text" (defArgs s_layout_text) (defBody s_layout_text) (defScope s_layout_text) .none kV7 dc7 pm7 an7 cd7 ct7), sl7⟩) (c7 : PySem.W.codeIn K cd7 "layout_text" = true) (k7 : PySem.W.keepIn K (.ref f7) = true)
    {f8 : Addr} {od8 an8 : Option Addr} {sl8 : Array (Option Value)} {oc8 kV8 dc8 pm8 cd8 ct8 : Value} (a8 : PySem.W.nsIn K mainGlobals "row_text" = some (some (.ref f8))) (l8 : K.lookup f8 = some ⟨oc8, od8, .func (PySem.W.fnOf "row_text" "row_text" (defArgs s_row_text) (defBody s_row_text) (defScope s_row_text) .none kV8 dc8 pm8 an8 cd8 ct8), sl8⟩) (c8 : PySem.W.codeIn K cd8 "row_text" = true) (k8 : PySem.W.keepIn K (.ref f8) = true)
    {f9 : Addr} {od9 an9 : Option Addr} {sl9 : Array (Option Value)} {oc9 kV9 dc9 pm9 cd9 ct9 : Value} (a9 : PySem.W.nsIn K mainGlobals "table_text" = some (some (.ref f9))) (l9 : K.lookup f9 = some ⟨oc9, od9, .func (PySem.W.fnOf "table_text" "table_text" (defArgs s_table_text) (defBody s_table_text) (defScope s_table_text) .none kV9 dc9 pm9 an9 cd9 ct9), sl9⟩) (c9 : PySem.W.codeIn K cd9 "table_text" = true) (k9 : PySem.W.keepIn K (.ref f9) = true)
    {f10 : Addr} {od10 an10 : Option Addr} {sl10 : Array (Option Value)} {oc10 kV10 dc10 pm10 cd10 ct10 : Value} (a10 : PySem.W.nsIn K mainGlobals "figure_in" = some (some (.ref f10))) (l10 : K.lookup f10 = some ⟨oc10, od10, .func (PySem.W.fnOf "figure_in" "figure_in" (defArgs s_figure_in) (defBody s_figure_in) (defScope s_figure_in) .none kV10 dc10 pm10 an10 cd10 ct10), sl10⟩) (c10 : PySem.W.codeIn K cd10 "figure_in" = true) (k10 : PySem.W.keepIn K (.ref f10) = true)
    {f11 : Addr} {od11 an11 : Option Addr} {sl11 : Array (Option Value)} {oc11 kV11 dc11 pm11 cd11 ct11 : Value} (a11 : PySem.W.nsIn K mainGlobals "layout_read" = some (some (.ref f11))) (l11 : K.lookup f11 = some ⟨oc11, od11, .func (PySem.W.fnOf "layout_read" "layout_read" (defArgs s_layout_read) (defBody s_layout_read) (defScope s_layout_read) .none kV11 dc11 pm11 an11 cd11 ct11), sl11⟩) (c11 : PySem.W.codeIn K cd11 "layout_read" = true) (k11 : PySem.W.keepIn K (.ref f11) = true)
    {f12 : Addr} {od12 an12 : Option Addr} {sl12 : Array (Option Value)} {oc12 kV12 dc12 pm12 cd12 ct12 : Value} (a12 : PySem.W.nsIn K mainGlobals "row_in" = some (some (.ref f12))) (l12 : K.lookup f12 = some ⟨oc12, od12, .func (PySem.W.fnOf "row_in" "row_in" (defArgs s_row_in) (defBody s_row_in) (defScope s_row_in) .none kV12 dc12 pm12 an12 cd12 ct12), sl12⟩) (c12 : PySem.W.codeIn K cd12 "row_in" = true) (k12 : PySem.W.keepIn K (.ref f12) = true)
    {f13 : Addr} {od13 an13 : Option Addr} {sl13 : Array (Option Value)} {oc13 kV13 dc13 pm13 cd13 ct13 : Value} (a13 : PySem.W.nsIn K mainGlobals "table_read" = some (some (.ref f13))) (l13 : K.lookup f13 = some ⟨oc13, od13, .func (PySem.W.fnOf "table_read" "table_read" (defArgs s_table_read) (defBody s_table_read) (defScope s_table_read) .none kV13 dc13 pm13 an13 cd13 ct13), sl13⟩) (c13 : PySem.W.codeIn K cd13 "table_read" = true) (k13 : PySem.W.keepIn K (.ref f13) = true)
    {f14 : Addr} {od14 an14 : Option Addr} {sl14 : Array (Option Value)} {oc14 kV14 dc14 pm14 cd14 ct14 : Value} (a14 : PySem.W.nsIn K mainGlobals "_law_cell" = some (some (.ref f14))) (l14 : K.lookup f14 = some ⟨oc14, od14, .func (PySem.W.fnOf "_law_cell" "_law_cell" (defArgs s__law_cell) (defBody s__law_cell) (defScope s__law_cell) .none kV14 dc14 pm14 an14 cd14 ct14), sl14⟩) (c14 : PySem.W.codeIn K cd14 "_law_cell" = true) (k14 : PySem.W.keepIn K (.ref f14) = true)
    {f15 : Addr} {od15 an15 : Option Addr} {sl15 : Array (Option Value)} {oc15 kV15 dc15 pm15 cd15 ct15 : Value} (a15 : PySem.W.nsIn K mainGlobals "_law_mix" = some (some (.ref f15))) (l15 : K.lookup f15 = some ⟨oc15, od15, .func (PySem.W.fnOf "_law_mix" "_law_mix" (defArgs s__law_mix) (defBody s__law_mix) (defScope s__law_mix) .none kV15 dc15 pm15 an15 cd15 ct15), sl15⟩) (c15 : PySem.W.codeIn K cd15 "_law_mix" = true) (k15 : PySem.W.keepIn K (.ref f15) = true)
    {f16 : Addr} {od16 an16 : Option Addr} {sl16 : Array (Option Value)} {oc16 kV16 dc16 pm16 cd16 ct16 : Value} (a16 : PySem.W.nsIn K mainGlobals "_law_box" = some (some (.ref f16))) (l16 : K.lookup f16 = some ⟨oc16, od16, .func (PySem.W.fnOf "_law_box" "_law_box" (defArgs s__law_box) (defBody s__law_box) (defScope s__law_box) .none kV16 dc16 pm16 an16 cd16 ct16), sl16⟩) (c16 : PySem.W.codeIn K cd16 "_law_box" = true) (k16 : PySem.W.keepIn K (.ref f16) = true)
    {f17 : Addr} {od17 an17 : Option Addr} {sl17 : Array (Option Value)} {oc17 kV17 dc17 pm17 cd17 ct17 : Value} (a17 : PySem.W.nsIn K mainGlobals "_law_take" = some (some (.ref f17))) (l17 : K.lookup f17 = some ⟨oc17, od17, .func (PySem.W.fnOf "_law_take" "_law_take" (defArgs s__law_take) (defBody s__law_take) (defScope s__law_take) .none kV17 dc17 pm17 an17 cd17 ct17), sl17⟩) (c17 : PySem.W.codeIn K cd17 "_law_take" = true) (k17 : PySem.W.keepIn K (.ref f17) = true)
    {f18 : Addr} {od18 an18 : Option Addr} {sl18 : Array (Option Value)} {oc18 kV18 dc18 pm18 cd18 ct18 : Value} (a18 : PySem.W.nsIn K mainGlobals "_law_head" = some (some (.ref f18))) (l18 : K.lookup f18 = some ⟨oc18, od18, .func (PySem.W.fnOf "_law_head" "_law_head" (defArgs s__law_head) (defBody s__law_head) (defScope s__law_head) .none kV18 dc18 pm18 an18 cd18 ct18), sl18⟩) (c18 : PySem.W.codeIn K cd18 "_law_head" = true) (k18 : PySem.W.keepIn K (.ref f18) = true)
    {f19 : Addr} {od19 an19 : Option Addr} {sl19 : Array (Option Value)} {oc19 kV19 dc19 pm19 cd19 ct19 : Value} (a19 : PySem.W.nsIn K mainGlobals "_law_grown" = some (some (.ref f19))) (l19 : K.lookup f19 = some ⟨oc19, od19, .func (PySem.W.fnOf "_law_grown" "_law_grown" (defArgs s__law_grown) (defBody s__law_grown) (defScope s__law_grown) .none kV19 dc19 pm19 an19 cd19 ct19), sl19⟩) (c19 : PySem.W.codeIn K cd19 "_law_grown" = true) (k19 : PySem.W.keepIn K (.ref f19) = true)
    {f20 : Addr} {od20 an20 : Option Addr} {sl20 : Array (Option Value)} {oc20 kV20 dc20 pm20 cd20 ct20 : Value} (a20 : PySem.W.nsIn K mainGlobals "_law_barred" = some (some (.ref f20))) (l20 : K.lookup f20 = some ⟨oc20, od20, .func (PySem.W.fnOf "_law_barred" "_law_barred" (defArgs s__law_barred) (defBody s__law_barred) (defScope s__law_barred) .none kV20 dc20 pm20 an20 cd20 ct20), sl20⟩) (c20 : PySem.W.codeIn K cd20 "_law_barred" = true) (k20 : PySem.W.keepIn K (.ref f20) = true)
    {f21 : Addr} {od21 an21 : Option Addr} {sl21 : Array (Option Value)} {oc21 kV21 dc21 pm21 cd21 ct21 : Value} (a21 : PySem.W.nsIn K mainGlobals "_law_named" = some (some (.ref f21))) (l21 : K.lookup f21 = some ⟨oc21, od21, .func (PySem.W.fnOf "_law_named" "_law_named" (defArgs s__law_named) (defBody s__law_named) (defScope s__law_named) .none kV21 dc21 pm21 an21 cd21 ct21), sl21⟩) (c21 : PySem.W.codeIn K cd21 "_law_named" = true) (k21 : PySem.W.keepIn K (.ref f21) = true)
    {f22 : Addr} {od22 an22 : Option Addr} {sl22 : Array (Option Value)} {oc22 kV22 dc22 pm22 cd22 ct22 : Value} (a22 : PySem.W.nsIn K mainGlobals "_law_layout" = some (some (.ref f22))) (l22 : K.lookup f22 = some ⟨oc22, od22, .func (PySem.W.fnOf "_law_layout" "_law_layout" (defArgs s__law_layout) (defBody s__law_layout) (defScope s__law_layout) .none kV22 dc22 pm22 an22 cd22 ct22), sl22⟩) (c22 : PySem.W.codeIn K cd22 "_law_layout" = true) (k22 : PySem.W.keepIn K (.ref f22) = true)
    {f23 : Addr} {od23 an23 : Option Addr} {sl23 : Array (Option Value)} {oc23 kV23 dc23 pm23 cd23 ct23 : Value} (a23 : PySem.W.nsIn K mainGlobals "_law_rows" = some (some (.ref f23))) (l23 : K.lookup f23 = some ⟨oc23, od23, .func (PySem.W.fnOf "_law_rows" "_law_rows" (defArgs s__law_rows) (defBody s__law_rows) (defScope s__law_rows) .none kV23 dc23 pm23 an23 cd23 ct23), sl23⟩) (c23 : PySem.W.codeIn K cd23 "_law_rows" = true) (k23 : PySem.W.keepIn K (.ref f23) = true)
    {f24 : Addr} {od24 an24 : Option Addr} {sl24 : Array (Option Value)} {oc24 kV24 dc24 pm24 cd24 ct24 : Value} (a24 : PySem.W.nsIn K mainGlobals "_law_tables" = some (some (.ref f24))) (l24 : K.lookup f24 = some ⟨oc24, od24, .func (PySem.W.fnOf "_law_tables" "_law_tables" (defArgs s__law_tables) (defBody s__law_tables) (defScope s__law_tables) .none kV24 dc24 pm24 an24 cd24 ct24), sl24⟩) (c24 : PySem.W.codeIn K cd24 "_law_tables" = true) (k24 : PySem.W.keepIn K (.ref f24) = true)
    {f25 : Addr} {od25 an25 : Option Addr} {sl25 : Array (Option Value)} {oc25 kV25 dc25 pm25 cd25 ct25 : Value} (a25 : PySem.W.nsIn K mainGlobals "_law_text" = some (some (.ref f25))) (l25 : K.lookup f25 = some ⟨oc25, od25, .func (PySem.W.fnOf "_law_text" "_law_text" (defArgs s__law_text) (defBody s__law_text) (defScope s__law_text) .none kV25 dc25 pm25 an25 cd25 ct25), sl25⟩) (c25 : PySem.W.codeIn K cd25 "_law_text" = true) (k25 : PySem.W.keepIn K (.ref f25) = true)
    {f26 : Addr} {od26 an26 : Option Addr} {sl26 : Array (Option Value)} {oc26 kV26 dc26 pm26 cd26 ct26 : Value} (a26 : PySem.W.nsIn K mainGlobals "_law_table_text" = some (some (.ref f26))) (l26 : K.lookup f26 = some ⟨oc26, od26, .func (PySem.W.fnOf "_law_table_text" "_law_table_text" (defArgs s__law_table_text) (defBody s__law_table_text) (defScope s__law_table_text) .none kV26 dc26 pm26 an26 cd26 ct26), sl26⟩) (c26 : PySem.W.codeIn K cd26 "_law_table_text" = true) (k26 : PySem.W.keepIn K (.ref f26) = true)
    {f27 : Addr} {od27 an27 : Option Addr} {sl27 : Array (Option Value)} {oc27 kV27 dc27 pm27 cd27 ct27 : Value} (a27 : PySem.W.nsIn K mainGlobals "law" = some (some (.ref f27))) (l27 : K.lookup f27 = some ⟨oc27, od27, .func (PySem.W.fnOf "law" "law" (defArgs s_law) (defBody s_law) (defScope s_law) .none kV27 dc27 pm27 an27 cd27 ct27), sl27⟩) (c27 : PySem.W.codeIn K cd27 "law" = true) (k27 : PySem.W.keepIn K (.ref f27) = true)
    (z_all : PySem.W.nsIn K mainGlobals "all" = some none)
    (z_bool : PySem.W.nsIn K mainGlobals "bool" = some none)
    (z_divmod : PySem.W.nsIn K mainGlobals "divmod" = some none)
    (z_int : PySem.W.nsIn K mainGlobals "int" = some none)
    (z_isinstance : PySem.W.nsIn K mainGlobals "isinstance" = some none)
    (z_len : PySem.W.nsIn K mainGlobals "len" = some none)
    (z_list : PySem.W.nsIn K mainGlobals "list" = some none)
    (z_max : PySem.W.nsIn K mainGlobals "max" = some none)
    (z_min : PySem.W.nsIn K mainGlobals "min" = some none)
    (z_range : PySem.W.nsIn K mainGlobals "range" = some none)
    (z_set : PySem.W.nsIn K mainGlobals "set" = some none)
    (z_sorted : PySem.W.nsIn K mainGlobals "sorted" = some none)
    (z_str : PySem.W.nsIn K mainGlobals "str" = some none)
    (z_tuple : PySem.W.nsIn K mainGlobals "tuple" = some none)
    (z_zip : PySem.W.nsIn K mainGlobals "zip" = some none)
    {tk_FIGURES : Tok} (g_FIGURES : PySem.W.nsIn K mainGlobals "FIGURES" = some (some (.str "0123456789" tk_FIGURES)))
    {tk_MOST_COLUMNS : Tok} (g_MOST_COLUMNS : PySem.W.nsIn K mainGlobals "MOST_COLUMNS" = some (some (.int 7 tk_MOST_COLUMNS)))
    {tk_MOST_HEADS : Tok} (g_MOST_HEADS : PySem.W.nsIn K mainGlobals "MOST_HEADS" = some (some (.int 6 tk_MOST_HEADS)))
    {tk_MOST_ROWS : Tok} (g_MOST_ROWS : PySem.W.nsIn K mainGlobals "MOST_ROWS" = some (some (.int 625 tk_MOST_ROWS)))
    {tk_MOST_WIDE : Tok} (g_MOST_WIDE : PySem.W.nsIn K mainGlobals "MOST_WIDE" = some (some (.int 7 tk_MOST_WIDE)))
    {tk_NUMBERS : Tok} (g_NUMBERS : PySem.W.nsIn K mainGlobals "NUMBERS" = some (some (.int 10 tk_NUMBERS)))
    {C_NoText : Addr} (e_NoText : PySem.W.nsIn K mainGlobals "NoText" = some (some (.ref C_NoText))) (eq_NoText : PySem.W.excIn K C_NoText [.type "ValueError", .type "Exception", .type "BaseException", .type "object"] "ValueError.__new__" = true) (ek_NoText : PySem.W.keepIn K (.ref C_NoText) = true) (eb_NoText : PySem.W.subIn K (.ref C_NoText) (.type "BaseException") = some true) (et_NoText : PySem.W.typeIn K (.ref C_NoText) = some (.type "type"))
    : ∃ fd : FuncData, (∀ (s : Shared) (v : Value), BindsTo s fd ⟨[v], []⟩ [("_law_script", v)]) ∧ ∀ base : Heap, K.In base → base.Ns mainGlobals mg → FnOk l.prog w K mg base (L2N.CX l.prog w) 6 fa fd ["_law_script"] (spTB K) := by
  have e := hfa.symm.trans (PySem.W.mg_of X G a27)
  cases e
  have F0 := fun_mk (st := s_is_whole) l0 c0 k0
  have b0 := F0.binds (ps := ["thing"]) fun _ _ _ _ _ _ us hl => match us, hl with | [_], _ => rfl
  have g0 := PySem.W.mg_of X G a0
  have F1 := fun_mk (st := s_is_upto) l1 c1 k1
  have b1 := F1.binds (ps := ["thing", "many"]) fun _ _ _ _ _ _ us hl => match us, hl with | [_, _], _ => rfl
  have g1 := PySem.W.mg_of X G a1
  have F2 := fun_mk (st := s_is_rising) l2 c2 k2
  have b2 := F2.binds (ps := ["things"]) fun _ _ _ _ _ _ us hl => match us, hl with | [_], _ => rfl
  have g2 := PySem.W.mg_of X G a2
  have F3 := fun_mk (st := s_is_head) l3 c3 k3
  have b3 := F3.binds (ps := ["thing", "many"]) fun _ _ _ _ _ _ us hl => match us, hl with | [_, _], _ => rfl
  have g3 := PySem.W.mg_of X G a3
  have F4 := fun_mk (st := s_is_layout) l4 c4 k4
  have b4 := F4.binds (ps := ["thing"]) fun _ _ _ _ _ _ us hl => match us, hl with | [_], _ => rfl
  have g4 := PySem.W.mg_of X G a4
  have F5 := fun_mk (st := s_is_row) l5 c5 k5
  have b5 := F5.binds (ps := ["thing", "many"]) fun _ _ _ _ _ _ us hl => match us, hl with | [_, _], _ => rfl
  have g5 := PySem.W.mg_of X G a5
  have F6 := fun_mk (st := s_is_table) l6 c6 k6
  have b6 := F6.binds (ps := ["thing", "many"]) fun _ _ _ _ _ _ us hl => match us, hl with | [_, _], _ => rfl
  have g6 := PySem.W.mg_of X G a6
  have F7 := fun_mk (st := s_layout_text) l7 c7 k7
  have b7 := F7.binds (ps := ["layout"]) fun _ _ _ _ _ _ us hl => match us, hl with | [_], _ => rfl
  have g7 := PySem.W.mg_of X G a7
  have F8 := fun_mk (st := s_row_text) l8 c8 k8
  have b8 := F8.binds (ps := ["row"]) fun _ _ _ _ _ _ us hl => match us, hl with | [_], _ => rfl
  have g8 := PySem.W.mg_of X G a8
  have F9 := fun_mk (st := s_table_text) l9 c9 k9
  have b9 := F9.binds (ps := ["table"]) fun _ _ _ _ _ _ us hl => match us, hl with | [_], _ => rfl
  have g9 := PySem.W.mg_of X G a9
  have F10 := fun_mk (st := s_figure_in) l10 c10 k10
  have b10 := F10.binds (ps := ["word"]) fun _ _ _ _ _ _ us hl => match us, hl with | [_], _ => rfl
  have g10 := PySem.W.mg_of X G a10
  have F11 := fun_mk (st := s_layout_read) l11 c11 k11
  have b11 := F11.binds (ps := ["text"]) fun _ _ _ _ _ _ us hl => match us, hl with | [_], _ => rfl
  have g11 := PySem.W.mg_of X G a11
  have F12 := fun_mk (st := s_row_in) l12 c12 k12
  have b12 := F12.binds (ps := ["word"]) fun _ _ _ _ _ _ us hl => match us, hl with | [_], _ => rfl
  have g12 := PySem.W.mg_of X G a12
  have F13 := fun_mk (st := s_table_read) l13 c13 k13
  have b13 := F13.binds (ps := ["text"]) fun _ _ _ _ _ _ us hl => match us, hl with | [_], _ => rfl
  have g13 := PySem.W.mg_of X G a13
  have F14 := fun_mk (st := s__law_cell) l14 c14 k14
  have b14 := F14.binds (ps := ["_law_script", "_law_k"]) fun _ _ _ _ _ _ us hl => match us, hl with | [_, _], _ => rfl
  have g14 := PySem.W.mg_of X G a14
  have F15 := fun_mk (st := s__law_mix) l15 c15 k15
  have b15 := F15.binds (ps := ["_law_cell_here", "_law_k"]) fun _ _ _ _ _ _ us hl => match us, hl with | [_, _], _ => rfl
  have g15 := PySem.W.mg_of X G a15
  have F16 := fun_mk (st := s__law_box) l16 c16 k16
  have b16 := F16.binds (ps := ["_law_script", "_law_k"]) fun _ _ _ _ _ _ us hl => match us, hl with | [_, _], _ => rfl
  have g16 := PySem.W.mg_of X G a16
  have F17 := fun_mk (st := s__law_take) l17 c17 k17
  have b17 := F17.binds (ps := ["_law_box_here", "_law_many"]) fun _ _ _ _ _ _ us hl => match us, hl with | [_, _], _ => rfl
  have g17 := PySem.W.mg_of X G a17
  have F18 := fun_mk (st := s__law_head) l18 c18 k18
  have b18 := F18.binds (ps := ["_law_box_here", "_law_many"]) fun _ _ _ _ _ _ us hl => match us, hl with | [_, _], _ => rfl
  have g18 := PySem.W.mg_of X G a18
  have F19 := fun_mk (st := s__law_grown) l19 c19 k19
  have b19 := F19.binds (ps := ["_law_box_here", "_law_many", "_law_heads"]) fun _ _ _ _ _ _ us hl => match us, hl with | [_, _, _], _ => rfl
  have g19 := PySem.W.mg_of X G a19
  have F20 := fun_mk (st := s__law_barred) l20 c20 k20
  have b20 := F20.binds (ps := ["_law_box_here", "_law_many"]) fun _ _ _ _ _ _ us hl => match us, hl with | [_, _], _ => rfl
  have g20 := PySem.W.mg_of X G a20
  have F21 := fun_mk (st := s__law_named) l21 c21 k21
  have b21 := F21.binds (ps := ["_law_box_here", "_law_many", "_law_heads"]) fun _ _ _ _ _ _ us hl => match us, hl with | [_, _, _], _ => rfl
  have g21 := PySem.W.mg_of X G a21
  have F22 := fun_mk (st := s__law_layout) l22 c22 k22
  have b22 := F22.binds (ps := ["_law_box_here", "_law_most", "_law_heads"]) fun _ _ _ _ _ _ us hl => match us, hl with | [_, _, _], _ => rfl
  have g22 := PySem.W.mg_of X G a22
  have F23 := fun_mk (st := s__law_rows) l23 c23 k23
  have b23 := F23.binds (ps := ["_law_box_here", "_law_wide", "_law_most"]) fun _ _ _ _ _ _ us hl => match us, hl with | [_, _, _], _ => rfl
  have g23 := PySem.W.mg_of X G a23
  have F24 := fun_mk (st := s__law_tables) l24 c24 k24
  have b24 := F24.binds (ps := ["_law_box_here", "_law_layout_here", "_law_most"]) fun _ _ _ _ _ _ us hl => match us, hl with | [_, _, _], _ => rfl
  have g24 := PySem.W.mg_of X G a24
  have F25 := fun_mk (st := s__law_text) l25 c25 k25
  have b25 := F25.binds (ps := ["_law_layout_here"]) fun _ _ _ _ _ _ us hl => match us, hl with | [_], _ => rfl
  have g25 := PySem.W.mg_of X G a25
  have F26 := fun_mk (st := s__law_table_text) l26 c26 k26
  have b26 := F26.binds (ps := ["_law_table"]) fun _ _ _ _ _ _ us hl => match us, hl with | [_], _ => rfl
  have g26 := PySem.W.mg_of X G a26
  have F27 := fun_mk (st := s_law) l27 c27 k27
  have b27 := F27.binds (ps := ["_law_script"]) fun _ _ _ _ _ _ us hl => match us, hl with | [_], _ => rfl
  have g27 := PySem.W.mg_of X G a27
  have y_all := PySem.W.mg_none_of X G z_all
  have y_bool := PySem.W.mg_none_of X G z_bool
  have y_divmod := PySem.W.mg_none_of X G z_divmod
  have y_int := PySem.W.mg_none_of X G z_int
  have y_isinstance := PySem.W.mg_none_of X G z_isinstance
  have y_len := PySem.W.mg_none_of X G z_len
  have y_list := PySem.W.mg_none_of X G z_list
  have y_max := PySem.W.mg_none_of X G z_max
  have y_min := PySem.W.mg_none_of X G z_min
  have y_range := PySem.W.mg_none_of X G z_range
  have y_set := PySem.W.mg_none_of X G z_set
  have y_sorted := PySem.W.mg_none_of X G z_sorted
  have y_str := PySem.W.mg_none_of X G z_str
  have y_tuple := PySem.W.mg_none_of X G z_tuple
  have y_zip := PySem.W.mg_none_of X G z_zip
  have gg_FIGURES := PySem.W.mg_of X G g_FIGURES
  have gg_MOST_COLUMNS := PySem.W.mg_of X G g_MOST_COLUMNS
  have gg_MOST_HEADS := PySem.W.mg_of X G g_MOST_HEADS
  have gg_MOST_ROWS := PySem.W.mg_of X G g_MOST_ROWS
  have gg_MOST_WIDE := PySem.W.mg_of X G g_MOST_WIDE
  have gg_NUMBERS := PySem.W.mg_of X G g_NUMBERS
  have ee_NoText := clsX_mk (PySem.W.mg_of X G e_NoText) eq_NoText ek_NoText eb_NoText et_NoText
  refine ⟨PySem.W.fnOf "law" "law" (defArgs s_law) (defBody s_law) (defScope s_law) .none kV27 dc27 pm27 an27 cd27 ct27, fun s v => .of_eq rfl, fun base _ _ => ?_⟩
  have c__law_cell := k__law_cell (P := l.prog) (w := w) (base := base) F14 b14 g14 y_len 
  have c__law_mix := k__law_mix (P := l.prog) (w := w) (base := base) F15 b15 g15  
  have c__law_box := k__law_box (P := l.prog) (w := w) (base := base) F16 b16 g16 y_range c__law_cell c__law_mix
  have c__law_take := k__law_take (P := l.prog) (w := w) (base := base) F17 b17 g17 y_divmod 
  have c__law_barred := k__law_barred (P := l.prog) (w := w) (base := base) F20 b20 g20 y_min y_range y_sorted y_tuple c__law_take
  have c__law_named := k__law_named (P := l.prog) (w := w) (base := base) F21 b21 g21 y_len y_list y_range y_sorted y_tuple c__law_take
  have c__law_head := k__law_head (P := l.prog) (w := w) (base := base) F18 b18 g18 y_range y_tuple c__law_take
  have c__law_grown := k__law_grown (P := l.prog) (w := w) (base := base) F19 b19 g19 y_int y_len y_range y_sorted y_tuple c__law_head c__law_take
  have c__law_layout := k__law_layout (P := l.prog) (w := w) (base := base) F22 b22 g22 y_len y_max y_range c__law_take c__law_barred c__law_named c__law_head c__law_grown
  have c_layout_text := k_layout_text (P := l.prog) (w := w) (base := base) F7 b7 g7 y_str 
  have c__law_rows := k__law_rows (P := l.prog) (w := w) (base := base) F23 b23 g23 y_list y_range y_sorted y_tuple c__law_take
  have c__law_tables := k__law_tables (P := l.prog) (w := w) (base := base) F24 b24 g24 y_len y_range y_set y_sorted y_tuple c__law_take c__law_rows
  have c_row_text := k_row_text (P := l.prog) (w := w) (base := base) F8 b8 g8 y_str 
  have c_table_text := k_table_text (P := l.prog) (w := w) (base := base) F9 b9 g9  c_row_text
  have c_row_in := k_row_in (P := l.prog) (w := w) (base := base) F12 b12 g12 y_all y_int y_len y_tuple gg_FIGURES gg_MOST_WIDE 
  have c_is_whole := k_is_whole (P := l.prog) (w := w) (base := base) F0 b0 g0 y_bool y_int y_isinstance 
  have c_is_upto := k_is_upto (P := l.prog) (w := w) (base := base) F1 b1 g1  c_is_whole
  have c_is_row := k_is_row (P := l.prog) (w := w) (base := base) F5 b5 g5 y_all y_isinstance y_len y_tuple gg_NUMBERS c_is_upto
  have c_is_table := k_is_table (P := l.prog) (w := w) (base := base) F6 b6 g6 y_all y_isinstance y_len y_tuple y_zip gg_MOST_ROWS c_is_row
  have c_table_read := k_table_read (P := l.prog) (w := w) (base := base) F13 b13 g13 y_isinstance y_len y_str y_tuple ee_NoText c_row_in c_is_table
  have c__law_text := k__law_text (P := l.prog) (w := w) (base := base) F25 b25 g25 y_str 
  have c_figure_in := k_figure_in (P := l.prog) (w := w) (base := base) F10 b10 g10 y_int y_len gg_FIGURES 
  have c_is_rising := k_is_rising (P := l.prog) (w := w) (base := base) F2 b2 g2 y_all y_zip 
  have c_is_head := k_is_head (P := l.prog) (w := w) (base := base) F3 b3 g3 y_all y_isinstance y_tuple c_is_rising c_is_upto
  have c_is_layout := k_is_layout (P := l.prog) (w := w) (base := base) F4 b4 g4 y_all y_isinstance y_len y_tuple gg_MOST_COLUMNS gg_MOST_HEADS c_is_upto c_is_head
  have c_layout_read := k_layout_read (P := l.prog) (w := w) (base := base) F11 b11 g11 y_isinstance y_len y_str y_tuple ee_NoText c_figure_in c_is_layout
  have c__law_table_text := k__law_table_text (P := l.prog) (w := w) (base := base) F26 b26 g26 y_str 
  exact law_fnB main (k_law F27 b27 g27 y_isinstance y_len y_max y_min y_range y_str y_tuple c__law_box c__law_layout c_layout_text c__law_tables c_table_text c_table_read c__law_text c_layout_read c__law_table_text)
end LK91
open PySem PySem.W PyProof.Rows
set_option maxHeartbeats 0 in
theorem PySem.Challenge.cw_jointrees_k91_layouts_and_tables_written_holds : PySem.Challenge.rw_jointrees_k91_layouts_and_tables_written.Holds := by
  w_on; o_law; k_head; (case hw => w_witness2)
  k_fill
  refine L2.walk_ofB (l := PySem.Challenge.rw_jointrees_k91_layouts_and_tables_written) (n := 63) (k := 6) (x := "_law_script") (CX := fun w => L2N.CX (PySem.Challenge.rw_jointrees_k91_layouts_and_tables_written).prog w) (sp := fun w => TL.spTB _) rfl (by decide) rfl ⟨rfl, by decide, by decide⟩ (fun w h Y => PySem.W.kIn_of Y) ?F (fun _ _ a ns hl hb _ hS => ⟨a, ns, rfl, hS, hl, hb, fun _ => rfl⟩) (fun _ _ _ _ _ h => TL.cx_end h)
  case F =>
    intro w mg fa h KX G hmg
    refine' LK91.all_mk LK91.main KX G hmg ?a0 ?l0 ?c0 ?k0 ?a1 ?l1 ?c1 ?k1 ?a2 ?l2 ?c2 ?k2 ?a3 ?l3 ?c3 ?k3 ?a4 ?l4 ?c4 ?k4 ?a5 ?l5 ?c5 ?k5 ?a6 ?l6 ?c6 ?k6 ?a7 ?l7 ?c7 ?k7 ?a8 ?l8 ?c8 ?k8 ?a9 ?l9 ?c9 ?k9 ?a10 ?l10 ?c10 ?k10 ?a11 ?l11 ?c11 ?k11 ?a12 ?l12 ?c12 ?k12 ?a13 ?l13 ?c13 ?k13 ?a14 ?l14 ?c14 ?k14 ?a15 ?l15 ?c15 ?k15 ?a16 ?l16 ?c16 ?k16 ?a17 ?l17 ?c17 ?k17 ?a18 ?l18 ?c18 ?k18 ?a19 ?l19 ?c19 ?k19 ?a20 ?l20 ?c20 ?k20 ?a21 ?l21 ?c21 ?k21 ?a22 ?l22 ?c22 ?k22 ?a23 ?l23 ?c23 ?k23 ?a24 ?l24 ?c24 ?k24 ?a25 ?l25 ?c25 ?k25 ?a26 ?l26 ?c26 ?k26 ?a27 ?l27 ?c27 ?k27 ?z_all ?z_bool ?z_divmod ?z_int ?z_isinstance ?z_len ?z_list ?z_max ?z_min ?z_range ?z_set ?z_sorted ?z_str ?z_tuple ?z_zip ?g_FIGURES ?g_MOST_COLUMNS ?g_MOST_HEADS ?g_MOST_ROWS ?g_MOST_WIDE ?g_NUMBERS ?e_NoText ?eq_NoText ?ek_NoText ?eb_NoText ?et_NoText
    (case a0 => k_is); (case l0 => k_is); (case c0 => k_is); (case k0 => k_is); (case a1 => k_is); (case l1 => k_is); (case c1 => k_is); (case k1 => k_is); (case a2 => k_is); (case l2 => k_is); (case c2 => k_is); (case k2 => k_is); (case a3 => k_is); (case l3 => k_is); (case c3 => k_is); (case k3 => k_is); (case a4 => k_is); (case l4 => k_is); (case c4 => k_is); (case k4 => k_is); (case a5 => k_is); (case l5 => k_is); (case c5 => k_is); (case k5 => k_is); (case a6 => k_is); (case l6 => k_is); (case c6 => k_is); (case k6 => k_is); (case a7 => k_is); (case l7 => k_is); (case c7 => k_is); (case k7 => k_is); (case a8 => k_is); (case l8 => k_is); (case c8 => k_is); (case k8 => k_is); (case a9 => k_is); (case l9 => k_is); (case c9 => k_is); (case k9 => k_is); (case a10 => k_is); (case l10 => k_is); (case c10 => k_is); (case k10 => k_is); (case a11 => k_is); (case l11 => k_is); (case c11 => k_is); (case k11 => k_is); (case a12 => k_is); (case l12 => k_is); (case c12 => k_is); (case k12 => k_is); (case a13 => k_is); (case l13 => k_is); (case c13 => k_is); (case k13 => k_is); (case a14 => k_is); (case l14 => k_is); (case c14 => k_is); (case k14 => k_is); (case a15 => k_is); (case l15 => k_is); (case c15 => k_is); (case k15 => k_is); (case a16 => k_is); (case l16 => k_is); (case c16 => k_is); (case k16 => k_is); (case a17 => k_is); (case l17 => k_is); (case c17 => k_is); (case k17 => k_is); (case a18 => k_is); (case l18 => k_is); (case c18 => k_is); (case k18 => k_is); (case a19 => k_is); (case l19 => k_is); (case c19 => k_is); (case k19 => k_is); (case a20 => k_is); (case l20 => k_is); (case c20 => k_is); (case k20 => k_is); (case a21 => k_is); (case l21 => k_is); (case c21 => k_is); (case k21 => k_is); (case a22 => k_is); (case l22 => k_is); (case c22 => k_is); (case k22 => k_is); (case a23 => k_is); (case l23 => k_is); (case c23 => k_is); (case k23 => k_is); (case a24 => k_is); (case l24 => k_is); (case c24 => k_is); (case k24 => k_is); (case a25 => k_is); (case l25 => k_is); (case c25 => k_is); (case k25 => k_is); (case a26 => k_is); (case l26 => k_is); (case c26 => k_is); (case k26 => k_is); (case a27 => k_is); (case l27 => k_is); (case c27 => k_is); (case k27 => k_is); (case z_all => k_is); (case z_bool => k_is); (case z_divmod => k_is); (case z_int => k_is); (case z_isinstance => k_is); (case z_len => k_is); (case z_list => k_is); (case z_max => k_is); (case z_min => k_is); (case z_range => k_is); (case z_set => k_is); (case z_sorted => k_is); (case z_str => k_is); (case z_tuple => k_is); (case z_zip => k_is); (case g_FIGURES => k_is); (case g_MOST_COLUMNS => k_is); (case g_MOST_HEADS => k_is); (case g_MOST_ROWS => k_is); (case g_MOST_WIDE => k_is); (case g_NUMBERS => k_is); (case e_NoText => k_is); (case eq_NoText => k_exc); (case ek_NoText => k_is); (case eb_NoText => k_is); (case et_NoText => k_is)
