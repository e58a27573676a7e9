import PyProof.Rows.All
import Wide.All
import OpenK.AllK
import Wide.FinOn
import HandS.Style
import HandS.Iter
import KE.DataFind
import HandS.HotCalls
import HandS.ExcIs
import HandS.EndBits
import HandS.TryOnly
import HandS.ExcOwn
import PyProof.SeqIndex
import HandS.SetFor
import HandS.Strs
import HandS.Zip
import KE.DataMinMax
import HandS.ForMost
import HandS.SortInts
import HandS.ExcCtx
import HandS.ForExc
import HandS.Deep
import HandS.Flow
import HandS.IsInst
import HandS.Wide
import HandS.WideBits
import HandS.TupAny
import HandS.Conv
import KE.SortData
import KE.LtData
import KE.DataEq
import HandS.TupMul
import KE.GoesZip
import KE.GoesMore
import HandS.TupSets
import KE.GoesEnum
import KE.KRevSl
import PySem.Challenge.RW_jointrees_k41_rows_of_nests
set_option Elab.async false
set_option linter.all false
set_option maxRecDepth 100000
set_option maxHeartbeats 4000000
set_option maxRecDepth 100000
/-! the tree layer: a set made of a list of whole numbers -/
namespace TL
open PySem PySem.Spec PyProof.Rows L2
section
variable {P : Program} {w : World} {A : Around} {E : Value → Shared → Prop} {s : Shared}
end
end TL
/-! the tree layer, 0: tuples whose objects are known (they have no dict of their own) -/
namespace TL
open PySem PySem.Spec PyProof.Rows L2
/-- an object without a dict and slots of its own -/
def TOb (o : Obj) : Prop := o.dict = none ∧ o.slots = #[]
/-- a tuple of these, its object known -/
def TupH (u : HO) (xs : List V) : Prop := ∃ o, TOb o ∧ u = .frz o (.tup xs)
def SqU (K : PySem.W.Frag) (H : Hp) (a : Addr) (xs : List V) : Prop :=
  (∃ u, H a = some u ∧ TupH u xs) ∨
    ∃ (o : Obj) (its : Array Value) (n : Nat), K.lookup a = some o ∧ o.cls = .type "tuple" ∧ o.data = .seq its n ∧ its.size ≤ sizeLine ∧ Vals xs its.toList ∧ TOb o
theorem SqU.t {K : PySem.W.Frag} {H : Hp} {a : Addr} {xs : List V} (h : SqU K H a xs) : SqT K H a xs := by
  rcases h with ⟨u, e, o, _, rfl⟩ | ⟨o, its, n, h1, h2, h3, h4, h5, _⟩
  · exact .inl (.inr ⟨o, e⟩)
  · exact .inr ⟨o, its, n, h1, h2, h3, h4, h5⟩
theorem SqU.of {K : PySem.W.Frag} {H : Hp} {a : Addr} {xs : List V} {u : HO} (h : H a = some u) (t : TupH u xs) : SqU K H a xs := .inl ⟨u, h, t⟩
theorem SqU.same {K : PySem.W.Frag} {H H' : Hp} {a : Addr} {xs : List V} (s : Same H H') (h : SqU K H a xs) : SqU K H' a xs := by
  rcases h with ⟨u, e, t⟩ | h
  · exact .inl ⟨u, s _ _ e, t⟩
  · exact .inr h
/-- the object itself -/
theorem SqU.obj {X : Cx} {pins : List (Addr × Obj)} {σ : L2.St} {H : Hp} {s : Shared} (I : Inv X pins σ H s) {a : Addr} {xs : List V} (h : SqU X.K H a xs) : ∃ o its n, s.heap.get? a = some o ∧ o.cls = .type "tuple" ∧ o.data = .seq its n ∧ TOb o ∧ Vals xs its.toList ∧ xs.length ≤ sizeLine := by
  rcases h with ⟨u, e, o, t, rfl⟩ | ⟨o, its, n, hk, hc, hs, hz, r, t⟩
  · have q : s.heap.get? a = some o ∧ _ := I.hok a _ e
    obtain ⟨e1, hz, its, r, o', e2, hc, n, hd⟩ := q
    rw [e1] at e2
    cases e2
    exact ⟨o, _, n, e1, hc, hd, t, by simpa using r, hz⟩
  · refine ⟨o, its, n, I.kIn a o hk, hc, hs, t, r, ?_⟩
    have := r.length
    simp only [Array.length_toList] at this
    omega
theorem okU {P : Program} {w : World} {H : Hp} {h : Heap} {a : Addr} {xs : List V} {its : List Value} {o : Obj} (hz : xs.length ≤ sizeLine) (r : Vals xs its) (e : h.get? a = some o) (hc : o.cls = .type "tuple") {n : Nat} (hd : o.data = .seq its.toArray n) : ObjOk P w H h a (.frz o (.tup xs)) :=
  ⟨e, hz, its, r, o, e, hc, n, hd⟩
section
variable {X : Cx} {es : List Expr} {t : TA} {pos : Pos}
def tTupU (t : TA) : TE := fun σ H Q => t σ H fun xs H1 => xs.length ≤ sizeLine ∧ ∀ p u, H1 p = none → TupH u xs → Q (.ref p) (upd H1 p u)
theorem pe_tupU {x1} (h : PA X es t) : PE X (.Tuple es x1 pos) (tTupU t) := by
  refine ⟨fun pins s σ H Q I hq => ?_⟩
  refine wpAny_Tuple_spliced (thn (h.run pos pins s σ H _ I hq) fun us s1 ⟨xs, H1, I1, r, z, q⟩ => ⟨by rw [← r.length]; exact z, ?_⟩)
  have hf : H1 s1.heap.objs.size = none := I1.hok.fresh (Nat.le_refl _)
  refine ⟨.ref s1.heap.objs.size, upd H1 s1.heap.objs.size (.frz _ (.tup xs)), I1.laid (t' := s1.toks) (fun b u e => Heap.get?_push_of_some _ e) (Nat.le_refl _) (okU z r (Heap.get?_push_size _ rfl) rfl rfl), rfl, q _ _ hf ⟨_, ⟨rfl, rfl⟩, rfl⟩⟩
theorem call_tuple_ofU : CallR X (.type "tuple") (fun xs H Q => ∃ p ys, xs = [.ref p] ∧ ((SqL X.K H p ys ∧ ∀ l u, H l = none → TupH u ys → Q (.ref l) (upd H l u)) ∨ (SqT X.K H p ys ∧ Q (.ref p) H))) := by
  intro pins s σ H xs us Q I r h
  obtain ⟨p, ys, rfl, h⟩ := h
  obtain ⟨u, rfl, rx⟩ := vals1 r
  cases rx
  rcases h with ⟨hq, q⟩ | ⟨hq, q⟩
  · obtain ⟨its, r', pl, hz⟩ := I.list hq
    have hlen := r'.length
    refine call_tuple_list pl.isList (fun h' kp => ?_) (by simp only [List.size_toArray] <;> omega)
    have I1 : Inv X pins σ H { s with heap := h' } := I.kept (t' := s.toks) kp
    have I2 : Inv X pins σ (upd H h'.objs.size (.frz { cls := .type "tuple", data := .seq its.toArray } (.tup ys))) { s with heap := h'.push { cls := .type "tuple", data := .seq its.toArray } } :=
      I1.laid (t' := s.toks) (fun b o e => Heap.get?_push_of_some _ e) (Nat.le_refl _) (okU hz r' (Heap.get?_push_size _ rfl) rfl rfl)
    exact ⟨.ref h'.objs.size, _, I2, rfl, q _ _ (I1.hok.fresh (Nat.le_refl _)) ⟨_, ⟨rfl, rfl⟩, rfl⟩⟩
  · obtain ⟨its, r', pl, hz⟩ := I.tuple hq
    exact call_tuple_same pl ⟨.ref p, H, I, rfl, q⟩
def rCatU (K : PySem.W.Frag) : R2 := fun x y H Q => ∃ a b xs ys, x = .ref a ∧ y = .ref b ∧ SqT K H a xs ∧ SqT K H b ys ∧ xs.length + ys.length ≤ sizeLine ∧
  (xs = [] → Q (.ref b) H) ∧ (xs ≠ [] → ys = [] → Q (.ref a) H) ∧ (xs ≠ [] → ys ≠ [] → ∀ p u, H p = none → TupH u (xs ++ ys) → Q (.ref p) (upd H p u))
theorem op_catU : OpR X (binaryOp .Add) (rCatU X.K) := by
  intro pins s σ H x y v u Q I rx ry h
  obtain ⟨a, b, xs, ys, rfl, rfl, ha, hb, hz, q0, q1, q2⟩ := h
  by_cases hx : xs = []
  · subst hx
    cases rx
    cases ry
    obtain ⟨its, r1, p1, _⟩ := I.tuple ha
    obtain ⟨its2, r2, p2, _⟩ := I.tuple hb
    cases r1
    exact cat_tup0 p1 p2 ⟨.ref b, H, I, rfl, q0 rfl⟩
  · cases rx
    cases ry
    obtain ⟨its, r1, p1, _⟩ := I.tuple ha
    obtain ⟨its2, r2, p2, _⟩ := I.tuple hb
    refine HT.cat_tup p1 p2 (fun z => hx (r1.nil_iff.mp z)) (fun z => ⟨.ref a, H, I, rfl, q1 hx (r2.nil_iff.mp z)⟩) (fun z => ?_) (by rw [← r1.length, ← r2.length]; exact hz)
    refine ⟨.ref s.heap.objs.size, _, I.laid (t' := s.toks) (o := .frz _ (.tup (xs ++ ys))) (fun b ob q => Heap.get?_push_of_some _ q) (Nat.le_refl _) (okU (by rw [List.length_append]; exact hz) (r1.append r2) (Heap.get?_push_size _ rfl) rfl rfl), rfl, q2 hx (fun w => z (r2.nil_iff.mpr w)) _ _ (I.hok.fresh (Nat.le_refl _)) ⟨_, ⟨rfl, rfl⟩, rfl⟩⟩
/-- t[lo:hi]: the whole of it is t itself -/
def rSlU (K : PySem.W.Frag) : V → Option Int → Option Int → Hp → VK → Prop := fun x lo hi H Q => ∃ a xs, x = .ref a ∧ SqT K H a xs ∧
  (HT.sIx xs.length 0 lo = 0 ∧ HT.sIx xs.length xs.length hi = xs.length → Q (.ref a) H) ∧ (¬ (HT.sIx xs.length 0 lo = 0 ∧ HT.sIx xs.length xs.length hi = xs.length) → ∀ p u, H p = none → TupH u (cutV xs lo hi) → Q (.ref p) (upd H p u))
theorem sl_tupU : SlR X (rSlU X.K) := by
  intro pins s σ H x v vl vu lo hi sl Q I rx hs pl pu h
  obtain ⟨a, xs, rfl, hx, q1, q2⟩ := h
  cases rx
  obtain ⟨its, r, ht, hz⟩ := I.tuple hx
  have hlen : its.toArray.size = xs.length := by rw [List.size_toArray]; exact r.length.symm
  refine ⟨"tuple", _, PyProof.Rows.slot_tuple_getitem.lookup, ht.typeIs, ?_⟩
  by_cases hw : HT.sIx xs.length 0 lo = 0 ∧ HT.sIx xs.length xs.length hi = xs.length
  · exact getItem_tuple_whole ht hs pl pu (by rw [hlen]; exact hw) ⟨.ref a, H, I, rfl, q1 hw⟩
  · refine HT.getItem_tuple_cut ht hs pl pu (by rw [hlen]; exact hw) ?_ (by rw [hlen]; exact hz)
    rw [hlen]
    exact ⟨.ref s.heap.objs.size, _, I.laid (t' := s.toks) (o := .frz _ (.tup (cutV xs lo hi))) (fun b ob q => Heap.get?_push_of_some _ q) (Nat.le_refl _)
      (okU (Nat.le_trans (cutV_length xs lo hi) hz) ((r.drop (HT.sIx xs.length 0 lo)).take (HT.sIx xs.length xs.length hi - HT.sIx xs.length 0 lo)) (Heap.get?_push_size _ rfl) rfl rfl), rfl, q2 hw _ _ (I.hok.fresh (Nat.le_refl _)) ⟨_, ⟨rfl, rfl⟩, rfl⟩⟩
/-- divmod: a new tuple -/
theorem call_divmodU : CallR X (.builtin "divmod") (fun xs H Q => ∃ i j, xs = [.int i, .int j] ∧ CDiv i j ∧ ∀ p u, H p = none → TupH u [.int (i / j), .int (i % j)] → Q (.ref p) (upd H p u)) := by
  intro pins s σ H xs us Q I r h
  obtain ⟨i, j, rfl, ⟨h1, h2⟩, q⟩ := h
  obtain ⟨u, w', rfl, ⟨t, rfl⟩, ⟨t', rfl⟩⟩ := vals2 r
  refine divmod_int (by omega) ?_ (.inl (PyProof.noPylong_small (by omega)))
  rw [Int.fdiv_eq_ediv_of_nonneg i (by omega), Int.fmod_eq_emod_of_nonneg i (by omega)]
  have hn : H s.heap.objs.size = none := I.hok.fresh (Nat.le_refl _)
  refine ⟨.ref s.heap.objs.size, _, I.laid (o := .frz _ (.tup [.int (i / j), .int (i % j)])) (fun b o e => Heap.get?_push_of_some _ e) (Nat.le_refl _) (okU (its := [.int (i / j) s.toks, .int (i % j) (s.toks + 1)]) (by simp only [List.length_cons, List.length_nil]; rw [sizeLine_eq]; decide) (.cons ⟨_, rfl⟩ (.cons ⟨_, rfl⟩ .nil)) (Heap.get?_push_size s.heap rfl) rfl rfl), rfl, q _ _ hn ⟨_, ⟨rfl, rfl⟩, rfl⟩⟩
end
def rRepU (K : PySem.W.Frag) : R2 := fun x y H Q => ∃ l k xs, x = .ref l ∧ y = .int k ∧ SqT K H l xs ∧ xs ≠ [] ∧ 2 ≤ k ∧ k ≤ 1000 ∧ xs.length ≤ 1000 ∧ ∀ p u, H p = none → TupH u (List.replicate k.toNat xs).flatten → Q (.ref p) (upd H p u)
section
variable {X : Cx}
theorem op_repU : OpR X (binaryOp .Mult) (rRepU X.K) := by
  intro pins s σ H x y v u Q I rx ry h
  obtain ⟨l, k, xs, rfl, rfl, hT, hne, h1, h2, hz, q⟩ := h
  cases rx
  obtain ⟨t, rfl⟩ := ry
  obtain ⟨its, r, ⟨⟨cls, dd, data, sl⟩, ho, hc, n, hd⟩, hs⟩ := I.tuple hT
  simp only at hc hd
  subst hc hd
  have hle : its.length = xs.length := r.length.symm
  have hn : its ≠ [] := fun e => hne (by
    rw [e] at hle
    exact List.eq_nil_of_length_eq_zero hle.symm)
  have hi : its.toArray.isEmpty = false := by
    cases its with
    | nil => exact absurd rfl hn
    | cons a b => rfl
  have hsz0 : its.toArray.size = xs.length := by rw [List.size_toArray, hle]
  have hm : ((its.toArray.size : Nat) : Int) * k ≤ 1000000 := by
    rw [hsz0]
    have a1 : ((xs.length : Nat) : Int) * k ≤ 1000 * k := Int.mul_le_mul_of_nonneg_right (by omega) (by omega)
    omega
  have flen : (List.replicate k.toNat its).flatten.length ≤ sizeLine := by
    rw [PyProof.Rows.lm_len_rep_flat, hle, sizeLine_eq]
    have a1 : k.toNat * xs.length ≤ 1000 * 1000 := Nat.mul_le_mul (by omega) hz
    omega
  have c0 : (decide (k < -(2 ^ 63)) || decide (k ≥ 2 ^ 63)) = false := by
    rw [decide_eq_false (by omega), decide_eq_false (by omega)] <;> rfl
  have c1 : (its.toArray.isEmpty || k == 1) = false := by
    rw [hi, Bool.false_or]
    exact beq_eq_false_iff_ne.mpr (by omega)
  have c2 : (decide (k ≤ 0) || its.toArray.isEmpty) = false := by
    rw [hi, Bool.or_false]
    exact decide_eq_false (by omega)
  have c4 : Builtin.Tuple.tupleTooMany (((its.toArray.size : Nat) : Int) * k) = false := by
    unfold Builtin.Tuple.tupleTooMany
    rw [sizeLine_eq]
    exact decide_eq_false (by omega)
  refine wpAny_binaryOp_repeat_ref (T := "tuple") (U := "int") (by decide) ⟨_, ho, rfl⟩ (fun s' => typeIs_int s' k t) noFill_tuple_mul F.fills_int_mul F.slot_int_rmul repeat_tuple F.slot_int_index.lookup
    (call_meets F.slot_int_rmul (typeIs_int s k t) F.entry_int_rmul (F.args_int_rmul_2 _ _) (int_rmul_tuple k t l its.toArray n dd sl)
      ⟨ho, rfl, ⟨_, ho, rfl⟩, call_meets F.slot_tuple_mul ⟨_, ho, rfl⟩ F.entry_tuple_mul (F.args_tuple_mul_2 _ _) (tuple_mulW l its.toArray n dd sl k t c0 c1 c2 (by omega) c4 (by rw [size_rep, List.size_toArray]; exact flen)) ⟨ho, ?_⟩⟩)
  rw [size_rep]
  have a1 : k.toNat * xs.length ≤ 1000 * 1000 := Nat.mul_le_mul (by omega) hz
  refine ⟨.ref s.heap.objs.size, _, I.laid (t' := s.toks) (o := .frz _ (.tup (List.replicate k.toNat xs).flatten)) (fun b ob q => Heap.get?_push_of_some _ q) (Nat.le_refl _) (okU (by rw [PyProof.Rows.lm_len_rep_flat, sizeLine_eq]; omega) (r.rep k.toNat) (Heap.get?_push_size _ rfl) rfl rfl), rfl, q _ _ (I.hok.fresh (Nat.le_refl _)) ⟨_, ⟨rfl, rfl⟩, rfl⟩⟩
end
end TL
/-! the tree layer, 1: data trees, the partial monad, what stands for what -/
namespace TL
open PySem PySem.Spec PyProof.Rows L2
abbrev D := PyData
/-- nothing said, an exception of the class named c, a value -/
inductive R (α : Type) where
  | no
  | ex (c : Str)
  | ok (a : α)
namespace R
def bind {α β : Type} : R α → (α → R β) → R β
  | .no, _ => .no
  | .ex c, _ => .ex c
  | .ok a, f => f a
@[simp] theorem ok_bind {α β : Type} (a : α) (f : α → R β) : bind (.ok a) f = f a := rfl
@[simp] theorem no_bind {α β : Type} (f : α → R β) : bind (.no : R α) f = .no := rfl
@[simp] theorem ex_bind {α β : Type} (c : Str) (f : α → R β) : bind (.ex c : R α) f = .ex c := rfl
theorem bind_assoc {α β γ : Type} (m : R α) (f : α → R β) (g : β → R γ) : bind (bind m f) g = bind m fun a => bind (f a) g := by cases m <;> rfl
@[simp] theorem bind_ok {α : Type} (m : R α) : bind m (fun a => .ok a) = m := by cases m <;> rfl
end R
/-- the slots' trees, by number -/
abbrev En := List (Option D)
def getN {α : Type} : List (Option α) → Nat → Option α
  | [], _ => none
  | x :: _, 0 => x
  | _ :: xs, n + 1 => getN xs n
def setN {α : Type} : List (Option α) → Nat → Option α → List (Option α)
  | [], _, _ => []
  | _ :: xs, 0, v => v :: xs
  | x :: xs, n + 1, v => x :: setN xs n v
theorem getN_setN_same {α : Type} {v w : Option α} : ∀ {xs : List (Option α)} {i : Nat} {t : α}, getN (setN xs i v) i = some t → v = some t
  | [], _, _, h => by cases h
  | _ :: _, 0, _, h => h
  | _ :: xs, n + 1, _, h => getN_setN_same (w := w) (xs := xs) (i := n) h
theorem getN_setN_ne {α : Type} {v : Option α} : ∀ {xs : List (Option α)} {i j : Nat}, j ≠ i → getN (setN xs i v) j = getN xs j
  | [], _, _, _ => rfl
  | _ :: _, 0, 0, h => absurd rfl h
  | _ :: _, 0, _ + 1, _ => rfl
  | _ :: _, _ + 1, 0, _ => rfl
  | _ :: xs, i + 1, j + 1, h => getN_setN_ne (xs := xs) fun e => h (by rw [e])
theorem getN_lt {α : Type} : ∀ {xs : List (Option α)} {i : Nat} {t : α}, getN xs i = some t → i < xs.length
  | [], _, _, h => by cases h
  | _ :: _, 0, _, _ => Nat.succ_pos _
  | _ :: xs, n + 1, _, h => Nat.succ_lt_succ (getN_lt (xs := xs) (i := n) h)
/-! ### what stands for a tree in a heap -/
def keyD : Key → D
  | .inl i => .int i
  | .inr x => .str x
mutual
inductive Rep (K : PySem.W.Frag) (G : Hp) : V → D → Prop
  | non : Rep K G .non .none
  | bl (b : Bool) : Rep K G (.bl b) (.bool b)
  | int (i : Int) : Rep K G (.int i) (.int i)
  | str (x : Str) : Rep K G (.str x) (.str x)
  | lst {a : Addr} {xs : List V} {ds : List D} : G a = some (.lst xs) → RepAll K G xs ds → Rep K G (.ref a) (.list ds)
  | tup {a : Addr} {xs : List V} {ds : List D} : SqU K G a xs → RepAll K G xs ds → Rep K G (.ref a) (.tuple ds)
  | dK {a : Addr} {kvs : List (Key × V)} {es : List (D × D)} : Rd G a (.dK kvs) → es.map (·.1) = kvs.map (fun p => keyD p.1) → RepAll K G (kvs.map (·.2)) (es.map (·.2)) → Rep K G (.ref a) (.dict es)
  | dT {a : Addr} {kvs : List (List Key × V)} {es : List (D × D)} : G a = some (.dT kvs) → es.map (·.1) = kvs.map (fun p => .tuple (p.1.map keyD)) → RepAll K G (kvs.map (·.2)) (es.map (·.2)) → Rep K G (.ref a) (.dict es)
  /-- the script: read by its places, its length told -/
  | scr {a : Addr} {ns : List Int} : SqL K G a (ns.map V.int) → Rep K G (.ref a) (.dict [(.none, .list (ns.map .int))])
  /-- an exception that is handled: its class's name, its address -/
  | exc {a : Addr} {c : Str} : Rep K G (.ref a) (.dict [(.none, .tuple [.str c, .int (a : Nat)])])
inductive RepAll (K : PySem.W.Frag) (G : Hp) : List V → List D → Prop
  | nil : RepAll K G [] []
  | cons {v : V} {vs : List V} {d : D} {ds : List D} : Rep K G v d → RepAll K G vs ds → RepAll K G (v :: vs) (d :: ds)
end
theorem RepAll.length {K : PySem.W.Frag} {G : Hp} : ∀ {vs : List V} {ds : List D}, RepAll K G vs ds → vs.length = ds.length
  | _, _, .nil => rfl
  | _, _, .cons _ t => congrArg (· + 1) (RepAll.length t)
theorem RepAll.get {K : PySem.W.Frag} {G : Hp} : ∀ {vs : List V} {ds : List D} {i : Nat} {d : D}, RepAll K G vs ds → ds[i]? = some d → ∃ v, vs[i]? = some v ∧ Rep K G v d
  | _, _, _, _, .nil, h => by simp at h
  | _, _, 0, _, .cons r _, h => by
    simp at h
    subst h
    exact ⟨_, rfl, r⟩
  | _, _, i + 1, d, .cons _ t, h => by
    obtain ⟨v, e, r⟩ := RepAll.get (i := i) (d := d) t (by simpa using h)
    exact ⟨v, by simpa using e, r⟩
theorem RepAll.append {K : PySem.W.Frag} {G : Hp} : ∀ {vs ws : List V} {ds es : List D}, RepAll K G vs ds → RepAll K G ws es → RepAll K G (vs ++ ws) (ds ++ es)
  | _, _, _, _, .nil, s => s
  | _, _, _, _, .cons r t, s => .cons r (RepAll.append t s)
theorem RepAll.take {K : PySem.W.Frag} {G : Hp} : ∀ {vs : List V} {ds : List D} (n : Nat), RepAll K G vs ds → RepAll K G (vs.take n) (ds.take n)
  | _, _, 0, _ => .nil
  | _, _, _ + 1, .nil => .nil
  | _, _, n + 1, .cons r t => .cons r (RepAll.take n t)
theorem RepAll.drop {K : PySem.W.Frag} {G : Hp} : ∀ {vs : List V} {ds : List D} (n : Nat), RepAll K G vs ds → RepAll K G (vs.drop n) (ds.drop n)
  | _, _, 0, r => r
  | _, _, _ + 1, .nil => .nil
  | _, _, n + 1, .cons _ t => RepAll.drop n t
theorem RepAll.reverse {K : PySem.W.Frag} {G : Hp} : ∀ {vs : List V} {ds : List D}, RepAll K G vs ds → RepAll K G vs.reverse ds.reverse
  | _, _, .nil => .nil
  | _, _, .cons r t => by
    rw [List.reverse_cons, List.reverse_cons]
    exact RepAll.append (RepAll.reverse t) (.cons r .nil)
theorem RepAll.set {K : PySem.W.Frag} {G : Hp} {v : V} {d : D} (q : Rep K G v d) : ∀ {vs : List V} {ds : List D} (i : Nat), RepAll K G vs ds → RepAll K G (vs.set i v) (ds.set i d)
  | _, _, _, .nil => .nil
  | _, _, 0, .cons _ t => .cons q t
  | _, _, i + 1, .cons r t => .cons r (RepAll.set q i t)
theorem same_lst {K : PySem.W.Frag} {H H' : Hp} (s : Same H H') {a : Addr} {xs : List V} (h : H a = some (.lst xs)) : SqL K H' a xs := .of (s _ _ h)
theorem same_rd {H H' : Hp} (s : Same H H') {a : Addr} {u : HO} (h : Rd H a u) : Rd H' a u := by
  rcases h with h | ⟨o, h⟩
  · exact .inl (s _ _ h)
  · exact .inr ⟨o, s _ _ h⟩
theorem same_seqT {K : PySem.W.Frag} {H H' : Hp} {a : Addr} {xs : List V} (e : Same H H') (h : SqU K H a xs) : SqT K H' a xs := (h.same e).t
theorem same_sqT {K : PySem.W.Frag} {H H' : Hp} {a : Addr} {xs : List V} (e : Same H H') (h : SqT K H a xs) : SqT K H' a xs := by
  rcases h with h | h
  · exact .inl (same_rd e h)
  · exact .inr h
mutual
theorem Rep.mono {K : PySem.W.Frag} {G G' : Hp} (s : Same G G') : ∀ {v : V} {d : D}, Rep K G v d → Rep K G' v d
  | _, _, .non => .non
  | _, _, .bl b => .bl b
  | _, _, .int i => .int i
  | _, _, .str x => .str x
  | _, _, .lst h r => .lst (s _ _ h) (RepAll.mono s r)
  | _, _, .tup h r => .tup (h.same s) (RepAll.mono s r)
  | _, _, .dK h e r => .dK (same_rd s h) e (RepAll.mono s r)
  | _, _, .dT h e r => .dT (s _ _ h) e (RepAll.mono s r)
  | _, _, .scr h => .scr (s.seq h)
  | _, _, .exc => .exc
theorem RepAll.mono {K : PySem.W.Frag} {G G' : Hp} (s : Same G G') : ∀ {vs : List V} {ds : List D}, RepAll K G vs ds → RepAll K G' vs ds
  | _, _, .nil => .nil
  | _, _, .cons r t => .cons (Rep.mono s r) (RepAll.mono s t)
end
mutual
def flat : D → Bool
  | .list xs => flatAll xs
  | .tuple xs => flatAll xs
  | .dict _ => false
  | _ => true
def flatAll : List D → Bool
  | [] => true
  | x :: xs => flat x && flatAll xs
end
mutual
theorem Rep.dp {K : PySem.W.Frag} {G : Hp} : ∀ {v : V} {d : D}, Rep K G v d → flat d = true → Dp K G v d
  | _, _, .non, _ => .non
  | _, _, .bl b, _ => .bl b
  | _, _, .int i, _ => .int i
  | _, _, .str x, _ => .str x
  | _, _, .lst h r, f => .lst (.of h) (RepAll.dp r (by simpa [flat] using f))
  | _, _, .tup h r, f => .tup h.t (RepAll.dp r (by simpa [flat] using f))
  | _, _, .dK _ _ _, f => by simp [flat] at f
  | _, _, .dT _ _ _, f => by simp [flat] at f
  | _, _, .scr _, f => by simp [flat] at f
  | _, _, .exc, f => by simp [flat] at f
theorem RepAll.dp {K : PySem.W.Frag} {G : Hp} : ∀ {vs : List V} {ds : List D}, RepAll K G vs ds → flatAll ds = true → DpAll K G vs ds
  | _, _, .nil, _ => .nil
  | _, _, .cons (d := d) (ds := ds) r t, f => by
    have f' : flat d = true ∧ flatAll ds = true := by simpa [flatAll] using f
    exact .cons (Rep.dp r f'.1) (RepAll.dp t f'.2)
end
mutual
def noL : D → Bool
  | .list _ => false
  | .tuple xs => noLAll xs
  | .dict _ => false
  | _ => true
def noLAll : List D → Bool
  | [] => true
  | x :: xs => noL x && noLAll xs
end
/-- the heap without the objects at p -/
def cutH (G : Hp) (p : Addr → Prop) [DecidablePred p] : Hp := fun b => if p b then none else G b
theorem cutH_same (G : Hp) (p : Addr → Prop) [DecidablePred p] : Same (cutH G p) G := fun b o h => by
  unfold cutH at h
  split at h
  · cases h
  · exact h
theorem cutH_of {G : Hp} {p : Addr → Prop} [DecidablePred p] {b : Addr} {o : HO} (h : G b = some o) (n : ¬ p b) : cutH G p b = some o := by
  unfold cutH
  rw [if_neg n]
  exact h
theorem cutH_none {G : Hp} {p : Addr → Prop} [DecidablePred p] {b : Addr} (n : p b) : cutH G p b = none := by
  unfold cutH
  rw [if_pos n]
theorem cutH_free {G : Hp} {p : Addr → Prop} [DecidablePred p] {b : Addr} (h : G b = none) : cutH G p b = none := by
  unfold cutH
  split
  · rfl
  · exact h
/-- an object that is no tuple -/
def NotTup : Option HO → Prop
  | some (.tup _) => False
  | some (.frz _ (.tup _)) => False
  | _ => True
mutual
theorem Rep.cut {K : PySem.W.Frag} {G : Hp} {p : Addr → Prop} [DecidablePred p] (np : ∀ b, p b → NotTup (G b)) : ∀ {v : V} {d : D}, Rep K G v d → noL d = true → Rep K (cutH G p) v d
  | _, _, .non, _ => .non
  | _, _, .bl b, _ => .bl b
  | _, _, .int i, _ => .int i
  | _, _, .str x, _ => .str x
  | _, _, .lst h r, f => by simp [noL] at f
  | _, _, .tup (a := a) h r, f => by
    refine .tup ?_ (RepAll.cut np r (by simpa [noL] using f))
    rcases h with ⟨u, h, o, t, rfl⟩ | h
    · exact .inl ⟨_, cutH_of h fun q => by
        have := np a q
        rw [h] at this
        exact this, o, t, rfl⟩
    · exact .inr h
  | _, _, .dK _ _ _, f => by simp [noL] at f
  | _, _, .dT _ _ _, f => by simp [noL] at f
  | _, _, .scr _, f => by simp [noL] at f
theorem RepAll.cut {K : PySem.W.Frag} {G : Hp} {p : Addr → Prop} [DecidablePred p] (np : ∀ b, p b → NotTup (G b)) : ∀ {vs : List V} {ds : List D}, RepAll K G vs ds → noLAll ds = true → RepAll K (cutH G p) vs ds
  | _, _, .nil, _ => .nil
  | _, _, .cons (d := d) (ds := ds) r t, f => by
    have f' : noL d = true ∧ noLAll ds = true := by simpa [noLAll] using f
    exact .cons (Rep.cut np r f'.1) (RepAll.cut np t f'.2)
end
end TL
/-! the tree layer, 2: expressions that change nothing -/
namespace TL
open PySem PySem.Spec PyProof.Rows L2
/-- the slots hold the trees -/
structure Ep (K : PySem.W.Frag) (G : Hp) (ρ : En) (σ : L2.St) : Prop where
  len : ρ.length = σ.length
  at_ : ∀ i t, getN ρ i = some t → ∃ v, σ[i]? = some (some v) ∧ Rep K G v t
theorem Ep.mono {K : PySem.W.Frag} {G G' : Hp} {ρ : En} {σ : L2.St} (s : Same G G') (h : Ep K G ρ σ) : Ep K G' ρ σ := ⟨h.len, fun i t e => by
  obtain ⟨v, q, r⟩ := h.at_ i t e
  exact ⟨v, q, r.mono s⟩⟩
theorem setN_length {α : Type} {v : Option α} : ∀ {xs : List (Option α)} {i : Nat}, (setN xs i v).length = xs.length
  | [], _ => rfl
  | _ :: _, 0 => rfl
  | _ :: xs, i + 1 => congrArg (· + 1) (setN_length (xs := xs) (i := i))
/-- a slot takes a value -/
theorem Ep.put {K : PySem.W.Frag} {G : Hp} {ρ : En} {σ : L2.St} (h : Ep K G ρ σ) {i : Nat} {v : V} {d : D} (r : Rep K G v d) : Ep K G (setN ρ i (some d)) (σ.set i (some v)) := by
  refine ⟨by rw [setN_length, List.length_set]; exact h.len, fun j t e => ?_⟩
  by_cases hj : j = i
  · subst hj
    have hlt : j < σ.length := by
      have := getN_lt e
      rw [setN_length, h.len] at this
      exact this
    have e2 := getN_setN_same (w := some d) e
    cases e2
    exact ⟨v, by rw [List.getElem?_set_self hlt], r⟩
  · rw [getN_setN_ne hj] at e
    obtain ⟨w, q, r2⟩ := h.at_ j t e
    exact ⟨w, by rw [List.getElem?_set_ne (Ne.symm hj)]; exact q, r2⟩
/-- a slot is forgotten, whatever it holds -/
theorem Ep.drop {K : PySem.W.Frag} {G : Hp} {ρ : En} {σ : L2.St} (h : Ep K G ρ σ) {i : Nat} {o : Option V} : Ep K G (setN ρ i none) (σ.set i o) := by
  refine ⟨by rw [setN_length, List.length_set]; exact h.len, fun j t e => ?_⟩
  by_cases hj : j = i
  · subst hj
    have e2 := getN_setN_same (w := none) e
    cases e2
  · rw [getN_setN_ne hj] at e
    obtain ⟨w, q, r2⟩ := h.at_ j t e
    exact ⟨w, by rw [List.getElem?_set_ne (Ne.symm hj)]; exact q, r2⟩
/-- less is known -/
theorem Ep.less {K : PySem.W.Frag} {G : Hp} {ρ ρ' : En} {σ : L2.St} (h : Ep K G ρ σ) (hl : ρ'.length = ρ.length) (hs : ∀ i t, getN ρ' i = some t → getN ρ i = some t) : Ep K G ρ' σ :=
  ⟨hl.trans h.len, fun i t e => h.at_ i t (hs i t e)⟩
/-- behind an expression: what was stays, what is newly frozen is new -/
structure Fr (G H G' H' : Hp) : Prop where
  gg : Same G G'
  gh : Same G' H'
  hh : Same H H'
  nw : ∀ b, G b = none → H b ≠ none → G' b = none
theorem Fr.refl {G H : Hp} (s : Same G H) : Fr G H G H := ⟨Same.refl _, s, Same.refl _, fun _ h _ => h⟩
theorem Fr.trans {G H G1 H1 G2 H2 : Hp} (a : Fr G H G1 H1) (b : Fr G1 H1 G2 H2) : Fr G H G2 H2 :=
  ⟨a.gg.trans b.gg, b.gh, a.hh.trans b.hh, fun c h1 h2 => b.nw c (a.nw c h1 h2) (by
    cases q : H c with
    | none => exact absurd q h2
    | some o => rw [a.hh _ _ q]; exact fun z => by cases z)⟩
/-- a new frozen object -/
theorem Fr.new {G H : Hp} (s : Same G H) {p : Addr} {o : HO} (h : H p = none) : Fr G H (upd G p o) (upd H p o) := by
  have hg : G p = none := s.free h
  refine ⟨fun b x e => ?_, fun b x e => ?_, fun b x e => ?_, fun b h1 h2 => ?_⟩
  · rw [upd_ne (ne_of_none e hg)]; exact e
  · by_cases hb : b = p
    · subst hb
      rw [upd_same] at e ⊢
      exact e
    · rw [upd_ne hb] at e ⊢
      exact s _ _ e
  · rw [upd_ne (ne_of_none e h)]; exact e
  · by_cases hb : b = p
    · subst hb
      exact absurd h h2
    · rw [upd_ne hb]; exact h1
/-- the class that a name of the module holds -/
def cls (mg : Str → Option Value) (c : Str) : Value := (mg c).getD .none
def PostP {α β : Type} (Rp : PySem.W.Frag → Hp → β → α → Prop) (K : PySem.W.Frag) (mg : Str → Option Value) (E : XK) (G H : Hp) (m : R α) (Q : β → Hp → Prop) : Prop :=
  match m with
  | .no => False
  | .ex c => ∀ H', Same H H' → E (cls mg c) none H'
  | .ok t => ∀ v G' H', Fr G H G' H' → Rp K G' v t → Q v H'
theorem PostP.mono {α β : Type} {Rp : PySem.W.Frag → Hp → β → α → Prop} {K : PySem.W.Frag} {mg : Str → Option Value} {E : XK} {G H : Hp} {m : R α} {Q Q' : β → Hp → Prop} (h : PostP Rp K mg E G H m Q) (f : ∀ v H, Q v H → Q' v H) : PostP Rp K mg E G H m Q' := by
  cases m with
  | no => exact h
  | ex c => exact h
  | ok t => exact fun v G' H' a b => f _ _ (h v G' H' a b)
/-- the first part ran: then the second -/
theorem PostP.bind {α β γ δ : Type} {Rp : PySem.W.Frag → Hp → β → α → Prop} {Rq : PySem.W.Frag → Hp → δ → γ → Prop} {K : PySem.W.Frag} {mg : Str → Option Value} {E : XK} {G H : Hp} {m : R α} {f : α → R γ} {Q : δ → Hp → Prop}
    (h : PostP Rq K mg E G H (m.bind f) Q) : PostP Rp K mg E G H m fun v H1 => ∃ G1 t, Fr G H G1 H1 ∧ Rp K G1 v t ∧ m = .ok t ∧ PostP Rq K mg E G1 H1 (f t) Q := by
  cases m with
  | no => exact h
  | ex c => exact h
  | ok t =>
    intro v G1 H1 fr r
    refine ⟨G1, t, fr, r, rfl, ?_⟩
    have h' : PostP Rq K mg E G H (f t) Q := h
    cases e : f t with
    | no => rw [e] at h'; exact h'
    | ex c => rw [e] at h'; exact fun H' s => h' H' (fr.hh.trans s)
    | ok u => rw [e] at h'; exact fun w G2 H2 fr2 r2 => h' w G2 H2 (fr.trans fr2) r2
def rdP (K : PySem.W.Frag) (mg : Str → Option Value) (E : XK) (ρ : En) (m : R D) : TE := fun σ H Q => ∃ G, Same G H ∧ Ep K G ρ σ ∧ PostP Rep K mg E G H m Q
def rdA (K : PySem.W.Frag) (mg : Str → Option Value) (E : XK) (ρ : En) (m : R (List D)) : TA := fun σ H Q => ∃ G, Same G H ∧ Ep K G ρ σ ∧ PostP RepAll K mg E G H m Q
def RepB (_ : PySem.W.Frag) (_ : Hp) (b : Bool) (c : Bool) : Prop := b = c
def rdB (K : PySem.W.Frag) (mg : Str → Option Value) (E : XK) (ρ : En) (m : R Bool) : TT := fun σ H Q => ∃ G, Same G H ∧ Ep K G ρ σ ∧ PostP RepB K mg E G H m Q
/-- an expression, what it gives -/
abbrev XP (X : Cx) (E : XK) (ρ : En) (e : Expr) (m : R D) : Prop := PE X e (rdP X.K X.mg E ρ m)
abbrev XB (X : Cx) (E : XK) (ρ : En) (e : Expr) (m : R Bool) : Prop := PT X e (rdB X.K X.mg E ρ m)
abbrev XW (X : Cx) (E : XK) (ρ : En) (e : Expr) (m : R Bool) : Prop := PW X e (rdB X.K X.mg E ρ m)
abbrev XA (X : Cx) (E : XK) (ρ : En) (es : List Expr) (m : R (List D)) : Prop := PA X es (rdA X.K X.mg E ρ m)
theorem pe_weak {X : Cx} {e : Expr} {t t' : TE} (h : PE X e t) (f : ∀ σ H Q, t' σ H Q → t σ H Q) : PE X e t' := ⟨fun pins s σ H Q I q => h.run pins s σ H Q I (f _ _ _ q)⟩
theorem pt_weak {X : Cx} {e : Expr} {t t' : TT} (h : PT X e t) (f : ∀ σ H Q, t' σ H Q → t σ H Q) : PT X e t' := ⟨fun pins s σ H Q I q => h.run pins s σ H Q I (f _ _ _ q)⟩
theorem pw_weak {X : Cx} {e : Expr} {t t' : TT} (h : PW X e t) (f : ∀ σ H Q, t' σ H Q → t σ H Q) : PW X e t' := ⟨fun wh pins s σ H Q I q => h.run wh pins s σ H Q I (f _ _ _ q)⟩
theorem pa_weak {X : Cx} {es : List Expr} {t t' : TA} (h : PA X es t) (f : ∀ σ H Q, t' σ H Q → t σ H Q) : PA X es t' := ⟨fun pos pins s σ H Q I q => h.run pos pins s σ H Q I (f _ _ _ q)⟩
section
variable {X : Cx} {E : XK} {ρ : En} {a b c : Expr} {ma mb mc : R D} {pos : Pos}
/-! ### names, constants -/
theorem ep_var {x : Str} (i : Nat) {d : D} (hρ : getN ρ i = some d := by rfl) (hN : X.N[i]? = some x := by rfl) (hv : Vis X.env.scope x := by first | exact Or.inl rfl | exact Or.inr (Or.inl rfl) | exact Or.inr (Or.inr rfl)) (hd : (x == ("__debug__" : Str)) = false := by decide)
    (hcd : (x == ("__classdict__" : Str)) = false := by decide) : XP X E ρ (.Name x pos) (.ok d) :=
  pe_weak (pe_var hN hv hd hcd) fun σ H Q ⟨G, s, h, q⟩ => by
    obtain ⟨v, e, r⟩ := h.at_ i d hρ
    exact ⟨v, e, q v G H (Fr.refl s) r⟩
theorem ep_int {i j pos} : XP X E ρ (.Constant (.int i) j pos) (.ok (.int i)) := pe_weak pe_int fun σ H Q ⟨G, s, h, q⟩ => q _ G H (Fr.refl s) (.int i)
theorem ep_bool {i j pos} : XP X E ρ (.Constant (.bool i) j pos) (.ok (.bool i)) := pe_weak pe_bl fun σ H Q ⟨G, s, h, q⟩ => q _ G H (Fr.refl s) (.bl i)
theorem ep_none {j pos} : XP X E ρ (.Constant .none j pos) (.ok .none) := pe_weak pe_non fun σ H Q ⟨G, s, h, q⟩ => q _ G H (Fr.refl s) .non
theorem ep_str {i j pos} : XP X E ρ (.Constant (.str i) j pos) (.ok (.str i)) := pe_weak pe_str fun σ H Q ⟨G, s, h, q⟩ => q _ G H (Fr.refl s) (.str i)
/-! ### operators by trees -/
def r2 (K : PySem.W.Frag) (mg : Str → Option Value) (E : XK) (f : D → D → R D) : R2 := fun x y H Q => ∃ G tx ty, Same G H ∧ Rep K G x tx ∧ Rep K G y ty ∧ PostP Rep K mg E G H (f tx ty) Q
def r1t (K : PySem.W.Frag) (mg : Str → Option Value) (E : XK) (f : D → R D) : V → Hp → VK → Prop := fun x H Q => ∃ G tx, Same G H ∧ Rep K G x tx ∧ PostP Rep K mg E G H (f tx) Q
def rLt (K : PySem.W.Frag) (mg : Str → Option Value) (E : XK) (f : List D → R D) : List V → Hp → VK → Prop := fun xs H Q => ∃ G ts, Same G H ∧ RepAll K G xs ts ∧ PostP Rep K mg E G H (f ts) Q
/-- an operator's rule by trees -/
abbrev OpD (X : Cx) (E : XK) (op : Value → Value → Sem Value) (f : D → D → R D) : Prop := OpR X op (r2 X.K X.mg E f)
abbrev UnD (X : Cx) (E : XK) (op : Value → Sem Value) (f : D → R D) : Prop := UnR X op (r1t X.K X.mg E f)
abbrev CallD (X : Cx) (E : XK) (g : Value) (f : List D → R D) : Prop := CallR X g (rLt X.K X.mg E f)
theorem two {σ : L2.St} {H : Hp} {Q : VK} {f : D → D → R D} (h : rdP X.K X.mg E ρ (ma.bind fun x => mb.bind fun y => f x y) σ H Q) :
    rdP X.K X.mg E ρ ma σ H fun x H1 => rdP X.K X.mg E ρ mb σ H1 fun y H2 => r2 X.K X.mg E f x y H2 Q := by
  obtain ⟨G, s, e, q⟩ := h
  refine ⟨G, s, e, (PostP.bind (Rp := Rep) q).mono fun x H1 ⟨G1, t, fr, r, _, q1⟩ => ?_⟩
  refine ⟨G1, fr.gh, e.mono fr.gg, (PostP.bind (Rp := Rep) q1).mono fun y H2 ⟨G2, u, fr2, r2, _, q2⟩ => ?_⟩
  exact ⟨G2, t, u, fr2.gh, r.mono fr2.gg, r2, q2⟩
theorem ep_bin {op : Operator} {f : D → D → R D} (ho : OpD X E (binaryOp op) f) (ha : XP X E ρ a ma) (hb : XP X E ρ b mb) : XP X E ρ (.BinOp a op b pos) (ma.bind fun x => mb.bind fun y => f x y) :=
  pe_weak (pe_op ho ha hb) fun _ _ _ h => two h
theorem ep_un {op : UnaryOp} {f : D → R D} (ho : UnD X E (unaryOp op) f) (ha : XP X E ρ a ma) : XP X E ρ (.UnaryOp op a pos) (ma.bind f) :=
  pe_weak (pe_un ho ha) fun σ H Q h => by
    obtain ⟨G, s, e, q⟩ := h
    exact ⟨G, s, e, (PostP.bind (Rp := Rep) q).mono fun x H1 ⟨G1, t, fr, r, _, q1⟩ => ⟨G1, t, fr.gh, r, q1⟩⟩
theorem ep_cmp {op : CmpOp} {f : D → D → R D} (ho : OpD X E (compareOp op) f) (ha : XP X E ρ a ma) (hb : XP X E ρ b mb) (hm : behindInMarks op b = false := by first | exact nomark _ | rfl | with_unfolding_all rfl) :
    XP X E ρ (.Compare a [op] [b] pos) (ma.bind fun x => mb.bind fun y => f x y) := pe_weak (pe_cmpR ho ha hb hm) fun _ _ _ h => two h
/-! ### tests -/
def asB : D → R Bool
  | .bool b => .ok b
  | _ => .no
theorem eb_cmp {op : CmpOp} {f : D → D → R D} (ho : OpD X E (compareOp op) f) (ha : XP X E ρ a ma) (hb : XP X E ρ b mb) (hm : behindInMarks op b = false := by first | exact nomark _ | rfl | with_unfolding_all rfl) :
    XB X E ρ (.Compare a [op] [b] pos) (ma.bind fun x => mb.bind fun y => (f x y).bind asB) :=
  pt_weak (pt_cmpR ho ha hb hm) fun σ H Q h => by
    obtain ⟨G, s, e, q⟩ := h
    refine ⟨G, s, e, (PostP.bind (Rp := Rep) q).mono fun x H1 ⟨G1, t, fr, r, _, q1⟩ => ?_⟩
    refine ⟨G1, fr.gh, e.mono fr.gg, (PostP.bind (Rp := Rep) q1).mono fun y H2 ⟨G2, u, fr2, r2, _, q2⟩ => ?_⟩
    refine ⟨G2, t, u, fr2.gh, r.mono fr2.gg, r2, (PostP.bind (Rp := Rep) q2).mono fun z H3 ⟨G3, w, fr3, r3, _, q3⟩ => ?_⟩
    cases r3 with
    | bl k => exact ⟨k, rfl, q3 k G3 H3 (Fr.refl fr3.gh) rfl⟩
    | _ => exact q3.elim
/-- truth of any tree -/
def tru : D → R Bool
  | .none => .ok false
  | .bool b => .ok b
  | .int i => .ok (i != 0)
  | .str s => if s.length ≤ sizeLine then .ok ((s.length : Int) != 0) else .no
  | .list xs => .ok (!xs.isEmpty)
  | .tuple xs => .ok (!xs.isEmpty)
  | .dict _ => .no
theorem RepAll.isEmpty {K : PySem.W.Frag} {G : Hp} : ∀ {vs : List V} {ds : List D}, RepAll K G vs ds → vs.isEmpty = ds.isEmpty
  | _, _, .nil => rfl
  | _, _, .cons _ _ => rfl
theorem truV_of {K : PySem.W.Frag} {G H : Hp} {x : V} {t : D} (s : Same G H) (r : Rep K G x t) {k : Bool} (e : tru t = .ok k) : TruV K x H k := by
  cases r with
  | non => cases e; rfl
  | bl b => cases e; rfl
  | int i => cases e; rfl
  | str z =>
    simp only [tru] at e
    split at e
    · rename_i h
      cases e
      exact ⟨h, rfl⟩
    · cases e
  | lst h a =>
    cases e
    exact .inl ⟨_, same_lst s h, by rw [a.isEmpty]⟩
  | tup h a =>
    cases e
    exact .inr (.inl ⟨_, same_seqT s h, by rw [a.isEmpty]⟩)
  | dK _ _ _ => cases e
  | dT _ _ _ => cases e
  | scr _ => cases e
  | exc => cases e
theorem tru_post {K : PySem.W.Frag} {mg : Str → Option Value} {G H : Hp} {x : V} {t : D} {Q : Bool → Hp → Prop} (s : Same G H) (r : Rep K G x t) (q : PostP RepB K mg E G H (tru t) Q) : ∃ k, TruV K x H k ∧ Q k H := by
  cases e : tru t with
  | no => rw [e] at q; exact q.elim
  | ex c =>
    cases t with
    | str z =>
      simp only [tru] at e
      split at e <;> cases e
    | _ => cases e
  | ok k =>
    rw [e] at q
    exact ⟨k, truV_of s r e, q k G H (Fr.refl s) rfl⟩
theorem eb_val (ha : XP X E ρ a ma) (he : ∀ whole, isTrue a X.env whole = (do let v ← whole; standAt a.pos; holding [v] (truthy v)) := by intro _; rfl) : XB X E ρ a (ma.bind tru) :=
  pt_weak (pt_truth ha he) fun σ H Q h => by
    obtain ⟨G, s, e, q⟩ := h
    refine ⟨G, s, e, (PostP.bind (Rp := Rep) q).mono fun x H1 ⟨G1, t, fr, r, _, q1⟩ => tru_post fr.gh r q1⟩
theorem eb_not {m : R Bool} (ha : XB X E ρ a m) : XB X E ρ (.UnaryOp .Not a pos) (m.bind fun k => .ok (!k)) :=
  pt_weak (pt_not ha) fun σ H Q h => by
    obtain ⟨G, s, e, q⟩ := h
    refine ⟨G, s, e, (PostP.bind (Rp := RepB) q).mono fun x H1 ⟨G1, t, fr, r, _, q1⟩ => ?_⟩
    cases r
    exact q1 _ G1 H1 (Fr.refl fr.gh) rfl
theorem ew_and1 {m : R Bool} (ha : XB X E ρ a m) : XW X E ρ (.BoolOp .And [a] pos) m := pw_and1 ha
theorem ew_or1 {m : R Bool} (ha : XB X E ρ a m) : XW X E ρ (.BoolOp .Or [a] pos) m := pw_or1 ha
theorem ew_and {rest : List Expr} {m n : R Bool} (ha : XB X E ρ a m) (hb : XW X E ρ (.BoolOp .And (b :: rest) pos) n) : XW X E ρ (.BoolOp .And (a :: b :: rest) pos) (m.bind fun k => if k = true then n else .ok false) :=
  pw_weak (pw_and ha hb) fun σ H Q h => by
    obtain ⟨G, s, e, q⟩ := h
    refine ⟨G, s, e, (PostP.bind (Rp := RepB) q).mono fun x H1 ⟨G1, t, fr, r, _, q1⟩ => ?_⟩
    cases r
    cases x with
    | true =>
      rw [if_pos rfl]
      exact ⟨G1, fr.gh, e.mono fr.gg, q1⟩
    | false =>
      rw [if_neg Bool.false_ne_true]
      exact q1 _ G1 H1 (Fr.refl fr.gh) rfl
theorem ew_or {rest : List Expr} {m n : R Bool} (ha : XB X E ρ a m) (hb : XW X E ρ (.BoolOp .Or (b :: rest) pos) n) : XW X E ρ (.BoolOp .Or (a :: b :: rest) pos) (m.bind fun k => if k = true then .ok true else n) :=
  pw_weak (pw_or ha hb) fun σ H Q h => by
    obtain ⟨G, s, e, q⟩ := h
    refine ⟨G, s, e, (PostP.bind (Rp := RepB) q).mono fun x H1 ⟨G1, t, fr, r, _, q1⟩ => ?_⟩
    cases r
    cases x with
    | true =>
      rw [if_pos rfl]
      exact q1 _ G1 H1 (Fr.refl fr.gh) rfl
    | false =>
      rw [if_neg Bool.false_ne_true]
      exact ⟨G1, fr.gh, e.mono fr.gg, q1⟩
theorem eb_w {m : R Bool} (h : XW X E ρ a m) : XB X E ρ a m := PW.pt h
/-! ### and, or, not as values -/
theorem ep_one {op : BoolOp} (ha : XP X E ρ a ma) : XP X E ρ (.BoolOp op [a] pos) ma := pe_one ha
theorem ep_and {rest : List Expr} (ha : XP X E ρ a ma) (hb : XP X E ρ (.BoolOp .And (b :: rest) pos) mb) : XP X E ρ (.BoolOp .And (a :: b :: rest) pos) (ma.bind fun x => (tru x).bind fun k => if k = true then mb else .ok x) :=
  pe_weak (pe_andT ha hb) fun σ H Q h => by
    obtain ⟨G, s, e, q⟩ := h
    refine ⟨G, s, e, (PostP.bind (Rp := Rep) q).mono fun x H1 ⟨G1, t, fr, r, _, q1⟩ => ?_⟩
    obtain ⟨k, tk, q2⟩ := tru_post (E := E) fr.gh r (PostP.bind (Rp := RepB) q1)
    obtain ⟨G2, t2, fr2, rb, _, q3⟩ := q2
    cases rb
    refine ⟨k, tk, ?_⟩
    cases k with
    | true =>
      rw [if_pos rfl]
      exact ⟨G2, fr2.gh, (e.mono fr.gg).mono fr2.gg, q3⟩
    | false =>
      rw [if_neg Bool.false_ne_true]
      exact q3 _ G2 H1 (Fr.refl fr2.gh) (r.mono fr2.gg)
theorem ep_or {rest : List Expr} (ha : XP X E ρ a ma) (hb : XP X E ρ (.BoolOp .Or (b :: rest) pos) mb) : XP X E ρ (.BoolOp .Or (a :: b :: rest) pos) (ma.bind fun x => (tru x).bind fun k => if k = true then .ok x else mb) :=
  pe_weak (pe_orT ha hb) fun σ H Q h => by
    obtain ⟨G, s, e, q⟩ := h
    refine ⟨G, s, e, (PostP.bind (Rp := Rep) q).mono fun x H1 ⟨G1, t, fr, r, _, q1⟩ => ?_⟩
    obtain ⟨k, tk, q2⟩ := tru_post (E := E) fr.gh r (PostP.bind (Rp := RepB) q1)
    obtain ⟨G2, t2, fr2, rb, _, q3⟩ := q2
    cases rb
    refine ⟨k, tk, ?_⟩
    cases k with
    | true =>
      rw [if_pos rfl]
      exact q3 _ G2 H1 (Fr.refl fr2.gh) (r.mono fr2.gg)
    | false =>
      rw [if_neg Bool.false_ne_true]
      exact ⟨G2, fr2.gh, (e.mono fr.gg).mono fr2.gg, q3⟩
theorem ep_not (ha : XP X E ρ a ma) : XP X E ρ (.UnaryOp .Not a pos) (ma.bind fun x => (tru x).bind fun k => .ok (.bool (!k))) :=
  pe_weak (pe_notT ha) fun σ H Q h => by
    obtain ⟨G, s, e, q⟩ := h
    refine ⟨G, s, e, (PostP.bind (Rp := Rep) q).mono fun x H1 ⟨G1, t, fr, r, _, q1⟩ => ?_⟩
    obtain ⟨k, tk, q2⟩ := tru_post (E := E) fr.gh r (PostP.bind (Rp := RepB) q1)
    obtain ⟨G2, t2, fr2, rb, _, q3⟩ := q2
    cases rb
    exact ⟨k, tk, q3 _ G2 H1 (Fr.refl fr2.gh) (.bl _)⟩
/-- a < b < c -/
theorem ep_chain {op op' : CmpOp} {f g : D → D → R D} (ho : OpD X E (compareOp op) f) (ho' : OpD X E (compareOp op') g) (ha : XP X E ρ a ma) (hb : XP X E ρ b mb) (hc : XP X E ρ c mc) (hm : lastMarks [op, op'] [b, c] = false := by with_unfolding_all rfl) :
    XP X E ρ (.Compare a [op, op'] [b, c] pos) (ma.bind fun x => mb.bind fun y => (f x y).bind fun z => (asB z).bind fun k => if k = true then mc.bind fun u => g y u else .ok (.bool false)) :=
  pe_weak (pe_chain ho ho' ha hb hc hm) fun σ H Q h => by
    obtain ⟨G, s, e, q⟩ := h
    refine ⟨G, s, e, (PostP.bind (Rp := Rep) q).mono fun x H1 ⟨G1, t, fr, r, _, q1⟩ => ?_⟩
    have e1 := e.mono fr.gg
    refine ⟨G1, fr.gh, e1, (PostP.bind (Rp := Rep) q1).mono fun y H2 ⟨G2, u, fr2, r2, _, q2⟩ => ?_⟩
    have e2 := e1.mono fr2.gg
    refine ⟨G2, t, u, fr2.gh, r.mono fr2.gg, r2, (PostP.bind (Rp := Rep) q2).mono fun z H3 ⟨G3, w, fr3, r3, _, q3⟩ => ?_⟩
    have e3 := e2.mono fr3.gg
    cases r3 with
    | bl k =>
      refine ⟨k, rfl, ?_⟩
      cases k with
      | true =>
        rw [if_pos rfl]
        have q3' : PostP Rep X.K X.mg E G3 H3 (mc.bind fun u' => g u u') Q := q3
        refine ⟨G3, fr3.gh, e3, (PostP.bind (Rp := Rep) q3').mono fun w' H4 ⟨G4, u4, fr4, r4, _, q4⟩ => ?_⟩
        exact ⟨G4, u, u4, fr4.gh, (r2.mono fr3.gg).mono fr4.gg, r4, q4⟩
      | false =>
        rw [if_neg Bool.false_ne_true]
        exact q3 _ G3 H3 (Fr.refl fr3.gh) (.bl _)
    | _ => exact q3.elim
/-! ### argument lists -/
abbrev CP := (β : Type) → (List D → R β) → R β
def XAk (X : Cx) (E : XK) (ρ : En) (es : List Expr) (mk : CP) : Prop := ∃ m : R (List D), (∀ (β : Type) (k : List D → R β), mk β k = m.bind k) ∧ (∀ ts, m = .ok ts → ts.length = es.length) ∧ XA X E ρ es m
theorem ea_nil : XAk X E ρ [] (fun β k => k []) := ⟨.ok [], fun _ _ => rfl, fun _ h => by cases h; rfl, pa_weak pa_nil fun σ H Q h => by
  obtain ⟨G, s, e, q⟩ := h
  exact q [] G H (Fr.refl s) .nil⟩
theorem ea_cons {es : List Expr} {mk : CP} (ha : XP X E ρ a ma) (hr : XAk X E ρ es mk) (hs : starEach (a :: es) X.env = (false, eval a X.env) :: starEach es X.env := by rfl) : XAk X E ρ (a :: es) (fun β k => ma.bind fun x => mk β fun xs => k (x :: xs)) := by
  obtain ⟨m, e, hl, h⟩ := hr
  refine ⟨ma.bind fun x => m.bind fun xs => .ok (x :: xs), fun β k => ?_, fun ts he => ?_, pa_weak (pa_cons ha h hs) fun σ H Q hq => ?_⟩
  · show (ma.bind fun x => mk β fun xs => k (x :: xs)) = _
    rw [R.bind_assoc]
    congr 1
    funext x
    rw [e, R.bind_assoc]
    rfl
  · cases ma with
    | ok x =>
      cases m with
      | ok xs =>
        cases he
        exact congrArg (· + 1) (hl xs rfl)
      | _ => cases he
    | _ => cases he
  · obtain ⟨G, s, ep, q⟩ := hq
    refine ⟨G, s, ep, (PostP.bind (Rp := Rep) q).mono fun x H1 ⟨G1, t, fr, r, _, q1⟩ => ?_⟩
    refine ⟨G1, fr.gh, ep.mono fr.gg, (PostP.bind (Rp := RepAll) q1).mono fun xs H2 ⟨G2, ts, fr2, r2, _, q2⟩ => ?_⟩
    exact q2 _ G2 H2 (Fr.refl fr2.gh) (.cons (r.mono fr2.gg) r2)
/-! ### displays -/
theorem upd_seqT {K : PySem.W.Frag} {G : Hp} {p : Addr} {xs : List V} {u : HO} (t : TupH u xs) : SqU K (upd G p u) p xs := .of upd_same t
theorem same_new {G : Hp} {p : Addr} {o : HO} (h : G p = none) : Same G (upd G p o) := fun b x e => by
  rw [upd_ne (ne_of_none e h)]; exact e
/-- a new tuple of some -/
theorem rep_newT {K : PySem.W.Frag} {G H : Hp} {p : Addr} {vs : List V} {ts : List D} {u : HO} (s : Same G H) (h : H p = none) (t : TupH u vs) (r : RepAll K G vs ts) : Rep K (upd G p u) (.ref p) (.tuple ts) := .tup (upd_seqT t) (r.mono (same_new (s.free h)))
theorem rep_newL {K : PySem.W.Frag} {G H : Hp} {p : Addr} {vs : List V} {ts : List D} (s : Same G H) (h : H p = none) (r : RepAll K G vs ts) : Rep K (upd G p (.lst vs)) (.ref p) (.list ts) := .lst upd_same (r.mono (same_new (s.free h)))
theorem ep_tup {es : List Expr} {mk : CP} {x1} (h : XAk X E ρ es mk) (hl : es.length ≤ 1000 := by decide) : XP X E ρ (.Tuple es x1 pos) (mk D fun ts => .ok (.tuple ts)) := by
  obtain ⟨m, e, hl', h⟩ := h
  rw [e]
  refine pe_weak (pe_tupU h) fun σ H Q hq => ?_
  obtain ⟨G, s, ep, q⟩ := hq
  refine ⟨G, s, ep, (PostP.bind (Rp := RepAll) q).mono fun vs H1 ⟨G1, ts, fr, r, em, q1⟩ => ?_⟩
  · have hz : ts.length ≤ sizeLine := by
      rw [hl' ts em, sizeLine_eq]
      omega
    refine ⟨by rw [r.length]; exact hz, fun p u np tu => q1 _ _ _ (Fr.new fr.gh np) (rep_newT fr.gh np tu r)⟩
theorem ep_lst {es : List Expr} {mk : CP} (h : XAk X E ρ es mk) (hl : es.length ≤ 1000 := by decide) : XP X E ρ (.List es pos) (mk D fun ts => .ok (.list ts)) := by
  obtain ⟨m, e, hl', h⟩ := h
  rw [e]
  refine pe_weak (pe_lst h) fun σ H Q hq => ?_
  obtain ⟨G, s, ep, q⟩ := hq
  refine ⟨G, s, ep, (PostP.bind (Rp := RepAll) q).mono fun vs H1 ⟨G1, ts, fr, r, em, q1⟩ => ?_⟩
  · have hz : ts.length ≤ sizeLine := by
      rw [hl' ts em, sizeLine_eq]
      omega
    refine ⟨by rw [r.length]; exact hz, fun p np => q1 _ _ _ (Fr.new fr.gh np) (rep_newL fr.gh np r)⟩
/-! ### calls of built-in things by their names -/
theorem ep_callB {x : Str} {p : Pos} {id : String} {es : List Expr} {mk : CP} {f : List D → R D} (hc : CallD X E (.builtin id) f) (hm : X.mg x = none) (ha : XAk X E ρ (a :: es) mk) (hv : bootBuiltins x = some (.builtin id) := by decide +kernel) (hg : Gl X x := by rfl) (hn : x ≠ "__name__" := by decide)
    (hdb : (x == ("__debug__" : Str)) = false := by decide) (he : starEach (a :: es) X.env = (false, eval a X.env) :: starEach es X.env := by rfl) (hpl : (backTo pos (starEach es X.env)).any (·.1) = false := by rfl) : XP X E ρ (.Call (.Name x p) (a :: es) [] pos) (mk D f) := by
  obtain ⟨m, e, _, h⟩ := ha
  rw [e]
  refine pe_weak (pe_callB hc hg hm hv h hn hdb he hpl) fun σ H Q hq => ?_
  obtain ⟨G, s, ep, q⟩ := hq
  exact ⟨G, s, ep, (PostP.bind (Rp := RepAll) q).mono fun vs H1 ⟨G1, ts, fr, r, _, q1⟩ => ⟨G1, ts, fr.gh, r, q1⟩⟩
theorem ep_callT {x : Str} {p : Pos} {T : String} {es : List Expr} {mk : CP} {f : List D → R D} (hc : CallD X E (.type T) f) (hm : X.mg x = none) (ha : XAk X E ρ (a :: es) mk) (hv : bootBuiltins x = some (.type T) := by decide +kernel) (hg : Gl X x := by rfl) (hn : x ≠ "__name__" := by decide)
    (hdb : (x == ("__debug__" : Str)) = false := by decide) (he : starEach (a :: es) X.env = (false, eval a X.env) :: starEach es X.env := by rfl) (hpl : (backTo pos (starEach es X.env)).any (·.1) = false := by rfl) : XP X E ρ (.Call (.Name x p) (a :: es) [] pos) (mk D f) := by
  obtain ⟨m, e, _, h⟩ := ha
  rw [e]
  refine pe_weak (pe_callTy hc hg hm hv h hn hdb he hpl) fun σ H Q hq => ?_
  obtain ⟨G, s, ep, q⟩ := hq
  exact ⟨G, s, ep, (PostP.bind (Rp := RepAll) q).mono fun vs H1 ⟨G1, ts, fr, r, _, q1⟩ => ⟨G1, ts, fr.gh, r, q1⟩⟩
/-! ### subscripts, slices -/
abbrev IxD (X : Cx) (E : XK) (f : D → D → R D) : Prop := IxR X (r2 X.K X.mg E f)
theorem ep_ix {f : D → D → R D} (hr : IxD X E f) (ha : XP X E ρ a ma) (hb : XP X E ρ b mb) (hs : PlainIx b := by exact fun _ _ => rfl) : XP X E ρ (.Subscript a b pos) (ma.bind fun x => mb.bind fun y => f x y) :=
  pe_weak (pe_ix hr ha hb hs) fun _ _ _ h => two h
end
end TL
/-! the tree layer, 3: operators by trees -/
namespace TL
open PySem PySem.Spec PyProof.Rows L2
section
variable {K : PySem.W.Frag} {mg : Str → Option Value} {E : XK} {G H : Hp} {Q : VK}
/-- an answer without new objects -/
theorem PostP.now {t : D} {v : V} (s : Same G H) (r : Rep K G v t) (q : PostP Rep K mg E G H (.ok t) Q) : Q v H := q v G H (Fr.refl s) r
theorem PostP.newT {vs : List V} {ts : List D} (s : Same G H) (r : RepAll K G vs ts) (q : PostP Rep K mg E G H (.ok (.tuple ts)) Q) : ∀ p u, H p = none → TupH u vs → Q (.ref p) (upd H p u) := fun p u np tu => q _ _ _ (Fr.new s np) (rep_newT s np tu r)
theorem PostP.newL {vs : List V} {ts : List D} (s : Same G H) (r : RepAll K G vs ts) (q : PostP Rep K mg E G H (.ok (.list ts)) Q) : ∀ p, H p = none → Q (.ref p) (upd H p (.lst vs)) := fun p np => q _ _ _ (Fr.new s np) (rep_newL s np r)
theorem dp_of {v : V} {d : D} (s : Same G H) (r : Rep K G v d) (f : flat d = true) : Dp K H v d := (r.mono s).dp f
end
mutual
theorem flat_plain : ∀ d : D, flat d = PyData.plain d
  | .none => rfl
  | .bool _ => rfl
  | .int _ => rfl
  | .str _ => rfl
  | .list xs => by rw [flat, PyData.plain, flat_plainAll xs]
  | .tuple xs => by rw [flat, PyData.plain, flat_plainAll xs]
  | .dict _ => rfl
theorem flat_plainAll : ∀ ds : List D, flatAll ds = PyData.plainAll ds
  | [] => rfl
  | x :: xs => by rw [flatAll, PyData.plainAll, flat_plain x, flat_plainAll xs]
end
/-- data that may be held against one another: no dict within, not too deep -/
def fit (d : D) : Bool := flat d && decide (d.depth ≤ 60)
theorem fit_flat {d : D} (h : fit d = true) : flat d = true := by
  unfold fit at h
  rw [Bool.and_eq_true] at h
  exact h.1
theorem fit_depth {d : D} (h : fit d = true) : d.depth ≤ 60 := by
  unfold fit at h
  rw [Bool.and_eq_true] at h
  exact of_decide_eq_true h.2
/-- a row of whatever kind held against the empty one -/
def eqE : D → D → R D
  | .tuple (_ :: _), .tuple [] => .ok (.bool false)
  | .list (_ :: _), .list [] => .ok (.bool false)
  | _, _ => .no
def pyEq (x y : D) : R D := if fit x = true ∧ fit y = true then .ok (.bool (PyData.eqv x y)) else eqE x y
def pyNe (x y : D) : R D := if fit x = true ∧ fit y = true then .ok (.bool (!PyData.eqv x y)) else .no
def pyAdd : D → D → R D
  | .int i, .int j => .ok (.int (i + j))
  | .list xs, .list ys => if xs.length + ys.length ≤ sizeLine then .ok (.list (xs ++ ys)) else .no
  | .tuple xs, .tuple ys => if xs.length + ys.length ≤ sizeLine then .ok (.tuple (xs ++ ys)) else .no
  | .str a, .str b => if a.length + b.length ≤ sizeLine then .ok (.str (a ++ b)) else .no
  | _, _ => .no
def pySub : D → D → R D
  | .int i, .int j => .ok (.int (i - j))
  | _, _ => .no
instance (i j : Int) : Decidable (CMulX i j) := by unfold CMulX; exact inferInstance
def pyMul : D → D → R D
  | .int i, .int j => if CMulX i j then .ok (.int (i * j)) else .no
  | .tuple xs, .int k => if xs ≠ [] ∧ 2 ≤ k ∧ k ≤ 1000 ∧ xs.length ≤ 1000 then .ok (.tuple (List.replicate k.toNat xs).flatten) else .no
  | .list xs, .int k => if -(2 ^ 63) ≤ k ∧ k < 2 ^ 63 ∧ xs.length * k.toNat ≤ sizeLine then .ok (.list (List.replicate k.toNat xs).flatten) else .no
  | _, _ => .no
def pyDiv : D → D → R D
  | .int i, .int j => if 0 < j ∧ j < 1073741824 then .ok (.int (i / j)) else .no
  | _, _ => .no
def pyMod : D → D → R D
  | .int i, .int j => if 0 < j then .ok (.int (i % j)) else .no
  | _, _ => .no
def pyPow : D → D → R D
  | .int i, .int j => if 0 ≤ j ∧ j ≤ 1000000 ∧ i.natAbs < 2 ^ 64 then .ok (.int (i ^ j.toNat)) else .no
  | _, _ => .no
def pyNeg : D → R D
  | .int i => .ok (.int (-i))
  | _ => .no
/-- x < y -/
def pyLt (x y : D) : R D := match x, y with
  | .int i, .int j => .ok (.bool (decide (i < j)))
  | .tuple xs, .tuple ys => if PySem.W.alike (.tuple xs) (.tuple ys) = true ∧ fit (.tuple xs) = true ∧ fit (.tuple ys) = true then .ok (.bool (PySem.W.dataLt (.tuple xs) (.tuple ys))) else .no
  | _, _ => .no
def pyLe : D → D → R D
  | .int i, .int j => .ok (.bool (decide (i ≤ j)))
  | _, _ => .no
def pyGt : D → D → R D
  | .int i, .int j => .ok (.bool (decide (j < i)))
  | _, _ => .no
def pyGe : D → D → R D
  | .int i, .int j => .ok (.bool (decide (j ≤ i)))
  | _, _ => .no
/-- x in y -/
def isIn (x : D) (ys : List D) : Bool := ys.any fun z => PyData.eqv z x
def pyIn (x y : D) : R D := match y with
  | .list ys => if fit x = true ∧ fit (.list ys) = true then .ok (.bool (isIn x ys)) else .no
  | .tuple ys => if fit x = true ∧ fit (.tuple ys) = true then .ok (.bool (isIn x ys)) else .no
  | .str t => match x with
    | .str s => .ok (.bool (!(Builtin.Str.occurrences t s 0 t.length 1).isEmpty))
    | _ => .no
  | _ => .no
def pyNotIn (x y : D) : R D := match y with
  | .list ys => if fit x = true ∧ fit (.list ys) = true then .ok (.bool (!isIn x ys)) else .no
  | .tuple ys => if fit x = true ∧ fit (.tuple ys) = true then .ok (.bool (!isIn x ys)) else .no
  | .str t => match x with
    | .str s => .ok (.bool (!(!(Builtin.Str.occurrences t s 0 t.length 1).isEmpty)))
    | _ => .no
  | _ => .no
def isNone : D → Bool
  | .none => true
  | _ => false
def pyIs (x y : D) : R D := match y with
  | .none => .ok (.bool (isNone x))
  | _ => .no
def pyIsNot (x y : D) : R D := match y with
  | .none => .ok (.bool (!isNone x))
  | _ => .no
/-- xs[i] -/
def pyIx (x y : D) : R D := match x, y with
  | .list xs, .int i => match atI xs i with
    | some d => .ok d
    | none => .no
  | .tuple xs, .int i => match atI xs i with
    | some d => .ok d
    | none => .no
  | .dict [(.none, .list xs)], .int i => match atI xs i with
    | some d => .ok d
    | none => .no
  | .str z, .int i => if z.length ≤ sizeLine then (match atI z.cps.toList i with
      | some c => .ok (.str ⟨#[c]⟩)
      | none => .no) else .no
  | _, _ => .no
section
variable {X : Cx} {E : XK}
theorem reads_of {pins : List (Addr × Obj)} {σ : L2.St} {G H : Hp} {s : Shared} (I : Inv X pins σ H s) (sa : Same G H) {v : V} {u : Value} {d : D} (r : Rep X.K G v d) (rv : RelV v u) (f : flat d = true) : ∃ as, Reads s.heap u d as := Dp.reads I d v u (dp_of sa r f) rv
theorem od_eq (hu : X.A.units + 66 < cLine) : OpD X E (compareOp .Eq) pyEq := by
  intro pins s σ H x y v u Q I rx ry ⟨G, tx, ty, sa, r1, r2, q⟩
  unfold pyEq at q
  split at q
  · rename_i hf
    obtain ⟨as, q1⟩ := reads_of I sa r1 rx (fit_flat hf.1)
    obtain ⟨bs, q2⟩ := reads_of I sa r2 ry (fit_flat hf.2)
    have h1 := fit_depth hf.1
    have h2 := fit_flat hf.1
    have h3 := fit_flat hf.2
    rw [flat_plain] at h2 h3
    exact PySem.SeqAt.eq_plain q1 q2 h2 h3 (by omega) ⟨.bl _, H, I, rfl, q.now sa (.bl _)⟩
  · unfold eqE at q
    split at q
    · rename_i d ds _
      cases r1 with
      | tup h ra =>
        cases r2 with
        | tup h2 ra2 =>
          cases ra2
          cases rx
          cases ry
          obtain ⟨its, rv, ht, _⟩ := I.tuple (same_seqT sa h)
          obtain ⟨its2, rv2, ht2, _⟩ := I.tuple (same_seqT sa h2)
          cases rv2
          have hl : its.length ≠ 0 := by
            rw [← rv.length, ra.length]
            simp
          refine PySem.SeqAt.eq_tupleAt (e := fun _ => true) (by obtain ⟨o, h1, h2, n, h3⟩ := ht; exact ⟨o, h1, h2, n, h3⟩) (by obtain ⟨o, h1, h2, n, h3⟩ := ht2; exact ⟨o, h1, h2, n, h3⟩) (by omega) (fun j h1 h2 => by simp at h2) ?_
          have e : (((List.range (min its.toArray.size ([] : List Value).toArray.size)).all fun _ => true) && its.toArray.size == ([] : List Value).toArray.size) = false := by simpa using hl
          rw [e]
          exact ⟨.bl _, H, I, rfl, q.now sa (.bl _)⟩
    · rename_i d ds _
      cases r1 with
      | lst h ra =>
        cases r2 with
        | lst h2 ra2 =>
          cases ra2
          cases rx
          cases ry
          obtain ⟨its, rv, pl, _⟩ := I.list (same_lst (K := X.K) sa h)
          obtain ⟨its2, rv2, pl2, _⟩ := I.list (same_lst (K := X.K) sa h2)
          cases rv2
          have hl : its.length ≠ 0 := by
            rw [← rv.length, ra.length]
            simp
          exact PySem.SeqAt.eq_list_lengthsAt pl.isList pl2.isList (by simpa using hl) (by omega) ⟨.bl _, H, I, rfl, q.now sa (.bl _)⟩
    · exact q.elim
theorem od_ne (hu : X.A.units + 66 < cLine) : OpD X E (compareOp .NotEq) pyNe := by
  intro pins s σ H x y v u Q I rx ry ⟨G, tx, ty, sa, r1, r2, q⟩
  unfold pyNe at q
  split at q
  · rename_i hf
    obtain ⟨as, q1⟩ := reads_of I sa r1 rx (fit_flat hf.1)
    obtain ⟨bs, q2⟩ := reads_of I sa r2 ry (fit_flat hf.2)
    have h1 := fit_depth hf.1
    have h2 := fit_flat hf.1
    have h3 := fit_flat hf.2
    rw [flat_plain] at h2 h3
    exact PySem.SeqAt.ne_plain q1 q2 h2 h3 (by omega) ⟨.bl _, H, I, rfl, q.now sa (.bl _)⟩
  · exact q.elim
theorem op_catL2 {pins : List (Addr × Obj)} {σ : L2.St} {H : Hp} {s : Shared} {a b : Addr} {xs ys : List V} {Q : VK} (I : Inv X pins σ H s) (ha : SqL X.K H a xs) (hb : SqL X.K H b ys) (hz : xs.length + ys.length ≤ sizeLine) (q : ∀ p, H p = none → Q (.ref p) (upd H p (.lst (xs ++ ys)))) :
    wpAny (model X.prog X.w) X.A (binaryOp .Add (.ref a) (.ref b)) (L2.EP X pins σ Q) X.xe s := by
  obtain ⟨vs, rv, pl, _⟩ := I.list ha
  obtain ⟨ws, rw', pl2, _⟩ := I.list hb
  obtain ⟨⟨cls, dd, data, sl⟩, ho, hc, n, hd⟩ := pl.isList
  obtain ⟨⟨cls2, dd2, data2, sl2⟩, ho2, hc2, n2, hd2⟩ := pl2.isList
  simp only at hc hd hc2 hd2
  subst hc hd hc2 hd2
  have e : vs.toArray ++ ws.toArray = (vs ++ ws).toArray := by simp
  refine concat_meets ⟨_, ho, rfl⟩ ⟨_, ho2, rfl⟩ noFill_list_add seq_list_add PySem.F.slot_list_add PySem.F.entry_list_add (PySem.F.args_list_add_2 _ _) (list_addW a b vs.toArray ws.toArray n n2 dd dd2 sl sl2 (by
    have := rv.length
    have := rw'.length
    simp only [List.size_toArray]
    omega)) ⟨ho, ho2, ?_⟩
  rw [e]
  exact ⟨.ref _, _, I.lnew (t' := s.toks) (rv.append rw') (by rw [List.length_append]; exact hz), rfl, q _ I.fresh⟩
theorem od_add : OpD X E (binaryOp .Add) pyAdd := by
  intro pins s σ H x y v u Q I rx ry ⟨G, tx, ty, sa, r1, r2, q⟩
  cases r1 with
  | int i => cases r2 with
    | int j => exact op_add pins s σ H _ _ v u Q I rx ry ⟨i, j, rfl, rfl, q.now sa (.int _)⟩
    | _ => exact q.elim
  | str a => cases r2 with
    | str b =>
      simp only [pyAdd] at q
      split at q
      · rename_i hz
        exact op_add_str pins s σ H _ _ v u Q I rx ry ⟨a, b, rfl, rfl, hz, q.now sa (.str _)⟩
      · exact q.elim
    | _ => exact q.elim
  | lst h1 a1 => cases r2 with
    | lst h2 a2 =>
      simp only [pyAdd] at q
      split at q
      · rename_i hz
        cases rx
        cases ry
        exact op_catL2 I (same_lst sa h1) (same_lst sa h2) (by rw [a1.length, a2.length]; exact hz) (q.newL sa (a1.append a2))
      · exact q.elim
    | _ => exact q.elim
  | tup h1 a1 => cases r2 with
    | tup h2 a2 =>
      simp only [pyAdd] at q
      split at q
      · rename_i xs ys hz
        refine op_catU pins s σ H _ _ v u Q I rx ry ⟨_, _, _, _, rfl, rfl, same_seqT sa h1, same_seqT sa h2, by rw [a1.length, a2.length]; exact hz, fun e => ?_, fun e1 e2 => ?_, fun _ _ => q.newT sa (a1.append a2)⟩
        · subst e
          cases a1
          exact q.now sa (.tup h2 a2)
        · subst e2
          cases a2
          rw [List.append_nil] at q
          exact q.now sa (.tup h1 a1)
      · exact q.elim
    | _ => exact q.elim
  | _ => exact q.elim
theorem od_sub : OpD X E (binaryOp .Sub) pySub := by
  intro pins s σ H x y v u Q I rx ry ⟨G, tx, ty, sa, r1, r2, q⟩
  cases r1 with
  | int i => cases r2 with
    | int j => exact op_sub pins s σ H _ _ v u Q I rx ry ⟨i, j, rfl, rfl, q.now sa (.int _)⟩
    | _ => exact q.elim
  | _ => exact q.elim
theorem repAll_rep {K : PySem.W.Frag} {G : Hp} {vs : List V} {ds : List D} (r : RepAll K G vs ds) : ∀ n : Nat, RepAll K G (List.replicate n vs).flatten (List.replicate n ds).flatten
  | 0 => .nil
  | n + 1 => by
    rw [List.replicate_succ, List.replicate_succ, List.flatten_cons, List.flatten_cons]
    exact r.append (repAll_rep r n)
theorem od_mul : OpD X E (binaryOp .Mult) pyMul := by
  intro pins s σ H x y v u Q I rx ry ⟨G, tx, ty, sa, r1, r2, q⟩
  cases r1 with
  | int i => cases r2 with
    | int j =>
      simp only [pyMul] at q
      split at q
      · rename_i hc
        exact op_mulX pins s σ H _ _ v u Q I rx ry ⟨i, j, rfl, rfl, hc, q.now sa (.int _)⟩
      · exact q.elim
    | _ => exact q.elim
  | tup h a => cases r2 with
    | int k =>
      simp only [pyMul] at q
      split at q
      · rename_i hc
        obtain ⟨h1, h2, h3, h4⟩ := hc
        exact op_repU pins s σ H _ _ v u Q I rx ry ⟨_, k, _, rfl, rfl, same_seqT sa h, fun z => h1 (by
          have := a.length
          rw [z] at this
          exact List.length_eq_zero_iff.mp this.symm), h2, h3, by rw [a.length]; exact h4, q.newT sa (repAll_rep a k.toNat)⟩
      · exact q.elim
    | _ => exact q.elim
  | lst h a => cases r2 with
    | int k =>
      simp only [pyMul] at q
      split at q
      · rename_i hc
        obtain ⟨h1, h2, h3⟩ := hc
        exact op_rep pins s σ H _ _ v u Q I rx ry ⟨_, k, _, rfl, rfl, sa _ _ h, h1, h2, by rw [a.length]; exact h3, q.newL sa (repAll_rep a k.toNat)⟩
      · exact q.elim
    | _ => exact q.elim
  | _ => exact q.elim
theorem od_div : OpD X E (binaryOp .FloorDiv) pyDiv := by
  intro pins s σ H x y v u Q I rx ry ⟨G, tx, ty, sa, r1, r2, q⟩
  cases r1 with
  | int i => cases r2 with
    | int j =>
      simp only [pyDiv] at q
      split at q
      · rename_i hc
        exact op_fdiv pins s σ H _ _ v u Q I rx ry ⟨i, j, rfl, rfl, hc, q.now sa (.int _)⟩
      · exact q.elim
    | _ => exact q.elim
  | _ => exact q.elim
theorem od_mod : OpD X E (binaryOp .Mod) pyMod := by
  intro pins s σ H x y v u Q I rx ry ⟨G, tx, ty, sa, r1, r2, q⟩
  cases r1 with
  | int i => cases r2 with
    | int j =>
      simp only [pyMod] at q
      split at q
      · rename_i hc
        exact op_mod pins s σ H _ _ v u Q I rx ry ⟨i, j, rfl, rfl, hc, q.now sa (.int _)⟩
      · exact q.elim
    | _ => exact q.elim
  | _ => exact q.elim
theorem od_pow : OpD X E (binaryOp .Pow) pyPow := by
  intro pins s σ H x y v u Q I rx ry ⟨G, tx, ty, sa, r1, r2, q⟩
  cases r1 with
  | int i => cases r2 with
    | int j =>
      simp only [pyPow] at q
      split at q
      · rename_i hc
        exact op_pow pins s σ H _ _ v u Q I rx ry ⟨i, j, rfl, rfl, hc, q.now sa (.int _)⟩
      · exact q.elim
    | _ => exact q.elim
  | _ => exact q.elim
theorem ud_neg : UnD X E (unaryOp .USub) pyNeg := by
  intro pins s σ H x v Q I rx ⟨G, tx, sa, r1, q⟩
  cases r1 with
  | int i => exact un_neg pins s σ H _ v Q I rx ⟨i, rfl, q.now sa (.int _)⟩
  | _ => exact q.elim
theorem od_lt (hu : X.A.units + 66 < cLine) : OpD X E (compareOp .Lt) pyLt := by
  intro pins s σ H x y v u Q I rx ry ⟨G, tx, ty, sa, r1, r2, q⟩
  cases r1 with
  | int i => cases r2 with
    | int j => exact op_lt pins s σ H _ _ v u Q I rx ry ⟨i, j, rfl, rfl, q.now sa (.bl _)⟩
    | _ => exact q.elim
  | tup h1 a1 => cases r2 with
    | tup h2 a2 =>
      rename_i a xs dx b ys dy
      simp only [pyLt] at q
      split at q
      · rename_i hc
        obtain ⟨as, q1⟩ := reads_of I sa (.tup h1 a1) rx (fit_flat hc.2.1)
        obtain ⟨bs, q2⟩ := reads_of I sa (.tup h2 a2) ry (fit_flat hc.2.2)
        have hd := fit_depth hc.2.1
        exact PySem.W.rcLt_alike _ _ X.A s v u as bs q1 q2 hc.1 (fun z => by cases z) (by omega) _ _ _ _ ⟨.bl _, H, I, rfl, q.now sa (.bl _)⟩
      · exact q.elim
    | _ => exact q.elim
  | _ => exact q.elim
theorem od_le : OpD X E (compareOp .LtE) pyLe := by
  intro pins s σ H x y v u Q I rx ry ⟨G, tx, ty, sa, r1, r2, q⟩
  cases r1 with
  | int i => cases r2 with
    | int j => exact op_le pins s σ H _ _ v u Q I rx ry ⟨i, j, rfl, rfl, q.now sa (.bl _)⟩
    | _ => exact q.elim
  | _ => exact q.elim
theorem od_gt : OpD X E (compareOp .Gt) pyGt := by
  intro pins s σ H x y v u Q I rx ry ⟨G, tx, ty, sa, r1, r2, q⟩
  cases r1 with
  | int i => cases r2 with
    | int j => exact op_gt pins s σ H _ _ v u Q I rx ry ⟨i, j, rfl, rfl, q.now sa (.bl _)⟩
    | _ => exact q.elim
  | _ => exact q.elim
theorem od_in (hu : X.A.units + 66 < cLine) : OpD X E (compareOp .In) pyIn := by
  intro pins s σ H x y v u Q I rx ry ⟨G, tx, ty, sa, r1, r2, q⟩
  cases r2 with
  | lst h2 a2 =>
    simp only [pyIn] at q
    split at q
    · rename_i hf
      obtain ⟨as, q1⟩ := reads_of I sa r1 rx (fit_flat hf.1)
      obtain ⟨bs, q2⟩ := reads_of I sa (.lst h2 a2) ry (fit_flat hf.2)
      have h1 := fit_depth hf.1
      have h2 := fit_flat hf.1
      have h3 := fit_flat hf.2
      rw [flat_plain] at h2 h3
      exact PySem.SeqAt.in_list_data q2 q1 (by simpa [PyData.plain] using h3) h2 (by omega) ⟨.bl _, H, I, rfl, q.now sa (.bl _)⟩
    · exact q.elim
  | tup h2 a2 =>
    simp only [pyIn] at q
    split at q
    · rename_i hf
      obtain ⟨as, q1⟩ := reads_of I sa r1 rx (fit_flat hf.1)
      obtain ⟨bs, q2⟩ := reads_of I sa (.tup h2 a2) ry (fit_flat hf.2)
      have h1 := fit_depth hf.1
      have h2 := fit_flat hf.1
      have h3 := fit_flat hf.2
      rw [flat_plain] at h2 h3
      exact PySem.SeqAt.in_tuple_data q2 q1 (by simpa [PyData.plain] using h3) h2 (by omega) ⟨.bl _, H, I, rfl, q.now sa (.bl _)⟩
    · exact q.elim
  | str t => cases r1 with
    | str z => exact op_in_str pins s σ H _ _ v u Q I rx ry ⟨z, t, rfl, rfl, q.now sa (.bl _)⟩
    | _ => exact q.elim
  | _ => exact q.elim
theorem od_notin (hu : X.A.units + 66 < cLine) : OpD X E (compareOp .NotIn) pyNotIn := by
  intro pins s σ H x y v u Q I rx ry ⟨G, tx, ty, sa, r1, r2, q⟩
  cases r2 with
  | lst h2 a2 =>
    simp only [pyNotIn] at q
    split at q
    · rename_i hf
      obtain ⟨as, q1⟩ := reads_of I sa r1 rx (fit_flat hf.1)
      obtain ⟨bs, q2⟩ := reads_of I sa (.lst h2 a2) ry (fit_flat hf.2)
      have h1 := fit_depth hf.1
      have h2 := fit_flat hf.1
      have h3 := fit_flat hf.2
      rw [flat_plain] at h2 h3
      exact PySem.SeqAt.notIn_list_data q2 q1 (by simpa [PyData.plain] using h3) h2 (by omega) ⟨.bl _, H, I, rfl, q.now sa (.bl _)⟩
    · exact q.elim
  | tup h2 a2 =>
    simp only [pyNotIn] at q
    split at q
    · rename_i hf
      obtain ⟨as, q1⟩ := reads_of I sa r1 rx (fit_flat hf.1)
      obtain ⟨bs, q2⟩ := reads_of I sa (.tup h2 a2) ry (fit_flat hf.2)
      have h1 := fit_depth hf.1
      have h2 := fit_flat hf.1
      have h3 := fit_flat hf.2
      rw [flat_plain] at h2 h3
      exact PySem.SeqAt.notIn_tuple_data q2 q1 (by simpa [PyData.plain] using h3) h2 (by omega) ⟨.bl _, H, I, rfl, q.now sa (.bl _)⟩
    · exact q.elim
  | str t => cases r1 with
    | str z => exact op_notin_str pins s σ H _ _ v u Q I rx ry ⟨z, t, rfl, rfl, q.now sa (.bl _)⟩
    | _ => exact q.elim
  | _ => exact q.elim
theorem od_is : OpD X E (compareOp .Is) pyIs := by
  intro pins s σ H x y v u Q I rx ry ⟨G, tx, ty, sa, r1, r2, q⟩
  cases r2 with
  | non =>
    refine op_isN pins s σ H _ _ v u Q I rx ry ⟨rfl, ?_⟩
    cases r1 <;> exact q.now sa (.bl _)
  | _ => exact q.elim
theorem RepAll.atI {K : PySem.W.Frag} {G : Hp} {vs : List V} {ds : List D} {i : Int} {d : D} (r : RepAll K G vs ds) (h : L2.atI ds i = some d) : ∃ v, L2.atI vs i = some v ∧ Rep K G v d := by
  unfold L2.atI at h ⊢
  rw [r.length]
  cases e : ixN ds.length i with
  | none => rw [e] at h; cases h
  | some j =>
    rw [e] at h
    exact r.get h
abbrev D0int (i : Int) : D := .int i
theorem nums_rep {K : PySem.W.Frag} {G : Hp} : ∀ bs : List Int, RepAll K G (bs.map V.int) (bs.map D0int)
  | [] => .nil
  | b :: bs => .cons (.int b) (nums_rep bs)
theorem ix_dict {es : List (D × D)} {y : D} (h : ∀ xs, es ≠ [(.none, .list xs)]) : pyIx (.dict es) y = .no := by
  cases es with
  | nil => cases y <;> rfl
  | cons p es =>
    obtain ⟨k, v⟩ := p
    cases es with
    | nil => cases k <;> cases v <;> cases y <;> first | rfl | exact absurd rfl (h _)
    | cons q es => cases k <;> cases v <;> cases y <;> rfl
theorem not_scrK {kvs : List (Key × V)} {es : List (D × D)} (ek : es.map (·.1) = kvs.map (fun p => keyD p.1)) (xs : List D) : es ≠ [(.none, .list xs)] := by
  rintro rfl
  cases kvs with
  | nil => cases ek
  | cons k kvs => obtain ⟨k1 | k1, v⟩ := k <;> simp [keyD] at ek
theorem not_scrT {kvs : List (List Key × V)} {es : List (D × D)} (ek : es.map (·.1) = kvs.map (fun p => PyData.tuple (p.1.map keyD))) (xs : List D) : es ≠ [(.none, .list xs)] := by
  rintro rfl
  cases kvs with
  | nil => cases ek
  | cons k kvs => simp at ek
theorem ix_nonint {x y : D} (h : ∀ i, y ≠ .int i) : pyIx x y = .no := by
  cases y with
  | int i => exact absurd rfl (h i)
  | _ =>
    cases x with
    | dict es =>
      cases es with
      | nil => rfl
      | cons p es =>
        obtain ⟨k, v⟩ := p
        cases es with
        | nil => cases k <;> cases v <;> rfl
        | cons q es => cases k <;> cases v <;> rfl
    | _ => rfl
theorem id_ix : IxD X E pyIx := by
  intro value slice pins s σ H x y v u Q I rx ry ⟨G, tx, ty, sa, r1, r2, q⟩ hs
  cases r2 with
  | int i => cases r1 with
    | lst h1 a1 =>
      simp only [pyIx] at q
      split at q
      · rename_i d e
        obtain ⟨w, e2, r⟩ := a1.atI e
        exact ix_list value slice pins s σ H _ _ v u Q I rx ry ⟨_, _, i, w, rfl, rfl, same_lst sa h1, e2, q.now sa r⟩ hs
      · exact q.elim
    | tup h1 a1 =>
      simp only [pyIx] at q
      split at q
      · rename_i d e
        obtain ⟨w, e2, r⟩ := a1.atI e
        exact ix_tup value slice pins s σ H _ _ v u Q I rx ry ⟨_, _, i, w, rfl, rfl, same_seqT sa h1, e2, q.now sa r⟩ hs
      · exact q.elim
    | str z =>
      simp only [pyIx] at q
      split at q
      · rename_i hz
        split at q
        · rename_i c e
          exact ix_str value slice pins s σ H _ _ v u Q I rx ry ⟨z, i, c, rfl, rfl, hz, e, q.now sa (.str _)⟩ hs
        · exact q.elim
      · exact q.elim
    | scr h =>
      rename_i a ns
      have q' : PostP Rep X.K X.mg E G H (match atI (ns.map D0int) i with
        | some d => .ok d
        | none => .no) Q := q
      cases e : atI (ns.map D0int) i with
      | none => rw [e] at q'; exact q'.elim
      | some d =>
        rw [e] at q'
        obtain ⟨w, e2, r⟩ := (nums_rep ns).atI e
        exact ix_list value slice pins s σ H _ _ v u Q I rx ry ⟨_, _, i, w, rfl, rfl, sa.seq h, e2, q'.now sa r⟩ hs
    | dK h ek r =>
      rw [ix_dict (not_scrK ek)] at q
      exact q.elim
    | dT h ek r =>
      rw [ix_dict (not_scrT ek)] at q
      exact q.elim
    | exc => exact q.elim
    | _ => exact q.elim
  | _ =>
    rw [ix_nonint (by intro i z; cases z)] at q
    exact q.elim
end
end TL
/-! sorted of a tuple -/
namespace PySem.W
open PySem PySem.SeqAt PyProof.Rows
section
variable {prog : Program} {w : World} {A : Around} {E : Value → Shared → Prop} {s : Shared} {β : Type} {vs : List Value} {bs : List β} {enc : β → PyData} {R : Value → β → Prop} {κ : PyProof.Rows.KeyKind}
theorem collect_tupT {l : Addr} {vs : List Value} {Q : List Value → Shared → Prop} (hl : IsTup s.heap l vs.toArray)
    (h : Q vs { s with heap := (s.heap.push (seqObj "list" #[] 0)).update s.heap.objs.size (Obj.mapSeq (· ++ vs.toArray)) }) (hsz : vs.length ≤ sizeLine) :
    wpAny (model prog w) A (collect (.ref l)) Q E s := by
  obtain ⟨o, ho, hc, n, hd⟩ := id hl
  unfold collect
  refine wpAny_bind (wpAny_runValue (codeAny_builtin entry_proto_collect' ?_))
  show wpAny _ _ (do again (.builtin "list.__iadd__" ⟨[← newList [], .ref l], []⟩)) _ _ s
  refine wpAny_bind (wpAny_newList (wpAny_pure ⟨Code.quiet_builtin _ (by decide +kernel), codeAny_builtin entry_list_iadd' ?_⟩))
  show wpAny _ _ (Builtin.List.listExtendWith (.ref s.heap.objs.size) (.ref l) (.ref s.heap.objs.size)) _ _ { s with heap := s.heap.push (seqObj "list" #[] 0) }
  unfold Builtin.List.listExtendWith
  have ho' : (s.heap.push (seqObj "list" #[] 0)).get? l = some o := Heap.get?_push_of_some _ ho
  refine wpAny_bind (wpAny_typeOf (T := "tuple") ⟨o, ho', hc⟩ ?_)
  have ht : (Value.type "tuple" == Value.type "tuple") = true := by rfl
  rw [if_pos (by rw [ht]; simp)]
  refine wpAny_bind (listItems_at ho' hd ?_)
  refine wpAny_bind (listItems_at (xs := #[]) (n := 0) (Heap.get?_push_size _ rfl) rfl ?_)
  rw [if_neg (by simp)]
  refine wpAny_bind (listUpdate_at (xs := #[]) (n := 0) (Heap.get?_push_size _ rfl) rfl ?_ (Nat.zero_le _) (by show (#[] ++ vs.toArray).size ≤ sizeLine + 1; simp only [Array.size_append, List.size_toArray, List.length_nil]; omega))
  refine wpAny_pure ?_
  show wpAny (model prog w) A (do
      let o ← load s.heap.objs.size
      match o.data with
      | .seq xs _ => pure xs.toList
      | _ => unsupported "internal:collect") Q E { s with heap := (s.heap.push (seqObj "list" #[] 0)).update s.heap.objs.size (Obj.mapSeq (· ++ vs.toArray)) }
  refine wpAny_bind (wpAny_load (get?_update_seq (Heap.get?_push_size _ rfl) _) ?_)
  show wpAny _ _ (pure ((#[] : Array Value) ++ vs.toArray).toList) Q E _
  rw [show ((#[] : Array Value) ++ vs.toArray).toList = vs by simp]
  exact wpAny_pure h
theorem sortedT_of_sort {l : Addr} {vs : List Value} {Q : Value → Shared → Prop} (hl : IsTup s.heap l vs.toArray) (hL : vs.length ≤ sizeLine)
    (body : ∀ E' : Value → Shared → Prop, wpAny (model prog w) A.in1.in1 (Builtin.«list.sort» ⟨[.ref (s.heap.objs.size + 1)], []⟩) (fun f s' => f = .done (.ret .none) ∧ Q (.ref (s.heap.objs.size + 1)) s') E' { s with heap := copyHeap s.heap vs }) :
    wpAny (model prog w) A (call (.builtin "sorted") [.ref l]) Q E s := by
  refine call_function_entry_kw kind_sorted plain_sorted entry_sorted (args_sorted1 _) ?_
  unfold Builtin.«sorted»
  refine wpAny_bind (m := checkCount "sorted" 1 1 _) (wpAny_pure ?_)
  refine wpAny_bind (collect_tupT hl ?_ hL)
  refine wpAny_bind (wpAny_newList ?_ hL)
  have hsz : ((s.heap.push (seqObj "list" #[] 0)).update s.heap.objs.size (Obj.mapSeq (· ++ vs.toArray))).objs.size = s.heap.objs.size + 1 := by
    rw [Heap.size_update, size_push']
  show wpAny _ _ _ _ _ { s with heap := copyHeap s.heap vs }
  rw [hsz]
  refine wpAny_bind (wpAny_holding (wpAny_call_entry_kw slot_list_sort ⟨_, copyHeap_at s.heap vs, rfl⟩ entry_list_sort ?body (args_list_sort _)))
  case body =>
    show wpAny (model prog w) A.in1.in1 (Builtin.«list.sort» ⟨[.ref (s.heap.objs.size + 1)], []⟩) _ _ _
    refine wpAny_mono (body _) (fun f s' hf => ?_) fun _ _ e => e
    obtain ⟨rfl, hq⟩ := hf
    exact ⟨_, rfl, wpAny_pure ⟨_, rfl, hq⟩⟩
theorem sortedT_vals {l : Addr} {vs : List Value} {Q : Value → Shared → Prop} (hl : IsTup s.heap l vs.toArray) (S : SortsAt prog w A.in1.in1 { s with heap := sortingHeap (copyHeap s.heap vs) (s.heap.objs.size + 1) vs } κ vs) (hL : vs.length ≤ sizeLine)
    (h : Q (.ref (s.heap.objs.size + 1)) { s with heap := sortedAll s.heap vs (sortVals κ false vs vs).toArray }) : wpAny (model prog w) A (call (.builtin "sorted") [.ref l]) Q E s :=
  sortedT_of_sort hl hL fun _ => list_sort_vals (s := { s with heap := copyHeap s.heap vs }) (copyHeap_at s.heap vs) S hL ⟨rfl, h⟩
/-- sorted(t), t a tuple -/
theorem sortedT_data {l : Addr} {Q : Value → Shared → Prop} (hl : IsTup s.heap l vs.toArray) (e : EachIs R vs bs) (er : EachIs (fun v b => ∃ as, Reads s.heap v (enc b) as) vs bs) (hal : AllAlike (bs.map enc)) (hk : Sortable (bs.map enc)) (hL : bs.length ≤ sizeLine)
    (hu : ∀ b, b ∈ bs → A.units + 2 + (enc b).depth < cLine) (h : ∀ out, out.length = bs.length → EachIs R out (bs.mergeSort (dataLe false enc)) → Q (.ref (s.heap.objs.size + 1)) { s with heap := sortedAll s.heap vs (List.toArray out) }) :
    wpAny (model prog w) A (call (.builtin "sorted") [.ref l]) Q E s := by
  have er' : EachIs (fun v b => ∃ as, Reads (sortingHeap (copyHeap s.heap vs) (s.heap.objs.size + 1) vs) v (enc b) as) vs bs := er.mono fun _ _ ⟨as, r⟩ => ⟨as, PyProof.Rows.Reads.keeps (fun _ _ => sorting_copy_old) r⟩
  exact sortedT_vals hl (SortsAt.data (s := { s with heap := sortingHeap (copyHeap s.heap vs) (s.heap.objs.size + 1) vs }) (each_map (R := fun v d => ∃ as, Reads (sortingHeap (copyHeap s.heap vs) (s.heap.objs.size + 1) vs) v d as) enc er') hal hk (bound_map hu)) (by rw [e.length]; exact hL)
    (h _ (by rw [sortVals_length false rfl]; exact e.length) (sortVals_data false e er' hal))
end
end PySem.W
/-! the tree layer, 4: built-in calls by trees -/
namespace TL
open PySem PySem.Spec PyProof.Rows L2
def pyLen : List D → R D
  | [.list xs] => .ok (.int xs.length)
  | [.tuple xs] => .ok (.int xs.length)
  | [.str s] => if s.length ≤ sizeLine then .ok (.int s.length) else .no
  | [.dict [(.none, .list xs)]] => .ok (.int xs.length)
  | _ => .no
def pyList : List D → R D
  | [.list xs] => .ok (.list xs)
  | [.tuple xs] => .ok (.list xs)
  | _ => .no
def pyTuple : List D → R D
  | [.list xs] => .ok (.tuple xs)
  | [.tuple xs] => .ok (.tuple xs)
  | _ => .no
def bools : List D → Option (List Bool)
  | [] => some []
  | .bool b :: xs => (bools xs).map (b :: ·)
  | _ => none
def nums : List D → Option (List Int)
  | [] => some []
  | .int b :: xs => (nums xs).map (b :: ·)
  | _ => none
theorem bools_eq : ∀ {xs : List D} {bs : List Bool}, bools xs = some bs → xs = bs.map .bool
  | [], bs, h => by cases h; rfl
  | x :: xs, bs, h => by
    cases x with
    | bool b =>
      simp only [bools] at h
      cases e : bools xs with
      | none => rw [e] at h; cases h
      | some cs => rw [e] at h; cases h; rw [bools_eq e]; rfl
    | _ => cases h
theorem nums_eq : ∀ {xs : List D} {bs : List Int}, nums xs = some bs → xs = bs.map .int
  | [], bs, h => by cases h; rfl
  | x :: xs, bs, h => by
    cases x with
    | int b =>
      simp only [nums] at h
      cases e : nums xs with
      | none => rw [e] at h; cases h
      | some cs => rw [e] at h; cases h; rw [nums_eq e]; rfl
    | _ => cases h
@[simp] theorem bools_map : ∀ bs : List Bool, bools (bs.map .bool) = some bs
  | [] => rfl
  | b :: bs => by
    show (bools (bs.map .bool)).map (b :: ·) = _
    rw [bools_map bs]
    rfl
@[simp] theorem nums_map : ∀ bs : List Int, nums (bs.map .int) = some bs
  | [] => rfl
  | b :: bs => by
    show (nums (bs.map .int)).map (b :: ·) = _
    rw [nums_map bs]
    rfl
def pyAll : List D → R D
  | [.list xs] => match bools xs with
    | some bs => .ok (.bool (bs.all id))
    | none => .no
  | _ => .no
def pyAny : List D → R D
  | [.list xs] => match bools xs with
    | some bs => .ok (.bool (bs.any id))
    | none => .no
  | _ => .no
def lmax : List Int → Int
  | [] => 0
  | x :: xs => xs.foldl (fun a b => if b > a then b else a) x
def lmin : List Int → Int
  | [] => 0
  | x :: xs => xs.foldl (fun a b => if b < a then b else a) x
theorem foldmax : ∀ (xs : List Int) (a : Int), (xs.foldl (fun a b => if b > a then b else a) a = a ∨ xs.foldl (fun a b => if b > a then b else a) a ∈ xs) ∧ a ≤ xs.foldl (fun a b => if b > a then b else a) a ∧
    ∀ y ∈ xs, y ≤ xs.foldl (fun a b => if b > a then b else a) a
  | [], a => ⟨.inl rfl, Int.le_refl _, fun _ h => nomatch h⟩
  | x :: xs, a => by
    obtain ⟨h1, h2, h3⟩ := foldmax xs (if x > a then x else a)
    simp only [List.foldl_cons, List.mem_cons]
    generalize xs.foldl (fun a b => if b > a then b else a) (if x > a then x else a) = m at h1 h2 h3
    refine ⟨?_, ?_, ?_⟩
    · rcases h1 with h1 | h1
      · split at h1
        · exact .inr (.inl h1)
        · exact .inl h1
      · exact .inr (.inr h1)
    · split at h2 <;> omega
    · rintro y (rfl | hy)
      · split at h2 <;> omega
      · exact h3 y hy
theorem foldmin : ∀ (xs : List Int) (a : Int), (xs.foldl (fun a b => if b < a then b else a) a = a ∨ xs.foldl (fun a b => if b < a then b else a) a ∈ xs) ∧ xs.foldl (fun a b => if b < a then b else a) a ≤ a ∧
    ∀ y ∈ xs, xs.foldl (fun a b => if b < a then b else a) a ≤ y
  | [], a => ⟨.inl rfl, Int.le_refl _, fun _ h => nomatch h⟩
  | x :: xs, a => by
    obtain ⟨h1, h2, h3⟩ := foldmin xs (if x < a then x else a)
    simp only [List.foldl_cons, List.mem_cons]
    generalize xs.foldl (fun a b => if b < a then b else a) (if x < a then x else a) = m at h1 h2 h3
    refine ⟨?_, ?_, ?_⟩
    · rcases h1 with h1 | h1
      · split at h1
        · exact .inr (.inl h1)
        · exact .inl h1
      · exact .inr (.inr h1)
    · split at h2 <;> omega
    · rintro y (rfl | hy)
      · split at h2 <;> omega
      · exact h3 y hy
theorem lmax_spec {xs : List Int} (h : xs ≠ []) : lmax xs ∈ xs ∧ ∀ y ∈ xs, y ≤ lmax xs := by
  cases xs with
  | nil => exact absurd rfl h
  | cons x xs =>
    obtain ⟨h1, h2, h3⟩ := foldmax xs x
    refine ⟨?_, fun y hy => ?_⟩
    · rcases h1 with h1 | h1
      · exact List.mem_cons.mpr (.inl h1)
      · exact List.mem_cons_of_mem _ h1
    · rcases List.mem_cons.mp hy with rfl | hy
      · exact h2
      · exact h3 y hy
theorem lmin_spec {xs : List Int} (h : xs ≠ []) : lmin xs ∈ xs ∧ ∀ y ∈ xs, lmin xs ≤ y := by
  cases xs with
  | nil => exact absurd rfl h
  | cons x xs =>
    obtain ⟨h1, h2, h3⟩ := foldmin xs x
    refine ⟨?_, fun y hy => ?_⟩
    · rcases h1 with h1 | h1
      · exact List.mem_cons.mpr (.inl h1)
      · exact List.mem_cons_of_mem _ h1
    · rcases List.mem_cons.mp hy with rfl | hy
      · exact h2
      · exact h3 y hy
def pyMax : List D → R D
  | [.int i, .int j] => .ok (.int (if j > i then j else i))
  | [.list xs] => match nums xs with
    | some ns => if ns = [] then .no else .ok (.int (lmax ns))
    | none => .no
  | [.tuple xs] => match nums xs with
    | some ns => if ns = [] then .no else .ok (.int (lmax ns))
    | none => .no
  | _ => .no
def pyMin : List D → R D
  | [.int i, .int j] => .ok (.int (if j < i then j else i))
  | [.list xs] => match nums xs with
    | some ns => if ns = [] then .no else .ok (.int (lmin ns))
    | none => .no
  | [.tuple xs] => match nums xs with
    | some ns => if ns = [] then .no else .ok (.int (lmin ns))
    | none => .no
  | _ => .no
def pyInt : List D → R D
  | [.int i] => .ok (.int i)
  | [.bool k] => .ok (.int (if k then 1 else 0))
  | _ => .no
def pyDivmod : List D → R D
  | [.int i, .int j] => if 0 < j ∧ j < 1073741824 then .ok (.tuple [.int (i / j), .int (i % j)]) else .no
  | _ => .no
/-- what may be sorted -/
def sortable (xs : List D) : Bool := (xs.all fun d => xs.all fun e => PySem.W.alike d e) && xs.all fit && ((xs.all fun d => match d with
  | .tuple (_ :: _) => true
  | _ => false) || xs.all fun d => match d with
  | .none => false
  | .tuple _ => false
  | _ => true)
def sortD (xs : List D) : List D := xs.mergeSort (PySem.W.dataLe false fun d => d)
def pySorted : List D → R D
  | [.list xs] => if sortable xs = true then .ok (.list (sortD xs)) else .no
  | [.tuple xs] => if sortable xs = true then .ok (.list (sortD xs)) else .no
  | _ => .no
section
variable {X : Cx} {E : XK}
theorem repAll1 {K : PySem.W.Frag} {G : Hp} {vs : List V} {d : D} (h : RepAll K G vs [d]) : ∃ v, vs = [v] ∧ Rep K G v d := by
  cases h with
  | cons r t => cases t; exact ⟨_, rfl, r⟩
theorem repAll2 {K : PySem.W.Frag} {G : Hp} {vs : List V} {d e : D} (h : RepAll K G vs [d, e]) : ∃ v w, vs = [v, w] ∧ Rep K G v d ∧ Rep K G w e := by
  cases h with
  | cons r t =>
    cases t with
    | cons r2 t2 => cases t2; exact ⟨_, _, rfl, r, r2⟩
theorem repAll_bools {K : PySem.W.Frag} {G : Hp} : ∀ {vs : List V} {bs : List Bool}, RepAll K G vs (bs.map .bool) → vs = bs.map V.bl
  | _, [], .nil => rfl
  | _, b :: bs, .cons r t => by
    cases r
    rw [repAll_bools t]
    rfl
theorem repAll_nums {K : PySem.W.Frag} {G : Hp} : ∀ {vs : List V} {bs : List Int}, RepAll K G vs (bs.map .int) → vs = bs.map V.int
  | _, [], .nil => rfl
  | _, b :: bs, .cons r t => by
    cases r
    rw [repAll_nums t]
    rfl
theorem nums_repAll {K : PySem.W.Frag} {G : Hp} : ∀ bs : List Int, RepAll K G (bs.map V.int) (bs.map .int)
  | [] => .nil
  | b :: bs => .cons (.int b) (nums_repAll bs)
theorem len_dict {es : List (D × D)} (h : ∀ xs, es ≠ [(.none, .list xs)]) : pyLen [.dict es] = .no := by
  cases es with
  | nil => rfl
  | cons p es =>
    obtain ⟨k, v⟩ := p
    cases es with
    | nil => cases k <;> cases v <;> first | rfl | exact absurd rfl (h _)
    | cons q es => cases k <;> cases v <;> rfl
theorem cd_len : CallD X E (.builtin "len") pyLen := by
  intro pins s σ H vs us Q I r ⟨G, ts, sa, ra, q⟩
  match ts, q with
  | [.list xs], q =>
    obtain ⟨v, rfl, r1⟩ := repAll1 ra
    cases r1 with
    | lst h a => exact call_len_seq pins s σ H _ us Q I r ⟨_, _, rfl, .inl (same_lst sa h), q.now sa (by rw [a.length]; exact .int _)⟩
  | [.tuple xs], q =>
    obtain ⟨v, rfl, r1⟩ := repAll1 ra
    cases r1 with
    | tup h a => exact call_len_seq pins s σ H _ us Q I r ⟨_, _, rfl, .inr (same_seqT sa h), q.now sa (by rw [a.length]; exact .int _)⟩
  | [.str z], q =>
    obtain ⟨v, rfl, r1⟩ := repAll1 ra
    cases r1
    simp only [pyLen] at q
    split at q
    · rename_i hz
      exact call_len_str pins s σ H _ us Q I r ⟨z, rfl, hz, q.now sa (.int _)⟩
    · exact q.elim
  | [.dict es], q =>
    obtain ⟨v, rfl, r1⟩ := repAll1 ra
    cases r1 with
    | scr h =>
      rename_i ns
      exact call_len_seq pins s σ H _ us Q I r ⟨_, _, rfl, .inl (sa.seq h), q.now sa (by rw [List.length_map, List.length_map]; exact .int _)⟩
    | dK h ek r =>
      rw [len_dict (not_scrK ek)] at q
      exact q.elim
    | dT h ek r =>
      rw [len_dict (not_scrT ek)] at q
      exact q.elim
    | exc => exact q.elim
  | [.none], q | [.bool _], q | [.int _], q | [], q => exact q.elim
  | _ :: _ :: _, q => simp only [pyLen] at q; exact q.elim
theorem cd_tuple : CallD X E (.type "tuple") pyTuple := by
  intro pins s σ H vs us Q I r ⟨G, ts, sa, ra, q⟩
  match ts, q with
  | [.list xs], q =>
    obtain ⟨v, rfl, r1⟩ := repAll1 ra
    cases r1 with
    | lst h a => exact call_tuple_ofU pins s σ H _ us Q I r ⟨_, _, rfl, .inl ⟨same_lst sa h, q.newT sa a⟩⟩
  | [.tuple xs], q =>
    obtain ⟨v, rfl, r1⟩ := repAll1 ra
    cases r1 with
    | tup h a => exact call_tuple_ofU pins s σ H _ us Q I r ⟨_, _, rfl, .inr ⟨same_seqT sa h, q.now sa (.tup h a)⟩⟩
  | [.none], q | [.bool _], q | [.int _], q | [.dict _], q | [.str _], q | [], q => exact q.elim
  | _ :: _ :: _, q => simp only [pyTuple] at q; exact q.elim
theorem cd_all (hc : X.calm = true) : CallD X E (.builtin "all") pyAll := by
  intro pins s σ H vs us Q I r ⟨G, ts, sa, ra, q⟩
  match ts, q with
  | [.list xs], q =>
    obtain ⟨v, rfl, r1⟩ := repAll1 ra
    simp only [pyAll] at q
    cases e : bools xs with
    | none => rw [e] at q; exact q.elim
    | some bs =>
      rw [e] at q
      cases r1 with
      | lst h a =>
        rw [bools_eq e] at a
        rw [repAll_bools a] at h
        exact cr_all hc pins s σ H _ us Q I r ⟨_, bs, rfl, same_lst sa h, q.now sa (.bl _)⟩
  | [.none], q | [.bool _], q | [.int _], q | [.dict _], q | [.str _], q | [.tuple _], q | [], q => exact q.elim
  | _ :: _ :: _, q => simp only [pyAll] at q; exact q.elim
theorem reads_ints {h : Heap} : ∀ {ns : List Int} {us : List Value}, Vals (ns.map V.int) us → ReadsAll h us (ns.map .int) []
  | [], _, .nil => .nil
  | n :: ns, _, .cons r t => by
    obtain ⟨k, rfl⟩ := r
    exact .cons (as := []) (.int n k) (reads_ints t)
theorem depth_ints : ∀ ns : List Int, PyData.depthAll (ns.map .int) = 0
  | [] => rfl
  | n :: ns => by
    rw [List.map_cons, PyData.depthAll, depth_ints ns]
    rfl
theorem alike_ints (ns : List Int) : PySem.W.AlikeAll (ns.map PyData.int) := ⟨fun d hd e he => by
  obtain ⟨i, _, rfl⟩ := List.mem_map.mp hd
  obtain ⟨j, _, rfl⟩ := List.mem_map.mp he
  first | rfl | simp [PySem.W.alike], fun d hd => by
  obtain ⟨i, _, rfl⟩ := List.mem_map.mp hd
  exact fun z => nomatch z⟩
theorem fold_max (n : Int) (ns : List Int) : ns.foldl max n = lmax (n :: ns) := by
  show _ = ns.foldl (fun a b => if b > a then b else a) n
  congr 1
  funext a b
  split <;> omega
theorem cd_max (hu : X.A.units + 66 < cLine) (hc : X.calm = true) : CallD X E (.builtin "max") pyMax := by
  intro pins s σ H vs us Q I r ⟨G, ts, sa, ra, q⟩
  match ts, q with
  | [.int i, .int j], q =>
    obtain ⟨v, w, rfl, r1, r2⟩ := repAll2 ra
    cases r1
    cases r2
    exact call_max2 hc pins s σ H _ us Q I r ⟨i, j, rfl, q.now sa (.int _)⟩
  | [.list xs], q =>
    obtain ⟨v, rfl, r1⟩ := repAll1 ra
    simp only [pyMax] at q
    cases e : nums xs with
    | none => rw [e] at q; exact q.elim
    | some bs =>
      rw [e] at q
      by_cases hn : bs = []
      · simp only [if_pos hn] at q
        exact q.elim
      · simp only [if_neg hn] at q
        cases r1 with
        | lst h a =>
          rw [nums_eq e] at a
          rw [repAll_nums a] at h
          obtain ⟨m1, m2⟩ := lmax_spec hn
          refine cr_max hc pins s σ H _ us Q I r ⟨_, bs, rfl, same_lst sa h, List.length_pos_iff.mpr hn, fun m hm hmx => ?_⟩
          have em : m = lmax bs := Int.le_antisymm (m2 m hm) (hmx _ m1)
          subst em
          exact q.now sa (.int _)
  | [.tuple xs], q =>
    obtain ⟨v, rfl, r1⟩ := repAll1 ra
    simp only [pyMax] at q
    cases e : nums xs with
    | none => rw [e] at q; exact q.elim
    | some bs =>
      rw [e] at q
      cases bs with
      | nil => exact q.elim
      | cons n ns =>
        cases r1 with
        | tup h a =>
          rw [nums_eq e] at a
          rw [repAll_nums a] at h
          obtain ⟨its, rv, pl, hz⟩ := I.tuple (same_seqT sa h)
          rw [Vals.ref1 r]
          refine PySem.W.max_tuple_data (x := .int n) (xs := ns.map .int) (I.ok.hd hc) pl (by rw [List.toList_toArray]; exact reads_ints rv) (alike_ints (n :: ns)) (by
            have := depth_ints (n :: ns)
            have e : PyData.depthAll (PyData.int n :: ns.map .int) = 0 := this
            rw [e]
            omega) fun i v' h' tk bs hv rd hk => ?_
          rw [PySem.W.maxD_ints, fold_max] at rd
          cases rd
          exact ⟨.int (lmax (n :: ns)), H, I.kept hk, ⟨_, rfl⟩, q.now sa (.int _)⟩
  | [.none], q | [.bool _], q | [.int _], q | [.dict _], q | [.str _], q | [], q => exact q.elim
  | a :: b :: c :: l, q => simp only [pyMax] at q; exact q.elim
  | [.none, _], q | [.bool _, _], q | [.dict _, _], q | [.str _, _], q | [.tuple _, _], q | [.list _, _], q => simp only [pyMax] at q; exact q.elim
  | [.int _, .none], q | [.int _, .bool _], q | [.int _, .dict _], q | [.int _, .str _], q | [.int _, .tuple _], q | [.int _, .list _], q => simp only [pyMax] at q; exact q.elim
theorem fold_min (n : Int) (ns : List Int) : ns.foldl min n = lmin (n :: ns) := by
  show _ = ns.foldl (fun a b => if b < a then b else a) n
  congr 1
  funext a b
  split <;> omega
theorem cd_min (hu : X.A.units + 66 < cLine) (hc : X.calm = true) : CallD X E (.builtin "min") pyMin := by
  intro pins s σ H vs us Q I r ⟨G, ts, sa, ra, q⟩
  match ts, q with
  | [.int i, .int j], q =>
    obtain ⟨v, w, rfl, r1, r2⟩ := repAll2 ra
    cases r1
    cases r2
    exact call_min2 hc pins s σ H _ us Q I r ⟨i, j, rfl, q.now sa (.int _)⟩
  | [.list xs], q =>
    obtain ⟨v, rfl, r1⟩ := repAll1 ra
    simp only [pyMin] at q
    cases e : nums xs with
    | none => rw [e] at q; exact q.elim
    | some bs =>
      rw [e] at q
      by_cases hn : bs = []
      · simp only [if_pos hn] at q
        exact q.elim
      · simp only [if_neg hn] at q
        cases r1 with
        | lst h a =>
          rw [nums_eq e] at a
          rw [repAll_nums a] at h
          obtain ⟨m1, m2⟩ := lmin_spec hn
          refine cr_min hc pins s σ H _ us Q I r ⟨_, bs, rfl, same_lst sa h, List.length_pos_iff.mpr hn, fun m hm hmx => ?_⟩
          have em : m = lmin bs := Int.le_antisymm (hmx _ m1) (m2 m hm)
          subst em
          exact q.now sa (.int _)
  | [.tuple xs], q =>
    obtain ⟨v, rfl, r1⟩ := repAll1 ra
    simp only [pyMin] at q
    cases e : nums xs with
    | none => rw [e] at q; exact q.elim
    | some bs =>
      rw [e] at q
      cases bs with
      | nil => exact q.elim
      | cons n ns =>
        cases r1 with
        | tup h a =>
          rw [nums_eq e] at a
          rw [repAll_nums a] at h
          obtain ⟨its, rv, pl, hz⟩ := I.tuple (same_seqT sa h)
          rw [Vals.ref1 r]
          refine PySem.W.min_tuple_data (x := .int n) (xs := ns.map .int) (I.ok.hd hc) pl (by rw [List.toList_toArray]; exact reads_ints rv) (alike_ints (n :: ns)) (by
            have := depth_ints (n :: ns)
            have e : PyData.depthAll (PyData.int n :: ns.map .int) = 0 := this
            rw [e]
            omega) fun i v' h' tk bs hv rd hk => ?_
          rw [PySem.W.minD_ints, fold_min] at rd
          cases rd
          exact ⟨.int (lmin (n :: ns)), H, I.kept hk, ⟨_, rfl⟩, q.now sa (.int _)⟩
  | [.none], q | [.bool _], q | [.int _], q | [.dict _], q | [.str _], q | [], q => exact q.elim
  | a :: b :: c :: l, q => simp only [pyMin] at q; exact q.elim
  | [.none, _], q | [.bool _, _], q | [.dict _, _], q | [.str _, _], q | [.tuple _, _], q | [.list _, _], q => simp only [pyMin] at q; exact q.elim
  | [.int _, .none], q | [.int _, .bool _], q | [.int _, .dict _], q | [.int _, .str _], q | [.int _, .tuple _], q | [.int _, .list _], q => simp only [pyMin] at q; exact q.elim
theorem cd_int : CallD X E (.type "int") pyInt := by
  intro pins s σ H vs us Q I r ⟨G, ts, sa, ra, q⟩
  match ts, q with
  | [.int i], q =>
    obtain ⟨v, rfl, r1⟩ := repAll1 ra
    cases r1
    exact call_int1 pins s σ H _ us Q I r (.inl ⟨i, rfl, q.now sa (.int _)⟩)
  | [.bool i], q =>
    obtain ⟨v, rfl, r1⟩ := repAll1 ra
    cases r1
    exact call_int1 pins s σ H _ us Q I r (.inr ⟨i, rfl, q.now sa (.int _)⟩)
  | [.none], q | [.list _], q | [.dict _], q | [.str _], q | [.tuple _], q | [], q => exact q.elim
  | _ :: _ :: _, q => simp only [pyInt] at q; exact q.elim
theorem cd_divmod : CallD X E (.builtin "divmod") pyDivmod := by
  intro pins s σ H vs us Q I r ⟨G, ts, sa, ra, q⟩
  match ts, q with
  | [.int i, .int j], q =>
    obtain ⟨v, w, rfl, r1, r2⟩ := repAll2 ra
    cases r1
    cases r2
    simp only [pyDivmod] at q
    split at q
    · rename_i hc
      exact call_divmodU pins s σ H _ us Q I r ⟨i, j, rfl, hc, q.newT (vs := [.int (i / j), .int (i % j)]) sa (.cons (.int _) (.cons (.int _) .nil))⟩
    · exact q.elim
  | [.none], q | [.bool _], q | [.int _], q | [.dict _], q | [.str _], q | [.tuple _], q | [.list _], q | [], q => exact q.elim
  | a :: b :: c :: l, q => simp only [pyDivmod] at q; exact q.elim
  | [.none, _], q | [.bool _, _], q | [.dict _, _], q | [.str _, _], q | [.tuple _, _], q | [.list _, _], q => simp only [pyDivmod] at q; exact q.elim
  | [.int _, .none], q | [.int _, .bool _], q | [.int _, .dict _], q | [.int _, .str _], q | [.int _, .tuple _], q | [.int _, .list _], q => simp only [pyDivmod] at q; exact q.elim
/-! ### sorted -/
theorem reads_all {pins : List (Addr × Obj)} {σ : L2.St} {G H : Hp} {s : Shared} (I : Inv X pins σ H s) (sa : Same G H) : ∀ {vs : List V} {us : List Value} {ds : List D}, RepAll X.K G vs ds → Vals vs us → ds.all fit = true →
    PySem.W.EachIs (fun (u : Value) (b : V × D) => RelV b.1 u ∧ Rep X.K G b.1 b.2) us (vs.zip ds) ∧ PySem.W.EachIs (fun (u : Value) (b : V × D) => ∃ as, Reads s.heap u b.2 as) us (vs.zip ds)
  | _, _, _, .nil, .nil, _ => ⟨.nil, .nil⟩
  | _, _, _, .cons (d := d) (ds := ds) r t, .cons rv tv, f => by
    have f' : fit d = true ∧ ds.all fit = true := by simpa using f
    obtain ⟨h1, h2⟩ := reads_all I sa t tv f'.2
    obtain ⟨as, q⟩ := reads_of I sa r rv (fit_flat f'.1)
    exact ⟨.cons ⟨rv, r⟩ h1, .cons ⟨as, q⟩ h2⟩
theorem each_vals {K : PySem.W.Frag} {G : Hp} : ∀ {us : List Value} {bs : List (V × D)}, PySem.W.EachIs (fun (u : Value) (b : V × D) => RelV b.1 u ∧ Rep K G b.1 b.2) us bs → Vals (bs.map (·.1)) us ∧ RepAll K G (bs.map (·.1)) (bs.map (·.2))
  | _, _, .nil => ⟨.nil, .nil⟩
  | _, _, .cons h t => by
    obtain ⟨h1, h2⟩ := each_vals t
    exact ⟨.cons h.1 h1, .cons h.2 h2⟩
theorem sortable_spec {xs : List D} (h : sortable xs = true) : PySem.W.AllAlike xs ∧ PySem.W.Sortable xs ∧ xs.all fit = true := by
  unfold sortable at h
  rw [Bool.and_eq_true, Bool.and_eq_true, Bool.or_eq_true] at h
  obtain ⟨⟨h1, h2⟩, h3⟩ := h
  refine ⟨fun d hd e he => ?_, ?_, h2⟩
  · exact List.all_eq_true.mp (List.all_eq_true.mp h1 d hd) e he
  · rcases h3 with h3 | h3
    · refine .inl fun d hd => ?_
      have := List.all_eq_true.mp h3 d hd
      match d, this with
      | .tuple (x :: r), _ => exact ⟨x, r, rfl⟩
    · refine .inr fun d hd => ?_
      have := List.all_eq_true.mp h3 d hd
      constructor
      · rintro rfl
        cases this
      · rintro xs rfl
        cases this
theorem zip_snd {α β : Type} : ∀ {xs : List α} {ys : List β}, xs.length = ys.length → (xs.zip ys).map (·.2) = ys
  | [], [], _ => rfl
  | x :: xs, y :: ys, h => by
    show y :: (xs.zip ys).map (·.2) = _
    rw [zip_snd (Nat.succ.inj h)]
end
end TL
/-! the tree layer: zip of lists and tuples in any mixture, two and three; the pairs' objects are known -/
namespace TL
open PySem PySem.Spec PyProof.Rows L2
inductive Kd where
  | l
  | t
def IsIt : Kd → Heap → Addr → Addr → Nat → Prop
  | .l, h, it, a, i => h.IsListIter it a i
  | .t, h, it, a, i => h.IsTupleIter it a i
def IsSq : Kd → Heap → Addr → Array Value → Prop
  | .l, h, a, xs => h.IsList a xs
  | .t, h, a, xs => h.IsTuple a xs
def SqK : Kd → PySem.W.Frag → Hp → Addr → List V → Prop
  | .l, K, H, a, xs => SqL K H a xs
  | .t, K, H, a, xs => SqT K H a xs
theorem IsIt.obj {k : Kd} {h : Heap} {it a : Addr} {i : Nat} (x : IsIt k h it a i) : ∃ o, h.get? it = some o ∧ ∀ v, o.data ≠ .cell v := by
  cases k <;> (obtain ⟨o, e, _, d⟩ := x; exact ⟨o, e, fun v q => by rw [d] at q; cases q⟩)
theorem IsIt.keep {k : Kd} {h h' : Heap} {it a : Addr} {i : Nat} (x : IsIt k h it a i) (q : ∀ o, h.get? it = some o → h'.get? it = some o) : IsIt k h' it a i := by
  cases k <;> (obtain ⟨o, e, r⟩ := x; exact ⟨o, q _ e, r⟩)
theorem SqK.is {k : Kd} {X : Cx} {pins : List (Addr × Obj)} {σ : L2.St} {H : Hp} {s : Shared} {a : Addr} {xs : List V} (h : SqK k X.K H a xs) (I : Inv X pins σ H s) : ∃ its : List Value, Vals xs its ∧ IsSq k s.heap a its.toArray ∧ xs.length ≤ sizeLine ∧ a < s.heap.objs.size := by
  cases k with
  | l =>
    obtain ⟨its, r, p, z⟩ := I.list h
    exact ⟨its, r, p.isList, z, p.lt⟩
  | t =>
    obtain ⟨its, r, p, z⟩ := I.tuple h
    exact ⟨its, r, p, z, let ⟨_, e, _⟩ := p; Heap.lt_size e⟩
theorem SqK.inj {k : Kd} {X : Cx} {pins : List (Addr × Obj)} {σ : L2.St} {H : Hp} {s : Shared} {a : Addr} {xs ys : List V} (h : SqK k X.K H a xs) (h' : SqK k X.K H a ys) (I : Inv X pins σ H s) : xs = ys := by
  cases k with
  | l => exact I.list_inj h h'
  | t => exact I.tuple_inj h h'
theorem drawsK (k : Kd) {prog : Program} {w : World} {A : Around} (hh : A.handled = none) (it a : Addr) (hne : a ≠ it) (items : Array Value) :
    Draws prog w A it [it, a] items.size (fun i v => items[i]? = some v) (fun i h => IsIt k h it a i ∧ IsSq k h a items) := by
  cases k with
  | l => exact Draws.list hh it a hne items
  | t => exact Draws.tuple hh it a hne items
/-! ### two -/
end TL
/-! the tree layer, 5: what is walked, list comprehensions -/
namespace TL
open PySem PySem.Spec PyProof.Rows L2
/-- an object that its slot alone knows: a list, a dict -/
def OwnAt (K : PySem.W.Frag) (G H : Hp) (a : Addr) (t : D) : Prop := G a = none ∧
  ((∃ xs ts, t = .list ts ∧ H a = some (.lst xs) ∧ RepAll K G xs ts) ∨
   (∃ (kvs : List (Key × V)) (es : List (D × D)), t = .dict es ∧ H a = some (.dK kvs) ∧ es.map (·.1) = kvs.map (fun p => keyD p.1) ∧ RepAll K G (kvs.map (·.2)) (es.map (·.2))) ∨
   (∃ (kvs : List (List Key × V)) (es : List (D × D)), t = .dict es ∧ H a = some (.dT kvs) ∧ es.map (·.1) = kvs.map (fun p => .tuple (p.1.map keyD)) ∧ RepAll K G (kvs.map (·.2)) (es.map (·.2))))
theorem OwnAt.some_of {K : PySem.W.Frag} {G H : Hp} {a : Addr} {t : D} (h : OwnAt K G H a t) : ∃ o, H a = some o ∧ NotTup (some o) := by
  obtain ⟨_, ⟨_, _, _, e, _⟩ | ⟨_, _, _, e, _⟩ | ⟨_, _, _, e, _⟩⟩ := h <;> exact ⟨_, e, trivial⟩
theorem OwnAt.ne {K : PySem.W.Frag} {G H : Hp} {a : Addr} {t : D} (h : OwnAt K G H a t) : H a ≠ none := by
  obtain ⟨o, e, _⟩ := h.some_of
  rw [e]
  exact fun z => nomatch z
/-- frozen -/
theorem OwnAt.rep {K : PySem.W.Frag} {G G' H : Hp} {a : Addr} {t : D} (h : OwnAt K G H a t) (s : Same G G') (e : G' a = H a) : Rep K G' (.ref a) t := by
  obtain ⟨_, ⟨xs, ts, rfl, eh, r⟩ | ⟨kvs, es, rfl, eh, ek, r⟩ | ⟨kvs, es, rfl, eh, ek, r⟩⟩ := h
  · exact .lst (e.trans eh) (r.mono s)
  · exact .dK (.inl (e.trans eh)) ek (r.mono s)
  · exact .dT (e.trans eh) ek (r.mono s)
theorem OwnAt.keep {K : PySem.W.Frag} {G G' H H' : Hp} {a : Addr} {t : D} (h : OwnAt K G H a t) (s : Same G G') (g : G' a = none) (e : H' a = H a) : OwnAt K G' H' a t := by
  obtain ⟨_, ⟨xs, ts, rfl, eh, r⟩ | ⟨kvs, es, rfl, eh, ek, r⟩ | ⟨kvs, es, rfl, eh, ek, r⟩⟩ := h
  · exact ⟨g, .inl ⟨_, _, rfl, e.trans eh, r.mono s⟩⟩
  · exact ⟨g, .inr (.inl ⟨_, _, rfl, e.trans eh, ek, r.mono s⟩)⟩
  · exact ⟨g, .inr (.inr ⟨_, _, rfl, e.trans eh, ek, r.mono s⟩)⟩
def PostF (K : PySem.W.Frag) (mg : Str → Option Value) (E : XK) (G H : Hp) (m : R D) (Q : VK) : Prop :=
  match m with
  | .no => False
  | .ex c => ∀ H', Same H H' → E (cls mg c) none H'
  | .ok t => ∀ p G' H', Fr G H G' H' → H p = none → OwnAt K G' H' p t → Q (.ref p) H'
def rdF (K : PySem.W.Frag) (mg : Str → Option Value) (E : XK) (ρ : En) (m : R D) : TE := fun σ H Q => ∃ G, Same G H ∧ Ep K G ρ σ ∧ PostF K mg E G H m Q
/-- what a walk hands out, in trees -/
structure ItOk (K : PySem.W.Frag) (J : It) (G : Hp) (items : List D) : Prop where
  go : ∀ i H, i < items.length → Same G H → J.go i H
  stop : ∀ H, Same G H → J.stop items.length H
  yld : ∀ i x G2 H H' d, items[i]? = some d → Same G G2 → Same G2 H → J.yld i H x H' → ∃ G3, Fr G2 H G3 H' ∧ Rep K G3 x d
def rdI (K : PySem.W.Frag) (mg : Str → Option Value) (E : XK) (ρ : En) (m : R (List D)) : TI := fun σ H Rr => ∃ G, Same G H ∧ Ep K G ρ σ ∧ match m with
  | .no => False
  | .ex c => ∀ H', Same H H' → E (cls mg c) none H'
  | .ok items => ∀ J G' H', Fr G H G' H' → items.length ≤ sizeLine → ItOk K J G' items → Rr J H'
abbrev XI (X : Cx) (E : XK) (ρ : En) (tg iter : Expr) (m : R (List D)) : Prop := PI X tg iter (rdI X.K X.mg E ρ m)
/-- lists and tuples are not too long -/
def LenOk (K : PySem.W.Frag) (v : V) (H : Hp) : Prop := ∀ a xs, v = .ref a → (SqL K H a xs ∨ SqT K H a xs) → xs.length ≤ sizeLine
theorem Inv.lenOk {X : Cx} {pins : List (Addr × Obj)} {σ : L2.St} {H : Hp} {s : Shared} (I : Inv X pins σ H s) (v : V) : LenOk X.K v H := fun a xs _ h => by
  rcases h with h | h
  · obtain ⟨_, _, _, z⟩ := I.list h
    exact z
  · obtain ⟨_, _, _, z⟩ := I.tuple h
    exact z
theorem pe_len {X : Cx} {e : Expr} {t : TE} (h : PE X e t) : PE X e (fun σ H Q => t σ H fun v H' => LenOk X.K v H' → Q v H') := ⟨fun pins s σ H Q I q =>
  thn (h.run pins s σ H _ I q) fun u s' ⟨v, H', I', r, q'⟩ => ⟨v, H', I', r, q' (Inv.lenOk I' v)⟩⟩
theorem pa_len {X : Cx} {es : List Expr} {t : TA} (h : PA X es t) : PA X es (fun σ H Q => t σ H fun vs H' => (∀ v ∈ vs, LenOk X.K v H') → Q vs H') := ⟨fun pos pins s σ H Q I q =>
  thn (h.run pos pins s σ H _ I q) fun u s' ⟨v, H', I', r, q'⟩ => ⟨v, H', I', r, q' fun w _ => Inv.lenOk I' w⟩⟩
/-- the items of a list, a tuple -/
def items : D → R (List D)
  | .list xs => .ok xs
  | .tuple xs => .ok xs
  | _ => .no
section
variable {X : Cx} {E : XK} {ρ : En}
theorem itOk_list {K : PySem.W.Frag} {G : Hp} {a : Addr} {vs : List V} {ds : List D} (h : SqL K G a vs) (r : RepAll K G vs ds) : ItOk K (Itl K a) G ds where
  go := fun i H hi s => by
    have hv : i < vs.length := by rw [r.length]; exact hi
    exact ⟨vs, vs[i], s.seq h, List.getElem?_eq_getElem hv⟩
  stop := fun H s => ⟨vs, s.seq h, by rw [r.length]; exact Nat.le_refl _⟩
  yld := fun i x G2 H H' d e s s2 y => by
    obtain ⟨rfl, y⟩ := y
    obtain ⟨v, e2, r2⟩ := r.get e
    have := (y vs ((s.trans s2).seq h)).symm.trans e2
    cases this
    exact ⟨G2, Fr.refl s2, r2.mono s⟩
theorem itOk_tup {K : PySem.W.Frag} {G : Hp} {a : Addr} {vs : List V} {ds : List D} (h : SqT K G a vs) (r : RepAll K G vs ds) : ItOk K (Itt K a) G ds where
  go := fun i H hi s => by
    have hv : i < vs.length := by rw [r.length]; exact hi
    exact ⟨vs, vs[i], same_sqT s h, List.getElem?_eq_getElem hv⟩
  stop := fun H s => ⟨vs, same_sqT s h, by rw [r.length]; exact Nat.le_refl _⟩
  yld := fun i x G2 H H' d e s s2 y => by
    obtain ⟨rfl, y⟩ := y
    obtain ⟨v, e2, r2⟩ := r.get e
    have := (y vs (same_sqT (s.trans s2) h)).symm.trans e2
    cases this
    exact ⟨G2, Fr.refl s2, r2.mono s⟩
theorem xi_val {tg l : Expr} {m : R D} (hl : XP X E ρ l m) : XI X E ρ tg l (m.bind items) := by
  refine ⟨fun pins s σ H Rr I h => ?_⟩
  obtain ⟨G, sa, e, q⟩ := h
  cases m with
  | no => exact q.elim
  | ex c => exact (pi_list hl).run pins s σ H Rr I ⟨G, sa, e, q⟩
  | ok t =>
    cases t with
    | list ds =>
      refine (pi_list (pe_len hl)).run pins s σ H Rr I ⟨G, sa, e, fun v G' H' fr r lo => ?_⟩
      cases r with
      | lst h a => exact ⟨_, rfl, ⟨_, same_lst fr.gh h⟩, q _ G' H' fr (by rw [← a.length]; exact lo _ _ rfl (.inl (same_lst fr.gh h))) (itOk_list (.of h) a)⟩
    | tuple ds =>
      refine (pi_tup (pe_len hl)).run pins s σ H Rr I ⟨G, sa, e, fun v G' H' fr r lo => ?_⟩
      cases r with
      | tup h a => exact ⟨_, rfl, ⟨_, same_seqT fr.gh h⟩, q _ G' H' fr (by rw [← a.length]; exact lo _ _ rfl (.inr (same_seqT fr.gh h))) (itOk_tup h.t a)⟩
    | _ => exact q.elim
/-- lo, lo + 1, .. -/
def upto (lo : Int) (n : Nat) : List D := (List.range n).map fun k : Nat => .int (lo + k)
theorem upto_length {lo : Int} {n : Nat} : (upto lo n).length = n := by
  unfold upto
  rw [List.length_map, List.length_range]
theorem itOk_range {K : PySem.W.Frag} {G : Hp} {lo : Int} {n : Nat} : ItOk K (Itr lo n) G (upto lo n) where
  go := fun i H hi s => by
    rw [upto_length] at hi
    exact hi
  stop := fun H s => by
    rw [upto_length]
    exact Nat.le_refl n
  yld := fun i x G2 H H' d e s s2 y => by
    obtain ⟨e1, e2⟩ := y
    subst e1
    subst e2
    unfold upto at e
    rw [List.getElem?_map] at e
    by_cases hi : i < n
    · rw [List.getElem?_range hi] at e
      cases e
      exact ⟨G2, Fr.refl s2, .int _⟩
    · rw [List.getElem?_eq_none (by rw [List.length_range]; omega)] at e
      cases e
def pyRange : List D → R (List D)
  | [.int j] => if -(2 ^ 62) ≤ j ∧ j ≤ 16777216 then .ok (upto 0 j.toNat) else .no
  | [.int i, .int j] => if 0 ≤ i ∧ i ≤ 16777216 ∧ -(2 ^ 62) ≤ j ∧ j ≤ 16777216 then .ok (upto i (j - i).toNat) else .no
  | _ => .no
theorem xi_range1 {tg a : Expr} {p pos : Pos} {mk : CP} (hm : X.mg "range" = none) (ha : XAk X E ρ [a] mk) (hg : Gl X "range" := by rfl) (hs : starEach [a] X.env = [(false, eval a X.env)] := by rfl) : XI X E ρ tg (.Call (.Name "range" p) [a] [] pos) (mk (List D) pyRange) := by
  obtain ⟨m, e, hl, h⟩ := ha
  rw [e]
  refine ⟨fun pins s σ H Rr I hq => (pi_range1 hg hm h hs).run pins s σ H Rr I ?_⟩
  obtain ⟨G, sa, ep, q⟩ := hq
  refine ⟨G, sa, ep, ?_⟩
  cases m with
  | no => exact q.elim
  | ex c => exact q
  | ok ts =>
    have hl1 := hl ts rfl
    intro vs G1 H1 fr ra
    match ts, hl1, q with
    | [.int j], _, q =>
      obtain ⟨v, rfl, r1⟩ := repAll1 ra
      cases r1
      simp only [R.bind, pyRange] at q
      by_cases hc : -(2 ^ 62) ≤ j ∧ j ≤ 16777216
      · simp only [if_pos hc] at q
        exact ⟨j, rfl, hc.1, by omega, q _ G1 H1 fr (by rw [upto_length, sizeLine_eq]; omega) itOk_range⟩
      · simp only [if_neg hc] at q
    | [.none], _, q | [.bool _], _, q | [.str _], _, q | [.list _], _, q | [.tuple _], _, q | [.dict _], _, q => exact q.elim
/-! ### zip of two lists, of two tuples -/
def pairs (xs ys : List D) : List D := xs.zipWith (fun a b => .tuple [a, b]) ys
theorem yld_pair {K : PySem.W.Frag} {G2 H : Hp} {T : Addr} {u : HO} {x y : V} {a b : D} (s2 : Same G2 H) (nT : H T = none) (tu : TupH u [x, y]) (r1 : Rep K G2 x a) (r2 : Rep K G2 y b) : ∃ G3, Fr G2 H G3 (upd H T u) ∧ Rep K G3 (.ref T) (.tuple [a, b]) :=
  ⟨_, Fr.new s2 nT, rep_newT s2 nT tu (.cons r1 (.cons r2 .nil))⟩
/-- the items of a list or a tuple -/
def sq : D → Option (List D)
  | .list xs => some xs
  | .tuple xs => some xs
  | _ => none
def pyZip : List D → R (List D)
  | [a, b] => match sq a, sq b with
    | some xs, some ys => .ok (pairs xs ys)
    | _, _ => .no
  | _ => .no
/-! ### targets -/
/-- the slots beside these are as they were -/
def Only (sl : List Nat) (σ σ' : L2.St) : Prop := σ'.length = σ.length ∧ ∀ i, i ∉ sl → σ'[i]? = σ[i]?
theorem wipe_only : ∀ {sl : List Nat} {σ σ' : L2.St}, Only sl σ σ' → wipe σ' sl = wipe σ sl := by
  have key : ∀ (sl : List Nat) (σ : L2.St) (i : Nat), (wipe σ sl)[i]? = if i ∈ sl ∧ i < σ.length then some none else σ[i]? := by
    intro sl
    induction sl with
    | nil => intro σ i; simp [wipe]
    | cons v vs ih =>
      intro σ i
      show ((wipe σ vs).set v none)[i]? = _
      by_cases hi : v = i
      · subst hi
        by_cases hl : v < σ.length
        · rw [List.getElem?_set_self (by rw [wipe_length]; exact hl)]
          simp [hl]
        · rw [List.getElem?_eq_none (by rw [List.length_set, wipe_length]; omega)]
          simp [hl]
      · rw [List.getElem?_set_ne hi, ih]
        have : ¬ i = v := fun z => hi z.symm
        simp [this]
  intro sl σ σ' h
  refine List.ext_getElem? fun i => ?_
  rw [key, key, h.1]
  split
  · rfl
  · rename_i hn
    by_cases hi : i ∈ sl
    · have h1 : ¬ i < σ.length := fun z => hn ⟨hi, z⟩
      have h2 := h.1
      rw [List.getElem?_eq_none (l := σ) (by omega), List.getElem?_eq_none (l := σ') (by omega)]
    · exact h.2 i hi
def putsS : List (Nat × V × D) → L2.St → L2.St
  | [], σ => σ
  | p :: ps, σ => putsS ps (σ.set p.1 (some p.2.1))
def putsE : List (Nat × V × D) → En → En
  | [], ρ => ρ
  | p :: ps, ρ => putsE ps (setN ρ p.1 (some p.2.2))
/-- how an item has fallen into the slots -/
structure PutOk (K : PySem.W.Frag) (G : Hp) (sl : List Nat) (f : En → En) (ps : List (Nat × V × D)) : Prop where
  sub : ∀ p ∈ ps, p.1 ∈ sl
  rep : ∀ p ∈ ps, Rep K G p.2.1 p.2.2
  eq : ∀ ρ, f ρ = putsE ps ρ
theorem only_set {σ σ' : L2.St} {sl : List Nat} {i : Nat} {o : Option V} (h : Only sl σ σ') (hi : i ∈ sl) : Only sl σ (σ'.set i o) :=
  ⟨by rw [List.length_set]; exact h.1, fun j hj => by
    rw [List.getElem?_set_ne (fun z : i = j => hj (by rw [← z]; exact hi))]
    exact h.2 j hj⟩
theorem only_refl {σ : L2.St} {sl : List Nat} : Only sl σ σ := ⟨rfl, fun _ _ => rfl⟩
theorem puts_only {sl : List Nat} : ∀ {ps : List (Nat × V × D)} {σ σ0 : L2.St}, (∀ p ∈ ps, p.1 ∈ sl) → Only sl σ0 σ → Only sl σ0 (putsS ps σ)
  | [], _, _, _, h => h
  | p :: ps, _, _, hs, h => puts_only (ps := ps) (fun q hq => hs q (List.mem_cons_of_mem _ hq)) (only_set h (hs p List.mem_cons_self))
theorem puts_ep {K : PySem.W.Frag} {G : Hp} : ∀ {ps : List (Nat × V × D)} {σ : L2.St} {ρ : En}, (∀ p ∈ ps, Rep K G p.2.1 p.2.2) → Ep K G ρ σ → Ep K G (putsE ps ρ) (putsS ps σ)
  | [], _, _, _, h => h
  | p :: ps, _, _, hs, h => puts_ep (ps := ps) (fun q hq => hs q (List.mem_cons_of_mem _ hq)) (h.put (hs p List.mem_cons_self))
def rdG (K : PySem.W.Frag) {α : Type} (sl : List Nat) (u : D → R α) (put : α → En → En) : TG := fun v σ H Q => ∃ G d a, Same G H ∧ Rep K G v d ∧ u d = .ok a ∧
  ∀ ps, PutOk K G sl (put a) ps → Q (putsS ps σ) H
/-- a target: its slots, how an item falls into them -/
abbrev XG (X : Cx) {α : Type} (tg : Expr) (sl : List Nat) (u : D → R α) (put : α → En → En) : Prop := PG X tg (rdG X.K sl u put)
theorem pg_weak {tg : Expr} {t t' : TG} (h : PG X tg t) (f : ∀ v σ H Q, t' v σ H Q → t v σ H Q) : PG X tg t' := ⟨fun pins s σ H v u Q I r q => h.run pins s σ H v u Q I r (f _ _ _ _ q)⟩
theorem xg_name {x : Str} {pos : Pos} (i : Nat) (hN : X.N.Nodup) (hi : X.N[i]? = some x := by rfl) (hx : Loc X.env.scope x := by first | exact .inl rfl | exact .inr rfl) (hf : X.fn x = true ∨ X.env.scope.names.lookup x = some .local := by first | exact .inl rfl | exact .inr rfl) :
    XG X (.Name x pos) [i] (fun d => R.ok d) (fun d ρ => setN ρ i (some d)) :=
  pg_weak (pg_name hN hi hx hf) fun v σ H Q ⟨G, d, a, s, r, e, q⟩ => by
    cases e
    exact q [(i, v, d)] ⟨by simp, by simpa using r, fun _ => rfl⟩
def unp2 : D → R (D × D)
  | .tuple [a, b] => .ok (a, b)
  | _ => .no
def unp3 : D → R (D × D × D)
  | .tuple [a, b, c] => .ok (a, b, c)
  | _ => .no
theorem xg_pair {x y : Str} {px py pos : Pos} {kk : Nat} (i j : Nat) (hN : X.N.Nodup) (hc : X.calm = true := by rfl) (hi : X.N[i]? = some x := by rfl) (hj : X.N[j]? = some y := by rfl) (hx : Loc X.env.scope x := by first | exact .inl rfl | exact .inr rfl) (hy : Loc X.env.scope y := by first | exact .inl rfl | exact .inr rfl)
    (hfx : X.fn x = true ∨ X.env.scope.names.lookup x = some .local := by first | exact .inl rfl | exact .inr rfl) (hfy : X.fn y = true ∨ X.env.scope.names.lookup y = some .local := by first | exact .inl rfl | exact .inr rfl) :
    XG X (.Tuple [.Name x px, .Name y py] kk pos) [i, j] unp2 (fun p ρ => setN (setN ρ i (some p.1)) j (some p.2)) :=
  pg_weak (pg_tup (n := 2) hc (pgs_cons (pg_name hN hi hx hfx) (pgs_cons (pg_name hN hj hy hfy) pgs_nil))) fun v σ H Q ⟨G, d, p, s, r, e, q⟩ => by
    match d, e with
    | .tuple [a, b], e =>
      cases e
      cases r with
      | tup h ra =>
        obtain ⟨v1, v2, rfl, r1, r2⟩ := repAll2 ra
        exact ⟨_, _, rfl, same_seqT s h, rfl, v1, _, rfl, v2, [], rfl, rfl, q [(i, v1, a), (j, v2, b)] ⟨by simp, by simpa using ⟨r1, r2⟩, fun _ => rfl⟩⟩
    | .tuple [], e | .tuple [_], e | .tuple (_ :: _ :: _ :: _), e => cases e
    | .none, e | .bool _, e | .int _, e | .str _, e | .list _, e | .dict _, e => cases e
/-! ### comprehensions -/
def nox {α : Type} : R α → R α
  | .ex _ => .no
  | m => m
@[simp] theorem nox_ok {α : Type} (a : α) : nox (.ok a) = .ok a := rfl
@[simp] theorem nox_no {α : Type} : nox (.no : R α) = .no := rfl
/-- [f d for d in ds] -/
def mapR (f : D → R D) : List D → R (List D)
  | [] => .ok []
  | d :: ds => (nox (f d)).bind fun t => (mapR f ds).bind fun ts => .ok (t :: ts)
/-- [f d for d in ds if p d] -/
def filR (p : D → R Bool) (f : D → R D) : List D → R (List D)
  | [] => .ok []
  | d :: ds => (nox (p d)).bind fun b => if b = true then (nox (f d)).bind fun t => (filR p f ds).bind fun ts => .ok (t :: ts) else filR p f ds
/-- the slots' trees without these -/
def wipeE (ρ : En) : List Nat → En
  | [] => ρ
  | v :: vs => setN (wipeE ρ vs) v none
theorem Ep.wipe {K : PySem.W.Frag} {G : Hp} {ρ : En} {σ : L2.St} (h : Ep K G ρ σ) : ∀ {vs : List Nat}, Ep K G (wipeE ρ vs) (L2.wipe σ vs)
  | [] => h
  | _ :: vs => (Ep.wipe h (vs := vs)).drop
theorem PostP.e0 {α β : Type} {Rp : PySem.W.Frag → Hp → β → α → Prop} {K : PySem.W.Frag} {mg : Str → Option Value} {G H : Hp} {t : α} {m : R α} {Q : β → Hp → Prop} (e : nox m = .ok t) (q : PostP Rp K mg E0 G H (.ok t) Q) : PostP Rp K mg E0 G H m Q := by
  cases m with
  | no => cases e
  | ex c => cases e
  | ok a => cases e; exact q
/-- what a comprehension has made so far -/
structure LcAt (K : PySem.W.Frag) (G1 H1 : Hp) (D0 : Addr) (F : List D → R (List D)) (its rs : List D) (i : Nat) (H : Hp) (G : Hp) (acc : List V) (ad rr : List D) : Prop where
  fr : Fr G1 H1 G H
  at_ : H D0 = some (.lst acc)
  un : G D0 = none
  rep : RepAll K G acc ad
  rest : F (its.drop i) = .ok rr
  all : rs = ad ++ rr
  few : acc.length ≤ i
theorem LcAt.fin {K : PySem.W.Frag} {G1 H1 : Hp} {D0 : Addr} {F : List D → R (List D)} {its rs : List D} {H G : Hp} {acc : List V} {ad rr : List D} (h : LcAt K G1 H1 D0 F its rs its.length H G acc ad rr) (hF : F [] = .ok []) : OwnAt K G H D0 (.list rs) := by
  have e := h.rest
  rw [List.drop_length, hF] at e
  cases e
  have ea : rs = ad := by rw [h.all, List.append_nil]
  subst ea
  exact ⟨h.un, .inl ⟨acc, rs, rfl, h.at_, h.rep⟩⟩
theorem LcAt.mid {K : PySem.W.Frag} {G1 H1 G H G' H' : Hp} {D0 : Addr} {F : List D → R (List D)} {its rs : List D} {i : Nat} {acc : List V} {ad rr : List D} (h : LcAt K G1 H1 D0 F its rs i H G acc ad rr) (fr : Fr G H G' H') :
    Fr G1 H1 G' H' ∧ H' D0 = some (.lst acc) ∧ G' D0 = none ∧ RepAll K G' acc ad :=
  ⟨h.fr.trans fr, fr.hh _ _ h.at_, fr.nw _ h.un (by rw [h.at_]; exact fun z => nomatch z), h.rep.mono fr.gg⟩
/-- one more is laid on -/
theorem LcAt.more {K : PySem.W.Frag} {G1 H1 G H G' H' : Hp} {D0 : Addr} {F : List D → R (List D)} {its rs : List D} {i : Nat} {acc : List V} {ad ts : List D} {v : V} {t : D} (h : LcAt K G1 H1 D0 F its rs i H G acc ad (t :: ts)) (nD : H1 D0 = none) (fr : Fr G H G' H') (r : Rep K G' v t)
    (e : F (its.drop (i + 1)) = .ok ts) : LcAt K G1 H1 D0 F its rs (i + 1) (upd H' D0 (.lst (acc ++ [v]))) G' (acc ++ [v]) (ad ++ [t]) ts := by
  obtain ⟨f, a, u, rp⟩ := h.mid fr
  refine ⟨⟨f.gg, fun b o eb => ?_, fun b o eb => ?_, f.nw⟩, upd_same, u, rp.append (.cons r .nil), e, by rw [h.all, List.append_assoc]; rfl, by
    rw [List.length_append]
    have := h.few
    simp only [List.length_cons, List.length_nil]
    omega⟩
  · rw [upd_ne (ne_of_none eb u)]
    exact f.gh _ _ eb
  · rw [upd_ne (ne_of_none eb nD)]
    exact f.hh _ _ eb
theorem LcAt.skip {K : PySem.W.Frag} {G1 H1 G H G' H' : Hp} {D0 : Addr} {F : List D → R (List D)} {its rs : List D} {i : Nat} {acc : List V} {ad rr : List D} (h : LcAt K G1 H1 D0 F its rs i H G acc ad rr) (fr : Fr G H G' H')
    (e : F (its.drop (i + 1)) = .ok rr) : LcAt K G1 H1 D0 F its rs (i + 1) H' G' acc ad rr := by
  obtain ⟨f, a, u, rp⟩ := h.mid fr
  exact ⟨f, a, u, rp, e, h.all, Nat.le_succ_of_le h.few⟩
theorem filR_ex {p : D → R Bool} {f : D → R D} : ∀ {ds : List D} {c : Str}, filR p f ds ≠ .ex c
  | [], _, h => nomatch h
  | d :: ds, c, h => by
    unfold filR at h
    cases e1 : nox (p d) with
    | no => rw [e1] at h; exact nomatch h
    | ex c' => cases e2 : p d <;> rw [e2] at e1 <;> exact nomatch e1
    | ok b =>
      rw [e1] at h
      cases b with
      | false => exact filR_ex (ds := ds) (c := c) (by simpa using h)
      | true =>
        cases e3 : nox (f d) with
        | no => rw [e3] at h; exact nomatch h
        | ex c' => cases e2 : f d <;> rw [e2] at e3 <;> exact nomatch e3
        | ok t =>
          rw [e3] at h
          cases e4 : filR p f ds with
          | no => rw [e4] at h; exact nomatch h
          | ex c' => exact filR_ex e4
          | ok ts => rw [e4] at h; exact nomatch h
theorem mapR_fil {α : Type} {u : D → R α} {me : α → R D} : ∀ ds : List D, mapR (fun d => (u d).bind me) ds = filR (fun d => (u d).bind fun _ => .ok true) (fun d => (u d).bind me) ds
  | [] => rfl
  | d :: ds => by
    unfold mapR filR
    rw [mapR_fil ds]
    cases u d <;> rfl
theorem filR_cons {p : D → R Bool} {f : D → R D} {d : D} {ds ts : List D} (h : filR p f (d :: ds) = .ok ts) : ∃ b, p d = .ok b ∧ (b = false → filR p f ds = .ok ts) ∧ (b = true → ∃ t ts', f d = .ok t ∧ filR p f ds = .ok ts' ∧ ts = t :: ts') := by
  unfold filR at h
  cases e1 : p d with
  | no => rw [e1] at h; exact nomatch h
  | ex c => rw [e1] at h; exact nomatch h
  | ok b =>
    rw [e1] at h
    refine ⟨b, rfl, fun hb => ?_, fun hb => ?_⟩
    · subst hb
      simpa using h
    · subst hb
      cases e2 : f d with
      | no => rw [e2] at h; exact nomatch h
      | ex c => rw [e2] at h; exact nomatch h
      | ok t =>
        rw [e2] at h
        cases e3 : filR p f ds with
        | no => rw [e3] at h; exact nomatch h
        | ex c => rw [e3] at h; exact nomatch h
        | ok ts' =>
          rw [e3] at h
          cases h
          exact ⟨t, ts', rfl, rfl, rfl⟩
/-- from the parts' readings to the comprehension's -/
theorem lc_read {K : PySem.W.Frag} {mg : Str → Option Value} {α : Type} {wi : R (List D)} {sl vs : List Nat} {u : D → R α} {put : α → En → En} {cond : α → R Bool} {me : α → R D} {tt : TT} {σ : L2.St} {H : Hp} {Q : VK} (hsub : ∀ i ∈ sl, i ∈ vs)
    (ht : ∀ (a : α) (b : Bool) (σ2 : L2.St) (H2 G2 : Hp) (Qb : Bool → Hp → Prop), cond a = .ok b → Same G2 H2 → Ep K G2 (put a (wipeE ρ vs)) σ2 → (∀ G3 H3, Fr G2 H2 G3 H3 → Qb b H3) → tt σ2 H2 Qb)
    (h : rdF K mg E ρ (wi.bind fun its => (filR (fun d => (u d).bind cond) (fun d => (u d).bind me) its).bind fun rs => .ok (.list rs)) σ H Q) :
    ∀ te : TE, (∀ (a : α) (t : D) (σ2 : L2.St) (H2 G2 : Hp) (Qe : VK), me a = .ok t → Same G2 H2 → Ep K G2 (put a (wipeE ρ vs)) σ2 → (∀ v G3 H3, Fr G2 H2 G3 H3 → Rep K G3 v t → Qe v H3) → te σ2 H2 Qe) →
    tLc (rdI K mg E ρ wi) (rdG K sl u put) tt te vs σ H Q := by
  intro te hte
  obtain ⟨G, sa, ep, q⟩ := h
  refine ⟨G, sa, ep, ?_⟩
  cases wi with
  | no => exact q.elim
  | ex c => exact q
  | ok its =>
    intro J G1 H1 fr hz io D0 nD
    have q' : PostF K mg E G H ((filR (fun d => (u d).bind cond) (fun d => (u d).bind me) its).bind fun rs => .ok (.list rs)) Q := q
    cases eF : filR (fun d => (u d).bind cond) (fun d => (u d).bind me) its with
    | no => rw [eF] at q'; exact q'.elim
    | ex c => exact absurd eF filR_ex
    | ok rs =>
      rw [eF] at q'
      · have hD : H D0 = none := by
          cases z : H D0 with
          | none => rfl
          | some o => rw [fr.hh _ _ z] at nD; cases nD
        refine ⟨fun i m H => m = its.length - i ∧ i ≤ its.length ∧ ∃ G acc ad rr, LcAt K G1 H1 D0 (filR (fun d => (u d).bind cond) (fun d => (u d).bind me)) its rs i H G acc ad rr, ⟨its.length, by simp, Nat.zero_le _, G1, [], [], rs, ?_⟩, ?_⟩
        · refine ⟨⟨Same.refl _, fun b o eb => ?_, fun b o eb => ?_, fun _ h _ => h⟩, upd_same, (fr.gh.free nD), .nil, eF, rfl, Nat.le_refl _⟩
          · rw [upd_ne (ne_of_none (fr.gh _ _ eb) nD)]
            exact fr.gh _ _ eb
          · rw [upd_ne (ne_of_none eb nD)]
            exact eb
        · rintro i m H2 ⟨rfl, hi, G2, acc, ad, rr, hL⟩
          by_cases hlt : i < its.length
          · right
            have hget := List.getElem?_eq_getElem hlt
            have hdrop : its.drop i = its[i] :: its.drop (i + 1) := List.drop_eq_getElem_cons hlt
            refine ⟨io.go i H2 hlt (hL.fr.gg.trans hL.fr.gh), fun H' => ∃ G acc ad rr, LcAt K G1 H1 D0 (filR (fun d => (u d).bind cond) (fun d => (u d).bind me)) its rs (i + 1) H' G acc ad rr, fun H' hN => ⟨its.length - (i + 1), by omega, rfl, hlt, hN⟩, fun x H' hy => ?_⟩
            obtain ⟨G3, fr3, r3⟩ := io.yld i x G2 H2 H' its[i] hget hL.fr.gg hL.fr.gh hy
            have er := hL.rest
            rw [hdrop] at er
            obtain ⟨b, eb, h0, h1⟩ := filR_cons er
            cases eu : u its[i] with
            | no => rw [eu] at eb; exact nomatch eb
            | ex c => rw [eu] at eb; exact nomatch eb
            | ok a =>
              rw [eu] at eb
              refine ⟨G3, its[i], a, fr3.gh, r3, eu, fun ps hp => ?_⟩
              have ho : Only sl (wipe σ vs) (putsS ps (wipe σ vs)) := puts_only hp.sub only_refl
              have epA : Ep K G3 (put a (wipeE ρ vs)) (putsS ps (wipe σ vs)) := by
                rw [hp.eq]
                exact puts_ep hp.rep ((((ep.mono fr.gg).mono hL.fr.gg).mono fr3.gg).wipe)
              generalize putsS ps (wipe σ vs) = σ2 at ho epA ⊢
              have hw : wipe σ2 vs = wipe σ vs := by
                have h1 : Only vs (wipe σ vs) σ2 := ⟨ho.1, fun j hj => ho.2 j fun hm => hj (hsub j hm)⟩
                rw [wipe_only h1]
                exact wipe_only ⟨by rw [wipe_length], fun j hj => by
                  cases e : (wipe σ vs)[j]? with
                  | none =>
                    have : σ.length ≤ j := by
                      have := List.getElem?_eq_none_iff.mp e
                      rw [wipe_length] at this
                      exact this
                    exact (List.getElem?_eq_none this).symm
                  | some o =>
                    have key : ∀ (l : List Nat) (j : Nat), j ∉ l → (wipe σ l)[j]? = σ[j]? := by
                      intro l
                      induction l with
                      | nil => intro j _; rfl
                      | cons v l ih =>
                        intro j hj
                        show ((wipe σ l).set v none)[j]? = _
                        rw [List.getElem?_set_ne (fun z : v = j => hj (by rw [z]; exact List.mem_cons_self))]
                        exact ih j fun hm => hj (List.mem_cons_of_mem _ hm)
                    rw [← e, key vs j hj]⟩
              refine ⟨hw, ht a b σ2 H' G3 _ eb fr3.gh epA fun G4 H4 fr4 => ?_⟩
              cases b with
              | false =>
                rw [if_neg Bool.false_ne_true]
                exact ⟨G4, acc, ad, rr, hL.skip (fr3.trans fr4) (h0 rfl)⟩
              | true =>
                rw [if_pos rfl]
                obtain ⟨t, ts', ef, er', rfl⟩ := h1 rfl
                simp only [eu, R.ok_bind] at ef
                refine hte a t σ2 H4 G4 _ ef fr4.gh (epA.mono fr4.gg) fun v G5 H5 fr5 r5 => ?_
                have frA := (fr3.trans fr4).trans fr5
                obtain ⟨_, a5, _, _⟩ := hL.mid frA
                exact ⟨acc, a5, by have := hL.few; omega, G5, _, _, _, hL.more nD frA r5 er'⟩
          · left
            have e : i = its.length := by omega
            subst e
            exact ⟨io.stop H2 (hL.fr.gg.trans hL.fr.gh), q' D0 G2 H2 (fr.trans hL.fr) hD (hL.fin rfl)⟩
end
end TL
/-! the tree layer, 6: owned lists, expressions that change them -/
namespace TL
open PySem PySem.Spec PyProof.Rows L2
/-- the state: the slots in own hold objects of their own -/
structure Er (K : PySem.W.Frag) (own : List Nat) (ρ : En) (ad : Nat → Addr) (σ : L2.St) (G H : Hp) : Prop where
  len : ρ.length = σ.length
  gh : Same G H
  fz : ∀ i t, getN ρ i = some t → i ∉ own → ∃ v, σ[i]? = some (some v) ∧ Rep K G v t
  ow : ∀ i ∈ own, ∃ t, getN ρ i = some t ∧ σ[i]? = some (some (.ref (ad i))) ∧ OwnAt K G H (ad i) t
  inj : ∀ i ∈ own, ∀ j ∈ own, ad i = ad j → i = j
structure FrO (own : List Nat) (ad : Nat → Addr) (G H G' H' : Hp) : Prop where
  gg : Same G G'
  hh : ∀ b o, H b = some o → (∀ i ∈ own, b ≠ ad i) → H' b = some o
  nw : ∀ b, G b = none → H b ≠ none → G' b = none
theorem FrO.refl {own : List Nat} {ad : Nat → Addr} {G H : Hp} : FrO own ad G H G H := ⟨Same.refl _, fun _ _ e _ => e, fun _ h _ => h⟩
theorem FrO.trans {K : PySem.W.Frag} {own : List Nat} {ρ : En} {σ : L2.St} {ad : Nat → Addr} {G H G1 H1 G2 H2 : Hp} (a : FrO own ad G H G1 H1) (b : FrO own ad G1 H1 G2 H2) (er : Er K own ρ ad σ G2 H2) : FrO own ad G H G2 H2 :=
  ⟨a.gg.trans b.gg, fun c o e h => b.hh c o (a.hh c o e h) h, fun c h1 h2 => by
    by_cases hc : ∃ i ∈ own, c = ad i
    · obtain ⟨i, hi, rfl⟩ := hc
      obtain ⟨t, _, _, o⟩ := er.ow i hi
      exact o.1
    · refine b.nw c (a.nw c h1 h2) ?_
      cases q : H c with
      | none => exact absurd q h2
      | some o =>
        rw [a.hh c o q fun i hi z => hc ⟨i, hi, z⟩]
        exact fun z => nomatch z⟩
/-- the slots without those in own -/
def hideE (own : List Nat) (ρ : En) : En := wipeE ρ own
theorem getN_wipe {ρ : En} {i : Nat} {t : D} : ∀ {own : List Nat}, getN (wipeE ρ own) i = some t → getN ρ i = some t ∧ i ∉ own
  | [], h => ⟨h, List.not_mem_nil⟩
  | v :: vs, h => by
    unfold wipeE at h
    by_cases hi : i = v
    · subst hi
      have := getN_setN_same (w := none) h
      cases this
    · rw [getN_setN_ne hi] at h
      obtain ⟨h1, h2⟩ := getN_wipe h
      exact ⟨h1, fun z => by
        rcases List.mem_cons.mp z with z | z
        · exact hi z
        · exact h2 z⟩
theorem wipeE_length {ρ : En} : ∀ {own : List Nat}, (wipeE ρ own).length = ρ.length
  | [] => rfl
  | _ :: vs => (setN_length).trans (wipeE_length (own := vs))
/-- how an expression that changes nothing sees the owned slots: not at all, or all of them (then it hands back no list) -/
def Bor (own : List Nat) (ρ ρe : En) (m : R D) : Prop := ρe = hideE own ρ ∨ (ρe = ρ ∧ ∀ t, m = .ok t → noL t = true)
theorem bor_hide {own : List Nat} {ρ : En} {m : R D} : Bor own ρ (hideE own ρ) m := .inl rfl
theorem bor_nil {ρ : En} {m : R D} : Bor [] ρ ρ m := .inl rfl
theorem bor_flat {own : List Nat} {ρ : En} {m : R D} (h : ∀ t, m = .ok t → noL t = true) : Bor own ρ ρ m := .inr ⟨rfl, h⟩
/-- a result that is no list and holds none -/
def nl (m : R D) : R D := m.bind fun t => if noL t = true then .ok t else .no
theorem nl_nl {m : R D} : ∀ t, nl m = .ok t → noL t = true := fun t h => by
  cases m with
  | no => exact nomatch h
  | ex c => exact nomatch h
  | ok a =>
    simp only [nl, R.ok_bind] at h
    split at h
    · rename_i e
      cases h
      exact e
    · exact nomatch h
/-- the frozen heap with the owned objects -/
noncomputable def allG (own : List Nat) (ad : Nat → Addr) (G H : Hp) : Hp := fun b => open Classical in if ∃ i ∈ own, b = ad i then H b else G b
theorem allG_in {own : List Nat} {ad : Nat → Addr} {G H : Hp} {i : Nat} (hi : i ∈ own) : allG own ad G H (ad i) = H (ad i) := by
  unfold allG
  rw [if_pos ⟨i, hi, rfl⟩]
theorem allG_out {own : List Nat} {ad : Nat → Addr} {G H : Hp} {b : Addr} (h : ¬ ∃ i ∈ own, b = ad i) : allG own ad G H b = G b := by
  unfold allG
  rw [if_neg h]
section
variable {K : PySem.W.Frag} {own : List Nat} {ρ : En} {ad : Nat → Addr} {σ : L2.St} {G H : Hp}
theorem Er.g_none (er : Er K own ρ ad σ G H) {i : Nat} (hi : i ∈ own) : G (ad i) = none := by
  obtain ⟨_, _, _, o⟩ := er.ow i hi
  exact o.1
theorem Er.same_all (er : Er K own ρ ad σ G H) : Same G (allG own ad G H) := fun b o e => by
  by_cases hb : ∃ i ∈ own, b = ad i
  · obtain ⟨i, hi, rfl⟩ := hb
    rw [er.g_none hi] at e
    cases e
  · rw [allG_out hb]
    exact e
theorem Er.all_same (er : Er K own ρ ad σ G H) : Same (allG own ad G H) H := fun b o e => by
  by_cases hb : ∃ i ∈ own, b = ad i
  · obtain ⟨i, hi, rfl⟩ := hb
    rw [allG_in hi] at e
    exact e
  · rw [allG_out hb] at e
    exact er.gh _ _ e
theorem Er.ep_all (er : Er K own ρ ad σ G H) : Ep K (allG own ad G H) ρ σ := ⟨er.len, fun i t e => by
  by_cases hi : i ∈ own
  · obtain ⟨t', e', es, o⟩ := er.ow i hi
    rw [e] at e'
    cases e'
    exact ⟨_, es, o.rep er.same_all (allG_in hi)⟩
  · obtain ⟨v, es, r⟩ := er.fz i t e hi
    exact ⟨v, es, r.mono er.same_all⟩⟩
theorem Er.ep_hide (er : Er K own ρ ad σ G H) : Ep K G (hideE own ρ) σ := ⟨wipeE_length.trans er.len, fun i t e => by
  obtain ⟨e1, hi⟩ := getN_wipe e
  exact er.fz i t e1 hi⟩
/-- behind an expression that changed nothing: the same state over more -/
theorem Er.after (er : Er K own ρ ad σ G H) {G' H' : Hp} (gg : Same G G') (gh : Same G' H') (hh : Same H H') (no : ∀ i ∈ own, G' (ad i) = none) : Er K own ρ ad σ G' H' where
  len := er.len
  gh := gh
  fz := fun i t e hi => by
    obtain ⟨v, es, r⟩ := er.fz i t e hi
    exact ⟨v, es, r.mono gg⟩
  ow := fun i hi => by
    obtain ⟨t, e, es, o⟩ := er.ow i hi
    refine ⟨t, e, es, o.keep gg (no i hi) ?_⟩
    obtain ⟨u, eu, _⟩ := o.some_of
    rw [hh _ _ eu, eu]
  inj := er.inj
theorem Er.bor {α : Type} {Rp : PySem.W.Frag → Hp → V → α → Prop} {m : R α} {mg : Str → Option Value} {E : XK} {ρe : En} {Q : V → Hp → Prop} (er : Er K own ρ ad σ G H)
    (hb : ρe = hideE own ρ ∨ (ρe = ρ ∧ ∀ t, m = .ok t → ∀ (G1 : Hp) (p : Addr → Prop) [DecidablePred p] v, (∀ b, p b → NotTup (G1 b)) → Rp K G1 v t → Rp K (cutH G1 p) v t))
    (hno : m ≠ .no) (hex : ∀ c, m = .ex c → ∀ H', Same H H' → E (cls mg c) none H')
    (hok : ∀ t v G' H', m = .ok t → Er K own ρ ad σ G' H' → Fr G H G' H' → Rp K G' v t → Q v H') : ∃ G1, Same G1 H ∧ Ep K G1 ρe σ ∧ PostP Rp K mg E G1 H m Q := by
  rcases hb with rfl | ⟨rfl, hcut⟩
  · refine ⟨G, er.gh, er.ep_hide, ?_⟩
    cases m with
    | no => exact absurd rfl hno
    | ex c => exact hex c rfl
    | ok t =>
      intro v G' H' fr r
      refine hok t v G' H' rfl (er.after fr.gg fr.gh fr.hh fun i hi => ?_) fr r
      obtain ⟨_, _, _, o⟩ := er.ow i hi
      exact fr.nw _ o.1 o.ne
  · refine ⟨allG own ad G H, er.all_same, er.ep_all, ?_⟩
    cases m with
    | no => exact absurd rfl hno
    | ex c => exact hex c rfl
    | ok t =>
      intro v G' H' fr r
      let p : Addr → Prop := fun b => ∃ i ∈ own, b = ad i
      haveI : DecidablePred p := fun b => Classical.propDecidable _
      have np : ∀ b, p b → NotTup (G' b) := fun b ⟨i, hi, e⟩ => by
        subst e
        obtain ⟨_, _, _, o⟩ := er.ow i hi
        obtain ⟨u, eu, nt⟩ := o.some_of
        rw [fr.gg _ _ ((allG_in hi).trans eu)]
        exact nt
      have g1 : Same G (cutH G' p) := fun b o e => cutH_of (fr.gg _ _ (er.same_all _ _ e)) fun ⟨i, hi, z⟩ => by
        subst z
        rw [er.g_none hi] at e
        cases e
      have g2 : Same (cutH G' p) H' := (cutH_same G' p).trans fr.gh
      have no : ∀ i ∈ own, cutH G' p (ad i) = none := fun i hi => cutH_none ⟨i, hi, rfl⟩
      refine hok t v (cutH G' p) H' rfl (er.after g1 g2 fr.hh no) ⟨g1, g2, fr.hh, fun b h1 h2 => ?_⟩ (hcut t rfl G' p v np r)
      by_cases hp : p b
      · exact cutH_none hp
      · exact cutH_free (fr.nw b (by rw [allG_out hp]; exact h1) h2)
theorem Fr.toO {G' H' : Hp} (fr : Fr G H G' H') : FrO own ad G H G' H' := ⟨fr.gg, fun b o e _ => fr.hh b o e, fr.nw⟩
end
/-! ### expressions over a state: S the part that they change -/
section
variable {X : Cx} {own : List Nat} {S : Type} {emb : S → En}
/-- behind: the answer, the state -/
def PostJ {α β : Type} (Rp : PySem.W.Frag → Hp → β → α → Prop) (K : PySem.W.Frag) (own : List Nat) (emb : S → En) (ad : Nat → Addr) (σ : L2.St) (G H : Hp) (m : R (α × S)) (Q : β → Hp → Prop) : Prop :=
  ∃ t s, m = .ok (t, s) ∧ ∀ v G' H', Er K own (emb s) ad σ G' H' → FrO own ad G H G' H' → Rp K G' v t → Q v H'
theorem PostJ.mono {α β : Type} {Rp : PySem.W.Frag → Hp → β → α → Prop} {K : PySem.W.Frag} {ad : Nat → Addr} {σ : L2.St} {G H : Hp} {m : R (α × S)} {Q Q' : β → Hp → Prop} (h : PostJ Rp K own emb ad σ G H m Q) (f : ∀ v H, Q v H → Q' v H) : PostJ Rp K own emb ad σ G H m Q' := by
  obtain ⟨t, s, e, q⟩ := h
  exact ⟨t, s, e, fun v G' H' a b c => f _ _ (q v G' H' a b c)⟩
def rdJ (K : PySem.W.Frag) (own : List Nat) (emb : S → En) (m : S → R (D × S)) : TE := fun σ H Q => ∃ s ad G, Er K own (emb s) ad σ G H ∧ PostJ Rep K own emb ad σ G H (m s) Q
def rdJA (K : PySem.W.Frag) (own : List Nat) (emb : S → En) (m : S → R (List D × S)) : TA := fun σ H Q => ∃ s ad G, Er K own (emb s) ad σ G H ∧ PostJ RepAll K own emb ad σ G H (m s) Q
def rdJB (K : PySem.W.Frag) (own : List Nat) (emb : S → En) (m : S → R (Bool × S)) : TT := fun σ H Q => ∃ s ad G, Er K own (emb s) ad σ G H ∧ PostJ RepB K own emb ad σ G H (m s) Q
abbrev JP (X : Cx) (own : List Nat) (emb : S → En) (e : Expr) (m : S → R (D × S)) : Prop := PE X e (rdJ X.K own emb m)
abbrev JB (X : Cx) (own : List Nat) (emb : S → En) (e : Expr) (m : S → R (Bool × S)) : Prop := PT X e (rdJB X.K own emb m)
abbrev JW (X : Cx) (own : List Nat) (emb : S → En) (e : Expr) (m : S → R (Bool × S)) : Prop := PW X e (rdJB X.K own emb m)
/-- the first part ran -/
theorem PostJ.bind {α β γ δ : Type} {Rp : PySem.W.Frag → Hp → β → α → Prop} {Rq : PySem.W.Frag → Hp → δ → γ → Prop} {K : PySem.W.Frag} {ad : Nat → Addr} {σ : L2.St} {G H : Hp} {m : R (α × S)} {f : α × S → R (γ × S)} {Q : δ → Hp → Prop}
    (h : PostJ Rq K own emb ad σ G H (m.bind f) Q) : PostJ Rp K own emb ad σ G H m fun v H1 => ∃ G1 t s, Er K own (emb s) ad σ G1 H1 ∧ Rp K G1 v t ∧ FrO own ad G H G1 H1 ∧ PostJ Rq K own emb ad σ G1 H1 (f (t, s)) Q := by
  obtain ⟨u, s2, e, q⟩ := h
  cases m with
  | no => exact nomatch e
  | ex c => exact nomatch e
  | ok p =>
    obtain ⟨t, s⟩ := p
    refine ⟨t, s, rfl, fun v G1 H1 er fr r => ⟨G1, t, s, er, r, fr, u, s2, e, fun w G2 H2 er2 fr2 r2 => q w G2 H2 er2 (fr.trans fr2 er2) r2⟩⟩
/-- pure within -/
theorem PostJ.pure {γ δ : Type} {Rq : PySem.W.Frag → Hp → δ → γ → Prop} {K : PySem.W.Frag} {ad : Nat → Addr} {σ : L2.St} {G H : Hp} {m : R γ} {s : S} {Q : δ → Hp → Prop} {mg : Str → Option Value} (er : Er K own (emb s) ad σ G H)
    (h : PostJ Rq K own emb ad σ G H (m.bind fun z => .ok (z, s)) Q) : PostP Rq K mg E0 G H m Q := by
  obtain ⟨u, s2, e, q⟩ := h
  cases m with
  | no => exact nomatch e
  | ex c => exact nomatch e
  | ok z =>
    cases e
    intro v G' H' fr r
    refine q v G' H' (er.after fr.gg fr.gh fr.hh fun i hi => ?_) fr.toO r
    obtain ⟨_, _, _, o⟩ := er.ow i hi
    exact fr.nw _ o.1 o.ne
variable {a b c : Expr} {pos : Pos}
/-- an expression that changes nothing, within -/
theorem jp_of {ρe : S → En} {m : S → R D} (h : ∀ s, XP X E0 (ρe s) a (m s)) (hb : ∀ s, Bor own (emb s) (ρe s) (m s)) : JP X own emb a (fun s => (m s).bind fun t => .ok (t, s)) := by
  refine ⟨fun pins st σ H Q I hq => ?_⟩
  obtain ⟨s, ad, G, er, t, s', e, q⟩ := hq
  dsimp only at e
  cases em : m s with
  | no => rw [em] at e; exact nomatch e
  | ex c => rw [em] at e; exact nomatch e
  | ok t0 =>
    rw [em] at e
    cases e
    refine (h s).run pins st σ H Q I (er.bor (m := m s) ?_ (by rw [em]; exact fun z => nomatch z) (fun c z => by rw [em] at z; exact nomatch z) fun t' v G' H' e' er' fr r => ?_)
    · rcases hb s with z | ⟨z1, z2⟩
      · exact .inl z
      · exact .inr ⟨z1, fun t e' G1 p _ v np r => Rep.cut np r (z2 t e')⟩
    · rw [em] at e'
      cases e'
      exact q v G' H' er' fr.toO r
theorem two_j {σ : L2.St} {H : Hp} {Q : VK} {f : D → D → R D} {ma mb : S → R (D × S)} (h : rdJ X.K own emb (fun s => (ma s).bind fun p => (mb p.2).bind fun q => (f p.1 q.1).bind fun z => .ok (z, q.2)) σ H Q) :
    rdJ X.K own emb ma σ H fun x H1 => rdJ X.K own emb mb σ H1 fun y H2 => r2 X.K X.mg E0 f x y H2 Q := by
  obtain ⟨s, ad, G, er, q⟩ := h
  refine ⟨s, ad, G, er, (PostJ.bind (Rp := Rep) q).mono fun x H1 ⟨G1, t, s1, er1, r1, fr1, q1⟩ => ?_⟩
  refine ⟨s1, ad, G1, er1, ?_⟩
  obtain ⟨u, s2, e2, q2⟩ := PostJ.bind (Rp := Rep) q1
  refine ⟨u, s2, e2, fun y G2 H2 er2 fr2 r2 => ?_⟩
  obtain ⟨G2', u', s2', er2', r2', fr2', q3⟩ := q2 y G2 H2 er2 fr2 r2
  exact ⟨G2', t, u', er2'.gh, r1.mono fr2'.gg, r2', PostJ.pure er2' q3⟩
theorem jp_bin {op : Operator} {f : D → D → R D} {ma mb : S → R (D × S)} (ho : OpD X E0 (binaryOp op) f) (ha : JP X own emb a ma) (hb : JP X own emb b mb) : JP X own emb (.BinOp a op b pos) (fun s => (ma s).bind fun p => (mb p.2).bind fun q => (f p.1 q.1).bind fun z => .ok (z, q.2)) :=
  pe_weak (pe_op ho ha hb) fun _ _ _ h => two_j h
theorem jp_ix {f : D → D → R D} {ma mb : S → R (D × S)} (hr : IxD X E0 f) (ha : JP X own emb a ma) (hb : JP X own emb b mb) (hs : PlainIx b := by exact fun _ _ => rfl) : JP X own emb (.Subscript a b pos) (fun s => (ma s).bind fun p => (mb p.2).bind fun q => (f p.1 q.1).bind fun z => .ok (z, q.2)) :=
  pe_weak (pe_ix hr ha hb hs) fun _ _ _ h => two_j h
/-! tests -/
theorem jb_cmp {op : CmpOp} {f : D → D → R D} {ma mb : S → R (D × S)} (ho : OpD X E0 (compareOp op) f) (ha : JP X own emb a ma) (hb : JP X own emb b mb) (hm : behindInMarks op b = false := by first | exact nomark _ | rfl | with_unfolding_all rfl) :
    JB X own emb (.Compare a [op] [b] pos) (fun s => (ma s).bind fun p => (mb p.2).bind fun q => ((f p.1 q.1).bind asB).bind fun z => .ok (z, q.2)) :=
  pt_weak (pt_cmpR ho ha hb hm) fun σ H Q h => by
    obtain ⟨s, ad, G, er, q⟩ := h
    refine ⟨s, ad, G, er, (PostJ.bind (Rp := Rep) q).mono fun x H1 ⟨G1, t, s1, er1, r1, fr1, q1⟩ => ?_⟩
    refine ⟨s1, ad, G1, er1, (PostJ.bind (Rp := Rep) q1).mono fun y H2 ⟨G2, u, s2, er2, r2, fr2, q2⟩ => ?_⟩
    refine ⟨G2, t, u, er2.gh, r1.mono fr2.gg, r2, ((PostJ.pure (mg := X.mg) er2 q2).bind (Rp := Rep)).mono fun z H3 ⟨G3, w, fr3, r3, _, q3⟩ => ?_⟩
    cases r3 with
    | bl k => exact ⟨k, rfl, q3 k G3 H3 (Fr.refl fr3.gh) rfl⟩
    | _ => exact q3.elim
theorem jb_of {ρe : S → En} {m : S → R Bool} (h : ∀ s, XB X E0 (ρe s) a (m s)) (hb : ∀ s, ρe s = hideE own (emb s) ∨ ρe s = emb s) : JB X own emb a (fun s => (m s).bind fun t => .ok (t, s)) := by
  refine ⟨fun pins st σ H Q I hq => ?_⟩
  obtain ⟨s, ad, G, er, t, s', e, q⟩ := hq
  dsimp only at e
  cases em : m s with
  | no => rw [em] at e; exact nomatch e
  | ex c => rw [em] at e; exact nomatch e
  | ok t0 =>
    rw [em] at e
    cases e
    obtain ⟨G1, h1, h2, h3⟩ := er.bor (m := m s) (Rp := fun _ _ (v : V) (b : Bool) => v = .bl b) (mg := X.mg) (E := E0) (Q := fun v H' => ∀ b, v = .bl b → Q b H') (ρe := ρe s) ((hb s).imp id fun z => ⟨z, fun _ _ _ _ _ _ _ r => r⟩) (by rw [em]; exact fun z => nomatch z) (fun c z => by rw [em] at z; exact nomatch z) (fun t' v G' H' e' er' fr r b hv => by
      rw [em] at e'
      cases e'
      subst r
      cases hv
      exact q _ G' H' er' fr.toO rfl)
    refine (h s).run pins st σ H Q I ⟨G1, h1, h2, ?_⟩
    rw [em] at h3 ⊢
    intro v G' H' fr r
    have r' : v = t := r
    subst r'
    exact h3 (.bl v) G' H' fr rfl v rfl
theorem jw_and1 {m : S → R (Bool × S)} (ha : JB X own emb a m) : JW X own emb (.BoolOp .And [a] pos) m := pw_and1 ha
theorem jw_or1 {m : S → R (Bool × S)} (ha : JB X own emb a m) : JW X own emb (.BoolOp .Or [a] pos) m := pw_or1 ha
theorem jw_and {rest : List Expr} {m n : S → R (Bool × S)} (ha : JB X own emb a m) (hb : JW X own emb (.BoolOp .And (b :: rest) pos) n) : JW X own emb (.BoolOp .And (a :: b :: rest) pos) (fun s => (m s).bind fun p => if p.1 = true then n p.2 else .ok (false, p.2)) :=
  pw_weak (pw_and ha hb) fun σ H Q h => by
    obtain ⟨s, ad, G, er, q⟩ := h
    refine ⟨s, ad, G, er, (PostJ.bind (Rp := RepB) q).mono fun x H1 ⟨G1, t, s1, er1, r1, fr1, q1⟩ => ?_⟩
    cases r1
    cases x with
    | true =>
      rw [if_pos rfl]
      exact ⟨s1, ad, G1, er1, q1⟩
    | false =>
      rw [if_neg Bool.false_ne_true]
      obtain ⟨u, s2, e, q1⟩ := q1
      cases e
      exact q1 _ G1 H1 er1 FrO.refl rfl
theorem jw_or {rest : List Expr} {m n : S → R (Bool × S)} (ha : JB X own emb a m) (hb : JW X own emb (.BoolOp .Or (b :: rest) pos) n) : JW X own emb (.BoolOp .Or (a :: b :: rest) pos) (fun s => (m s).bind fun p => if p.1 = true then .ok (true, p.2) else n p.2) :=
  pw_weak (pw_or ha hb) fun σ H Q h => by
    obtain ⟨s, ad, G, er, q⟩ := h
    refine ⟨s, ad, G, er, (PostJ.bind (Rp := RepB) q).mono fun x H1 ⟨G1, t, s1, er1, r1, fr1, q1⟩ => ?_⟩
    cases r1
    cases x with
    | true =>
      rw [if_pos rfl]
      obtain ⟨u, s2, e, q1⟩ := q1
      cases e
      exact q1 _ G1 H1 er1 FrO.refl rfl
    | false =>
      rw [if_neg Bool.false_ne_true]
      exact ⟨s1, ad, G1, er1, q1⟩
theorem jb_w {m : S → R (Bool × S)} (h : JW X own emb a m) : JB X own emb a m := PW.pt h
/-! and, or as values -/
/-! argument lists, displays, calls -/
abbrev CJ (S : Type) := (β : Type) → S → (List D → S → R β) → R β
def JAk (X : Cx) (own : List Nat) (emb : S → En) (es : List Expr) (mk : CJ S) : Prop := ∃ m : S → R (List D × S), (∀ (β : Type) (s : S) (k : List D → S → R β), mk β s k = (m s).bind fun p => k p.1 p.2) ∧ (∀ s p, m s = .ok p → p.1.length = es.length) ∧ PA X es (rdJA X.K own emb m)
theorem ja_nil : JAk X own emb [] (fun β s k => k [] s) := ⟨fun s => .ok ([], s), fun _ _ _ => rfl, fun _ p h => by cases h; rfl, pa_weak pa_nil fun σ H Q h => by
  obtain ⟨s, ad, G, er, t, s', e, q⟩ := h
  cases e
  exact q [] G H er FrO.refl .nil⟩
theorem ja_cons {es : List Expr} {ma : S → R (D × S)} {mk : CJ S} (ha : JP X own emb a ma) (hr : JAk X own emb es mk) (hs : starEach (a :: es) X.env = (false, eval a X.env) :: starEach es X.env := by rfl) :
    JAk X own emb (a :: es) (fun β s k => (ma s).bind fun p => mk β p.2 fun xs s' => k (p.1 :: xs) s') := by
  obtain ⟨m, e, hl, h⟩ := hr
  refine ⟨fun s => (ma s).bind fun p => (m p.2).bind fun q => .ok (p.1 :: q.1, q.2), fun β s k => ?_, fun s p he => ?_, pa_weak (pa_cons ha h hs) fun σ H Q hq => ?_⟩
  · show ((ma s).bind fun p => mk β p.2 fun xs s' => k (p.1 :: xs) s') = _
    rw [R.bind_assoc]
    congr 1
    funext p
    rw [e, R.bind_assoc]
    rfl
  · cases h1 : ma s with
    | ok p1 =>
      simp only [h1, R.ok_bind] at he
      cases h2 : m p1.2 with
      | ok p2 =>
        simp only [h2, R.ok_bind] at he
        cases he
        exact congrArg (· + 1) (hl _ _ h2)
      | no => simp only [h2] at he; exact nomatch he
      | ex c => simp only [h2] at he; exact nomatch he
    | no => simp only [h1] at he; exact nomatch he
    | ex c => simp only [h1] at he; exact nomatch he
  · obtain ⟨s, ad, G, er, q⟩ := hq
    refine ⟨s, ad, G, er, (PostJ.bind (Rp := Rep) q).mono fun x H1 ⟨G1, t, s1, er1, r1, fr1, q1⟩ => ?_⟩
    refine ⟨s1, ad, G1, er1, (PostJ.bind (Rp := RepAll) q1).mono fun xs H2 ⟨G2, ts, s2, er2, r2, fr2, u, s3, e3, q2⟩ => ?_⟩
    cases e3
    exact q2 _ G2 H2 er2 FrO.refl (.cons (r1.mono fr2.gg) r2)
theorem jp_tup {es : List Expr} {mk : CJ S} {x1} (h : JAk X own emb es mk) (hl : es.length ≤ 1000 := by decide) : JP X own emb (.Tuple es x1 pos) (fun s => mk (D × S) s fun ts s' => .ok (.tuple ts, s')) := by
  obtain ⟨m, e, hl', h⟩ := h
  rw [show (fun s => mk (D × S) s fun ts s' => R.ok (.tuple ts, s')) = fun s => (m s).bind fun p => .ok (.tuple p.1, p.2) from funext fun s => e _ _ _]
  refine pe_weak (pe_tupU h) fun σ H Q hq => ?_
  obtain ⟨s, ad, G, er, q⟩ := hq
  refine ⟨s, ad, G, er, ?_⟩
  obtain ⟨u, s2, e2, q2⟩ := q
  cases em : m s with
  | no => simp only [em] at e2; exact nomatch e2
  | ex c => simp only [em] at e2; exact nomatch e2
  | ok p =>
    simp only [em, R.ok_bind] at e2
    cases e2
    refine ⟨p.1, p.2, rfl, fun vs G1 H1 er1 fr1 r1 => ⟨?_, fun a u np tu => ?_⟩⟩
    · rw [r1.length, hl' s p em, sizeLine_eq]
      omega
    · have fr2 := Fr.new (o := u) er1.gh np
      refine q2 _ _ _ (er1.after fr2.gg fr2.gh fr2.hh fun i hi => ?_) (fr1.trans (K := X.K) (ρ := emb p.2) (σ := σ) fr2.toO (er1.after fr2.gg fr2.gh fr2.hh fun i hi => ?_)) (rep_newT er1.gh np tu r1)
      all_goals
        obtain ⟨_, _, _, o⟩ := er1.ow i hi
        exact fr2.nw _ o.1 o.ne
theorem jp_lst {es : List Expr} {mk : CJ S} (h : JAk X own emb es mk) (hl : es.length ≤ 1000 := by decide) : JP X own emb (.List es pos) (fun s => mk (D × S) s fun ts s' => .ok (.list ts, s')) := by
  obtain ⟨m, e, hl', h⟩ := h
  rw [show (fun s => mk (D × S) s fun ts s' => R.ok (.list ts, s')) = fun s => (m s).bind fun p => .ok (.list p.1, p.2) from funext fun s => e _ _ _]
  refine pe_weak (pe_lst h) fun σ H Q hq => ?_
  obtain ⟨s, ad, G, er, q⟩ := hq
  refine ⟨s, ad, G, er, ?_⟩
  obtain ⟨u, s2, e2, q2⟩ := q
  cases em : m s with
  | no => simp only [em] at e2; exact nomatch e2
  | ex c => simp only [em] at e2; exact nomatch e2
  | ok p =>
    simp only [em, R.ok_bind] at e2
    cases e2
    refine ⟨p.1, p.2, rfl, fun vs G1 H1 er1 fr1 r1 => ⟨?_, fun a np => ?_⟩⟩
    · rw [r1.length, hl' s p em, sizeLine_eq]
      omega
    · have fr2 := Fr.new (o := .lst vs) er1.gh np
      refine q2 _ _ _ (er1.after fr2.gg fr2.gh fr2.hh fun i hi => ?_) (fr1.trans (K := X.K) (ρ := emb p.2) (σ := σ) fr2.toO (er1.after fr2.gg fr2.gh fr2.hh fun i hi => ?_)) (rep_newL er1.gh np r1)
      all_goals
        obtain ⟨_, _, _, o⟩ := er1.ow i hi
        exact fr2.nw _ o.1 o.ne
theorem jp_callT {x : Str} {p : Pos} {T : String} {es : List Expr} {mk : CJ S} {f : List D → R D} (hc : CallD X E0 (.type T) f) (hm : X.mg x = none) (ha : JAk X own emb (a :: es) mk) (hv : bootBuiltins x = some (.type T) := by decide +kernel) (hg : Gl X x := by rfl) (hn : x ≠ "__name__" := by decide)
    (hdb : (x == ("__debug__" : Str)) = false := by decide) (he : starEach (a :: es) X.env = (false, eval a X.env) :: starEach es X.env := by rfl) (hpl : (backTo pos (starEach es X.env)).any (·.1) = false := by rfl) : JP X own emb (.Call (.Name x p) (a :: es) [] pos) (fun s => mk (D × S) s fun ts s' => (f ts).bind fun z => .ok (z, s')) := by
  obtain ⟨m, e, _, h⟩ := ha
  rw [show (fun s => mk (D × S) s fun ts s' => (f ts).bind fun z => R.ok (z, s')) = fun s => (m s).bind fun p => (f p.1).bind fun z => .ok (z, p.2) from funext fun s => e _ _ _]
  refine pe_weak (pe_callTy hc hg hm hv h hn hdb he hpl) fun σ H Q hq => ?_
  obtain ⟨s, ad, G, er, q⟩ := hq
  exact ⟨s, ad, G, er, (PostJ.bind (Rp := RepAll) q).mono fun vs H1 ⟨G1, ts, s1, er1, r1, fr1, q1⟩ => ⟨G1, ts, er1.gh, r1, PostJ.pure er1 q1⟩⟩
end
end TL
/-! the tree layer, 7: promises, calls, statements -/
namespace TL
open PySem PySem.Spec PyProof.Rows L2
/-! ### what a def promises -/
/-- behind a call: a frozen answer (fz), a new list or dict that nobody else knows (nw), or new if it is a list (my) -/
inductive Md where
  | fz
  | nw
  | my
def notList : D → Bool
  | .list _ => false
  | .dict _ => false
  | _ => true
def Ans (K : PySem.W.Frag) (fr : Md) (H G' H' : Hp) (v : V) (t : D) : Prop :=
  match fr with
  | .fz => Rep K G' v t
  | .nw => ∃ p, v = .ref p ∧ H p = none ∧ OwnAt K G' H' p t
  | .my => (∃ p, v = .ref p ∧ H p = none ∧ OwnAt K G' H' p t) ∨ (notList t = true ∧ Rep K G' v t)
def spP (K : PySem.W.Frag) (mg : Str → Option Value) (np : Nat) (fr : Md) (mf : List D → R D) : Sp := fun vs H Q E => vs.length = np ∧ ∃ G ts, Same G H ∧ RepAll K G vs ts ∧ match mf ts with
  | .no => False
  | .ex c => ∀ H', Same H H' → E (cls mg c) none H'
  | .ok t => ∀ v G' H', Fr G H G' H' → Ans K fr H G' H' v t → Q v H'
/-- the first argument is a box that the def may change -/
def spB (K : PySem.W.Frag) (np : Nat) (fr : Md) (mf : D → List D → R (D × D)) : Sp := fun vs H Q E => vs.length = np ∧ ∃ G a ws b ts, vs = .ref a :: ws ∧ Same G H ∧ OwnAt K G H a b ∧ RepAll K G ws ts ∧ ∃ t b', mf b ts = .ok (t, b') ∧
  ∀ v G' H', Same G G' → Same G' H' → (∀ c o, H c = some o → c ≠ a → H' c = some o) → (∀ c, G c = none → H c ≠ none → G' c = none) → OwnAt K G' H' a b' → Ans K fr H G' H' v t → Q v H'
/-- a def's promise, its exceptions' context None -/
theorem okN {P : Program} {w : World} {K : PySem.W.Frag} {mg : Str → Option Value} {base : Heap} {x qual : Str} {st : Stmt} {f : Addr} {fd : FuncData} {N ps : List Str} {k : Nat} {sp : Sp} (F : Fun K x qual st f fd) (S : FnScope N ps (defScope st)) (len : ∀ vs H Q E, sp vs H Q E → vs.length = ps.length)
    (hbody : ∀ (cdv : Value) (A : Around) (outer : List Env) (s : Shared) (H : Hp) (vs : List V) (Q : VK) (E : XK), Room k (A.deeper (envOfC qual (defScope st) s.heap.objs.size f cdv)) → sp vs H Q E →
      ∃ t, PSs (cxOf (L2N.CX P w) P w K mg base N qual (defScope st) f cdv A outer s H E) (defBody st) t ∧ t { nx := fun _ H' => Q .non H', rt := Q } (start N vs) H) : FnOk P w K mg base (L2N.CX P w) (k + 1) f fd ps sp := by
  obtain ⟨oc, od, kV, doc, pm, an, cdv, ct, osl, rfl, lk, hcd⟩ := F.ex
  exact fn_of lk hcd S len fun A outer s H vs Q E hr hsp => hbody cdv A outer s H vs Q E hr hsp
/-- the def that a name of the module holds keeps this promise -/
def CalOk (P : Program) (w : World) (K : PySem.W.Frag) (mg : Str → Option Value) (base : Heap) (k : Nat) (x : Str) (sp : Sp) : Prop :=
  ∃ f fd ps, FnOk P w K mg base (L2N.CX P w) k f fd ps sp ∧ mg x = some (.ref f) ∧ PySem.W.keepIn K (.ref f) = true ∧ Binds K fd ps []
theorem CalOk.mono {P : Program} {w : World} {K : PySem.W.Frag} {mg : Str → Option Value} {base : Heap} {j k : Nat} {x : Str} {sp : Sp} (h : CalOk P w K mg base j x sp) (hk : j ≤ k) : CalOk P w K mg base k x sp := by
  obtain ⟨f, fd, ps, F, r⟩ := h
  exact ⟨f, fd, ps, F.mono hk, r⟩
section
variable {X : Cx} {E : XK} {ρ : En} {a : Expr} {pos : Pos}
/-- weaker: frozen -/
theorem Fr.freeze {K : PySem.W.Frag} {G H G' H' : Hp} {p : Addr} {t : D} (fr : Fr G H G' H') (np : H p = none) (o : OwnAt K G' H' p t) : ∃ G2, Fr G H G2 H' ∧ Rep K G2 (.ref p) t := by
  obtain ⟨u, eu, _⟩ := o.some_of
  have gn := o.1
  refine ⟨upd G' p u, ⟨fun b x e => ?_, fun b x e => ?_, fr.hh, fun b h1 h2 => ?_⟩, o.rep (same_new gn) (by rw [upd_same, eu])⟩
  · rw [upd_ne (ne_of_none (fr.gg _ _ e) gn)]
    exact fr.gg _ _ e
  · by_cases hb : b = p
    · subst hb
      rw [upd_same] at e
      rw [eu, e]
    · rw [upd_ne hb] at e
      exact fr.gh _ _ e
  · have : b ≠ p := fun z => h2 (by rw [z]; exact np)
    rw [upd_ne this]
    exact fr.nw b h1 h2
theorem xp_call {x : Str} {p : Pos} {k j np : Nat} {fr : Md} {es : List Expr} {mk : CP} {mf : List D → R D} (C : CalOk X.prog X.w X.K X.mg X.base j x (spP X.K X.mg np fr mf)) (hr : Room k X.A) (hjk : j ≤ k) (hx : Passes (L2N.CX X.prog X.w) X E) (ha : XAk X E ρ (a :: es) mk)
    (hnp : (a :: es).length = np := by rfl) (hg : Gl X x := by rfl) (hdb : (x == ("__debug__" : Str)) = false := by decide) (he : starEach (a :: es) X.env = (false, eval a X.env) :: starEach es X.env := by rfl) (hpl : (backTo pos (starEach es X.env)).any (·.1) = false := by rfl) :
    XP X E ρ (.Call (.Name x p) (a :: es) [] pos) (mk D mf) := by
  obtain ⟨f, fd, ps, F, hm, hk, hb⟩ := C
  obtain ⟨m, e, hl, h⟩ := ha
  rw [e]
  refine pe_weak (pe_call F (hr.mono hjk) hg hm hk hb .nil hx h hdb he hpl) fun σ H Q hq => ?_
  obtain ⟨G, sa, ep, q⟩ := hq
  refine ⟨G, sa, ep, ?_⟩
  cases em : m with
  | no => rw [em] at q; exact q.elim
  | ex c => rw [em] at q; exact q
  | ok ts =>
    rw [em] at q
    intro vs G1 H1 fr1 ra
    have q' : PostP Rep X.K X.mg E G H (mf ts) Q := q
    rw [List.append_nil]
    refine ⟨by rw [ra.length, hl ts em]; exact hnp, G1, ts, fr1.gh, ra, ?_⟩
    cases e2 : mf ts with
    | no => rw [e2] at q'; exact q'.elim
    | ex c => rw [e2] at q'; exact fun H' s => q' H' (fr1.hh.trans s)
    | ok t =>
      rw [e2] at q'
      intro v G2 H2 fr2 an
      cases fr with
      | fz => exact q' v G2 H2 (fr1.trans fr2) an
      | nw =>
        obtain ⟨p, rfl, np, o⟩ := an
        obtain ⟨G3, fr3, r3⟩ := fr2.freeze np o
        exact q' _ G3 H2 (fr1.trans fr3) r3
      | my =>
        rcases an with ⟨p, rfl, np, o⟩ | ⟨_, an⟩
        · obtain ⟨G3, fr3, r3⟩ := fr2.freeze np o
          exact q' _ G3 H2 (fr1.trans fr3) r3
        · exact q' v G2 H2 (fr1.trans fr2) an
/-! ### expressions that give a new list or dict of one's own -/
abbrev XF (X : Cx) (E : XK) (ρ : En) (e : Expr) (m : R D) : Prop := PE X e (rdF X.K X.mg E ρ m)
theorem xp_of_xf {m : R D} (h : XF X E ρ a m) : XP X E ρ a m := pe_weak h fun σ H Q ⟨G, s, ep, q⟩ => ⟨G, s, ep, by
  cases m with
  | no => exact q
  | ex c => exact q
  | ok t =>
    intro p G' H' fr np o
    obtain ⟨G3, fr3, r3⟩ := fr.freeze np o
    exact q _ G3 H' fr3 r3⟩
theorem own_new {K : PySem.W.Frag} {G H : Hp} {p : Addr} {vs : List V} {ts : List D} (s : Same G H) (np : H p = none) (r : RepAll K G vs ts) : OwnAt K G (upd H p (.lst vs)) p (.list ts) := ⟨s.free np, .inl ⟨vs, ts, rfl, upd_same, r⟩⟩
theorem Fr.newU {G H : Hp} (s : Same G H) {p : Addr} {o : HO} (h : H p = none) : Fr G H G (upd H p o) :=
  ⟨Same.refl _, fun b x e => by rw [upd_ne (ne_of_none (s _ _ e) h)]; exact s _ _ e, fun b x e => by rw [upd_ne (ne_of_none e h)]; exact e, fun _ h _ => h⟩
theorem xf_lst {es : List Expr} {mk : CP} (h : XAk X E ρ es mk) (hl : es.length ≤ 1000 := by decide) : XF X E ρ (.List es pos) (mk D fun ts => .ok (.list ts)) := by
  obtain ⟨m, e, hl', h⟩ := h
  rw [e]
  refine pe_weak (pe_lst h) fun σ H Q hq => ?_
  obtain ⟨G, s, ep, q⟩ := hq
  refine ⟨G, s, ep, ?_⟩
  cases em : m with
  | no => rw [em] at q; exact q.elim
  | ex c => rw [em] at q; exact q
  | ok ts =>
    rw [em] at q
    intro vs G1 H1 fr r
    refine ⟨?_, fun p np => ?_⟩
    · rw [r.length, hl' ts em, sizeLine_eq]
      omega
    · have hp : H p = none := by
        cases z : H p with
        | none => rfl
        | some o => rw [fr.hh _ _ z] at np; cases np
      exact q p G1 _ (fr.trans (Fr.newU fr.gh np)) hp (own_new fr.gh np r)
theorem xf_call {x : Str} {p : Pos} {k j np : Nat} {es : List Expr} {mk : CP} {mf : List D → R D} (C : CalOk X.prog X.w X.K X.mg X.base j x (spP X.K X.mg np .nw mf)) (hr : Room k X.A) (hjk : j ≤ k) (hx : Passes (L2N.CX X.prog X.w) X E) (ha : XAk X E ρ (a :: es) mk)
    (hnp : (a :: es).length = np := by rfl) (hg : Gl X x := by rfl) (hdb : (x == ("__debug__" : Str)) = false := by decide) (he : starEach (a :: es) X.env = (false, eval a X.env) :: starEach es X.env := by rfl) (hpl : (backTo pos (starEach es X.env)).any (·.1) = false := by rfl) :
    XF X E ρ (.Call (.Name x p) (a :: es) [] pos) (mk D mf) := by
  obtain ⟨f, fd, ps, F, hm, hk, hb⟩ := C
  obtain ⟨m, e, hl, h⟩ := ha
  rw [e]
  refine pe_weak (pe_call F (hr.mono hjk) hg hm hk hb .nil hx h hdb he hpl) fun σ H Q hq => ?_
  obtain ⟨G, sa, ep, q⟩ := hq
  refine ⟨G, sa, ep, ?_⟩
  cases em : m with
  | no => rw [em] at q; exact q.elim
  | ex c => rw [em] at q; exact q
  | ok ts =>
    rw [em] at q
    intro vs G1 H1 fr1 ra
    rw [List.append_nil]
    refine ⟨by rw [ra.length, hl ts em]; exact hnp, G1, ts, fr1.gh, ra, ?_⟩
    have q' : PostF X.K X.mg E G H (mf ts) Q := q
    cases e2 : mf ts with
    | no => rw [e2] at q'; exact q'.elim
    | ex c =>
      rw [e2] at q'
      exact fun H' s => q' H' (fr1.hh.trans s)
    | ok t =>
      rw [e2] at q'
      intro v G2 H2 fr2 an
      obtain ⟨p, rfl, np, o⟩ := an
      have hp : H p = none := by
        cases z : H p with
        | none => rfl
        | some o => rw [fr1.hh _ _ z] at np; cases np
      exact q' p G2 H2 (fr1.trans fr2) hp o
/-! ### list comprehensions -/
section
variable {α : Type} {tg iter elt : Expr} {scope : Scope} {own : List (Str × Nat)} {sl : List Nat} {u : D → R α} {put : α → En → En} {wi : R (List D)} {me : α → R D} {cond : α → R Bool} {c : Expr}
/-- the reading of the comprehension's parts that depend on the item -/
def anyE (K : PySem.W.Frag) (mg : Str → Option Value) (f : α → En) (m : α → R D) : TE := fun σ H Q => ∃ a, rdP K mg E0 (f a) (m a) σ H Q
def anyB (K : PySem.W.Frag) (mg : Str → Option Value) (f : α → En) (m : α → R Bool) : TT := fun σ H Q => ∃ a, rdB K mg E0 (f a) (m a) σ H Q
/-- a comprehension, as a value and as what a name takes on one line -/
structure LCx (X : Cx) (elt tg iter : Expr) (ifs : List Expr) (scope : Scope) (t : TE) : Prop where
  pe : ∀ pos, PE X (.ListComp elt [⟨tg, iter, ifs, 0⟩] scope pos) t
  ps : ∀ (i : Nat) (y : Str) (py pos spos : Pos), X.N[i]? = some y → X.env.scope.names.lookup y = some .local → swapsWith (.ListComp elt [⟨tg, iter, ifs, 0⟩] scope pos) (some (.Name y py)) spos.line X.env = pure true → PS X (.Assign [.Name y py] (.ListComp elt [⟨tg, iter, ifs, 0⟩] scope pos) spos) (tAsg t (gName i))
theorem LCx.map {X : Cx} {elt tg iter : Expr} {ifs : List Expr} {scope : Scope} {t t' : TE} (h : LCx X elt tg iter ifs scope t) (f : ∀ σ H Q, t' σ H Q → t σ H Q) : LCx X elt tg iter ifs scope t' :=
  ⟨fun pos => pe_weak (h.pe pos) f, fun i y py pos spos h1 h2 h3 => ⟨fun pins s σ H Dn I q => (h.ps i y py pos spos h1 h2 h3).run pins s σ H Dn I (f _ _ _ q)⟩⟩
theorem lcx_of {X : Cx} {elt tg iter : Expr} {ifs : List Expr} {scope : Scope} {own : List (Str × Nat)} {wi : TI} {g : TG} {tt : TT} {te t : TE} (hc : X.calm = true) (hN : X.N.Nodup) (hi : PI X tg iter wi) (ok : BlkOk X.N X.env.scope scope own)
    (hg : ∀ (s : Shared) (H : Hp) (C : Addr) (cl : List (Str × Addr)) (fp : List Addr), PG (X.blk s H scope (compEnvC scope cl C X.env) fp) tg g) (ht : ∀ (s : Shared) (H : Hp) (C : Addr) (cl : List (Str × Addr)) (fp : List Addr), PTs (X.blk s H scope (compEnvC scope cl C X.env) fp) ifs tt)
    (he : ∀ (s : Shared) (H : Hp) (C : Addr) (cl : List (Str × Addr)) (fp : List Addr), PE (X.blk s H scope (compEnvC scope cl C X.env) fp) elt te) (hs : ∀ x, foldedSetIterable iter X.env x = pure x) (hq : ∀ σ H Q, t σ H Q → tLc wi g tt te (own.map (·.2)) σ H Q) : LCx X elt tg iter ifs scope t :=
  ⟨fun pos => pe_weak (pe_lc hc hN hi ok hg ht he hs) hq, fun i y py pos spos h1 h2 h3 => ⟨fun pins s σ H Dn I q => (ps_setLc hc hN h1 h2 h3 hi ok hg ht he hs).run pins s σ H Dn I (hq _ _ _ q)⟩⟩
theorem lcx_lcf (hN : X.N.Nodup) (hi : XI X E ρ tg iter wi) (hg : ∀ (s : Shared) (H : Hp) (C : Addr) (cl : List (Str × Addr)) (fp : List Addr), XG (X.blk s H scope (compEnvC scope cl C X.env) fp) tg sl u put)
    (ht : ∀ (s : Shared) (H : Hp) (C : Addr) (cl : List (Str × Addr)) (fp : List Addr) (x : α), XB (X.blk s H scope (compEnvC scope cl C X.env) fp) E0 (put x (wipeE ρ (own.map (·.2)))) c (cond x))
    (he : ∀ (s : Shared) (H : Hp) (C : Addr) (cl : List (Str × Addr)) (fp : List Addr) (x : α), XP (X.blk s H scope (compEnvC scope cl C X.env) fp) E0 (put x (wipeE ρ (own.map (·.2)))) elt (me x))
    (ok : BlkOk X.N X.env.scope scope own) (hsub : ∀ i ∈ sl, i ∈ own.map (·.2) := by decide) (hc : X.calm = true := by rfl) (hs : ∀ x, foldedSetIterable iter X.env x = pure x := by intro _; rfl) :
    LCx X elt tg iter [c] scope (rdF X.K X.mg E ρ (wi.bind fun its => (filR (fun d => (u d).bind cond) (fun d => (u d).bind me) its).bind fun rs => .ok (.list rs))) := by
  refine lcx_of (own := own) (g := rdG X.K sl u put) hc hN hi ok hg (fun s H C cl fp => pts_one (t := anyB X.K X.mg (fun x => put x (wipeE ρ (own.map (·.2)))) cond) ⟨fun pins s' σ H' Q I ⟨x, q⟩ => (ht s H C cl fp x).run pins s' σ H' Q I q⟩)
    (fun s H C cl fp => (⟨fun pins s' σ H' Q I ⟨x, q⟩ => (he s H C cl fp x).run pins s' σ H' Q I q⟩ : PE _ elt (anyE X.K X.mg (fun x => put x (wipeE ρ (own.map (·.2)))) me))) hs fun σ H Q hq => ?_
  refine lc_read (me := me) (cond := cond) hsub (fun x b σ2 H2 G2 Qb ec s2 ep2 k => ⟨x, G2, s2, ep2, by
    rw [ec]
    intro v G3 H3 fr r
    cases r
    exact k G3 H3 fr⟩) hq _ fun x t σ2 H2 G2 Qe em s2 ep2 k => ⟨x, G2, s2, ep2, by
    rw [em]
    exact fun v G3 H3 fr r => k v G3 H3 fr r⟩
theorem lcx_lc (hN : X.N.Nodup) (hi : XI X E ρ tg iter wi) (hg : ∀ (s : Shared) (H : Hp) (C : Addr) (cl : List (Str × Addr)) (fp : List Addr), XG (X.blk s H scope (compEnvC scope cl C X.env) fp) tg sl u put)
    (he : ∀ (s : Shared) (H : Hp) (C : Addr) (cl : List (Str × Addr)) (fp : List Addr) (x : α), XP (X.blk s H scope (compEnvC scope cl C X.env) fp) E0 (put x (wipeE ρ (own.map (·.2)))) elt (me x))
    (ok : BlkOk X.N X.env.scope scope own) (hsub : ∀ i ∈ sl, i ∈ own.map (·.2) := by decide) (hc : X.calm = true := by rfl) (hs : ∀ x, foldedSetIterable iter X.env x = pure x := by intro _; rfl) :
    LCx X elt tg iter [] scope (rdF X.K X.mg E ρ (wi.bind fun its => (mapR (fun d => (u d).bind me) its).bind fun rs => .ok (.list rs))) := by
  refine lcx_of (own := own) (g := rdG X.K sl u put) hc hN hi ok hg (fun s H C cl fp => pts_nil)
    (fun s H C cl fp => (⟨fun pins s' σ H' Q I ⟨x, q⟩ => (he s H C cl fp x).run pins s' σ H' Q I q⟩ : PE _ elt (anyE X.K X.mg (fun x => put x (wipeE ρ (own.map (·.2)))) me))) hs fun σ H Q hq => ?_
  refine lc_read (me := me) (cond := fun _ => .ok true) hsub (fun x b σ2 H2 G2 Qb ec s2 ep2 k => by
    cases ec
    exact k G2 H2 (Fr.refl s2)) ?_ _ fun x t σ2 H2 G2 Qe em s2 ep2 k => ⟨x, G2, s2, ep2, by
    rw [em]
    exact fun v G3 H3 fr r => k v G3 H3 fr r⟩
  · have e : (fun its => (mapR (fun d => (u d).bind me) its).bind fun rs => R.ok (PyData.list rs)) = fun its => (filR (fun d => (u d).bind fun _ => .ok true) (fun d => (u d).bind me) its).bind fun rs => .ok (PyData.list rs) := funext fun its => by rw [mapR_fil]
    rw [e] at hq
    exact hq
theorem xf_lc {ifs : List Expr} {m : R D} (h : LCx X elt tg iter ifs scope (rdF X.K X.mg E ρ m)) : XF X E ρ (.ListComp elt [⟨tg, iter, ifs, 0⟩] scope pos) m := h.pe pos
end
end
end TL
/-! the tree layer, 8: comprehensions that change the state, pops, boxes -/
namespace TL
open PySem PySem.Spec PyProof.Rows L2
section
variable {K : PySem.W.Frag} {own : List Nat} {ρ : En} {ad : Nat → Addr} {σ σ' : L2.St} {G H : Hp}
theorem Er.setO (er : Er K own ρ ad σ G H) {i : Nat} {v : V} {d : D} (hi : i ∉ own) (r : Rep K G v d) : Er K own (setN ρ i (some d)) ad (σ.set i (some v)) G H where
  len := by rw [setN_length, List.length_set]; exact er.len
  gh := er.gh
  fz := fun j t e hj => by
    by_cases hji : j = i
    · subst hji
      have hlt : j < σ.length := by
        have := getN_lt e
        rw [setN_length, er.len] at this
        exact this
      have e2 := getN_setN_same (w := some d) e
      cases e2
      exact ⟨v, by rw [List.getElem?_set_self hlt], r⟩
    · rw [getN_setN_ne hji] at e
      obtain ⟨w, q, r2⟩ := er.fz j t e hj
      exact ⟨w, by rw [List.getElem?_set_ne (Ne.symm hji)]; exact q, r2⟩
  ow := fun j hj => by
    have hji : j ≠ i := fun z => hi (by rw [← z]; exact hj)
    obtain ⟨t, e, q, o⟩ := er.ow j hj
    exact ⟨t, by rw [getN_setN_ne hji]; exact e, by rw [List.getElem?_set_ne (Ne.symm hji)]; exact q, o⟩
  inj := er.inj
theorem Er.dropO (er : Er K own ρ ad σ G H) {i : Nat} {o : Option V} (hi : i ∉ own) : Er K own (setN ρ i none) ad (σ.set i o) G H where
  len := by rw [setN_length, List.length_set]; exact er.len
  gh := er.gh
  fz := fun j t e hj => by
    by_cases hji : j = i
    · subst hji
      have e2 := getN_setN_same (w := none) e
      cases e2
    · rw [getN_setN_ne hji] at e
      obtain ⟨w, q, r2⟩ := er.fz j t e hj
      exact ⟨w, by rw [List.getElem?_set_ne (Ne.symm hji)]; exact q, r2⟩
  ow := fun j hj => by
    have hji : j ≠ i := fun z => hi (by rw [← z]; exact hj)
    obtain ⟨t, e, q, o⟩ := er.ow j hj
    exact ⟨t, by rw [getN_setN_ne hji]; exact e, by rw [List.getElem?_set_ne (Ne.symm hji)]; exact q, o⟩
  inj := er.inj
theorem Er.wipeO (er : Er K own ρ ad σ G H) : ∀ {vs : List Nat}, (∀ i ∈ vs, i ∉ own) → Er K own (wipeE ρ vs) ad (L2.wipe σ vs) G H
  | [], _ => er
  | v :: vs, h => (Er.wipeO er (vs := vs) fun i hi => h i (List.mem_cons_of_mem _ hi)).dropO (h v List.mem_cons_self)
theorem puts_er : ∀ {ps : List (Nat × V × D)} {σ : L2.St} {ρ : En}, (∀ p ∈ ps, Rep K G p.2.1 p.2.2) → (∀ p ∈ ps, p.1 ∉ own) → Er K own ρ ad σ G H → Er K own (putsE ps ρ) ad (putsS ps σ) G H
  | [], _, _, _, _, h => h
  | p :: ps, _, _, hs, ho, h => puts_er (ps := ps) (fun q hq => hs q (List.mem_cons_of_mem _ hq)) (fun q hq => ho q (List.mem_cons_of_mem _ hq)) (h.setO (ho p List.mem_cons_self) (hs p List.mem_cons_self))
theorem puts_get {i : Nat} : ∀ {ps : List (Nat × V × D)} {ρ : En}, (∀ p ∈ ps, p.1 ≠ i) → getN (putsE ps ρ) i = getN ρ i
  | [], _, _ => rfl
  | p :: ps, ρ, h => (puts_get (ps := ps) (ρ := setN ρ p.1 (some p.2.2)) fun q hq => h q (List.mem_cons_of_mem _ hq)).trans (getN_setN_ne (Ne.symm (h p List.mem_cons_self)))
/-- back to the slots that were ahead: only slots beside the owned ones have changed -/
theorem Er.back {ρ' : En} (er : Er K own ρ' ad σ' G H) (hl : ρ.length = σ.length) (hfz : ∀ i t, getN ρ i = some t → i ∉ own → ∃ v, σ[i]? = some (some v) ∧ Rep K G v t) (how : ∀ i ∈ own, getN ρ i = getN ρ' i ∧ σ[i]? = σ'[i]?) : Er K own ρ ad σ G H where
  len := hl
  gh := er.gh
  fz := hfz
  ow := fun i hi => by
    obtain ⟨t, e, q, o⟩ := er.ow i hi
    obtain ⟨h1, h2⟩ := how i hi
    exact ⟨t, h1.trans e, h2.trans q, o⟩
  inj := er.inj
end
section
variable {X : Cx} {own : List Nat} {S : Type} {emb : S → En}
def rdIJ (K : PySem.W.Frag) (own : List Nat) (emb : S → En) (m : S → R (List D × S)) : TI := fun σ H Rr => ∃ s ad G, Er K own (emb s) ad σ G H ∧ ∃ its s', m s = .ok (its, s') ∧
  ∀ J G' H', Er K own (emb s') ad σ G' H' → FrO own ad G H G' H' → its.length ≤ sizeLine → ItOk K J G' its → Rr J H'
abbrev JI (X : Cx) (own : List Nat) (emb : S → En) (tg iter : Expr) (m : S → R (List D × S)) : Prop := PI X tg iter (rdIJ X.K own emb m)
/-- a walk over something that changes nothing and sees no owned slot -/
theorem ji_of {tg iter : Expr} {m : S → R (List D)} (h : ∀ s, XI X E0 (hideE own (emb s)) tg iter (m s)) : JI X own emb tg iter (fun s => (m s).bind fun its => .ok (its, s)) := by
  refine ⟨fun pins st σ H Rr I hq => ?_⟩
  obtain ⟨s, ad, G, er, its, s', e, q⟩ := hq
  dsimp only at e
  cases em : m s with
  | no => rw [em] at e; exact nomatch e
  | ex c => rw [em] at e; exact nomatch e
  | ok its0 =>
    rw [em] at e
    cases e
    refine (h s).run pins st σ H Rr I ⟨G, er.gh, er.ep_hide, ?_⟩
    rw [em]
    intro J G' H' fr hz io
    refine q J G' H' (er.after fr.gg fr.gh fr.hh fun i hi => ?_) fr.toO hz io
    obtain ⟨_, _, _, o⟩ := er.ow i hi
    exact fr.nw _ o.1 o.ne
theorem ji_val {tg iter : Expr} {m : S → R (D × S)} (h : JP X own emb iter m) : JI X own emb tg iter (fun s => (m s).bind fun p => (items p.1).bind fun its => .ok (its, p.2)) := by
  refine ⟨fun pins st σ H Rr I hq => ?_⟩
  obtain ⟨s, ad, G, er, its, s', e, q⟩ := hq
  dsimp only at e
  cases em : m s with
  | no => rw [em] at e; exact nomatch e
  | ex c => rw [em] at e; exact nomatch e
  | ok p =>
    obtain ⟨t, s1⟩ := p
    rw [em] at e
    simp only [R.ok_bind] at e
    cases t with
    | list ds =>
      cases e
      refine (pi_list (pe_len h)).run pins st σ H Rr I ⟨s, ad, G, er, .list its, s', em, fun v G' H' er' fr r lo => ?_⟩
      cases r with
      | lst h1 a => exact ⟨_, rfl, ⟨_, same_lst er'.gh h1⟩, q _ G' H' er' fr (by rw [← a.length]; exact lo _ _ rfl (.inl (same_lst er'.gh h1))) (itOk_list (.of h1) a)⟩
    | tuple ds =>
      cases e
      refine (pi_tup (pe_len h)).run pins st σ H Rr I ⟨s, ad, G, er, .tuple its, s', em, fun v G' H' er' fr r lo => ?_⟩
      cases r with
      | tup h1 a => exact ⟨_, rfl, ⟨_, same_seqT er'.gh h1⟩, q _ G' H' er' fr (by rw [← a.length]; exact lo _ _ rfl (.inr (same_seqT er'.gh h1))) (itOk_tup h1.t a)⟩
    | none | bool _ | int _ | str _ | dict _ => exact nomatch e
theorem ji_range1 {tg a : Expr} {p pos : Pos} {mk : CJ S} (hm : X.mg "range" = none) (ha : JAk X own emb [a] mk) (hg : Gl X "range" := by rfl) (hs : starEach [a] X.env = [(false, eval a X.env)] := by rfl) :
    JI X own emb tg (.Call (.Name "range" p) [a] [] pos) (fun s => mk (List D × S) s fun ts s' => (pyRange ts).bind fun its => .ok (its, s')) := by
  obtain ⟨m, e, hl, h⟩ := ha
  rw [show (fun s => mk (List D × S) s fun ts s' => (pyRange ts).bind fun its => R.ok (its, s')) = fun s => (m s).bind fun p => (pyRange p.1).bind fun its => .ok (its, p.2) from funext fun s => e _ _ _]
  refine ⟨fun pins st σ H Rr I hq => (pi_range1 hg hm h hs).run pins st σ H Rr I ?_⟩
  obtain ⟨s, ad, G, er, its, s', e2, q⟩ := hq
  dsimp only at e2
  cases em : m s with
  | no => rw [em] at e2; exact nomatch e2
  | ex c => rw [em] at e2; exact nomatch e2
  | ok p =>
    have hl1 := hl s p em
    refine ⟨s, ad, G, er, p.1, p.2, em, fun vs G1 H1 er1 fr ra => ?_⟩
    simp only [em, R.ok_bind] at e2
    obtain ⟨ts, s1⟩ := p
    match ts, hl1 with
    | [.int j], _ =>
      obtain ⟨v, rfl, r1⟩ := repAll1 ra
      cases r1
      simp only [pyRange] at e2
      by_cases hc : -(2 ^ 62) ≤ j ∧ j ≤ 16777216
      · simp only [if_pos hc, R.ok_bind] at e2
        cases e2
        exact ⟨j, rfl, hc.1, by omega, q _ G1 H1 er1 fr (by rw [upto_length, sizeLine_eq]; omega) itOk_range⟩
      · simp only [if_neg hc] at e2
        exact nomatch e2
    | [.none], _ | [.bool _], _ | [.str _], _ | [.list _], _ | [.tuple _], _ | [.dict _], _ => exact nomatch e2
def rdJF (K : PySem.W.Frag) (own : List Nat) (emb : S → En) (m : S → R (D × S)) : TE := fun σ H Q => ∃ s ad G, Er K own (emb s) ad σ G H ∧ ∃ t s', m s = .ok (t, s') ∧
  ∀ p G' H', Er K own (emb s') ad σ G' H' → FrO own ad G H G' H' → H p = none → OwnAt K G' H' p t → Q (.ref p) H'
/-- a new list or dict, the state changed -/
abbrev JF (X : Cx) (own : List Nat) (emb : S → En) (e : Expr) (m : S → R (D × S)) : Prop := PE X e (rdJF X.K own emb m)
theorem Er.freezeO {K : PySem.W.Frag} {ρ : En} {ad : Nat → Addr} {σ : L2.St} {G H G1 H1 : Hp} (er : Er K own ρ ad σ G1 H1) (fr : FrO own ad G H G1 H1) {p : Addr} {t : D} (np : H p = none) (hno : ∀ i ∈ own, p ≠ ad i) (o : OwnAt K G1 H1 p t) :
    ∃ G2, Er K own ρ ad σ G2 H1 ∧ FrO own ad G H G2 H1 ∧ Rep K G2 (.ref p) t := by
  obtain ⟨u, eu, _⟩ := o.some_of
  have gn := o.1
  refine ⟨upd G1 p u, er.after (same_new gn) (fun b x e => ?_) (Same.refl _) (fun i hi => ?_), ⟨fr.gg.trans (same_new gn), fr.hh, fun b h1 h2 => ?_⟩, o.rep (same_new gn) (by rw [upd_same, eu])⟩
  · by_cases hb : b = p
    · subst hb
      rw [upd_same] at e
      rw [eu, e]
    · rw [upd_ne hb] at e
      exact er.gh _ _ e
  · rw [upd_ne (Ne.symm (hno i hi))]
    exact er.g_none hi
  · have : b ≠ p := fun z => h2 (by rw [z]; exact np)
    rw [upd_ne this]
    exact fr.nw b h1 h2
theorem Er.new_ne {K : PySem.W.Frag} {ρ : En} {ad : Nat → Addr} {σ : L2.St} {G H : Hp} (er : Er K own ρ ad σ G H) {p : Addr} (np : H p = none) : ∀ i ∈ own, p ≠ ad i := fun i hi z => by
  obtain ⟨_, _, _, o⟩ := er.ow i hi
  exact o.ne (by rw [← z]; exact np)
theorem jp_of_jf {a : Expr} {m : S → R (D × S)} (h : JF X own emb a m) : JP X own emb a m := pe_weak h fun σ H Q hq => by
  obtain ⟨s, ad, G, er, t, s', e, q⟩ := hq
  refine ⟨s, ad, G, er, t, s', e, fun p G' H' er' fr np o => ?_⟩
  obtain ⟨G2, er2, fr2, r2⟩ := er'.freezeO fr np (er.new_ne np) o
  exact q _ G2 H' er2 fr2 r2
theorem jf_lst {es : List Expr} {mk : CJ S} {pos : Pos} (h : JAk X own emb es mk) (hl : es.length ≤ 1000 := by decide) : JF X own emb (.List es pos) (fun s => mk (D × S) s fun ts s' => .ok (.list ts, s')) := by
  obtain ⟨m, e, hl', h⟩ := h
  rw [show (fun s => mk (D × S) s fun ts s' => R.ok (PyData.list ts, s')) = fun s => (m s).bind fun p => .ok (PyData.list p.1, p.2) from funext fun s => e _ _ _]
  refine pe_weak (pe_lst h) fun σ H Q hq => ?_
  obtain ⟨s, ad, G, er, u, s2, e2, q2⟩ := hq
  refine ⟨s, ad, G, er, ?_⟩
  cases em : m s with
  | no => simp only [em] at e2; exact nomatch e2
  | ex c => simp only [em] at e2; exact nomatch e2
  | ok p =>
    simp only [em, R.ok_bind] at e2
    cases e2
    refine ⟨p.1, p.2, rfl, fun vs G1 H1 er1 fr1 r1 => ⟨?_, fun a np => ?_⟩⟩
    · rw [r1.length, hl' s p em, sizeLine_eq]
      omega
    · have fr2 := Fr.newU (o := .lst vs) er1.gh np
      have er2 := er1.after fr2.gg fr2.gh fr2.hh fun i hi => er1.g_none hi
      have hp : H a = none := by
        cases z : H a with
        | none => rfl
        | some o =>
          rw [fr1.hh _ _ z (er1.new_ne np)] at np
          cases np
      exact q2 a G1 _ er2 (fr1.trans fr2.toO er2) hp (own_new er1.gh np r1)
/-! ### comprehensions with a state -/
def mapJ (f : D → S → R (D × S)) : List D → S → R (List D × S)
  | [], s => .ok ([], s)
  | d :: ds, s => (f d s).bind fun p => (mapJ f ds p.2).bind fun q => .ok (p.1 :: q.1, q.2)
def filJ (p : D → S → R (Bool × S)) (f : D → S → R (D × S)) : List D → S → R (List D × S)
  | [], s => .ok ([], s)
  | d :: ds, s => (p d s).bind fun b => if b.1 = true then (f d b.2).bind fun q => (filJ p f ds q.2).bind fun r => .ok (q.1 :: r.1, r.2) else filJ p f ds b.2
theorem filJ_cons {p : D → S → R (Bool × S)} {f : D → S → R (D × S)} {d : D} {ds ts : List D} {s s' : S} (h : filJ p f (d :: ds) s = .ok (ts, s')) :
    ∃ b s1, p d s = .ok (b, s1) ∧ (b = false → filJ p f ds s1 = .ok (ts, s')) ∧ (b = true → ∃ t s2 ts', f d s1 = .ok (t, s2) ∧ filJ p f ds s2 = .ok (ts', s') ∧ ts = t :: ts') := by
  unfold filJ at h
  cases e1 : p d s with
  | no => rw [e1] at h; exact nomatch h
  | ex c => rw [e1] at h; exact nomatch h
  | ok b =>
    obtain ⟨b, s1⟩ := b
    rw [e1] at h
    refine ⟨b, s1, rfl, fun hb => ?_, fun hb => ?_⟩
    · subst hb
      simpa using h
    · subst hb
      simp only [R.ok_bind, if_pos] at h
      cases e2 : f d s1 with
      | no => rw [e2] at h; exact nomatch h
      | ex c => rw [e2] at h; exact nomatch h
      | ok t =>
        obtain ⟨t, s2⟩ := t
        rw [e2] at h
        simp only [R.ok_bind] at h
        cases e3 : filJ p f ds s2 with
        | no => rw [e3] at h; exact nomatch h
        | ex c => rw [e3] at h; exact nomatch h
        | ok r =>
          obtain ⟨ts', s3⟩ := r
          rw [e3] at h
          cases h
          exact ⟨t, s2, ts', rfl, e3, rfl⟩
theorem mapJ_fil {α : Type} {u : D → R α} {me : α → S → R (D × S)} : ∀ (ds : List D) (s : S), mapJ (fun d s => (u d).bind fun a => me a s) ds s = filJ (fun d s => (u d).bind fun _ => .ok (true, s)) (fun d s => (u d).bind fun a => me a s) ds s
  | [], _ => rfl
  | d :: ds, s => by
    unfold mapJ filJ
    cases e : u d with
    | no => rfl
    | ex c => rfl
    | ok a =>
      simp only [R.ok_bind, if_pos]
      congr 1
      funext p
      rw [mapJ_fil ds]
/-- from the parts' readings to the comprehension's, the state told -/
theorem lcj_read {K : PySem.W.Frag} {α : Type} {wi : S → R (List D × S)} {sl vs : List Nat} {u : D → R α} {put : α → En → En} {cond : α → S → R (Bool × S)} {me : α → S → R (D × S)} {tt : TT} {te : TE} {σ : L2.St} {H : Hp} {Q : VK} (hsub : ∀ i ∈ sl, i ∈ vs) (hdis : ∀ i ∈ vs, i ∉ own)
    (hfix : ∀ s s' i, i ∉ own → getN (emb s) i = getN (emb s') i) (hlen : ∀ s s', (emb s).length = (emb s').length)
    (ht : ∀ (a : α) (b : Bool) (s s' : S) ad (σ2 : L2.St) (H2 G2 : Hp) (Qb : Bool → Hp → Prop), cond a s = .ok (b, s') → Er K own (put a (wipeE (emb s) vs)) ad σ2 G2 H2 → (∀ G3 H3, Er K own (put a (wipeE (emb s') vs)) ad σ2 G3 H3 → FrO own ad G2 H2 G3 H3 → Qb b H3) → tt σ2 H2 Qb)
    (hte : ∀ (a : α) (t : D) (s s' : S) ad (σ2 : L2.St) (H2 G2 : Hp) (Qe : VK), me a s = .ok (t, s') → Er K own (put a (wipeE (emb s) vs)) ad σ2 G2 H2 → (∀ v G3 H3, Er K own (put a (wipeE (emb s') vs)) ad σ2 G3 H3 → FrO own ad G2 H2 G3 H3 → Rep K G3 v t → Qe v H3) → te σ2 H2 Qe)
    (h : rdJF K own emb (fun s => (wi s).bind fun p => (filJ (fun d s => (u d).bind fun a => cond a s) (fun d s => (u d).bind fun a => me a s) p.1 p.2).bind fun r => .ok (.list r.1, r.2)) σ H Q) :
    tLc (rdIJ K own emb wi) (rdG K sl u put) tt te vs σ H Q := by
  obtain ⟨s, ad, G, er, t0, sf', e0, q⟩ := h
  refine ⟨s, ad, G, er, ?_⟩
  dsimp only at e0
  cases ew : wi s with
  | no => rw [ew] at e0; exact nomatch e0
  | ex c => rw [ew] at e0; exact nomatch e0
  | ok pw =>
    obtain ⟨its, s0⟩ := pw
    rw [ew] at e0
    simp only [R.ok_bind] at e0
    cases eF : filJ (fun d s => (u d).bind fun a => cond a s) (fun d s => (u d).bind fun a => me a s) its s0 with
    | no => rw [eF] at e0; exact nomatch e0
    | ex c => rw [eF] at e0; exact nomatch e0
    | ok pr =>
      obtain ⟨rs, sf'⟩ := pr
      rw [eF] at e0
      cases e0
      refine ⟨its, s0, rfl, fun J G1 H1 er1 fr1 hz io D0 nD => ?_⟩
      -- behind i turns
      refine ⟨fun i m H2 => m = its.length - i ∧ i ≤ its.length ∧ ∃ s2 G2 acc ds rr, Er K own (emb s2) ad σ G2 H2 ∧ FrO own ad G1 H1 G2 H2 ∧ H2 D0 = some (.lst acc) ∧ G2 D0 = none ∧ RepAll K G2 acc ds ∧
          filJ (fun d s => (u d).bind fun a => cond a s) (fun d s => (u d).bind fun a => me a s) (its.drop i) s2 = .ok (rr, sf') ∧ rs = ds ++ rr ∧ acc.length ≤ i, ⟨its.length, by simp, Nat.zero_le _, s0, G1, [], [], rs, ?_⟩, ?_⟩
      · have fr2 := Fr.newU (o := .lst []) er1.gh nD
        refine ⟨er1.after fr2.gg fr2.gh fr2.hh fun i hi => er1.g_none hi, fr2.toO, upd_same, er1.gh.free nD, .nil, eF, rfl, Nat.le_refl _⟩
      · rintro i m H2 ⟨rfl, hi, s2, G2, acc, ds, rr, er2, fr2, at2, un2, rp2, ef2, al2, few2⟩
        have neD : ∀ j ∈ own, D0 ≠ ad j := fun j hj z => by
          obtain ⟨t, _, _, o⟩ := er1.ow j hj
          exact o.ne (by rw [← z]; exact nD)
        by_cases hlt : i < its.length
        · right
          have hget := List.getElem?_eq_getElem hlt
          have hdrop : its.drop i = its[i] :: its.drop (i + 1) := List.drop_eq_getElem_cons hlt
          refine ⟨io.go i H2 hlt (fr2.gg.trans er2.gh), fun H' => ∃ s2 G2 acc ds rr, Er K own (emb s2) ad σ G2 H' ∧ FrO own ad G1 H1 G2 H' ∧ H' D0 = some (.lst acc) ∧ G2 D0 = none ∧ RepAll K G2 acc ds ∧
            filJ (fun d s => (u d).bind fun a => cond a s) (fun d s => (u d).bind fun a => me a s) (its.drop (i + 1)) s2 = .ok (rr, sf') ∧ rs = ds ++ rr ∧ acc.length ≤ i + 1, fun H' hN => ⟨its.length - (i + 1), by omega, rfl, hlt, hN⟩, fun x H' hy => ?_⟩
          obtain ⟨G3, fr3, r3⟩ := io.yld i x G2 H2 H' its[i] hget fr2.gg er2.gh hy
          have er3 : Er K own (emb s2) ad σ G3 H' := er2.after fr3.gg fr3.gh fr3.hh fun j hj => fr3.nw _ (er2.g_none hj) (by
            obtain ⟨_, _, _, o⟩ := er2.ow j hj
            exact o.ne)
          rw [hdrop] at ef2
          obtain ⟨b, s3, eb, hb0, hb1⟩ := filJ_cons ef2
          cases eu : u its[i] with
          | no => rw [eu] at eb; exact nomatch eb
          | ex c => rw [eu] at eb; exact nomatch eb
          | ok a =>
            simp only [eu, R.ok_bind] at eb hb1
            have erw : Er K own (wipeE (emb s2) vs) ad (L2.wipe σ vs) G3 H' := er3.wipeO hdis
            refine ⟨G3, its[i], a, er3.gh, r3, eu, fun ps hp => ?_⟩
            have ho : Only sl (L2.wipe σ vs) (putsS ps (L2.wipe σ vs)) := puts_only hp.sub only_refl
            have erA : Er K own (put a (wipeE (emb s2) vs)) ad (putsS ps (L2.wipe σ vs)) G3 H' := by
              rw [hp.eq]
              exact puts_er hp.rep (fun p hq => hdis _ (hsub _ (hp.sub p hq))) erw
            have hput : ∀ ρ i, i ∉ sl → getN (put a ρ) i = getN ρ i := fun ρ i hi => by
              rw [hp.eq]
              exact puts_get fun p hq z => hi (by rw [← z]; exact hp.sub p hq)
            generalize putsS ps (L2.wipe σ vs) = σ2 at ho erA ⊢
            have key : ∀ (l : List Nat) (j : Nat), j ∉ l → (L2.wipe σ l)[j]? = σ[j]? := by
              intro l
              induction l with
              | nil => intro j _; rfl
              | cons v l ih =>
                intro j hj
                show ((L2.wipe σ l).set v none)[j]? = _
                rw [List.getElem?_set_ne (fun z : v = j => hj (by rw [z]; exact List.mem_cons_self))]
                exact ih j fun hm => hj (List.mem_cons_of_mem _ hm)
            have onlyV : Only vs σ σ2 := ⟨by rw [ho.1, wipe_length], fun j hj => by rw [ho.2 j fun hm => hj (hsub j hm), key vs j hj]⟩
            have hw : L2.wipe σ2 vs = L2.wipe σ vs := wipe_only onlyV
            -- out of the block again
            have out : ∀ (s' : S) (G4 H4 : Hp), Same G3 G4 → Er K own (put a (wipeE (emb s') vs)) ad σ2 G4 H4 → Er K own (emb s') ad σ G4 H4 := fun s' G4 H4 sg er4 => by
              have kw : ∀ (l : List Nat) (j : Nat), j ∉ l → getN (wipeE (emb s') l) j = getN (emb s') j := by
                intro l
                induction l with
                | nil => intro j _; rfl
                | cons v l ih =>
                  intro j hj
                  show getN (setN (wipeE (emb s') l) v none) j = _
                  rw [getN_setN_ne (fun z : j = v => hj (by rw [z]; exact List.mem_cons_self))]
                  exact ih j fun hm => hj (List.mem_cons_of_mem _ hm)
              refine er4.back ((hlen s' s2).trans er3.len) (fun j t e hj => ?_) fun j hj => ⟨?_, ?_⟩
              · rw [hfix s' s2 j hj] at e
                obtain ⟨v, e1, r1⟩ := er3.fz j t e hj
                exact ⟨v, e1, r1.mono sg⟩
              · have nv : j ∉ vs := fun hm => hdis j hm hj
                rw [hput _ j fun hm => nv (hsub j hm), kw vs j nv]
              · have nv : j ∉ vs := fun hm => hdis j hm hj
                exact (onlyV.2 j nv).symm
            have frA : FrO own ad G1 H1 G3 H' := fr2.trans fr3.toO er3
            have at3 : H' D0 = some (.lst acc) := fr3.hh _ _ at2
            have un3 : G3 D0 = none := fr3.nw _ un2 (by rw [at2]; exact fun z => nomatch z)
            refine ⟨hw, ht a b s2 s3 ad σ2 H' G3 _ eb erA fun G4 H4 er4 fr4 => ?_⟩
            have at4 : H4 D0 = some (.lst acc) := fr4.hh _ _ at3 neD
            have un4 : G4 D0 = none := fr4.nw _ un3 (by rw [at3]; exact fun z => nomatch z)
            have er4' := out s3 G4 H4 fr4.gg er4
            cases b with
            | false =>
              rw [if_neg Bool.false_ne_true]
              exact ⟨s3, G4, acc, ds, rr, er4', frA.trans fr4 er4', at4, un4, (rp2.mono fr3.gg).mono fr4.gg, hb0 rfl, al2, Nat.le_succ_of_le few2⟩
            | true =>
              rw [if_pos rfl]
              obtain ⟨t, s4, ts', ef, er', rfl⟩ := hb1 rfl
              refine hte a t s3 s4 ad σ2 H4 G4 _ ef er4 fun v G5 H5 er5 fr5 r5 => ?_
              have at5 : H5 D0 = some (.lst acc) := fr5.hh _ _ at4 neD
              have un5 : G5 D0 = none := fr5.nw _ un4 (by rw [at4]; exact fun z => nomatch z)
              have er5' := out s4 G5 H5 (fr4.gg.trans fr5.gg) er5
              have fr5' : FrO own ad G1 H1 G5 H5 := (frA.trans fr4 er4').trans fr5 er5'
              refine ⟨acc, at5, by omega, s4, G5, acc ++ [v], ds ++ [t], ts', ?_, ⟨fr5'.gg, fun b o e hne => ?_, fr5'.nw⟩, upd_same, un5, (((rp2.mono fr3.gg).mono fr4.gg).mono fr5.gg).append (.cons r5 .nil), er', by rw [al2, List.append_assoc]; rfl, by
                rw [List.length_append]
                simp only [List.length_cons, List.length_nil]
                omega⟩
              · refine ⟨er5'.len, fun b o e => ?_, er5'.fz, fun j hj => ?_, er5'.inj⟩
                · rw [upd_ne (ne_of_none e un5)]
                  exact er5'.gh _ _ e
                · obtain ⟨t, e, q, o⟩ := er5'.ow j hj
                  exact ⟨t, e, q, o.keep (Same.refl _) o.1 (upd_ne (Ne.symm (neD j hj)))⟩
              · rw [upd_ne (ne_of_none e nD)]
                exact fr5'.hh b o e hne
        · left
          have e : i = its.length := by omega
          subst e
          rw [List.drop_length] at ef2
          cases ef2
          rw [List.append_nil] at al2
          subst al2
          refine ⟨io.stop H2 (fr2.gg.trans er2.gh), ?_⟩
          have own2 : OwnAt K G2 H2 D0 (.list rs) := ⟨un2, .inl ⟨acc, rs, rfl, at2, rp2⟩⟩
          have hD : H D0 = none := by
            cases z : H D0 with
            | none => rfl
            | some o =>
              rw [fr1.hh _ _ z (er1.new_ne nD)] at nD
              cases nD
          exact q D0 G2 H2 er2 (fr1.trans fr2 er2) hD own2
end
end TL
/-! the tree layer, 9: effects as expressions; statements -/
namespace TL
open PySem PySem.Spec PyProof.Rows L2
structure EmbOk {S : Type} (own : List Nat) (emb : S → En) : Prop where
  fix : ∀ s s' i, i ∉ own → getN (emb s) i = getN (emb s') i
  len : ∀ s s', (emb s).length = (emb s').length
structure SlotOf {S : Type} (emb : S → En) (i : Nat) (get : S → D) (put : S → D → S) : Prop where
  g : ∀ s, getN (emb s) i = some (get s)
  p : ∀ s d, emb (put s d) = setN (emb s) i (some d)
/-- it is a list -/
def lstD : D → R Unit
  | .list _ => .ok ()
  | _ => .no
/-- the last item goes -/
def popD : D → R (D × D)
  | .list ts => match ts[ts.length - 1]? with
    | some t => .ok (t, .list ts.dropLast)
    | none => .no
  | _ => .no
def popAtD : D → D → R (D × D)
  | .list ts, .int i => if -(2 ^ 63) ≤ i ∧ i < 2 ^ 63 then (match seqIndex? i ts.length with
      | some k => (match ts[k]? with
        | some t => .ok (t, .list (ts.eraseIdx k))
        | none => .no)
      | none => .no) else .no
  | _, _ => .no
def appD : D → D → R D
  | .list ts, t => if ts.length < sizeLine then .ok (.list (ts ++ [t])) else .no
  | _, _ => .no
def extD : D → D → R D
  | .list ts, .list us => if ts.length + us.length ≤ sizeLine then .ok (.list (ts ++ us)) else .no
  | .list ts, .tuple us => if ts.length + us.length ≤ sizeLine then .ok (.list (ts ++ us)) else .no
  | _, _ => .no
section
variable {K : PySem.W.Frag} {own : List Nat} {ρ : En} {ad : Nat → Addr} {σ : L2.St} {G H : Hp}
/-- an owned object is changed -/
theorem Er.write (er : Er K own ρ ad σ G H) {i : Nat} (hi : i ∈ own) {o : HO} {t : D} (hn : OwnAt K G (upd H (ad i) o) (ad i) t) : Er K own (setN ρ i (some t)) ad σ G (upd H (ad i) o) ∧ FrO own ad G H G (upd H (ad i) o) := by
  have gn := er.g_none hi
  refine ⟨⟨setN_length.trans er.len, fun b x e => ?_, fun j u e hj => ?_, fun j hj => ?_, er.inj⟩, Same.refl _, fun b x e hne => ?_, fun _ h _ => h⟩
  · rw [upd_ne (ne_of_none e gn)]
    exact er.gh _ _ e
  · have hji : j ≠ i := fun z => hj (by rw [z]; exact hi)
    rw [getN_setN_ne hji] at e
    exact er.fz j u e hj
  · by_cases hji : j = i
    · subst hji
      obtain ⟨u, e, q, _⟩ := er.ow j hj
      refine ⟨t, ?_, q, hn⟩
      have key : ∀ (l : En) (k : Nat), k < l.length → getN (setN l k (some t)) k = some t := by
        intro l
        induction l with
        | nil => intro k hk; exact absurd hk (Nat.not_lt_zero _)
        | cons x l ih =>
          intro k hk
          cases k with
          | zero => rfl
          | succ k => exact ih k (Nat.lt_of_succ_lt_succ hk)
      exact key ρ j (getN_lt e)
    · obtain ⟨u, e, q, o2⟩ := er.ow j hj
      refine ⟨u, by rw [getN_setN_ne hji]; exact e, q, o2.keep (Same.refl _) o2.1 (upd_ne fun z => hji (er.inj j hj i hi z))⟩
  · rw [upd_ne (hne i hi)]
    exact e
theorem Er.ownL (er : Er K own ρ ad σ G H) {i : Nat} (hi : i ∈ own) {ts : List D} (e : getN ρ i = some (.list ts)) : ∃ xs, σ[i]? = some (some (.ref (ad i))) ∧ H (ad i) = some (.lst xs) ∧ RepAll K G xs ts := by
  obtain ⟨t, e', q, _, ⟨xs, ts', rfl, eh, r⟩ | ⟨_, _, rfl, _⟩ | ⟨_, _, rfl, _⟩⟩ := er.ow i hi
  · rw [e] at e'
    cases e'
    exact ⟨xs, q, eh, r⟩
  · rw [e] at e'
    cases e'
  · rw [e] at e'
    cases e'
end
theorem RepAll.dropLast {K : PySem.W.Frag} {G : Hp} {vs : List V} {ds : List D} (h : RepAll K G vs ds) : RepAll K G vs.dropLast ds.dropLast := by
  rw [List.dropLast_eq_take, List.dropLast_eq_take, h.length]
  exact h.take _
theorem RepAll.eraseIdx {K : PySem.W.Frag} {G : Hp} : ∀ {vs : List V} {ds : List D} (k : Nat), RepAll K G vs ds → RepAll K G (vs.eraseIdx k) (ds.eraseIdx k)
  | _, _, _, .nil => .nil
  | _, _, 0, .cons _ t => t
  | _, _, k + 1, .cons r t => .cons r (RepAll.eraseIdx k t)
theorem own_at {K : PySem.W.Frag} {G H : Hp} {a : Addr} {xs : List V} {ts : List D} (g : G a = none) (r : RepAll K G xs ts) : OwnAt K G (upd H a (.lst xs)) a (.list ts) := ⟨g, .inl ⟨xs, ts, rfl, upd_same, r⟩⟩
section
variable {X : Cx} {own : List Nat} {S : Type} {emb : S → En} {i : Nat} {get : S → D} {put : S → D → S} {x : Str} {p apos pos : Pos} {a : Expr}
theorem jp_pop0 (i : Nat) (so : SlotOf emb i get put) (hi : i ∈ own := by decide) (hN : X.N[i]? = some x := by rfl) (hv : Vis X.env.scope x := by first | exact Or.inl rfl | exact Or.inr (Or.inl rfl) | exact Or.inr (Or.inr rfl)) (hd : (x == ("__debug__" : Str)) = false := by decide)
    (hcd : (x == ("__classdict__" : Str)) = false := by decide) (hbase : attributeBase (.Name x p) "pop" X.env (eval (.Name x p) X.env) = eval (.Name x p) X.env := by rfl) (hline : (apos.endLine == pos.line) = true := by rfl) : JP X own emb (.Call (.Attribute (.Name x p) "pop" apos) [] [] pos) (fun s => (popD (get s)).bind fun q => .ok (q.1, put s q.2)) :=
  pe_weak (pe_bm0 PySem.F.plainAttrs_list PySem.F.slot_list_pop PySem.F.type_list_pop mt_pop (pe_var hN hv hd hcd) hbase hline) fun σ H Q h => by
    obtain ⟨s, ad, G, er, t, s', e, q⟩ := h
    dsimp only at e
    cases eg : get s with
    | list ts =>
      have ei := so.g s
      rw [eg] at ei e
      obtain ⟨xs, es, eh, r⟩ := er.ownL hi ei
      simp only [popD] at e
      cases el : ts[ts.length - 1]? with
      | none => rw [el] at e; exact nomatch e
      | some u =>
        rw [el] at e
        cases e
        obtain ⟨v, ev, rv⟩ := r.get el
        rw [← r.length] at ev
        have on := own_at (H := H) (er.g_none hi) r.dropLast
        obtain ⟨er2, fr2⟩ := er.write hi on
        exact ⟨_, es, .inl ⟨rfl, _, SqL.of eh⟩, _, xs, v, rfl, rfl, eh, ev, q v G _ (by rw [so.p]; exact er2) fr2 rv⟩
    | none | bool _ | int _ | str _ | tuple _ | dict _ => rw [eg] at e; exact nomatch e
theorem jp_popAt (i : Nat) {ma : S → R (D × S)} (so : SlotOf emb i get put) (ha : JP X own emb a ma) (hi : i ∈ own := by decide) (hN : X.N[i]? = some x := by rfl) (hv : Vis X.env.scope x := by first | exact Or.inl rfl | exact Or.inr (Or.inl rfl) | exact Or.inr (Or.inr rfl)) (hd : (x == ("__debug__" : Str)) = false := by decide)
    (hcd : (x == ("__classdict__" : Str)) = false := by decide) (hbase : attributeBase (.Name x p) "pop" X.env (eval (.Name x p) X.env) = eval (.Name x p) X.env := by rfl)
    (hfew : ((backTo pos (starEach [a] X.env)).all (fun x => !x.1) && (backToKw pos (keywordEach [] X.env)).all (fun x => x.1.isSome) && decide ([a].length + ([] : List Keyword).length + (if ([] : List Keyword).isEmpty then 0 else 1) < 30)) = true := by rfl)
    (hline : (apos.endLine == pos.line) = true := by rfl) (hs : starEach [a] X.env = (false, eval a X.env) :: starEach [] X.env := by rfl) (hplain : (backTo pos (starEach [] X.env)).any (·.1) = false := by rfl) :
    JP X own emb (.Call (.Attribute (.Name x p) "pop" apos) [a] [] pos) (fun s => (lstD (get s)).bind fun _ => (ma s).bind fun r => (popAtD (get r.2) r.1).bind fun q => .ok (q.1, put r.2 q.2)) :=
  pe_weak (pe_bm PySem.F.plainAttrs_list PySem.F.slot_list_pop PySem.F.type_list_pop mt_popAt (pe_var hN hv hd hcd) (pa_cons ha pa_nil hs) hbase hfew hline hs hplain) fun σ H Q h => by
    obtain ⟨s, ad, G, er, q⟩ := h
    obtain ⟨t0, e0, es0, o0⟩ := er.ow i hi
    have ei0 := so.g s
    rw [e0] at ei0
    cases ei0
    have ty : tyV X.K "list" (.ref (ad i)) H := by
      obtain ⟨t, s', e, _⟩ := q
      dsimp only at e
      obtain ⟨_, ⟨xs, ts, eg, eh, _⟩ | ⟨_, _, eg, eh, _⟩ | ⟨_, _, eg, eh, _⟩⟩ := o0
      · exact .inl ⟨rfl, _, SqL.of eh⟩
      · rw [eg] at e
        exact nomatch e
      · rw [eg] at e
        exact nomatch e
    have q : PostJ Rep X.K own emb ad σ G H ((ma s).bind fun r => (popAtD (get r.2) r.1).bind fun q => .ok (q.1, put r.2 q.2)) Q := by
      obtain ⟨t, s', e, q⟩ := q
      dsimp only at e
      cases eg : get s with
      | list ts =>
        rw [eg] at e
        exact ⟨t, s', e, q⟩
      | none | bool _ | int _ | str _ | tuple _ | dict _ => rw [eg] at e; exact nomatch e
    refine ⟨_, es0, ty, s, ad, G, er, (PostJ.bind (Rp := Rep) q).mono fun w H1 ⟨G1, t1, s1, er1, r1, fr1, t, s', e, q1⟩ => ?_⟩
    cases eg : get s1 with
    | list ts =>
      have ei := so.g s1
      rw [eg] at ei
      simp only [eg] at e
      obtain ⟨xs, es, eh, r⟩ := er1.ownL hi ei
      cases r1 with
      | int j =>
        simp only [popAtD] at e
        split at e
        · rename_i hj
          cases ek : seqIndex? j ts.length with
          | none => simp only [ek] at e; exact nomatch e
          | some k =>
            simp only [ek] at e
            cases el : ts[k]? with
            | none => simp only [el] at e; exact nomatch e
            | some u =>
              simp only [el] at e
              cases e
              obtain ⟨v, ev, rv⟩ := r.get el
              have on := own_at (H := H1) (er1.g_none hi) (r.eraseIdx k)
              obtain ⟨er2, fr2⟩ := er1.write hi on
              exact ⟨_, xs, j, k, v, rfl, rfl, eh, hj.1, hj.2, by rw [r.length]; exact ek, ev, q1 v G1 _ (by rw [so.p]; exact er2) fr2 rv⟩
        · exact nomatch e
      | _ => exact nomatch e
    | none | bool _ | int _ | str _ | tuple _ | dict _ => simp only [eg, popAtD] at e; exact nomatch e
/-- f(box, ..): the box is an owned slot -/
theorem jp_box {es : List Expr} {k j np : Nat} {fr : Md} {mk : CJ S} {mf : D → List D → R (D × D)} {f : Str} {pf : Pos} (i : Nat) (so : SlotOf emb i get put) (C : CalOk X.prog X.w X.K X.mg X.base j f (spB X.K np fr mf)) (hr : Room k X.A) (hjk : j ≤ k) (hx : Passes (L2N.CX X.prog X.w) X E0)
    (ha : JAk X own emb es mk) (hi : i ∈ own := by decide) (hnp : es.length + 1 = np := by rfl) (hN : X.N[i]? = some x := by rfl) (hv : Vis X.env.scope x := by first | exact Or.inl rfl | exact Or.inr (Or.inl rfl) | exact Or.inr (Or.inr rfl)) (hg : Gl X f := by rfl) (hd : (x == ("__debug__" : Str)) = false := by decide) (hcd : (x == ("__classdict__" : Str)) = false := by decide)
    (hdb : (f == ("__debug__" : Str)) = false := by decide) (he : starEach (Expr.Name x p :: es) X.env = (false, eval (.Name x p) X.env) :: starEach es X.env := by rfl) (hpl : (backTo pos (starEach es X.env)).any (·.1) = false := by rfl) :
    JP X own emb (.Call (.Name f pf) (.Name x p :: es) [] pos) (fun s => mk (D × S) s fun ts s' => (mf (get s') ts).bind fun q => .ok (q.1, put s' q.2)) := by
  obtain ⟨fa, fd, ps, F, hm, hk, hb⟩ := C
  obtain ⟨m, e, hl, h⟩ := ha
  rw [show (fun s => mk (D × S) s fun ts s' => (mf (get s') ts).bind fun q => R.ok (q.1, put s' q.2)) = fun s => (m s).bind fun r => (mf (get r.2) r.1).bind fun q => .ok (q.1, put r.2 q.2) from funext fun s => e _ _ _]
  refine pe_weak (pe_call F (hr.mono hjk) hg hm hk hb .nil hx (pa_cons (pe_var hN hv hd hcd) h he) hdb he hpl) fun σ H Q hq => ?_
  obtain ⟨s, ad, G, er, q⟩ := hq
  obtain ⟨t0, e0, es0, o0⟩ := er.ow i hi
  refine ⟨_, es0, s, ad, G, er, ?_⟩
  obtain ⟨u, sf, e2, q⟩ := q
  dsimp only at e2
  cases em : m s with
  | no => rw [em] at e2; exact nomatch e2
  | ex c => rw [em] at e2; exact nomatch e2
  | ok r =>
    obtain ⟨ts, s1⟩ := r
    rw [em] at e2
    simp only [R.ok_bind] at e2
    refine ⟨ts, s1, rfl, fun vs G1 H1 er1 fr1 ra => ?_⟩
    cases ef : mf (get s1) ts with
    | no => rw [ef] at e2; exact nomatch e2
    | ex c => rw [ef] at e2; exact nomatch e2
    | ok r =>
      obtain ⟨t, b'⟩ := r
      rw [ef] at e2
      cases e2
      obtain ⟨t1, e1, es1, o1⟩ := er1.ow i hi
      rw [so.g] at e1
      cases e1
      rw [List.append_nil]
      refine ⟨by rw [List.length_cons, ra.length, hl s _ em]; exact hnp, G1, ad i, vs, get s1, ts, rfl, er1.gh, o1, ra, t, b', ef, fun v G2 H2 gg gh hh nw ob an => ?_⟩
      have fin : ∀ G3, Same G2 G3 → Same G3 H2 → (∀ c, G1 c = none → H1 c ≠ none → G3 c = none) → Rep X.K G3 v t → Q v H2 := fun G3 g23 g3h nw3 r3 => by
        have no3 : ∀ j ∈ own, G3 (ad j) = none := fun j hj => nw3 _ (er1.g_none hj) (by
          obtain ⟨_, _, _, o⟩ := er1.ow j hj
          exact o.ne)
        have erF : Er X.K own (emb (put s1 b')) ad σ G3 H2 := by
          rw [so.p]
          refine ⟨setN_length.trans er1.len, g3h, fun j w ej hj => ?_, fun j hj => ?_, er1.inj⟩
          · have hji : j ≠ i := fun z => hj (by rw [z]; exact hi)
            rw [getN_setN_ne hji] at ej
            obtain ⟨v', q', r'⟩ := er1.fz j w ej hj
            exact ⟨v', q', (r'.mono gg).mono g23⟩
          · by_cases hji : j = i
            · subst hji
              refine ⟨b', ?_, es1, ob.keep g23 (no3 j hj) rfl⟩
              have := so.g (put s1 b')
              rw [so.p] at this
              have key : ∀ (l : En) (k : Nat) (w : D), k < l.length → getN (setN l k (some w)) k = some w := by
                intro l
                induction l with
                | nil => intro k w hk; exact absurd hk (Nat.not_lt_zero _)
                | cons x l ih =>
                  intro k w hk
                  cases k with
                  | zero => rfl
                  | succ k => exact ih k w (Nat.lt_of_succ_lt_succ hk)
              exact key _ _ _ (getN_lt (so.g s1))
            · obtain ⟨w, ej, qj, oj⟩ := er1.ow j hj
              refine ⟨w, by rw [getN_setN_ne hji]; exact ej, qj, oj.keep (gg.trans g23) (no3 j hj) ?_⟩
              obtain ⟨z, ez, _⟩ := oj.some_of
              rw [ez, hh _ _ ez fun y => hji (er1.inj j hj i hi y)]
        refine q v G3 H2 erF (fr1.trans (K := X.K) (ρ := emb (put s1 b')) (σ := σ) ⟨gg.trans g23, fun b o eb hne => hh b o eb (hne i hi), nw3⟩ erF) r3
      cases fr with
      | fz => exact fin G2 (Same.refl _) gh nw an
      | nw =>
        obtain ⟨pp, rfl, np, o⟩ := an
        obtain ⟨w, ew, _⟩ := o.some_of
        have gn := o.1
        refine fin (upd G2 pp w) (same_new gn) (fun b z ez => ?_) (fun b h1 h2 => ?_) (o.rep (same_new gn) (by rw [upd_same, ew]))
        · by_cases hb : b = pp
          · subst hb
            rw [upd_same] at ez
            rw [ew, ez]
          · rw [upd_ne hb] at ez
            exact gh _ _ ez
        · have : b ≠ pp := fun z => h2 (by rw [z]; exact np)
          rw [upd_ne this]
          exact nw b h1 h2
      | my =>
        rcases an with an | ⟨_, an⟩
        · obtain ⟨pp, rfl, np, o⟩ := an
          obtain ⟨w, ew, _⟩ := o.some_of
          have gn := o.1
          refine fin (upd G2 pp w) (same_new gn) (fun b z ez => ?_) (fun b h1 h2 => ?_) (o.rep (same_new gn) (by rw [upd_same, ew]))
          · by_cases hb : b = pp
            · subst hb
              rw [upd_same] at ez
              rw [ew, ez]
            · rw [upd_ne hb] at ez
              exact gh _ _ ez
          · have : b ≠ pp := fun z => h2 (by rw [z]; exact np)
            rw [upd_ne this]
            exact nw b h1 h2
        · exact fin G2 (Same.refl _) gh nw an
end
section
variable {X : Cx} {own : List Nat} {S : Type} {emb : S → En} {α : Type} {tg iter elt : Expr} {scope : Scope} {ow : List (Str × Nat)} {sl : List Nat} {u : D → R α} {put : α → En → En} {wi : S → R (List D × S)} {me : α → S → R (D × S)} {cond : α → S → R (Bool × S)} {c : Expr} {pos : Pos}
def anyJ (K : PySem.W.Frag) (own : List Nat) (f : α → S → En) (m : α → S → R (D × S)) : TE := fun σ H Q => ∃ a, rdJ K own (f a) (m a) σ H Q
def anyJB (K : PySem.W.Frag) (own : List Nat) (f : α → S → En) (m : α → S → R (Bool × S)) : TT := fun σ H Q => ∃ a, rdJB K own (f a) (m a) σ H Q
theorem jlcx_lcf (hN : X.N.Nodup) (eo : EmbOk own emb) (hi : JI X own emb tg iter wi) (hg : ∀ (s : Shared) (H : Hp) (C : Addr) (cl : List (Str × Addr)) (fp : List Addr), XG (X.blk s H scope (compEnvC scope cl C X.env) fp) tg sl u put)
    (ht : ∀ (s : Shared) (H : Hp) (C : Addr) (cl : List (Str × Addr)) (fp : List Addr) (x : α), JB (X.blk s H scope (compEnvC scope cl C X.env) fp) own (fun s => put x (wipeE (emb s) (ow.map (·.2)))) c (cond x))
    (he : ∀ (s : Shared) (H : Hp) (C : Addr) (cl : List (Str × Addr)) (fp : List Addr) (x : α), JP (X.blk s H scope (compEnvC scope cl C X.env) fp) own (fun s => put x (wipeE (emb s) (ow.map (·.2)))) elt (me x))
    (ok : BlkOk X.N X.env.scope scope ow) (hsub : ∀ i ∈ sl, i ∈ ow.map (·.2) := by decide) (hdis : ∀ i ∈ ow.map (·.2), i ∉ own := by decide) (hc : X.calm = true := by rfl) (hs : ∀ x, foldedSetIterable iter X.env x = pure x := by intro _; rfl) :
    LCx X elt tg iter [c] scope (rdJF X.K own emb (fun s => (wi s).bind fun p => (filJ (fun d s => (u d).bind fun a => cond a s) (fun d s => (u d).bind fun a => me a s) p.1 p.2).bind fun r => .ok (.list r.1, r.2))) := by
  refine lcx_of (own := ow) (g := rdG X.K sl u put) hc hN hi ok hg (fun s H C cl fp => pts_one (t := anyJB X.K own (fun x s => put x (wipeE (emb s) (ow.map (·.2)))) cond) ⟨fun pins s' σ H' Q I ⟨x, q⟩ => (ht s H C cl fp x).run pins s' σ H' Q I q⟩)
    (fun s H C cl fp => (⟨fun pins s' σ H' Q I ⟨x, q⟩ => (he s H C cl fp x).run pins s' σ H' Q I q⟩ : PE _ elt (anyJ X.K own (fun x s => put x (wipeE (emb s) (ow.map (·.2)))) me))) hs fun σ H Q hq => ?_
  exact lcj_read (me := me) (cond := cond) hsub hdis eo.fix eo.len (fun x b s s' ad σ2 H2 G2 Qb ec er2 k => ⟨x, s, ad, G2, er2, b, s', ec, fun v G3 H3 er3 fr r => by cases r; exact k G3 H3 er3 fr⟩)
    (fun x t s s' ad σ2 H2 G2 Qe em er2 k => ⟨x, s, ad, G2, er2, t, s', em, fun v G3 H3 er3 fr r => k v G3 H3 er3 fr r⟩) hq
theorem jlcx_lc (hN : X.N.Nodup) (eo : EmbOk own emb) (hi : JI X own emb tg iter wi) (hg : ∀ (s : Shared) (H : Hp) (C : Addr) (cl : List (Str × Addr)) (fp : List Addr), XG (X.blk s H scope (compEnvC scope cl C X.env) fp) tg sl u put)
    (he : ∀ (s : Shared) (H : Hp) (C : Addr) (cl : List (Str × Addr)) (fp : List Addr) (x : α), JP (X.blk s H scope (compEnvC scope cl C X.env) fp) own (fun s => put x (wipeE (emb s) (ow.map (·.2)))) elt (me x))
    (ok : BlkOk X.N X.env.scope scope ow) (hsub : ∀ i ∈ sl, i ∈ ow.map (·.2) := by decide) (hdis : ∀ i ∈ ow.map (·.2), i ∉ own := by decide) (hc : X.calm = true := by rfl) (hs : ∀ x, foldedSetIterable iter X.env x = pure x := by intro _; rfl) :
    LCx X elt tg iter [] scope (rdJF X.K own emb (fun s => (wi s).bind fun p => (mapJ (fun d s => (u d).bind fun a => me a s) p.1 p.2).bind fun r => .ok (.list r.1, r.2))) := by
  refine lcx_of (own := ow) (g := rdG X.K sl u put) hc hN hi ok hg (fun s H C cl fp => pts_nil)
    (fun s H C cl fp => (⟨fun pins s' σ H' Q I ⟨x, q⟩ => (he s H C cl fp x).run pins s' σ H' Q I q⟩ : PE _ elt (anyJ X.K own (fun x s => put x (wipeE (emb s) (ow.map (·.2)))) me))) hs fun σ H Q hq => ?_
  refine lcj_read (me := me) (cond := fun _ s => .ok (true, s)) hsub hdis eo.fix eo.len (fun x b s s' ad σ2 H2 G2 Qb ec er2 k => ?_)
    (fun x t s s' ad σ2 H2 G2 Qe em er2 k => ⟨x, s, ad, G2, er2, t, s', em, fun v G3 H3 er3 fr r => k v G3 H3 er3 fr r⟩) ?_
  · cases ec
    exact k G2 H2 er2 FrO.refl
  · have e : (fun s => (wi s).bind fun p => (mapJ (fun d s => (u d).bind fun a => me a s) p.1 p.2).bind fun r => R.ok (PyData.list r.1, r.2)) = fun s => (wi s).bind fun p => (filJ (fun d s => (u d).bind fun _ => .ok (true, s)) (fun d s => (u d).bind fun a => me a s) p.1 p.2).bind fun r => .ok (PyData.list r.1, r.2) := by
      funext s
      congr 1
      funext p
      rw [mapJ_fil]
    rw [e] at hq
    exact hq
theorem jf_lc {ifs : List Expr} {m : S → R (D × S)} (h : LCx X elt tg iter ifs scope (rdJF X.K own emb m)) : JF X own emb (.ListComp elt [⟨tg, iter, ifs, 0⟩] scope pos) m := h.pe pos
end
end TL
/-! the tree layer, 10: statements -/
namespace TL
open PySem PySem.Spec PyProof.Rows L2
/-! ### an expression as a statement meets it: the answer and the state behind -/
section
variable (K : PySem.W.Frag) (mg : Str → Option Value) (E : XK) (own : List Nat) (ρ : En)
def rdV {A : Type} (m : R A) (val : A → D) (env : A → En) : TE := fun σ H Q => ∃ ad G, Er K own ρ ad σ G H ∧ match m with
  | .no => False
  | .ex c => ∀ H', Same H H' → E (cls mg c) none H'
  | .ok a => ∀ v G' H', Er K own (env a) ad σ G' H' → FrO own ad G H G' H' → Rep K G' v (val a) → Q v H'
def rdVF {A : Type} (m : R A) (val : A → D) (env : A → En) : TE := fun σ H Q => ∃ ad G, Er K own ρ ad σ G H ∧ match m with
  | .no => False
  | .ex c => ∀ H', Same H H' → E (cls mg c) none H'
  | .ok a => ∀ p G' H', Er K own (env a) ad σ G' H' → FrO own ad G H G' H' → H p = none → OwnAt K G' H' p (val a) → Q (.ref p) H'
def rdVB {A : Type} (m : R A) (val : A → Bool) (env : A → En) : TT := fun σ H Q => ∃ ad G, Er K own ρ ad σ G H ∧ match m with
  | .no => False
  | .ex c => ∀ H', Same H H' → E (cls mg c) none H'
  | .ok a => ∀ G' H', Er K own (env a) ad σ G' H' → FrO own ad G H G' H' → Q (val a) H'
def rdVI {A : Type} (m : R A) (its : A → List D) (env : A → En) : TI := fun σ H Rr => ∃ ad G, Er K own ρ ad σ G H ∧ match m with
  | .no => False
  | .ex c => ∀ H', Same H H' → E (cls mg c) none H'
  | .ok a => ∀ J G' H', Er K own (env a) ad σ G' H' → FrO own ad G H G' H' → ItOk K J G' (its a) → Rr J H'
end
abbrev VP (X : Cx) (E : XK) (own : List Nat) (ρ : En) {A : Type} (e : Expr) (m : R A) (val : A → D) (env : A → En) : Prop := PE X e (rdV X.K X.mg E own ρ m val env)
abbrev VF (X : Cx) (E : XK) (own : List Nat) (ρ : En) {A : Type} (e : Expr) (m : R A) (val : A → D) (env : A → En) : Prop := PE X e (rdVF X.K X.mg E own ρ m val env)
abbrev VB (X : Cx) (E : XK) (own : List Nat) (ρ : En) {A : Type} (e : Expr) (m : R A) (val : A → Bool) (env : A → En) : Prop := PT X e (rdVB X.K X.mg E own ρ m val env)
abbrev VI (X : Cx) (E : XK) (own : List Nat) (ρ : En) {A : Type} (tg e : Expr) (m : R A) (its : A → List D) (env : A → En) : Prop := PI X tg e (rdVI X.K X.mg E own ρ m its env)
/-- the items of a new list are no lists -/
def itemsFlat : D → Bool
  | .list ts => noLAll ts
  | _ => false
section
variable {X : Cx} {E : XK} {own : List Nat} {ρ ρe : En} {e : Expr}
theorem vp_rd {K : PySem.W.Frag} {mg : Str → Option Value} {m : R D} (hb : Bor own ρ ρe m) : ∀ σ H Q, rdV K mg E own ρ m (fun t => t) (fun _ => ρ) σ H Q → rdP K mg E ρe m σ H Q := fun σ H Q hq => by
  obtain ⟨ad, G, er, q⟩ := hq
  refine er.bor (m := m) (Rp := Rep) ?_ ?_ ?_ ?_
  · rcases hb with z | ⟨z1, z2⟩
    · exact .inl z
    · exact .inr ⟨z1, fun t e' G1 p _ v np r => Rep.cut np r (z2 t e')⟩
  · intro z
    rw [z] at q
    exact q
  · intro c z
    rw [z] at q
    exact q
  · intro t v G' H' z er' fr r
    rw [z] at q
    exact q v G' H' er' fr.toO r
theorem vp_p {m : R D} (h : XP X E ρe e m) (hb : Bor own ρ ρe m := by exact bor_nil) : VP X E own ρ e m (fun t => t) (fun _ => ρ) := pe_weak h (vp_rd hb)
theorem er_pure {own : List Nat} {K : PySem.W.Frag} {ρ : En} {ad : Nat → Addr} {σ : L2.St} {G H G' H' : Hp} (er : Er K own ρ ad σ G H) (fr : Fr G H G' H') : Er K own ρ ad σ G' H' := er.after fr.gg fr.gh fr.hh fun i hi => by
  obtain ⟨_, _, _, o⟩ := er.ow i hi
  exact fr.nw _ o.1 o.ne
theorem vpj_rd {K : PySem.W.Frag} {mg : Str → Option Value} {S : Type} {emb : S → En} {m : S → R (D × S)} (s : S) : ∀ σ H Q, rdV K mg E own (emb s) (nox (m s)) (fun p => p.1) (fun p => emb p.2) σ H Q → rdJ K own emb m σ H Q := fun σ H Q hq => by
  obtain ⟨ad, G, er, q⟩ := hq
  cases em : m s with
  | no => rw [em] at q; exact q.elim
  | ex c => rw [em] at q; exact q.elim
  | ok p =>
    rw [em] at q
    exact ⟨s, ad, G, er, p.1, p.2, em, q⟩
theorem vp_j {S : Type} {emb : S → En} {m : S → R (D × S)} (s : S) (h : JP X own emb e m) : VP X E own (emb s) e (nox (m s)) (fun p => p.1) (fun p => emb p.2) := pe_weak h (vpj_rd s)
/-- a new list: seen with the owned slots only if it holds no list -/
def BorF (own : List Nat) (ρ ρe : En) (m : R D) : Prop := ρe = hideE own ρ ∨ (ρe = ρ ∧ ∀ t, m = .ok t → itemsFlat t = true)
theorem borF_hide {m : R D} : BorF own ρ (hideE own ρ) m := .inl rfl
theorem borF_nil {m : R D} : BorF [] ρ ρ m := .inl rfl
/-- a new list without lists within -/
def nf (m : R D) : R D := m.bind fun t => if itemsFlat t = true then .ok t else .no
theorem nf_nf {m : R D} : ∀ t, nf m = .ok t → itemsFlat t = true := fun t h => by
  cases m with
  | no => exact nomatch h
  | ex c => exact nomatch h
  | ok a =>
    simp only [nf, R.ok_bind] at h
    split at h
    · rename_i e
      cases h
      exact e
    · exact nomatch h
theorem xp_nl {m : R D} (h : XP X E ρ e m) : XP X E ρ e (nl m) := pe_weak h fun σ H Q ⟨G, s, ep, q⟩ => ⟨G, s, ep, by
  cases m with
  | no => exact q
  | ex c => exact q
  | ok t =>
    simp only [nl, R.ok_bind] at q
    split at q
    · exact q
    · exact q.elim⟩
theorem xf_nf {m : R D} (h : XF X E ρ e m) : XF X E ρ e (nf m) := pe_weak h fun σ H Q ⟨G, s, ep, q⟩ => ⟨G, s, ep, by
  cases m with
  | no => exact q
  | ex c => exact q
  | ok t =>
    simp only [nf, R.ok_bind] at q
    split at q
    · exact q
    · exact q.elim⟩
theorem vf_rd {K : PySem.W.Frag} {mg : Str → Option Value} {m : R D} (hb : BorF own ρ ρe m) : ∀ σ H Q, rdVF K mg E own ρ m (fun t => t) (fun _ => ρ) σ H Q → rdF K mg E ρe m σ H Q := fun σ H Q hq => by
  obtain ⟨ad, G, er, q⟩ := hq
  rcases hb with rfl | ⟨rfl, hfl⟩
  · refine ⟨G, er.gh, er.ep_hide, ?_⟩
    cases m with
    | no => exact q
    | ex c => exact q
    | ok t => exact fun p G' H' fr np o => q p G' H' (er_pure er fr) fr.toO np o
  · refine ⟨allG own ad G H, er.all_same, er.ep_all, ?_⟩
    cases m with
    | no => exact q
    | ex c => exact q
    | ok t =>
      intro a G' H' fr np o
      let p : Addr → Prop := fun b => ∃ i ∈ own, b = ad i
      haveI : DecidablePred p := fun b => Classical.propDecidable _
      have np' : ∀ b, p b → NotTup (G' b) := fun b ⟨i, hi, e⟩ => by
        subst e
        obtain ⟨_, _, _, o⟩ := er.ow i hi
        obtain ⟨u, eu, nt⟩ := o.some_of
        rw [fr.gg _ _ ((allG_in hi).trans eu)]
        exact nt
      have g1 : Same G (cutH G' p) := fun b o e => cutH_of (fr.gg _ _ (er.same_all _ _ e)) fun ⟨i, hi, z⟩ => by
        subst z
        rw [er.g_none hi] at e
        cases e
      have no : ∀ i ∈ own, cutH G' p (ad i) = none := fun i hi => cutH_none ⟨i, hi, rfl⟩
      have er' := er.after g1 ((cutH_same G' p).trans fr.gh) fr.hh no
      have o' : OwnAt K G' H' a t → OwnAt K (cutH G' p) H' a t := fun _ => by
        obtain ⟨gn, ⟨xs, ts, rfl, eh, r⟩ | ⟨kvs, es, rfl, _⟩ | ⟨kvs, es, rfl, _⟩⟩ := o
        · exact ⟨cutH_free gn, .inl ⟨xs, ts, rfl, eh, RepAll.cut np' r (hfl _ rfl)⟩⟩
        · exact nomatch hfl _ rfl
        · exact nomatch hfl _ rfl
      refine q a (cutH G' p) H' er' ⟨g1, fun b o e _ => fr.hh b o e, fun b h1 h2 => ?_⟩ np (o' o)
      by_cases hp : p b
      · exact cutH_none hp
      · exact cutH_free (fr.nw b (by rw [allG_out hp]; exact h1) h2)
theorem vf_p {m : R D} (h : XF X E ρe e m) (hb : BorF own ρ ρe m := by exact borF_nil) : VF X E own ρ e m (fun t => t) (fun _ => ρ) := pe_weak h (vf_rd hb)
theorem vfj_rd {K : PySem.W.Frag} {mg : Str → Option Value} {S : Type} {emb : S → En} {m : S → R (D × S)} (s : S) : ∀ σ H Q, rdVF K mg E own (emb s) (nox (m s)) (fun p => p.1) (fun p => emb p.2) σ H Q → rdJF K own emb m σ H Q := fun σ H Q hq => by
  obtain ⟨ad, G, er, q⟩ := hq
  cases em : m s with
  | no => rw [em] at q; exact q.elim
  | ex c => rw [em] at q; exact q.elim
  | ok p =>
    rw [em] at q
    exact ⟨s, ad, G, er, p.1, p.2, em, q⟩
theorem vf_j {S : Type} {emb : S → En} {m : S → R (D × S)} (s : S) (h : JF X own emb e m) : VF X E own (emb s) e (nox (m s)) (fun p => p.1) (fun p => emb p.2) := pe_weak h (vfj_rd s)
theorem vb_p {m : R Bool} (h : XB X E ρe e m) (hb : ρe = hideE own ρ ∨ ρe = ρ := by first | exact .inr rfl | exact .inl rfl) : VB X E own ρ e m (fun b => b) (fun _ => ρ) := ⟨fun pins st σ H Q I hq => by
  obtain ⟨ad, G, er, q⟩ := hq
  obtain ⟨G1, h1, h2, h3⟩ := er.bor (m := m) (Rp := fun _ _ (v : V) (b : Bool) => v = .bl b) (mg := X.mg) (E := E) (Q := fun v H' => ∀ b, v = .bl b → Q b H') (ρe := ρe) (hb.imp id fun z => ⟨z, fun _ _ _ _ _ _ _ r => r⟩)
    (fun z => by rw [z] at q; exact q) (fun c z => by rw [z] at q; exact q) (fun t v G' H' e' er' fr r b hv => by
      rw [e'] at q
      subst r
      cases hv
      exact q G' H' er' fr.toO)
  refine h.run pins st σ H Q I ⟨G1, h1, h2, ?_⟩
  cases m with
  | no => exact q
  | ex c => exact h3
  | ok t =>
    intro v G' H' fr r
    have r' : v = t := r
    subst r'
    exact h3 (.bl v) G' H' fr rfl v rfl⟩
theorem vb_j {S : Type} {emb : S → En} {m : S → R (Bool × S)} (s : S) (h : JB X own emb e m) : VB X E own (emb s) e (nox (m s)) (fun p => p.1) (fun p => emb p.2) := pt_weak h fun σ H Q hq => by
  obtain ⟨ad, G, er, q⟩ := hq
  cases em : m s with
  | no => rw [em] at q; exact q.elim
  | ex c => rw [em] at q; exact q.elim
  | ok p =>
    rw [em] at q
    exact ⟨s, ad, G, er, p.1, p.2, em, fun v G' H' er' fr r => by cases r; exact q G' H' er' fr⟩
theorem vi_p {tg : Expr} {m : R (List D)} (h : XI X E (hideE own ρ) tg e m) : VI X E own ρ tg e m (fun t => t) (fun _ => ρ) := ⟨fun pins st σ H Rr I hq => by
  obtain ⟨ad, G, er, q⟩ := hq
  refine h.run pins st σ H Rr I ⟨G, er.gh, er.ep_hide, ?_⟩
  cases m with
  | no => exact q
  | ex c => exact q
  | ok its => exact fun J G' H' fr hz io => q J G' H' (er_pure er fr) fr.toO io⟩
theorem vi_j {S : Type} {emb : S → En} {tg : Expr} {m : S → R (List D × S)} (s : S) (h : JI X own emb tg e m) : VI X E own (emb s) tg e (nox (m s)) (fun p => p.1) (fun p => emb p.2) := ⟨fun pins st σ H Rr I hq => by
  obtain ⟨ad, G, er, q⟩ := hq
  cases em : m s with
  | no => rw [em] at q; exact q.elim
  | ex c => rw [em] at q; exact q.elim
  | ok p =>
    rw [em] at q
    exact h.run pins st σ H Rr I ⟨s, ad, G, er, p.1, p.2, em, fun J G' H' er' fr hz io => q J G' H' er' fr io⟩⟩
end
/-! ### blocks -/
/-- how a block ends -/
inductive Fin where
  | nx (ρ : En)
  | rt (t b : D)
  | bk (ρ : En)
/-- since the def's entry -/
structure Fr0 (io : Bool) (G0 H0 : Hp) (A0 : Addr) (own : List Nat) (ad : Nat → Addr) (G H : Hp) : Prop where
  g0 : Same G0 G
  h0 : ∀ b o, H0 b = some o → (io = true → b ≠ A0) → H b = some o
  nw : ∀ b, G0 b = none → H0 b ≠ none → G b = none
  fs : ∀ i ∈ own, H0 (ad i) = none ∨ (io = true ∧ ad i = A0)
  bx : io = true → 0 ∈ own ∧ ad 0 = A0
structure RetOk (K : PySem.W.Frag) (io : Bool) (fr : Md) (G0 H0 : Hp) (A0 : Addr) (v : V) (G H : Hp) (t b : D) : Prop where
  gh : Same G H
  g0 : Same G0 G
  h0 : ∀ b o, H0 b = some o → (io = true → b ≠ A0) → H b = some o
  nw : ∀ b, G0 b = none → H0 b ≠ none → G b = none
  an : Ans K fr H0 G H v t
  bx : io = true → OwnAt K G H A0 b
def Post (K : PySem.W.Frag) (io : Bool) (fr : Md) (G0 H0 : Hp) (A0 : Addr) (own' : List Nat) (Dn : Ends) : Fin → Prop
  | .nx ρ' => ∀ ad σ G H, Er K own' ρ' ad σ G H → Fr0 io G0 H0 A0 own' ad G H → Dn.nx σ H
  | .bk ρ' => ∀ ad σ G H, Er K own' ρ' ad σ G H → Fr0 io G0 H0 A0 own' ad G H → Dn.bk σ H
  | .rt t b => ∀ v G H, RetOk K io fr G0 H0 A0 v G H t b → Dn.rt v H
def PostR (K : PySem.W.Frag) (mg : Str → Option Value) (E : XK) (io : Bool) (fr : Md) (G0 H0 : Hp) (A0 : Addr) (own' : List Nat) {A : Type} (m : R A) (post : A → Fin) (Dn : Ends) : Prop :=
  match m with
  | .no => False
  | .ex c => ∀ H', (∀ b o, H0 b = some o → (io = true → b ≠ A0) → H' b = some o) → E (cls mg c) none H'
  | .ok a => Post K io fr G0 H0 A0 own' Dn (post a)
def rdS (K : PySem.W.Frag) (mg : Str → Option Value) (E : XK) (io : Bool) (fr : Md) (own : List Nat) (ρ : En) {A : Type} (m : R A) (post : A → Fin) (own' : List Nat) : TS := fun Dn σ H =>
  ∃ G0 H0 A0 ad G, Er K own ρ ad σ G H ∧ Fr0 io G0 H0 A0 own ad G H ∧ PostR K mg E io fr G0 H0 A0 own' m post Dn
abbrev SS (X : Cx) (E : XK) (io : Bool) (fr : Md) (own : List Nat) (ρ : En) {A : Type} (st : Stmt) (m : R A) (post : A → Fin) (own' : List Nat) : Prop := PS X st (rdS X.K X.mg E io fr own ρ m post own')
abbrev BS (X : Cx) (E : XK) (io : Bool) (fr : Md) (own : List Nat) (ρ : En) {A : Type} (sts : List Stmt) (m : R A) (post : A → Fin) (own' : List Nat) : Prop := PSs X sts (rdS X.K X.mg E io fr own ρ m post own')
theorem ps_weak {X : Cx} {st : Stmt} {t t' : TS} (h : PS X st t) (f : ∀ Dn σ H, t' Dn σ H → t Dn σ H) : PS X st t' := ⟨fun pins s σ H Dn I q => h.run pins s σ H Dn I (f _ _ _ q)⟩
theorem pss_weak {X : Cx} {st : List Stmt} {t t' : TS} (h : PSs X st t) (f : ∀ Dn σ H, t' Dn σ H → t Dn σ H) : PSs X st t' := ⟨fun pins s σ H Dn I q => h.run pins s σ H Dn I (f _ _ _ q)⟩
theorem Fr0.step {K : PySem.W.Frag} {io : Bool} {G0 H0 : Hp} {A0 : Addr} {own : List Nat} {ρ : En} {σ : L2.St} {ad : Nat → Addr} {G H G' H' : Hp} (f : Fr0 io G0 H0 A0 own ad G H) (fr : FrO own ad G H G' H') (er' : Er K own ρ ad σ G' H') (hb : ∀ b, H b = none → H0 b = none) : Fr0 io G0 H0 A0 own ad G' H' where
  g0 := f.g0.trans fr.gg
  h0 := fun b o e hne => fr.hh b o (f.h0 b o e hne) fun i hi z => by
    rcases f.fs i hi with y | ⟨y1, y2⟩
    · rw [z, y] at e
      cases e
    · exact hne y1 (z.trans y2)
  nw := fun b h1 h2 => by
    by_cases hc : ∃ i ∈ own, b = ad i
    · obtain ⟨i, hi, rfl⟩ := hc
      exact er'.g_none hi
    · refine fr.nw b (f.nw b h1 h2) fun z => h2 (hb b z)
  fs := f.fs
  bx := f.bx
theorem Fr0.back {K : PySem.W.Frag} {io : Bool} {G0 H0 : Hp} {A0 : Addr} {own : List Nat} {ρ : En} {σ : L2.St} {ad : Nat → Addr} {G H : Hp} (f : Fr0 io G0 H0 A0 own ad G H) (er : Er K own ρ ad σ G H) : ∀ b, H b = none → H0 b = none := fun b hb => by
  cases e : H0 b with
  | none => rfl
  | some o =>
    by_cases hc : io = true ∧ b = A0
    · obtain ⟨h1, h2⟩ := f.bx hc.1
      obtain ⟨_, _, _, ob⟩ := er.ow 0 h1
      exact absurd (by rw [h2, ← hc.2]; exact hb) ob.ne
    · rw [f.h0 b o e fun z y => hc ⟨z, y⟩] at hb
      cases hb
theorem Fr0.next {K : PySem.W.Frag} {io : Bool} {G0 H0 : Hp} {A0 : Addr} {own : List Nat} {ρ ρ' : En} {σ σ' : L2.St} {ad : Nat → Addr} {G H G' H' : Hp} (f : Fr0 io G0 H0 A0 own ad G H) (er : Er K own ρ ad σ G H) (fr : FrO own ad G H G' H') (er' : Er K own ρ' ad σ' G' H') : Fr0 io G0 H0 A0 own ad G' H' :=
  f.step fr er' (f.back er)
section
variable {X : Cx} {E : XK} {io : Bool} {fr : Md} {own own' own1 : List Nat} {ρ ρ' : En} {A B : Type} {st : Stmt} {rest : List Stmt} {post : A → Fin} {post1 : B → Fin} {e : Expr} {pos : Pos}
/-- a statement, then the rest -/
theorem bs_seq {J : Type} {emb : J → En} {m1 : R J} {k : J → R A} (h1 : SS X E io fr own ρ st m1 (fun j => .nx (emb j)) own1) (h2 : ∀ j, BS X E io fr own1 (emb j) rest (k j) post own') : BS X E io fr own ρ (st :: rest) (m1.bind k) post own' := by
  refine ⟨fun pins s σ H Dn I hq => ?_⟩
  obtain ⟨G0, H0, A0, ad, G, er, f, q⟩ := hq
  cases em : m1 with
  | no => rw [em] at q; exact q.elim
  | ex c => exact (pss_cons h1 (pss_never (sts := rest))).run pins s σ H Dn I ⟨G0, H0, A0, ad, G, er, f, by rw [em] at q ⊢; exact q⟩
  | ok j =>
    rw [em] at q
    exact (pss_cons h1 (h2 j)).run pins s σ H Dn I ⟨G0, H0, A0, ad, G, er, f, by
      rw [em]
      exact fun ad' σ' G' H' er' f' => ⟨G0, H0, A0, ad', G', er', f', q⟩⟩
/-- a loop or an if may have returned -/
inductive Oc (J : Type) where
  | nx (j : J)
  | rt (t b : D)
  | bk (j : J)
def thenO {J : Type} (m : R (Oc J)) (ret : D → D → A) (k : J → R A) : R A := m.bind fun o => match o with
  | .nx j => k j
  | .rt t b => .ok (ret t b)
  | .bk _ => .no
/-- the block's end: these slots are forgotten -/
theorem Er.lessO {K : PySem.W.Frag} {ad : Nat → Addr} {σ : L2.St} {G H : Hp} (er : Er K own ρ ad σ G H) (dead : List Nat) : Er K (own.filter fun i => !dead.contains i) (wipeE ρ dead) ad σ G H where
  len := wipeE_length.trans er.len
  gh := er.gh
  fz := fun i t e hi => by
    obtain ⟨e1, h2⟩ := getN_wipe e
    refine er.fz i t e1 fun z => hi (List.mem_filter.mpr ⟨z, ?_⟩)
    simpa using h2
  ow := fun i hi => by
    obtain ⟨h1, h2⟩ := List.mem_filter.mp hi
    obtain ⟨t, e, q, o⟩ := er.ow i h1
    refine ⟨t, ?_, q, o⟩
    have nd : i ∉ dead := by simpa using h2
    have key : ∀ (l : List Nat), i ∉ l → getN (wipeE ρ l) i = getN ρ i := by
      intro l
      induction l with
      | nil => intro _; rfl
      | cons v l ih =>
        intro hj
        show getN (setN (wipeE ρ l) v none) i = _
        rw [getN_setN_ne (fun z : i = v => hj (by rw [z]; exact List.mem_cons_self))]
        exact ih fun hm => hj (List.mem_cons_of_mem _ hm)
    rw [key dead nd]
    exact e
  inj := fun i hi j hj => er.inj i (List.mem_filter.mp hi).1 j (List.mem_filter.mp hj).1
theorem Fr0.lessO {G0 H0 : Hp} {A0 : Addr} {ad : Nat → Addr} {G H : Hp} (f : Fr0 io G0 H0 A0 own ad G H) (dead : List Nat) (h0 : io = true → 0 ∉ dead) : Fr0 io G0 H0 A0 (own.filter fun i => !dead.contains i) ad G H :=
  ⟨f.g0, f.h0, f.nw, fun i hi => f.fs i (List.mem_filter.mp hi).1, fun z => ⟨List.mem_filter.mpr ⟨(f.bx z).1, by simpa using h0 z⟩, (f.bx z).2⟩⟩
theorem bs_end (dead : List Nat) {a : A} (hp : post a = .nx (wipeE ρ dead) := by rfl) (ho : own' = own.filter (fun i => !dead.contains i) := by rfl) (h0 : io = true → 0 ∉ dead := by decide) : BS X E io fr own ρ [] (.ok a) post own' := by
  subst ho
  refine pss_weak pss_nil fun Dn σ H hq => ?_
  obtain ⟨G0, H0, A0, ad, G, er, f, q⟩ := hq
  have q' : Post X.K io fr G0 H0 A0 _ Dn (post a) := q
  rw [hp] at q'
  exact q' ad σ G H (er.lessO dead) (f.lessO dead h0)
/-- an owned object is frozen -/
theorem bs_freeze (i : Nat) {m : R A} {sts : List Stmt} (h : BS X E io fr (own.filter (fun j => j != i)) ρ sts m post own') (h0 : io = true → i ≠ 0 := by decide) (hi : i ∈ own := by decide) : BS X E io fr own ρ sts m post own' := by
  refine pss_weak h fun Dn σ H hq => ?_
  obtain ⟨G0, H0, A0, ad, G, er, f, q⟩ := hq
  obtain ⟨t, e, es, o⟩ := er.ow i hi
  obtain ⟨u, eu, _⟩ := o.some_of
  have gn := o.1
  have er2 : Er X.K (own.filter (fun j => j != i)) ρ ad σ (upd G (ad i) u) H := by
    refine ⟨er.len, fun b x e => ?_, fun j w ej hj => ?_, fun j hj => ?_, fun j hj k hk => er.inj j (List.mem_filter.mp hj).1 k (List.mem_filter.mp hk).1⟩
    · by_cases hb : b = ad i
      · subst hb
        rw [upd_same] at e
        rw [eu, e]
      · rw [upd_ne hb] at e
        exact er.gh _ _ e
    · by_cases hji : j = i
      · subst hji
        rw [e] at ej
        cases ej
        exact ⟨_, es, o.rep (same_new gn) (by rw [upd_same, eu])⟩
      · have : j ∉ own := fun z => hj (List.mem_filter.mpr ⟨z, by simpa using hji⟩)
        obtain ⟨v, q1, r1⟩ := er.fz j w ej this
        exact ⟨v, q1, r1.mono (same_new gn)⟩
    · obtain ⟨h1, h2⟩ := List.mem_filter.mp hj
      have hji : j ≠ i := by simpa using h2
      obtain ⟨w, ej, qj, oj⟩ := er.ow j h1
      exact ⟨w, ej, qj, oj.keep (same_new gn) (by rw [upd_ne fun z => hji (er.inj j h1 i hi z)]; exact oj.1) rfl⟩
  refine ⟨G0, H0, A0, ad, _, er2, ⟨f.g0.trans (same_new gn), f.h0, fun b h1 h2 => ?_, fun j hj => f.fs j (List.mem_filter.mp hj).1, fun z => ⟨List.mem_filter.mpr ⟨(f.bx z).1, by simpa using Ne.symm (h0 z)⟩, (f.bx z).2⟩⟩, q⟩
  have nb : b ≠ ad i := fun z => by
    subst z
    rcases f.fs i hi with y | ⟨y1, y2⟩
    · exact h2 y
    · obtain ⟨z1, z2⟩ := f.bx y1
      exact h0 y1 (er.inj i hi 0 z1 (y2.trans z2.symm))
  rw [upd_ne nb]
  exact f.nw b h1 h2
theorem ss_setP (i : Nat) {m : R A} {val : A → D} {env : A → En} (h : PS X st (tAsg (rdV X.K X.mg E own ρ m val env) (gName i))) (hi : i ∉ own := by decide) : SS X E io fr own ρ st m (fun a => .nx (setN (env a) i (some (val a)))) own :=
  ps_weak h fun Dn σ H hq => by
    obtain ⟨G0, H0, A0, ad, G, er, f, q⟩ := hq
    refine ⟨ad, G, er, ?_⟩
    cases em : m with
    | no => rw [em] at q; exact q.elim
    | ex c => rw [em] at q; exact fun H' s => q H' fun b o e hne => s _ _ (f.h0 b o e hne)
    | ok a =>
      rw [em] at q
      exact fun v G' H' er' fr' r => q ad _ G' H' (er'.setO hi r) (f.next er fr' er')
/-- x = e, frozen -/
theorem ss_set {x : Str} {px : Pos} (i : Nat) {m : R A} {val : A → D} {env : A → En} (hN : X.N.Nodup) (he : VP X E own ρ e m val env) (hi : i ∉ own := by decide) (hx : X.N[i]? = some x := by rfl) (hl : Loc X.env.scope x := by first | exact .inl rfl | exact .inr rfl)
    (hs : swapsWith e (some (.Name x px)) pos.line X.env = pure false := by rfl) (hf : X.fn x = true ∨ X.env.scope.names.lookup x = some .local := by first | exact .inl rfl | exact .inr rfl) :
    SS X E io fr own ρ (.Assign [.Name x px] e pos) m (fun a => .nx (setN (env a) i (some (val a)))) own := ss_setP i (ps_set hN hx hl he hs hf) hi
end
end TL
/-! the tree layer, 11: statements, further -/
namespace TL
open PySem PySem.Spec PyProof.Rows L2
section
variable {K : PySem.W.Frag} {own : List Nat} {ρ : En} {ad : Nat → Addr} {σ : L2.St} {G H : Hp}
/-- a slot takes a new object of its own -/
theorem Er.take (er : Er K own ρ ad σ G H) {i : Nat} {p : Addr} {t : D} (hi : i ∉ own) (hlt : i < ρ.length) (o : OwnAt K G H p t) (hne : ∀ j ∈ own, p ≠ ad j) :
    Er K (i :: own) (setN ρ i (some t)) (fun j => if j = i then p else ad j) (σ.set i (some (.ref p))) G H where
  len := by rw [setN_length, List.length_set]; exact er.len
  gh := er.gh
  fz := fun j u e hj => by
    have hji : j ≠ i := fun z => hj (by rw [z]; exact List.mem_cons_self)
    rw [getN_setN_ne hji] at e
    obtain ⟨w, q, r⟩ := er.fz j u e fun z => hj (List.mem_cons_of_mem _ z)
    exact ⟨w, by rw [List.getElem?_set_ne (Ne.symm hji)]; exact q, r⟩
  ow := fun j hj => by
    by_cases hji : j = i
    · subst hji
      refine ⟨t, ?_, ?_, ?_⟩
      · have key : ∀ (l : En) (k : Nat), k < l.length → getN (setN l k (some t)) k = some t := by
          intro l
          induction l with
          | nil => intro k hk; exact absurd hk (Nat.not_lt_zero _)
          | cons x l ih =>
            intro k hk
            cases k with
            | zero => rfl
            | succ k => exact ih k (Nat.lt_of_succ_lt_succ hk)
        exact key ρ j hlt
      · rw [List.getElem?_set_self (by rw [← er.len]; exact hlt), if_pos rfl]
      · rw [if_pos rfl]
        exact o
    · have hj' : j ∈ own := (List.mem_cons.mp hj).resolve_left hji
      obtain ⟨u, e, q, oj⟩ := er.ow j hj'
      exact ⟨u, by rw [getN_setN_ne hji]; exact e, by rw [List.getElem?_set_ne (Ne.symm hji), if_neg hji]; exact q, by rw [if_neg hji]; exact oj⟩
  inj := fun j hj k hk e => by
    by_cases h1 : j = i
    · by_cases h2 : k = i
      · rw [h1, h2]
      · have hk' : k ∈ own := (List.mem_cons.mp hk).resolve_left h2
        simp only [if_pos h1, if_neg h2] at e
        exact absurd e (hne k hk')
    · have hj' : j ∈ own := (List.mem_cons.mp hj).resolve_left h1
      by_cases h2 : k = i
      · simp only [if_neg h1, if_pos h2] at e
        exact absurd e.symm (hne j hj')
      · have hk' : k ∈ own := (List.mem_cons.mp hk).resolve_left h2
        simp only [if_neg h1, if_neg h2] at e
        exact er.inj j hj' k hk' e
end
theorem setN_setN {α : Type} {v w : Option α} : ∀ {xs : List (Option α)} {i : Nat}, setN (setN xs i v) i w = setN xs i w
  | [], _ => rfl
  | _ :: _, 0 => rfl
  | x :: xs, i + 1 => congrArg (x :: ·) (setN_setN (xs := xs) (i := i))
section
variable {X : Cx} {E : XK} {io : Bool} {fr : Md} {own own' own1 : List Nat} {ρ ρ' : En} {A B : Type} {st : Stmt} {rest : List Stmt} {post : A → Fin} {e : Expr} {pos : Pos}
theorem ss_setFP (i : Nat) {m : R A} {val : A → D} {env : A → En} (h : PS X st (tAsg (rdVF X.K X.mg E own ρ m val env) (gName i))) (hi : i ∉ own := by decide) (hlt : ∀ a, i < (env a).length := by intro _; exact Nat.le_of_ble_eq_true rfl) (h0 : io = true → i ≠ 0 := by decide) :
    SS X E io fr own ρ st m (fun a => .nx (setN (env a) i (some (val a)))) (i :: own) :=
  ps_weak h fun Dn σ H hq => by
    obtain ⟨G0, H0, A0, ad, G, er, f, q⟩ := hq
    refine ⟨ad, G, er, ?_⟩
    cases em : m with
    | no => rw [em] at q; exact q.elim
    | ex c => rw [em] at q; exact fun H' s => q H' fun b o e hne => s _ _ (f.h0 b o e hne)
    | ok a =>
      rw [em] at q
      intro p G' H' er' fr' np o
      have f' := f.next er fr' er'
      have hne := er.new_ne np
      have h0p : H0 p = none := f.back er p np
      refine q _ _ G' H' (er'.take hi (hlt a) o hne) ⟨f'.g0, f'.h0, f'.nw, fun j hj => ?_, fun z => ?_⟩
      · by_cases hji : j = i
        · rw [if_pos hji]
          exact .inl h0p
        · rw [if_neg hji]
          exact f'.fs j ((List.mem_cons.mp hj).resolve_left hji)
      · have := f'.bx z
        rw [if_neg (Ne.symm (h0 z))]
        exact ⟨List.mem_cons_of_mem _ this.1, this.2⟩
/-- x = e, the slot's own -/
theorem ss_setF {x : Str} {px : Pos} (i : Nat) {m : R A} {val : A → D} {env : A → En} (hN : X.N.Nodup) (he : VF X E own ρ e m val env) (hi : i ∉ own := by decide) (hlt : ∀ a, i < (env a).length := by intro _; exact Nat.le_of_ble_eq_true rfl) (hx : X.N[i]? = some x := by rfl) (hl : Loc X.env.scope x := by first | exact .inl rfl | exact .inr rfl)
    (hs : swapsWith e (some (.Name x px)) pos.line X.env = pure false := by rfl) (hf : X.fn x = true ∨ X.env.scope.names.lookup x = some .local := by first | exact .inl rfl | exact .inr rfl) (h0 : io = true → i ≠ 0 := by decide) :
    SS X E io fr own ρ (.Assign [.Name x px] e pos) m (fun a => .nx (setN (env a) i (some (val a)))) (i :: own) := ss_setFP i (ps_set hN hx hl he hs hf) hi hlt h0
/-- y = [..] on one line, y a local of the def's own -/
theorem ss_setLc {y : Str} {py p0 : Pos} {elt tg iter : Expr} {ifs : List Expr} {scope : Scope} (i : Nat) {m : R A} {val : A → D} {env : A → En} (h : LCx X elt tg iter ifs scope (rdV X.K X.mg E own ρ m val env)) (hi : i ∉ own := by decide) (hx : X.N[i]? = some y := by rfl) (hl : X.env.scope.names.lookup y = some .local := by rfl)
    (hs : swapsWith (.ListComp elt [⟨tg, iter, ifs, 0⟩] scope p0) (some (.Name y py)) pos.line X.env = pure true := by rfl) :
    SS X E io fr own ρ (.Assign [.Name y py] (.ListComp elt [⟨tg, iter, ifs, 0⟩] scope p0) pos) m (fun a => .nx (setN (env a) i (some (val a)))) own := ss_setP i (h.ps i y py p0 pos hx hl hs) hi
theorem ss_setLcF {y : Str} {py p0 : Pos} {elt tg iter : Expr} {ifs : List Expr} {scope : Scope} (i : Nat) {m : R A} {val : A → D} {env : A → En} (h : LCx X elt tg iter ifs scope (rdVF X.K X.mg E own ρ m val env)) (hi : i ∉ own := by decide) (hlt : ∀ a, i < (env a).length := by intro _; exact Nat.le_of_ble_eq_true rfl) (hx : X.N[i]? = some y := by rfl) (hl : X.env.scope.names.lookup y = some .local := by rfl)
    (hs : swapsWith (.ListComp elt [⟨tg, iter, ifs, 0⟩] scope p0) (some (.Name y py)) pos.line X.env = pure true := by rfl) (h0 : io = true → i ≠ 0 := by decide) :
    SS X E io fr own ρ (.Assign [.Name y py] (.ListComp elt [⟨tg, iter, ifs, 0⟩] scope p0) pos) m (fun a => .nx (setN (env a) i (some (val a)))) (i :: own) := ss_setFP i (h.ps i y py p0 pos hx hl hs) hi hlt h0
theorem xpf_rd {K : PySem.W.Frag} {mg : Str → Option Value} {m : R D} : ∀ σ H Q, rdP K mg E ρ m σ H Q → rdF K mg E ρ m σ H Q := fun σ H Q ⟨G, s, ep, q⟩ => ⟨G, s, ep, by
  cases m with
  | no => exact q
  | ex c => exact q
  | ok t =>
    intro p G' H' fr np o
    obtain ⟨G3, fr3, r3⟩ := fr.freeze np o
    exact q _ G3 H' fr3 r3⟩
theorem jpf_rd {K : PySem.W.Frag} {S : Type} {emb : S → En} {m : S → R (D × S)} : ∀ σ H Q, rdJ K own emb m σ H Q → rdJF K own emb m σ H Q := fun σ H Q hq => by
  obtain ⟨s, ad, G, er, t, s', e, q⟩ := hq
  refine ⟨s, ad, G, er, t, s', e, fun p G1 H1 er1 fr1 np o => ?_⟩
  obtain ⟨G2, er2, fr2, r2⟩ := er1.freezeO fr1 np (er.new_ne np) o
  exact q _ G2 H1 er2 fr2 r2
/-- x.m(e), a method that changes a list: what it does, in trees -/
def MethD (K : PySem.W.Frag) (r : V → List V → Hp → VK → Prop) (f : D → D → R D) : Prop := ∀ l xs ts v t t' (G H : Hp) (Q : VK), Same G H → G l = none → H l = some (.lst xs) → RepAll K G xs ts → Rep K G v t → f (.list ts) t = .ok t' →
  (∀ xs' ts', t' = .list ts' → RepAll K G xs' ts' → Q .non (upd H l (.lst xs'))) → r (.ref l) [v] H Q
def remD : D → D → R D
  | .list ts, .int k => match nums ts with
    | some ns => match ns.findIdx? (fun n => n == k) with
      | some j => .ok (.list ((ns.eraseIdx j).map .int))
      | none => .no
    | none => .no
  | _, _ => .no
theorem meth_append {K : PySem.W.Frag} : MethD K rAppend appD := fun l xs ts v t t' G H Q sa gn hl r rv e q => by
  simp only [appD] at e
  split at e
  · rename_i hz
    cases e
    exact ⟨l, xs, v, rfl, rfl, hl, by rw [r.length]; exact hz, q _ _ rfl (r.append (.cons rv .nil))⟩
  · exact nomatch e
def rExtendU (K : PySem.W.Frag) : V → List V → Hp → VK → Prop := fun x vs H Q => ∃ l b xs zs, x = .ref l ∧ vs = [.ref b] ∧ H l = some (.lst xs) ∧ (H b = some (.lst zs) ∨ SqU K H b zs) ∧ xs.length + zs.length ≤ sizeLine ∧ Q .non (upd H l (.lst (xs ++ zs)))
theorem mt_extendU {X : Cx} : MtR X "list.extend" (rExtendU X.K) := by
  intro pins s σ H x vs v us Q I rx rv h
  obtain ⟨l, b, xs, zs, rfl, rfl, hH, hB, hz, q⟩ := h
  rcases hB with hB | hB
  · exact mt_extend pins s σ H _ _ v us Q I rx rv ⟨l, b, xs, zs, rfl, rfl, hH, hB, hz, q⟩
  · cases rx
    obtain ⟨u, rfl, ru⟩ := rv.one
    cases ru
    obtain ⟨z, its, n, r, hl, e⟩ := I.lstM hH
    obtain ⟨⟨cls, dd, data, sl⟩, its2, n2, e2, c2, d2, ⟨t1, t2⟩, r2, _⟩ := SqU.obj I hB
    simp only at c2 d2 t1 t2
    subst c2 d2 t1 t2
    have hl2 := r2.length
    simp only [Array.length_toList] at hl2
    have hsz : its.toArray.size + its2.size ≤ sizeLine := by rw [List.size_toArray]; omega
    have hlong : ¬ (!its.toArray.isEmpty && Builtin.List.listTooLong (its.toArray.size + its2.size)) = true := by
      rw [notLongL hsz, Bool.and_false]
      exact Bool.false_ne_true
    refine call_meets F.slot_list_extend ⟨_, e, rfl⟩ F.entry_list_extend (F.args_list_extend_2 _ _)
      (AutoSeq1.list_extend_list_tuple_0 l its.toArray n b its2 n2 hlong (by rw [List.size_toArray]; omega) (by omega)) ⟨e, e2, ?_⟩
    refine ⟨.non, _, I.lset (its' := its ++ its2.toList) hH e (by simp) (r.append r2) ?_, rfl, q⟩
    rw [List.length_append]
    omega
theorem meth_extend {K : PySem.W.Frag} : MethD K (rExtendU K) extD := fun l xs ts v t t' G H Q sa gn hl r rv e q => by
  cases rv with
  | lst h a =>
    simp only [extD] at e
    split at e
    · rename_i hz
      cases e
      exact ⟨l, _, xs, _, rfl, rfl, hl, .inl (sa _ _ h), by rw [r.length, a.length]; exact hz, q _ _ rfl (r.append a)⟩
    · exact nomatch e
  | tup h a =>
    simp only [extD] at e
    split at e
    · rename_i hz
      cases e
      exact ⟨l, _, xs, _, rfl, rfl, hl, .inr (h.same sa), by rw [r.length, a.length]; exact hz, q _ _ rfl (r.append a)⟩
    · exact nomatch e
  | _ => exact nomatch e
theorem meth_remove {K : PySem.W.Frag} : MethD K rRemI remD := fun l xs ts v t t' G H Q sa gn hl r rv e q => by
  cases rv with
  | int k =>
    simp only [remD] at e
    cases en : nums ts with
    | none => rw [en] at e; exact nomatch e
    | some ns =>
      rw [en] at e
      cases ej : ns.findIdx? (fun n => n == k) with
      | none => simp only [ej] at e; exact nomatch e
      | some j =>
        simp only [ej] at e
        cases e
        rw [nums_eq en] at r
        rw [repAll_nums r] at hl
        obtain ⟨h1, h2, h3⟩ := List.findIdx?_eq_some_iff_getElem.mp ej
        refine ⟨l, ns, k, j, rfl, rfl, hl, ?_, fun m hm => ?_, q _ _ rfl (nums_repAll _)⟩
        · rw [List.getElem?_eq_getElem h1]
          exact congrArg some (by simpa using h2)
        · intro z
          have hml : m < ns.length := Nat.lt_trans hm h1
          rw [List.getElem?_eq_getElem hml] at z
          have := h3 m hm
          simp at this
          exact this (Option.some.inj z)
  | _ => exact nomatch e
theorem ss_meth {x mn : Str} {id : String} {r : V → List V → Hp → VK → Prop} {f : D → D → R D} {J : Type} {emb : J → En} {px apos cpos : Pos} (i : Nat) {us : D} {ts : A → D} (pk : A → D → J) {m : R A} {val : A → D} {env : A → En} (slot : Slot "list" mn id) (hty : typeOf (.builtin id) = pure (.type "method_descriptor")) (hm : MtR X id r) (hr : MethD X.K r f)
    (hf : ∀ a b, f a b ≠ .no → ∃ ts, a = .list ts) (hfl : ∀ a b c, f a b = .ok c → ∃ ts, c = .list ts) (hfe : ∀ a b c, f a b ≠ .ex c)
    (he : VP X E own ρ e m val env) (hu : getN ρ i = some us := by rfl) (ht : ∀ a, getN (env a) i = some (ts a) := by intro _; rfl) (hpk : ∀ a r, emb (pk a r) = setN (env a) i (some r) := by intro _ _; rfl) (hi : i ∈ own := by decide) (hN : X.N[i]? = some x := by rfl)
    (hv : Vis X.env.scope x := by first | exact Or.inl rfl | exact Or.inr (Or.inl rfl) | exact Or.inr (Or.inr rfl)) (hd : (x == ("__debug__" : Str)) = false := by decide) (hcd : (x == ("__classdict__" : Str)) = false := by decide)
    (hbase : attributeBase (.Name x px) mn X.env (eval (.Name x px) X.env) = eval (.Name x px) X.env := by rfl)
    (hfew : ((backTo cpos (starEach [e] X.env)).all (fun x => !x.1) && (backToKw cpos (keywordEach [] X.env)).all (fun x => x.1.isSome) && decide ([e].length + ([] : List Keyword).length + (if ([] : List Keyword).isEmpty then 0 else 1) < 30)) = true := by rfl)
    (hline : (apos.endLine == cpos.line) = true := by rfl) (hst : starEach [e] X.env = (false, eval e X.env) :: starEach [] X.env := by rfl) (hplain : (backTo cpos (starEach [] X.env)).any (·.1) = false := by rfl)
    (hs : swapsWith (.Call (.Attribute (.Name x px) mn apos) [e] [] cpos) none pos.line X.env = pure false := by rfl) :
    SS X E io fr own ρ (.Expr (.Call (.Attribute (.Name x px) mn apos) [e] [] cpos) pos) ((lstD us).bind fun _ => m.bind fun a => (f (ts a) (val a)).bind fun r => .ok (pk a r)) (fun j => .nx (emb j)) own :=
  ps_weak (ps_expr (pe_bm PySem.F.plainAttrs_list slot hty hm (pe_var hN hv hd hcd) (pa_cons he pa_nil hst) hbase hfew hline hst hplain) hs) fun Dn σ H hq => by
    obtain ⟨G0, H0, A0, ad, G, er, f0, q⟩ := hq
    obtain ⟨t0, e0, es0, o0⟩ := er.ow i hi
    rw [hu] at e0
    cases e0
    cases el : lstD us with
    | no => rw [el] at q; exact q.elim
    | ex c => cases us <;> exact nomatch el
    | ok w =>
      rw [el] at q
      have ty : tyV X.K "list" (.ref (ad i)) H := by
        obtain ⟨_, ⟨xs, us, eg, eh, _⟩ | ⟨_, _, eg, eh, _⟩ | ⟨_, _, eg, eh, _⟩⟩ := o0
        · exact .inl ⟨rfl, _, SqL.of eh⟩
        · rw [eg] at el
          exact nomatch el
        · rw [eg] at el
          exact nomatch el
      refine ⟨_, es0, ty, ad, G, er, ?_⟩
      cases em : m with
      | no => rw [em] at q; exact q.elim
      | ex c => rw [em] at q; exact fun H' s => q H' fun b o e hne => s _ _ (f0.h0 b o e hne)
      | ok a =>
        rw [em] at q
        intro v G' H' er' fr' rv
        have q' : PostR X.K X.mg E io fr G0 H0 A0 own ((f (ts a) (val a)).bind fun r => .ok (pk a r)) (fun j => .nx (emb j)) Dn := q
        cases ef : f (ts a) (val a) with
        | no => rw [ef] at q'; exact q'.elim
        | ex c => exact absurd ef (hfe _ _ _)
        | ok t' =>
          rw [ef] at q'
          obtain ⟨ds, ed⟩ := hf (ts a) (val a) (by rw [ef]; exact fun z => nomatch z)
          have e1 := ht a
          rw [ed] at e1 ef
          obtain ⟨xs, es, eh, rr⟩ := er'.ownL hi e1
          refine hr (ad i) xs ds v (val a) t' G' H' _ er'.gh (er'.g_none hi) eh rr rv ef fun xs' ts' et rr' => ?_
          subst et
          have on := own_at (H := H') (er'.g_none hi) rr'
          obtain ⟨er2, fr2⟩ := er'.write hi on
          refine q' ad σ G' _ (by rw [hpk]; exact er2) ((f0.next er fr' er').next er' fr2 er2)
theorem app_l : ∀ a b, appD a b ≠ .no → ∃ ts, a = .list ts := fun a b h => by cases a <;> first | exact ⟨_, rfl⟩ | exact absurd rfl h
theorem ext_l : ∀ a b, extD a b ≠ .no → ∃ ts, a = .list ts := fun a b h => by cases a <;> first | exact ⟨_, rfl⟩ | exact absurd rfl h
theorem rem_l : ∀ a b, remD a b ≠ .no → ∃ ts, a = .list ts := fun a b h => by cases a <;> first | exact ⟨_, rfl⟩ | exact absurd rfl h
theorem app_ex : ∀ a b c, appD a b ≠ .ex c := fun a b c h => by
  unfold appD at h
  split at h
  · split at h <;> exact nomatch h
  · exact nomatch h
theorem ext_ex : ∀ a b c, extD a b ≠ .ex c := fun a b c h => by
  unfold extD at h
  split at h
  · split at h <;> exact nomatch h
  · split at h <;> exact nomatch h
  · exact nomatch h
theorem rem_ex : ∀ a b c, remD a b ≠ .ex c := fun a b c h => by
  unfold remD at h
  split at h
  · split at h
    · split at h <;> exact nomatch h
    · exact nomatch h
  · exact nomatch h
theorem app_r : ∀ a b c, appD a b = .ok c → ∃ ts, c = .list ts := fun a b c h => by
  unfold appD at h
  split at h
  · split at h
    · cases h; exact ⟨_, rfl⟩
    · exact nomatch h
  · exact nomatch h
theorem ext_r : ∀ a b c, extD a b = .ok c → ∃ ts, c = .list ts := fun a b c h => by
  unfold extD at h
  split at h
  · split at h
    · cases h; exact ⟨_, rfl⟩
    · exact nomatch h
  · split at h
    · cases h; exact ⟨_, rfl⟩
    · exact nomatch h
  · exact nomatch h
theorem rem_r : ∀ a b c, remD a b = .ok c → ∃ ts, c = .list ts := fun a b c h => by
  unfold remD at h
  split at h
  · split at h
    · split at h
      · cases h; exact ⟨_, rfl⟩
      · exact nomatch h
    · exact nomatch h
  · exact nomatch h
/-! ### returns -/
theorem ans_new {fr : Md} {K : PySem.W.Frag} {H G' H' : Hp} {v : V} {t : D} (h : fr ≠ .fz) (o : ∃ p, v = .ref p ∧ H p = none ∧ OwnAt K G' H' p t) : Ans K fr H G' H' v t := by
  cases fr with
  | fz => exact absurd rfl h
  | nw => exact o
  | my => exact .inl o
theorem bs_ret {m : R B} {val : B → D} {env : B → En} {g : B → A} {bx : B → D} (he : VP X E own ρ e m val env) (hp : ∀ b, post (g b) = .rt (val b) (bx b) := by intro _; rfl) (hb : ∀ b, io = true → getN (env b) 0 = some (bx b) := by first | (intro _ z; exact nomatch z) | (intro _ _; rfl)) (hf : fr = .fz := by rfl) :
    BS X E io fr own ρ [.Return (some e) pos] (m.bind fun b => .ok (g b)) post own' :=
  pss_weak (pss_one (ps_ret he)) fun Dn σ H hq => by
    subst hf
    obtain ⟨G0, H0, A0, ad, G, er, f0, q⟩ := hq
    refine ⟨ad, G, er, ?_⟩
    cases em : m with
    | no => rw [em] at q; exact q.elim
    | ex c => rw [em] at q; exact fun H' s => q H' fun b o e hne => s _ _ (f0.h0 b o e hne)
    | ok b =>
      rw [em] at q
      intro v G' H' er' fr' rv
      have q' : Post X.K io .fz G0 H0 A0 own' Dn (post (g b)) := q
      rw [hp] at q'
      have f1 := f0.next er fr' er'
      refine q' v G' H' ⟨er'.gh, f1.g0, f1.h0, f1.nw, rv, fun z => ?_⟩
      obtain ⟨h1, h2⟩ := f1.bx z
      obtain ⟨t, e1, _, o⟩ := er'.ow 0 h1
      rw [hb b z] at e1
      cases e1
      rw [← h2]
      exact o
theorem bs_retF {m : R B} {val : B → D} {env : B → En} {g : B → A} {bx : B → D} (he : VF X E own ρ e m val env) (hp : ∀ b, post (g b) = .rt (val b) (bx b) := by intro _; rfl) (hb : ∀ b, io = true → getN (env b) 0 = some (bx b) := by first | (intro _ z; exact nomatch z) | (intro _ _; rfl)) (hf : fr ≠ .fz := by exact fun z => nomatch z) :
    BS X E io fr own ρ [.Return (some e) pos] (m.bind fun b => .ok (g b)) post own' :=
  pss_weak (pss_one (ps_ret he)) fun Dn σ H hq => by
    obtain ⟨G0, H0, A0, ad, G, er, f0, q⟩ := hq
    refine ⟨ad, G, er, ?_⟩
    cases em : m with
    | no => rw [em] at q; exact q.elim
    | ex c => rw [em] at q; exact fun H' s => q H' fun b o e hne => s _ _ (f0.h0 b o e hne)
    | ok b =>
      rw [em] at q
      intro p G' H' er' fr' np oo
      have q' : Post X.K io fr G0 H0 A0 own' Dn (post (g b)) := q
      rw [hp] at q'
      have f1 := f0.next er fr' er'
      refine q' _ G' H' ⟨er'.gh, f1.g0, f1.h0, f1.nw, ans_new hf ⟨p, rfl, f0.back er p np, oo⟩, fun z => ?_⟩
      obtain ⟨h1, h2⟩ := f1.bx z
      obtain ⟨t, e1, _, o⟩ := er'.ow 0 h1
      rw [hb b z] at e1
      cases e1
      rw [← h2]
      exact o
/-- return x, x the slot's own -/
theorem bs_retO {x : Str} {px : Pos} (i : Nat) {a : A} {t b : D} (ht : getN ρ i = some t := by rfl) (hp : post a = .rt t b := by rfl) (hb : io = true → getN ρ 0 = some b := by first | (intro z; exact nomatch z) | (intro _; rfl)) (h0 : io = true → i ≠ 0 := by decide) (hi : i ∈ own := by decide) (hf : fr ≠ .fz := by exact fun z => nomatch z) (hN : X.N[i]? = some x := by rfl)
    (hv : Vis X.env.scope x := by first | exact Or.inl rfl | exact Or.inr (Or.inl rfl) | exact Or.inr (Or.inr rfl)) (hd : (x == ("__debug__" : Str)) = false := by decide) (hcd : (x == ("__classdict__" : Str)) = false := by decide) : BS X E io fr own ρ [.Return (some (.Name x px)) pos] (.ok a) post own' :=
  pss_weak (pss_one (ps_ret (pe_var hN hv hd hcd))) fun Dn σ H hq => by
    obtain ⟨G0, H0, A0, ad, G, er, f0, q⟩ := hq
    obtain ⟨t1, e1, es, o⟩ := er.ow i hi
    rw [ht] at e1
    cases e1
    have q' : Post X.K io fr G0 H0 A0 own' Dn (post a) := q
    rw [hp] at q'
    refine ⟨_, es, q' _ G H ⟨er.gh, f0.g0, f0.h0, f0.nw, ans_new hf ⟨ad i, rfl, ?_, o⟩, fun z => ?_⟩⟩
    · rcases f0.fs i hi with y | ⟨y1, y2⟩
      · exact y
      · obtain ⟨h1, h2⟩ := f0.bx y1
        exact absurd (er.inj i hi 0 h1 (y2.trans h2.symm)) (h0 y1)
    · obtain ⟨h1, h2⟩ := f0.bx z
      obtain ⟨u, e2, _, o2⟩ := er.ow 0 h1
      rw [hb z] at e2
      cases e2
      rw [← h2]
      exact o2
/-! ### if -/
/-- if c: (a block that never goes on) ; the rest -/
theorem bs_if {c : Expr} {s1 : List Stmt} {mc : R B} {vb : B → Bool} {env : B → En} {m1 m2 : B → R A} (hc : VB X E own ρ c mc vb env) (h1 : ∀ b, BS X E io fr own (env b) s1 (m1 b) post own') (h2 : ∀ b, BS X E io fr own (env b) rest (m2 b) post own') (hn : ∀ b a, m1 b = .ok a → ∀ ρ', post a ≠ .nx ρ') :
    BS X E io fr own ρ (.If c s1 [] pos :: rest) (mc.bind fun b => if vb b = true then m1 b else m2 b) post own' := by
  refine ⟨fun pins s σ H Dn I hq => ?_⟩
  obtain ⟨G0, H0, A0, ad, G, er, f, q⟩ := hq
  cases em : mc with
  | no => rw [em] at q; exact q.elim
  | ex c' =>
    refine (pss_cons (ps_if hc (pss_never (sts := s1)) pss_nil) (pss_never (sts := rest))).run pins s σ H Dn I ⟨ad, G, er, ?_⟩
    rw [em] at q ⊢
    exact fun H' s => q H' fun b o e hne => s _ _ (f.h0 b o e hne)
  | ok b =>
    rw [em] at q
    have q' : PostR X.K X.mg E io fr G0 H0 A0 own' (if vb b = true then m1 b else m2 b) post Dn := q
    refine (pss_cons (ps_if hc (h1 b) pss_nil) (h2 b)).run pins s σ H Dn I ⟨ad, G, er, ?_⟩
    rw [em]
    intro G' H' er' fr'
    have f' := f.next er fr' er'
    cases ev : vb b with
    | true =>
      rw [if_pos ev] at q'
      rw [if_pos rfl]
      refine ⟨G0, H0, A0, ad, G', er', f', ?_⟩
      cases e1 : m1 b with
      | no => rw [e1] at q'; exact q'.elim
      | ex c' => rw [e1] at q'; exact q'
      | ok a =>
        rw [e1] at q'
        have hn' := hn b a e1
        show Post _ _ _ _ _ _ _ _ (post a)
        have q2 : Post X.K io fr G0 H0 A0 own' Dn (post a) := q'
        cases ep : post a with
        | nx ρ' => exact absurd ep (hn' ρ')
        | rt t b => rw [ep] at q2; exact q2
        | bk ρ' => rw [ep] at q2; exact q2
    | false =>
      rw [if_neg (by rw [ev]; exact Bool.false_ne_true)] at q'
      rw [if_neg Bool.false_ne_true]
      exact ⟨G0, H0, A0, ad, G', er', f', q'⟩
/-- if c: a else: b, as a statement -/
theorem ss_if {c : Expr} {s1 s2 : List Stmt} {mc : R B} {vb : B → Bool} {env : B → En} {m1 m2 : B → R A} (hc : VB X E own ρ c mc vb env) (h1 : ∀ b, BS X E io fr own (env b) s1 (m1 b) post own') (h2 : ∀ b, BS X E io fr own (env b) s2 (m2 b) post own') :
    SS X E io fr own ρ (.If c s1 s2 pos) (mc.bind fun b => if vb b = true then m1 b else m2 b) post own' := by
  refine ⟨fun pins s σ H Dn I hq => ?_⟩
  obtain ⟨G0, H0, A0, ad, G, er, f, q⟩ := hq
  cases em : mc with
  | no => rw [em] at q; exact q.elim
  | ex c' =>
    refine (ps_if hc (pss_never (sts := s1)) (pss_never (sts := s2))).run pins s σ H Dn I ⟨ad, G, er, ?_⟩
    rw [em] at q ⊢
    exact fun H' s => q H' fun b o e hne => s _ _ (f.h0 b o e hne)
  | ok b =>
    rw [em] at q
    have q' : PostR X.K X.mg E io fr G0 H0 A0 own' (if vb b = true then m1 b else m2 b) post Dn := q
    refine (ps_if hc (h1 b) (h2 b)).run pins s σ H Dn I ⟨ad, G, er, ?_⟩
    rw [em]
    intro G' H' er' fr'
    have f' := f.next er fr' er'
    cases ev : vb b with
    | true =>
      rw [if_pos ev] at q'
      rw [if_pos rfl]
      exact ⟨G0, H0, A0, ad, G', er', f', q'⟩
    | false =>
      rw [if_neg (by rw [ev]; exact Bool.false_ne_true)] at q'
      rw [if_neg Bool.false_ne_true]
      exact ⟨G0, H0, A0, ad, G', er', f', q'⟩
end
end TL
/-! the tree layer, 12: loops, stores, slices, isinstance -/
namespace TL
open PySem PySem.Spec PyProof.Rows L2
/-- for: the turns -/
def foldR {α J : Type} (u : D → R α) (mb : J → α → R J) : List D → J → R J
  | [], j => .ok j
  | d :: ds, j => (nox (u d)).bind fun a => (mb j a).bind fun j' => foldR u mb ds j'
def foldO {α J : Type} (u : D → R α) (mb : J → α → R (Oc J)) : List D → J → R (Oc J)
  | [], j => .ok (.nx j)
  | d :: ds, j => (nox (u d)).bind fun a => (mb j a).bind fun o => match o with
    | .nx j' => foldO u mb ds j'
    | .rt t b => .ok (.rt t b)
    | .bk j' => .ok (.nx j')
def postO {J : Type} (emb : J → En) : Oc J → Fin
  | .nx j => .nx (emb j)
  | .rt t b => .rt t b
  | .bk j => .bk (emb j)
theorem foldO_R {α J : Type} {u : D → R α} {mb : J → α → R J} : ∀ (ds : List D) (j : J), foldO u (fun j a => (mb j a).bind fun j' => .ok (.nx j')) ds j = (foldR u mb ds j).bind fun j' => .ok (.nx j')
  | [], j => rfl
  | d :: ds, j => by
    unfold foldO foldR
    cases nox (u d) with
    | no => rfl
    | ex c => rfl
    | ok a =>
      simp only [R.ok_bind]
      cases mb j a with
      | no => rfl
      | ex c => rfl
      | ok j' => simp only [R.ok_bind]; exact foldO_R ds j'
section
variable {X : Cx} {E : XK} {io : Bool} {fr : Md} {own own' own1 : List Nat} {ρ ρ' : En} {A B : Type} {st : Stmt} {rest : List Stmt} {post : A → Fin} {e : Expr} {pos : Pos}
theorem Fr0.base {G0 H0 G H : Hp} {A0 : Addr} {ad : Nat → Addr} (f : Fr0 io G0 H0 A0 own ad G H) : Fr0 io G H0 A0 own ad G H := ⟨Same.refl _, f.h0, fun _ h _ => h, f.fs, f.bx⟩
theorem Fr0.unbase {G0 H0 G H G2 H2 : Hp} {A0 : Addr} {ad ad2 : Nat → Addr} (f : Fr0 io G0 H0 A0 own1 ad G H) (f2 : Fr0 io G H0 A0 own ad2 G2 H2) : Fr0 io G0 H0 A0 own ad2 G2 H2 := ⟨f.g0.trans f2.g0, f2.h0, fun b h1 h2 => f2.nw b (f.nw b h1 h2) h2, f2.fs, f2.bx⟩
theorem RetOk.unbase {K : PySem.W.Frag} {G0 H0 G H G2 H2 : Hp} {A0 : Addr} {ad : Nat → Addr} {v : V} {t b : D} (f : Fr0 io G0 H0 A0 own1 ad G H) (r : RetOk K io fr G H0 A0 v G2 H2 t b) : RetOk K io fr G0 H0 A0 v G2 H2 t b := ⟨r.gh, f.g0.trans r.g0, r.h0, fun b h1 h2 => r.nw b (f.nw b h1 h2) h2, r.an, r.bx⟩
theorem bs_post {A' : Type} {sts : List Stmt} {m : R A} {f : A → A'} {post' : A' → Fin} (h : BS X E io fr own ρ sts m post own') (hp : ∀ a, post' (f a) = post a) : BS X E io fr own ρ sts (m.bind fun a => .ok (f a)) post' own' := pss_weak h fun Dn σ H hq => by
  obtain ⟨G0, H0, A0, ad, G, er, f0, q⟩ := hq
  refine ⟨G0, H0, A0, ad, G, er, f0, ?_⟩
  cases m with
  | no => exact q
  | ex c => exact q
  | ok a =>
    have q' : Post X.K io fr G0 H0 A0 own' Dn (post' (f a)) := q
    rw [hp] at q'
    exact q'
theorem ss_post {A' : Type} {m : R A} {f : A → A'} {post' : A' → Fin} (h : SS X E io fr own ρ st (m.bind fun a => .ok (f a)) post' own') (hp : ∀ a, post' (f a) = post a) : SS X E io fr own ρ st m post own' := ps_weak h fun Dn σ H hq => by
  obtain ⟨G0, H0, A0, ad, G, er, f0, q⟩ := hq
  refine ⟨G0, H0, A0, ad, G, er, f0, ?_⟩
  cases m with
  | no => exact q
  | ex c => exact q
  | ok a =>
    have q' : Post X.K io fr G0 H0 A0 own' Dn (post a) := q
    rw [← hp] at q'
    exact q'
/-- for tg in iter: body; the body may return, break -/
theorem ss_forO {α J : Type} {tg iter : Expr} {body : List Stmt} {emb : J → En} {m : R B} {its : B → List D} {env : B → En} {sl : List Nat} {u : D → R α} {put : α → En → En} {mb : J → α → R (Oc J)} (j0 : B → J) (hpass : PassesOwn (model X.prog X.w) X.A X.env X.xe) (hcalm : X.calm = true)
    (hi : VI X E own ρ tg iter m its env) (hg : XG X tg sl u put) (hb : ∀ j a, BS X E io fr own (put a (emb j)) body (mb j a) (postO emb) own)
    (hsl : ∀ i ∈ sl, i ∉ own := by decide) (h0 : ∀ b, env b = emb (j0 b) := by intro _; rfl) (hs : ∀ x, foldedSetIterable iter X.env x = pure x := by intro _; rfl) :
    SS X E io fr own ρ (.For tg iter body [] pos) (m.bind fun b => foldO u mb (its b) (j0 b)) (postO emb) own := by
  refine ⟨fun pins s σ H Dn I hq => ?_⟩
  obtain ⟨G0, H0, A0, ad0, G, er, f, q⟩ := hq
  cases em : m with
  | no => rw [em] at q; exact q.elim
  | ex c' =>
    refine (ps_for (tb := fun _ _ _ => False) hpass hcalm hi hg (pss_never (sts := body)) hs).run pins s σ H Dn I ⟨ad0, G, er, ?_⟩
    rw [em] at q ⊢
    exact fun H' s => q H' fun b o e hne => s _ _ (f.h0 b o e hne)
  | ok b =>
    rw [em] at q
    have q' : PostR X.K X.mg E io fr G0 H0 A0 own (foldO u mb (its b) (j0 b)) (postO emb) Dn := q
    by_cases hnever : its b = [] ∧ False
    · exact hnever.2.elim
    let tb : TS := fun Dn σ H => ∃ j a, rdS X.K X.mg E io fr own (put a (emb j)) (mb j a) (postO emb) own Dn σ H
    have hbody : PSs X body tb := ⟨fun pins s σ H Dn I ⟨j, a, hq⟩ => (hb j a).run pins s σ H Dn I hq⟩
    refine (ps_for hpass hcalm hi hg hbody hs).run pins s σ H Dn I ⟨ad0, G, er, ?_⟩
    rw [em]
    intro J1 G1 H1 er1 fr1 io1
    have f1 := f.next er fr1 er1
    rw [h0] at er1
    generalize foldO u mb (its b) (j0 b) = res at q'
    refine ⟨fun i m σ H => m = (its b).length - i ∧ i ≤ (its b).length ∧ ∃ j ad G2, Er X.K own (emb j) ad σ G2 H ∧ Fr0 io G1 H0 A0 own ad G2 H ∧ PostR X.K X.mg E io fr G0 H0 A0 own (foldO u mb ((its b).drop i) j) (postO emb) Dn, ⟨_, rfl, Nat.zero_le _, j0 b, ad0, G1, er1, f1.base, q⟩, ?_⟩
    rintro i m1 σ1 H2 ⟨rfl, hi2, j, ad, G2, er2, f2, q2⟩
    by_cases hlt : i < (its b).length
    · right
      have hget := List.getElem?_eq_getElem hlt
      have hdrop : (its b).drop i = (its b)[i] :: (its b).drop (i + 1) := List.drop_eq_getElem_cons hlt
      rw [hdrop] at q2
      refine ⟨io1.go i H2 hlt (f2.g0.trans er2.gh), fun σ' H' => ∃ j ad G2, Er X.K own (emb j) ad σ' G2 H' ∧ Fr0 io G1 H0 A0 own ad G2 H' ∧ PostR X.K X.mg E io fr G0 H0 A0 own (foldO u mb ((its b).drop (i + 1)) j) (postO emb) Dn, fun σ' H' hN => ⟨(its b).length - (i + 1), by omega, rfl, hlt, hN⟩, fun x H' hy => ?_⟩
      obtain ⟨G3, fr3, r3⟩ := io1.yld i x G2 H2 H' (its b)[i] hget f2.g0 er2.gh hy
      have er3 := er_pure er2 fr3
      have f3 := f2.next er2 fr3.toO er3
      have q3 : PostR X.K X.mg E io fr G0 H0 A0 own ((nox (u (its b)[i])).bind fun a => (mb j a).bind fun o => match o with
        | .nx j' => foldO u mb ((its b).drop (i + 1)) j'
        | .rt t b => .ok (.rt t b)
        | .bk j' => .ok (.nx j')) (postO emb) Dn := q2
      cases eu : u (its b)[i] with
      | no => rw [eu] at q3; exact q3.elim
      | ex c => rw [eu] at q3; exact q3.elim
      | ok a =>
        rw [eu] at q3
        refine ⟨G3, _, a, er3.gh, r3, eu, fun ps hp => ?_⟩
        have er4 : Er X.K own (put a (emb j)) ad (putsS ps σ1) G3 H' := by
          rw [hp.eq]
          exact puts_er hp.rep (fun p hq => hsl _ (hp.sub p hq)) er3
        refine ⟨j, a, G1, H0, A0, ad, G3, er4, f3, ?_⟩
        have q4 : PostR X.K X.mg E io fr G0 H0 A0 own ((mb j a).bind fun o => match o with
          | .nx j' => foldO u mb ((its b).drop (i + 1)) j'
          | .rt t b => .ok (.rt t b)
          | .bk j' => .ok (.nx j')) (postO emb) Dn := q3
        cases eb : mb j a with
        | no => rw [eb] at q4; exact q4.elim
        | ex c => rw [eb] at q4; exact q4
        | ok o =>
          rw [eb] at q4
          cases o with
          | nx j' => exact fun ad' σ' G' H' er' f' => ⟨j', ad', G', er', f', q4⟩
          | rt t b => exact fun v G' H' r => q4 v G' H' (r.unbase f1)
          | bk j' => exact fun ad' σ' G' H' er' f' => q4 ad' σ' G' H' er' (f1.unbase f')
    · left
      have e : i = (its b).length := by omega
      subst e
      rw [List.drop_length] at q2
      exact ⟨io1.stop H2 (f2.g0.trans er2.gh), q2 ad σ1 G2 H2 er2 (f1.unbase f2)⟩
theorem ss_for {α J : Type} {tg iter : Expr} {body : List Stmt} {emb : J → En} {m : R B} {its : B → List D} {env : B → En} {sl : List Nat} {u : D → R α} {put : α → En → En} {mb : J → α → R J} (j0 : B → J) (hpass : PassesOwn (model X.prog X.w) X.A X.env X.xe) (hcalm : X.calm = true)
    (hi : VI X E own ρ tg iter m its env) (hg : XG X tg sl u put) (hb : ∀ j a, BS X E io fr own (put a (emb j)) body (mb j a) (fun j' => .nx (emb j')) own)
    (hsl : ∀ i ∈ sl, i ∉ own := by decide) (h0 : ∀ b, env b = emb (j0 b) := by intro _; rfl) (hs : ∀ x, foldedSetIterable iter X.env x = pure x := by intro _; rfl) :
    SS X E io fr own ρ (.For tg iter body [] pos) (m.bind fun b => foldR u mb (its b) (j0 b)) (fun j => .nx (emb j)) own := by
  refine ss_post (f := Oc.nx) (post' := postO emb) ?_ fun _ => rfl
  have h := ss_forO (pos := pos) (mb := fun j a => (mb j a).bind fun j' => .ok (Oc.nx j')) (emb := emb) j0 hpass hcalm hi hg (fun j a => bs_post (hb j a) fun _ => rfl) hsl h0 hs
  have e : (m.bind fun b => foldO u (fun j a => (mb j a).bind fun j' => .ok (.nx j')) (its b) (j0 b)) = ((m.bind fun b => foldR u mb (its b) (j0 b)).bind fun j => .ok (.nx j)) := by
    rw [R.bind_assoc]
    exact congrArg m.bind (funext fun b => foldO_R _ _)
  rw [← e]
  exact h
end
end TL
/-! the tree layer, 13: isinstance, slices, sorted(set(..)), ranges as lists -/
namespace TL
open PySem PySem.Spec PyProof.Rows L2
/-! ### isinstance -/
def tyN : D → Option String
  | .none => some "NoneType"
  | .bool _ => some "bool"
  | .int _ => some "int"
  | .str _ => some "str"
  | .list _ => some "list"
  | .tuple _ => some "tuple"
  | .dict ((.none, _) :: _) => none
  | .dict _ => some "dict"
/-- what is told of d being a T -/
def isA1 (T : String) (d : D) : Option Bool := (tyN d).bind fun n => kitB n T
def isAny (Ts : List String) (d : D) : Option Bool := match Ts with
  | [] => some false
  | T :: Ts => (isA1 T d).bind fun b => if b = true then some true else isAny Ts d
def isD (Ts : List String) (d : D) : R D := match isAny Ts d with
  | some b => .ok (.bool b)
  | none => .no
theorem tyX_of {K : PySem.W.Frag} {G H : Hp} {v : V} {d : D} {n : String} (s : Same G H) (r : Rep K G v d) (h : tyN d = some n) : TyX K H v (.type n) := by
  cases r with
  | non => cases h; exact .base .non
  | bl b => cases h; exact .base (.bl b)
  | int i => cases h; exact .base (.int i)
  | str x => cases h; exact .base (.str x)
  | lst e _ => cases h; exact .base (.lst (s _ _ e))
  | tup e _ =>
    cases h
    rcases e with ⟨u, e, o, _, rfl⟩ | ⟨o, its, n, e, c, _⟩
    · exact .fTuple (s _ _ e)
    · exact .kTuple e c
  | dK e ek _ =>
    have hn : n = "dict" := by
      rename_i kvs es _
      cases es with
      | nil => cases h; rfl
      | cons p ps =>
        cases kvs with
        | nil => cases ek
        | cons k ks =>
          have e1 : p.1 = keyD k.1 := by
            have := congrArg List.head? ek
            simpa using this
          obtain ⟨p1, p2⟩ := p
          simp only at e1
          subst e1
          rcases k with ⟨k | k, w⟩ <;> (cases h; rfl)
    subst hn
    rcases e with e | ⟨o, e⟩
    · exact .base (.dK (s _ _ e))
    · exact .fDict (s _ _ e)
  | dT e ek _ =>
    have hn : n = "dict" := by
      rename_i kvs es _
      cases es with
      | nil => cases h; rfl
      | cons p ps =>
        cases kvs with
        | nil => cases ek
        | cons k ks =>
          have e1 : p.1 = .tuple (k.1.map keyD) := by
            have := congrArg List.head? ek
            simpa using this
          obtain ⟨p1, p2⟩ := p
          simp only at e1
          subst e1
          cases h
          rfl
    subst hn
    exact .base (.dT (s _ _ e))
  | scr _ => cases h
  | exc => cases h
section
variable {X : Cx} {E : XK} {ρ : En} {a b : Expr} {m : R D} {pos : Pos}
theorem isD_ty {Ts : List String} {d : D} {t : D} (h : isD Ts d = .ok t) : ∃ b, isAny Ts d = some b ∧ t = .bool b := by
  unfold isD at h
  cases e : isAny Ts d with
  | none => rw [e] at h; cases h
  | some b => rw [e] at h; cases h; exact ⟨b, rfl, rfl⟩
theorem isD_ex {Ts : List String} {d : D} {c : Str} : isD Ts d ≠ .ex c := fun h => by
  unfold isD at h
  cases e : isAny Ts d with
  | none => rw [e] at h; cases h
  | some b => rw [e] at h; cases h
/-- isinstance(a, T) -/
theorem ep_isi {T : Str} {n : String} {p p2 : Pos} (hm : X.mg "isinstance" = none) (hT : X.mg T = none) (ha : XP X E ρ a m) (hv : bootBuiltins T = some (.type n) := by decide +kernel) (hT2 : tyN .none = some "NoneType" := by rfl) (hg : Gl X "isinstance" := by rfl) (hgT : Gl X T := by rfl) (hn : T ≠ "__name__" := by decide) (hdb : (T == ("__debug__" : Str)) = false := by decide)
    (he : starEach [a, .Name T p2] X.env = (false, eval a X.env) :: starEach [.Name T p2] X.env := by rfl) (he2 : starEach [.Name T p2] X.env = (false, eval (.Name T p2) X.env) :: starEach [] X.env := by rfl) (hpl : (backTo pos (starEach [.Name T p2] X.env)).any (·.1) = false := by rfl) :
    XP X E ρ (.Call (.Name "isinstance" p) [a, .Name T p2] [] pos) (m.bind fun d => isD [n] d) := by
  refine pe_weak (pe_callB call_isi hg hm (by decide +kernel) (pa_cons ha (pa_cons (pe_bltn (v := .ty n) hgT hT hv rfl hn hdb) pa_nil he2) he) (by decide) (by decide) he hpl) fun σ H Q ⟨G, s, ep, q⟩ => ⟨G, s, ep, ?_⟩
  cases m with
  | no => exact q
  | ex c => exact q
  | ok d =>
    intro v G1 H1 fr r
    have q' : PostP Rep X.K X.mg E G H (isD [n] d) Q := q
    cases ei : isD [n] d with
    | no => rw [ei] at q'; exact q'.elim
    | ex c => exact absurd ei isD_ex
    | ok t =>
      rw [ei] at q'
      obtain ⟨b, e1, rfl⟩ := isD_ty ei
      have : ∃ k, tyN d = some k ∧ kitB k n = some b := by
        unfold isAny isA1 at e1
        cases ty : tyN d with
        | none => rw [ty] at e1; cases e1
        | some k =>
          refine ⟨k, rfl, ?_⟩
          rw [ty] at e1
          simp only [Option.bind_some] at e1
          cases hk : kitB k n with
          | none => rw [hk] at e1; cases e1
          | some c =>
            rw [hk] at e1
            simp only [Option.bind_some] at e1
            cases c
            · simp only [isAny] at e1
              exact e1
            · exact e1
      obtain ⟨k, ty, hk⟩ := this
      exact ⟨v, .ty n, .type k, .type n, b, rfl, .ty n, tyX_of fr.gh r ty, kit_ty hk, q' _ G1 H1 fr (.bl b)⟩
end
end TL
/-! the tree layer, 14: slices, sorted(set(..)), ranges as lists, new lists by calls -/
namespace TL
open PySem PySem.Spec PyProof.Rows L2
/-! ### slices -/
def cutD (xs : List D) (lo hi : Option Int) : List D := (xs.drop (HT.sIx xs.length 0 lo)).take (HT.sIx xs.length xs.length hi - HT.sIx xs.length 0 lo)
def pySl (d : D) (lo hi : Option Int) : R D := match d with
  | .list xs => .ok (.list (cutD xs lo hi))
  | .tuple xs => .ok (.tuple (cutD xs lo hi))
  | .str z => if z.length ≤ sizeLine then .ok (.str (cutS z lo hi)) else .no
  | _ => .no
def partD : D → R (Option Int)
  | .int i => .ok (some i)
  | _ => .no
theorem RepAll.cutD {K : PySem.W.Frag} {G : Hp} {vs : List V} {ds : List D} (h : RepAll K G vs ds) (lo hi : Option Int) : RepAll K G (cutV vs lo hi) (TL.cutD ds lo hi) := by
  unfold cutV TL.cutD
  rw [← h.length]
  exact (h.drop _).take _
theorem cutV_whole {xs : List V} {lo hi : Option Int} (h : HT.sIx xs.length 0 lo = 0 ∧ HT.sIx xs.length xs.length hi = xs.length) : cutV xs lo hi = xs := by
  unfold cutV
  rw [h.1, h.2, List.drop_zero, Nat.sub_zero, List.take_length]
section
variable {X : Cx} {E : XK} {ρ : En} {a b : Expr} {m : R D} {pos p2 : Pos}
def rdO (K : PySem.W.Frag) (mg : Str → Option Value) (E : XK) (ρ : En) (m : R (Option Int)) : TO := fun σ H Q => ∃ G, Same G H ∧ Ep K G ρ σ ∧ match m with
  | .no => False
  | .ex c => ∀ H', Same H H' → E (cls mg c) none H'
  | .ok o => ∀ G' H', Fr G H G' H' → Q o H'
abbrev XO (X : Cx) (E : XK) (ρ : En) (e : Option Expr) (m : R (Option Int)) : Prop := PO X e (rdO X.K X.mg E ρ m)
theorem po_weak {e : Option Expr} {t t' : TO} (h : PO X e t) (f : ∀ σ H Q, t' σ H Q → t σ H Q) : PO X e t' := ⟨fun pins s σ H Q I q => h.run pins s σ H Q I (f _ _ _ q)⟩
theorem xo_none : XO X E ρ none (.ok none) := po_weak po_none fun σ H Q ⟨G, s, ep, q⟩ => q G H (Fr.refl s)
theorem xo_some (h : XP X E ρ a m) : XO X E ρ (some a) (m.bind partD) := po_weak (po_some h) fun σ H Q ⟨G, s, ep, q⟩ => ⟨G, s, ep, by
  cases m with
  | no => exact q
  | ex c => exact q
  | ok d =>
    intro v G1 H1 fr r
    cases r with
    | int i => exact ⟨i, rfl, q G1 H1 fr⟩
    | _ => exact q.elim⟩
theorem sl_any : SlR X (fun x lo hi H Q => (rSlL X.K x lo hi H Q ∨ rSlU X.K x lo hi H Q) ∨ rSlS x lo hi H Q) := (sl_list.or sl_tupU).or sl_str
theorem xp_slice {lo hi : Option Expr} {ml mh : R (Option Int)} (he : XP X E ρ a m) (hl : XO X E ρ lo ml) (hh : XO X E ρ hi mh) : XP X E ρ (.Subscript a (.Slice lo hi none p2) pos) (m.bind fun d => ml.bind fun l => mh.bind fun h => pySl d l h) :=
  pe_weak (pe_slice sl_any he hl hh) fun σ H Q ⟨G, s, ep, q⟩ => ⟨G, s, ep, by
    refine (PostP.bind (Rp := Rep) q).mono fun x H1 ⟨G1, d, fr1, r1, em, q1⟩ => ⟨G1, fr1.gh, ep.mono fr1.gg, ?_⟩
    cases ml with
    | no => exact q1
    | ex c => exact q1
    | ok l =>
      intro G2 H2 fr2
      refine ⟨G2, fr2.gh, (ep.mono fr1.gg).mono fr2.gg, ?_⟩
      have q2 : PostP Rep X.K X.mg E G1 H1 (mh.bind fun h => pySl d l h) Q := q1
      cases mh with
      | no => exact q2
      | ex c => exact fun H' s' => q2 H' (fr2.hh.trans s')
      | ok h =>
        intro G3 H3 fr3
        have q3 : PostP Rep X.K X.mg E G1 H1 (pySl d l h) Q := q2
        have fr := fr2.trans fr3
        cases r1 with
        | lst e ra => exact .inl (.inl ⟨_, _, rfl, same_lst (fr.gg.trans fr.gh) e, fun p np => q3 _ _ _ (fr.trans (Fr.new fr.gh np)) (rep_newL fr.gh np ((ra.cutD l h).mono fr.gg))⟩)
        | tup e ra =>
          refine .inl (.inr ⟨_, _, rfl, same_seqT (fr.gg.trans fr.gh) e, fun hw => ?_, fun _ p u np tu => q3 _ _ _ (fr.trans (Fr.new fr.gh np)) (rep_newT fr.gh np tu ((ra.cutD l h).mono fr.gg))⟩)
          refine q3 _ G3 H3 fr (.tup (e.same fr.gg) ?_)
          have := ra.cutD l h
          rw [cutV_whole hw] at this
          exact this.mono fr.gg
        | str z =>
          simp only [pySl] at q3
          split at q3
          · rename_i hz
            exact .inr ⟨z, rfl, hz, q3 _ G3 H3 fr (.str _)⟩
          · exact q3.elim
        | _ => exact q3.elim⟩
/-! ### new lists by a call -/
def rLtF (K : PySem.W.Frag) (mg : Str → Option Value) (E : XK) (f : List D → R D) : List V → Hp → VK → Prop := fun xs H Q => ∃ G ts, Same G H ∧ RepAll K G xs ts ∧ PostF K mg E G H (f ts) Q
abbrev CallF (X : Cx) (E : XK) (g : Value) (f : List D → R D) : Prop := CallR X g (rLtF X.K X.mg E f)
theorem PostF.newL {K : PySem.W.Frag} {mg : Str → Option Value} {E : XK} {G H : Hp} {Q : VK} {vs : List V} {ts : List D} (s : Same G H) (r : RepAll K G vs ts) (q : PostF K mg E G H (.ok (.list ts)) Q) : ∀ p, H p = none → Q (.ref p) (upd H p (.lst vs)) := fun p np => q p G _ (Fr.newU s np) np (own_new s np r)
theorem cf_list : CallF X E (.type "list") pyList := by
  intro pins s σ H vs us Q I r ⟨G, ts, sa, ra, q⟩
  match ts, q with
  | [.list xs], q =>
    obtain ⟨v, rfl, r1⟩ := repAll1 ra
    cases r1 with
    | lst h a => exact call_list_of pins s σ H _ us Q I r ⟨_, _, rfl, .inl (same_lst sa h), q.newL sa a⟩
  | [.tuple xs], q =>
    obtain ⟨v, rfl, r1⟩ := repAll1 ra
    cases r1 with
    | tup h a => exact call_list_of pins s σ H _ us Q I r ⟨_, _, rfl, .inr (same_seqT sa h), q.newL sa a⟩
  | [.none], q | [.bool _], q | [.int _], q | [.dict _], q | [.str _], q | [], q => exact q.elim
  | _ :: _ :: _, q => simp only [pyList] at q; exact q.elim
theorem cf_sorted (hu : X.A.units + 66 < cLine) : CallF X E (.builtin "sorted") pySorted := by
  intro pins s σ H vs us Q I r ⟨G, ts, sa, ra, q⟩
  cases em : pySorted ts with
  | no => rw [em] at q; exact q.elim
  | ex c =>
    unfold pySorted at em
    split at em <;> first | (split at em <;> cases em) | cases em
  | ok t => 
    match ts, em with
    | [.list xs], em =>
      obtain ⟨v, rfl, r1⟩ := repAll1 ra
      have em0 := em
      simp only [pySorted] at em
      split at em
      · rename_i hs
        cases em
        obtain ⟨al, so, ft⟩ := sortable_spec hs
        cases r1 with
        | lst h a =>
          rename_i l ws
          obtain ⟨its, rv, pl, hz⟩ := I.list (same_lst sa h)
          rw [Vals.ref1 r]
          obtain ⟨e1, e2⟩ := reads_all I sa a rv ft
          have hzip := zip_snd a.length
          have hl : (ws.zip xs).length = ws.length := by
            rw [List.length_zip, a.length]
            omega
          refine PySem.W.sorted_data (enc := fun b : V × D => b.2) pl.isList e1 e2 (by rw [hzip]; exact al) (by rw [hzip]; exact so) (by rw [hl]; exact hz) (fun b hb => ?_) fun out ho hout => ?_
          · have : b.2 ∈ xs := by
              rw [← hzip]
              exact List.mem_map.mpr ⟨b, hb, rfl⟩
            have := fit_depth (List.all_eq_true.mp ft _ this)
            omega
          · obtain ⟨v1, v2⟩ := each_vals hout
            have em : ((ws.zip xs).mergeSort (PySem.W.dataLe false fun b => b.2)).map (·.2) = sortD xs := by
              have := PySem.W.sort_maps (r := PySem.W.dataLe false fun b : V × D => b.2) (s := PySem.W.dataLe false fun d : D => d) (fun b : V × D => b.2) (l := ws.zip xs) (fun _ _ _ _ => rfl)
              rw [this, hzip]
              rfl
            rw [em] at v2
            obtain ⟨ep, he⟩ := sortedAll_at s.heap its out.toArray
            have hlen : (((ws.zip xs).mergeSort (PySem.W.dataLe false fun b => b.2)).map (·.1)).length ≤ sizeLine := by
              rw [List.length_map, List.length_mergeSort, hl]
              exact hz
            have np : H (s.heap.objs.size + 1) = none := I.hok.fresh (Nat.le_succ _)
            rw [em0] at q
            exact ⟨.ref _, upd H (s.heap.objs.size + 1) (.lst _), I.laid (t' := s.toks) (fun _ _ => sortedAll_old) (Nat.le_succ _) ⟨hlen, out, ep, v1, he⟩, rfl, q.newL sa v2 _ np⟩
      · cases em
    | [.tuple xs], em =>
      obtain ⟨v, rfl, r1⟩ := repAll1 ra
      have em0 := em
      simp only [pySorted] at em
      split at em
      · rename_i hs
        cases em
        obtain ⟨al, so, ft⟩ := sortable_spec hs
        cases r1 with
        | tup h a =>
          rename_i l ws
          obtain ⟨its, rv, pl, hz⟩ := I.tuple (same_seqT sa h)
          rw [Vals.ref1 r]
          obtain ⟨e1, e2⟩ := reads_all I sa a rv ft
          have hzip := zip_snd a.length
          have hl : (ws.zip xs).length = ws.length := by
            rw [List.length_zip, a.length]
            omega
          refine PySem.W.sortedT_data (enc := fun b : V × D => b.2) pl e1 e2 (by rw [hzip]; exact al) (by rw [hzip]; exact so) (by rw [hl]; exact hz) (fun b hb => ?_) fun out ho hout => ?_
          · have : b.2 ∈ xs := by
              rw [← hzip]
              exact List.mem_map.mpr ⟨b, hb, rfl⟩
            have := fit_depth (List.all_eq_true.mp ft _ this)
            omega
          · obtain ⟨v1, v2⟩ := each_vals hout
            have em : ((ws.zip xs).mergeSort (PySem.W.dataLe false fun b => b.2)).map (·.2) = sortD xs := by
              have := PySem.W.sort_maps (r := PySem.W.dataLe false fun b : V × D => b.2) (s := PySem.W.dataLe false fun d : D => d) (fun b : V × D => b.2) (l := ws.zip xs) (fun _ _ _ _ => rfl)
              rw [this, hzip]
              rfl
            rw [em] at v2
            obtain ⟨ep, he⟩ := sortedAll_at s.heap its out.toArray
            have hlen : (((ws.zip xs).mergeSort (PySem.W.dataLe false fun b => b.2)).map (·.1)).length ≤ sizeLine := by
              rw [List.length_map, List.length_mergeSort, hl]
              exact hz
            have np : H (s.heap.objs.size + 1) = none := I.hok.fresh (Nat.le_succ _)
            rw [em0] at q
            exact ⟨.ref _, upd H (s.heap.objs.size + 1) (.lst _), I.laid (t' := s.toks) (fun _ _ => sortedAll_old) (Nat.le_succ _) ⟨hlen, out, ep, v1, he⟩, rfl, q.newL sa v2 _ np⟩
      · cases em
    | [.none], em | [.bool _], em | [.int _], em | [.dict _], em | [.str _], em | [], em => cases em
    | _ :: _ :: _, em => simp only [pySorted] at em; cases em
theorem xf_callB {x : Str} {p : Pos} {id : String} {es : List Expr} {mk : CP} {f : List D → R D} (hc : CallF X E (.builtin id) f) (hm : X.mg x = none) (ha : XAk X E ρ (a :: es) mk) (hv : bootBuiltins x = some (.builtin id) := by decide +kernel) (hg : Gl X x := by rfl) (hn : x ≠ "__name__" := by decide)
    (hdb : (x == ("__debug__" : Str)) = false := by decide) (he : starEach (a :: es) X.env = (false, eval a X.env) :: starEach es X.env := by rfl) (hpl : (backTo pos (starEach es X.env)).any (·.1) = false := by rfl) : XF X E ρ (.Call (.Name x p) (a :: es) [] pos) (mk D f) := by
  obtain ⟨m, e, _, h⟩ := ha
  rw [e]
  refine pe_weak (pe_callB hc hg hm hv h hn hdb he hpl) fun σ H Q hq => ?_
  obtain ⟨G, s, ep, q⟩ := hq
  refine ⟨G, s, ep, ?_⟩
  cases m with
  | no => exact q
  | ex c => exact q
  | ok ts =>
    intro vs G1 H1 fr r
    refine ⟨G1, ts, fr.gh, r, ?_⟩
    have q' : PostF X.K X.mg E G H (f ts) Q := q
    cases ef : f ts with
    | no => rw [ef] at q'; exact q'.elim
    | ex c => rw [ef] at q'; exact fun H' s' => q' H' (fr.hh.trans s')
    | ok t =>
      rw [ef] at q'
      exact fun p G2 H2 fr2 np o => q' p G2 H2 (fr.trans fr2) (by
        cases z : H p with
        | none => rfl
        | some o => rw [fr.hh _ _ z] at np; cases np) o
theorem xf_callT {x : Str} {p : Pos} {T : String} {es : List Expr} {mk : CP} {f : List D → R D} (hc : CallF X E (.type T) f) (hm : X.mg x = none) (ha : XAk X E ρ (a :: es) mk) (hv : bootBuiltins x = some (.type T) := by decide +kernel) (hg : Gl X x := by rfl) (hn : x ≠ "__name__" := by decide)
    (hdb : (x == ("__debug__" : Str)) = false := by decide) (he : starEach (a :: es) X.env = (false, eval a X.env) :: starEach es X.env := by rfl) (hpl : (backTo pos (starEach es X.env)).any (·.1) = false := by rfl) : XF X E ρ (.Call (.Name x p) (a :: es) [] pos) (mk D f) := by
  obtain ⟨m, e, _, h⟩ := ha
  rw [e]
  refine pe_weak (pe_callTy hc hg hm hv h hn hdb he hpl) fun σ H Q hq => ?_
  obtain ⟨G, s, ep, q⟩ := hq
  refine ⟨G, s, ep, ?_⟩
  cases m with
  | no => exact q
  | ex c => exact q
  | ok ts =>
    intro vs G1 H1 fr r
    refine ⟨G1, ts, fr.gh, r, ?_⟩
    have q' : PostF X.K X.mg E G H (f ts) Q := q
    cases ef : f ts with
    | no => rw [ef] at q'; exact q'.elim
    | ex c => rw [ef] at q'; exact fun H' s' => q' H' (fr.hh.trans s')
    | ok t =>
      rw [ef] at q'
      exact fun p G2 H2 fr2 np o => q' p G2 H2 (fr.trans fr2) (by
        cases z : H p with
        | none => rfl
        | some o => rw [fr.hh _ _ z] at np; cases np) o
/-! ### list(range(..)), tuple(range(..)) -/
def rdRg (K : PySem.W.Frag) (mg : Str → Option Value) (E : XK) (ρ : En) (m : R (Int × Int)) : L2.St → Hp → (Int → Int → Hp → Prop) → Prop := fun σ H Q => ∃ G, Same G H ∧ Ep K G ρ σ ∧ match m with
  | .no => False
  | .ex c => ∀ H', Same H H' → E (cls mg c) none H'
  | .ok p => ∀ G' H', Fr G H G' H' → Q p.1 p.2 H'
def XRg (X : Cx) (E : XK) (ρ : En) (e : Expr) (m : R (Int × Int)) : Prop := PRg X e (rdRg X.K X.mg E ρ m)
def asInt : D → R Int
  | .int i => .ok i
  | _ => .no
theorem prg_weak {e : Expr} {t t' : L2.St → Hp → (Int → Int → Hp → Prop) → Prop} (h : PRg X e t) (f : ∀ σ H Q, t' σ H Q → t σ H Q) : PRg X e t' := fun pins s σ H Q I q => h pins s σ H Q I (f _ _ _ q)
theorem xrg_1 {p : Pos} (hm : X.mg "range" = none) (ha : XP X E ρ a m) (hg : Gl X "range" := by rfl) (na : starEach [a] X.env = (false, eval a X.env) :: starEach [] X.env := by rfl) : XRg X E ρ (.Call (.Name "range" p) [a] [] pos) (m.bind fun x => (asInt x).bind fun n => .ok (0, n)) :=
  prg_weak (prg_1 hg hm ha na) fun σ H Q ⟨G, s, ep, q⟩ => ⟨G, s, ep, by
    cases m with
    | no => exact q
    | ex c => exact q
    | ok d =>
      intro v G1 H1 fr r
      cases r with
      | int i => exact ⟨i, rfl, q G1 H1 fr⟩
      | _ => exact q.elim⟩
def rgOk (a b : Int) : Bool := decide (-(2 ^ 62) ≤ a ∧ a < 2 ^ 62 ∧ -(2 ^ 62) ≤ b ∧ b < 2 ^ 62 ∧ (b - a).toNat ≤ 2 ^ 24)
def rgL (p : Int × Int) : R (List D) := if rgOk p.1 p.2 = true then .ok (upto p.1 (p.2 - p.1).toNat) else .no
theorem rg_rep {K : PySem.W.Frag} {G : Hp} {a b : Int} : RepAll K G (rgV a b) (upto a (b - a).toNat) := by
  unfold rgV upto
  have key : ∀ l : List Nat, RepAll K G (l.map fun i : Nat => V.int (a + (i : Nat))) (l.map fun k : Nat => (PyData.int (a + k))) := by
    intro l
    induction l with
    | nil => exact .nil
    | cons x l ih => exact .cons (.int _) ih
  exact key _
theorem xf_listRg {e : Expr} {mr : R (Int × Int)} {p : Pos} (hm : X.mg "list" = none) (he : XRg X E ρ e mr) (hc : X.calm = true := by rfl) (hg : Gl X "list" := by rfl) (na : starEach [e] X.env = (false, eval e X.env) :: starEach [] X.env := by rfl) : XF X E ρ (.Call (.Name "list" p) [e] [] pos) (mr.bind fun q => (rgL q).bind fun ts => .ok (.list ts)) :=
  pe_weak (pe_listRg hc hg hm he na) fun σ H Q ⟨G, s, ep, q⟩ => ⟨G, s, ep, by
    cases mr with
    | no => exact q
    | ex c => exact q
    | ok r =>
      intro G1 H1 fr
      have q' : PostF X.K X.mg E G H ((rgL r).bind fun ts => .ok (.list ts)) Q := q
      unfold rgL at q'
      by_cases hr : rgOk r.1 r.2 = true
      · rw [if_pos hr] at q'
        refine ⟨by unfold RgOk; exact of_decide_eq_true hr, fun p np => ?_⟩
        have hp : H p = none := by
          cases z : H p with
          | none => rfl
          | some o => rw [fr.hh _ _ z] at np; cases np
        exact q' p G1 _ (fr.trans (Fr.newU fr.gh np)) hp (own_new fr.gh np rg_rep)
      · rw [if_neg hr] at q'
        exact q'.elim⟩
end
end TL
/-! the tree layer: a set of a tuple of tuples of whole numbers -/
namespace TL
open PySem PySem.Spec PyProof.Rows L2
section
variable {P : Program} {w : World} {A : Around} {E : Value → Shared → Prop} {s : Shared}
end
section
variable {X : Cx}
end
/-! ### rows of whole numbers, in order -/
def tupsOf : List D → Option (List (List Int))
  | [] => some []
  | .tuple xs :: ds => match nums xs, tupsOf ds with
    | some k, some ks => some (k :: ks)
    | _, _ => none
  | _ :: _ => none
theorem tupsOf_map : ∀ ks : List (List Int), tupsOf (ks.map fun k => PyData.tuple (k.map .int)) = some ks
  | [] => rfl
  | k :: ks => by
    rw [List.map_cons]
    unfold tupsOf
    rw [tupsOf_map ks, nums_map k]
def insT (k : List Int) : List (List Int) → List (List Int)
  | [] => [k]
  | x :: xs => if k < x then k :: x :: xs else if k = x then x :: xs else x :: insT k xs
def setT' (ks : List (List Int)) : List (List Int) := ks.foldr insT []
theorem insT_mem {k j : List Int} : ∀ {xs : List (List Int)}, j ∈ insT k xs ↔ j = k ∨ j ∈ xs
  | [] => by simp [insT]
  | x :: xs => by
    unfold insT
    split
    · simp
    · split
      · rename_i h
        subst h
        simp
      · simp only [List.mem_cons, insT_mem (xs := xs)]
        constructor
        · rintro (h | h | h) <;> simp [h]
        · rintro (h | h | h) <;> simp [h]
theorem tri (a b : List Int) : a < b ∨ a = b ∨ b < a := by
  rcases Classical.em (a < b) with h | h
  · exact .inl h
  · rcases Classical.em (b < a) with h2 | h2
    · exact .inr (.inr h2)
    · exact .inr (.inl (List.le_antisymm (List.not_lt.mp h2) (List.not_lt.mp h)))
theorem insT_up {k : List Int} : ∀ {xs : List (List Int)}, xs.Pairwise (· < ·) → (insT k xs).Pairwise (· < ·)
  | [], _ => by simp [insT]
  | x :: xs, h => by
    obtain ⟨h1, h2⟩ := List.pairwise_cons.mp h
    unfold insT
    split
    · rename_i hk
      exact List.pairwise_cons.mpr ⟨fun y hy => by
        rcases List.mem_cons.mp hy with z | z
        · rw [z]; exact hk
        · exact List.lt_trans hk (h1 y z), h⟩
    · split
      · exact h
      · rename_i h3 h4
        refine List.pairwise_cons.mpr ⟨fun y hy => ?_, insT_up h2⟩
        rcases insT_mem.mp hy with z | z
        · rw [z]
          rcases tri k x with q | q | q
          · exact absurd q h3
          · exact absurd q h4
          · exact q
        · exact h1 y z
theorem setT'_mem {j : List Int} : ∀ {ks : List (List Int)}, j ∈ setT' ks ↔ j ∈ ks
  | [] => by simp [setT']
  | k :: ks => by
    show j ∈ insT k (setT' ks) ↔ _
    rw [insT_mem, setT'_mem (ks := ks), List.mem_cons]
theorem setT'_up : ∀ {ks : List (List Int)}, (setT' ks).Pairwise (· < ·)
  | [] => List.Pairwise.nil
  | k :: ks => insT_up setT'_up
theorem upT_eq {xs ys : List (List Int)} (h1 : xs.Pairwise (· < ·)) (h2 : ys.Pairwise (· < ·)) (h : ∀ k, k ∈ xs ↔ k ∈ ys) : xs = ys := by
  have ne : ∀ {a b : List Int}, a < b → a ≠ b := fun {a b} q e => List.lt_irrefl a (by rw [e] at q ⊢; exact q)
  have p : xs.Perm ys := (List.perm_ext_iff_of_nodup (h1.imp ne) (h2.imp ne)).mpr h
  exact List.Perm.eq_of_pairwise (le := (· < ·)) (fun a b _ _ q1 q2 => absurd (List.lt_trans q1 q2) (List.lt_irrefl a)) h1 h2 p
/-- all as long, of numbers from 0 on, not too great -/
def BT : Int := 10 ^ 50
def tupsOk (ks : List (List Int)) : Bool := match ks with
  | [] => true
  | k :: _ => decide (1 ≤ k.length) && ks.all fun j => decide (j.length = k.length) && j.all fun n => decide (0 ≤ n ∧ n < BT)
def setTD (ts : List D) : R D := match tupsOf ts with
  | some ks => if ks.length < 64 ∧ tupsOk ks = true then .ok (.list ((setT' ks).map fun k => .tuple (k.map .int))) else .no
  | none => .no
end TL
/-! the tree layer, 15: sorted(set(..)), stores, op=, while -/
namespace TL
open PySem PySem.Spec PyProof.Rows L2
section
variable {X : Cx} {E : XK} {ρ : En} {a b : Expr} {m : R D} {pos p2 : Pos}
/-- the members, rising -/
def insN (k : Int) : List Int → List Int
  | [] => [k]
  | x :: xs => if k < x then k :: x :: xs else if k = x then x :: xs else x :: insN k xs
def setN' (ns : List Int) : List Int := ns.foldr insN []
def setLD (ts : List D) : R D := match nums ts with
  | some ns => if ns.length < 64 then .ok (.list ((setN' ns).map .int)) else .no
  | none => setTD ts
def pySortedSet (d : D) : R D := match d with
  | .list ts => setLD ts
  | .tuple ts => setLD ts
  | _ => .no
end
end TL
/-! the tree layer, 16: stores, op=, while, defs -/
namespace TL
open PySem PySem.Spec PyProof.Rows L2
def setD : D → D → D → R D
  | .list ts, .int k, v => match ixN ts.length k with
    | some j => .ok (.list (ts.set j v))
    | none => .no
  | _, _, _ => .no
section
variable {X : Cx} {E : XK} {io : Bool} {fr : Md} {own own' own1 : List Nat} {ρ ρ' : En} {A B : Type} {st : Stmt} {rest : List Stmt} {post : A → Fin} {e : Expr} {pos : Pos}
/-- x[k] = e, x the slot's own list -/
theorem ss_store {x : Str} {ix : Expr} {px tpos : Pos} {J : Type} {emb : J → En} (i : Nat) {ts : A → D} (pk : A → D → J) {m : R A} {val : A → D} {env : A → En} {mi : A → R D}
    (he : VP X E own ρ e m val env) (hx : ∀ a, XP X E (hideE own (env a)) ix (mi a)) (ht : ∀ a, getN (env a) i = some (ts a) := by intro _; rfl) (hpk : ∀ a r, emb (pk a r) = setN (env a) i (some r) := by intro _ _; rfl) (hi : i ∈ own := by decide) (hN : X.N[i]? = some x := by rfl)
    (hv : Vis X.env.scope x := by first | exact Or.inl rfl | exact Or.inr (Or.inl rfl) | exact Or.inr (Or.inr rfl)) (hd : (x == ("__debug__" : Str)) = false := by decide) (hcd : (x == ("__classdict__" : Str)) = false := by decide)
    (hass : ∀ v, assign (.Subscript (.Name x px) ix tpos) X.env v = (do
      let ov ← holding [v] (eval (.Name x px) X.env)
      let iv ← holding [v, ov] (eval ix X.env)
      standAt tpos
      holding [v, ov, iv] (setItem ov iv v)
      release [v, ov, iv] []) := by intro _; rfl)
    (hs : swapsWithSole [.Subscript (.Name x px) ix tpos] e pos.line X.env = pure false := by rfl) (hw : swappedStores [.Subscript (.Name x px) ix tpos] e X.env = pure none := by rfl)
    (h1 : (assignEach [.Subscript (.Name x px) ix tpos] X.env).map (·.2) = [assign (.Subscript (.Name x px) ix tpos) X.env] := by rfl) :
    SS X E io fr own ρ (.Assign [.Subscript (.Name x px) ix tpos] e pos) (m.bind fun a => (mi a).bind fun k => (setD (ts a) k (val a)).bind fun r => .ok (pk a r)) (fun j => .nx (emb j)) own :=
  ps_weak (t := tAsg (rdV X.K X.mg E own ρ m val env) (fun v σ H Q => ∃ a, (gSub (tVar i) (rdP X.K X.mg E (hideE own (env a)) (mi a)) rSetL) v σ H Q)) (ps_asg he ⟨fun pins s σ H v u Q I r ⟨a, q⟩ => (pg_sub (pe_var hN hv hd hcd) (hx a) set_list hass).run pins s σ H v u Q I r q⟩ hs hw h1) fun Dn σ H hq => by
    obtain ⟨G0, H0, A0, ad, G, er, f, q⟩ := hq
    refine ⟨ad, G, er, ?_⟩
    cases em : m with
    | no => rw [em] at q; exact q.elim
    | ex c => rw [em] at q; exact fun H' s => q H' fun b o e hne => s _ _ (f.h0 b o e hne)
    | ok a =>
      rw [em] at q
      intro v G' H' er' fr' r
      have f' := f.next er fr' er'
      obtain ⟨t0, e0, es0, o0⟩ := er'.ow i hi
      refine ⟨a, _, es0, G', er'.gh, er'.ep_hide, ?_⟩
      have q1 : PostR X.K X.mg E io fr G0 H0 A0 own ((mi a).bind fun k => (setD (ts a) k (val a)).bind fun r => .ok (pk a r)) (fun j => .nx (emb j)) Dn := q
      cases ei : mi a with
      | no => rw [ei] at q1; exact q1.elim
      | ex c => rw [ei] at q1; exact fun H' s => q1 H' fun b o e hne => s _ _ (f'.h0 b o e hne)
      | ok k =>
        rw [ei] at q1
        intro kv G2 H2 fr2 rk
        have er2 := er_pure er' fr2
        have f2 := f'.next er' fr2.toO er2
        have q2 : PostR X.K X.mg E io fr G0 H0 A0 own ((setD (ts a) k (val a)).bind fun r => .ok (pk a r)) (fun j => .nx (emb j)) Dn := q1
        cases rk with
        | int n =>
          have et := ht a
          cases ety : ts a with
          | list us =>
            rw [ety] at q2 et
            obtain ⟨xs, es, eh, rr⟩ := er2.ownL hi et
            have q3 : PostR X.K X.mg E io fr G0 H0 A0 own ((match ixN us.length n with
              | some j => R.ok (PyData.list (us.set j (val a)))
              | none => R.no).bind fun r => .ok (pk a r)) (fun j => .nx (emb j)) Dn := q2
            cases ej : ixN us.length n with
            | none => rw [ej] at q3; exact q3.elim
            | some j =>
              rw [ej] at q3
              refine ⟨_, xs, n, j, rfl, rfl, eh, by rw [rr.length]; exact ej, ?_⟩
              have on := own_at (H := H2) (er2.g_none hi) (rr.set (v := v) (d := val a) (r.mono fr2.gg) j)
              obtain ⟨er3, fr3⟩ := er2.write hi on
              exact q3 ad σ G2 _ (by rw [hpk]; exact er3) (f2.next er2 fr3 er3)
          | _ => rw [ety] at q2; exact q2.elim
        | _ => simp only [setD] at q2; first | exact q2.elim | (cases ety : ts a <;> rw [ety] at q2 <;> exact q2.elim)
/-! ### while -/
def whO {B J : Type} (mc : J → R B) (vb : B → Bool) (mb : J → B → R (Oc J)) (out : J → B → J) : Nat → J → R (Oc J)
  | 0, _ => .no
  | n + 1, j => (mc j).bind fun b => if vb b = true then (mb j b).bind fun o => match o with
    | .nx j' => whO mc vb mb out n j'
    | .rt t b => .ok (.rt t b)
    | .bk j' => .ok (.nx j') else .ok (.nx (out j b))
theorem whO_succ {B J : Type} {mc : J → R B} {vb : B → Bool} {mb : J → B → R (Oc J)} {out : J → B → J} : ∀ (n : Nat) (j : J), whO mc vb mb out n j ≠ .no → whO mc vb mb out (n + 1) j = whO mc vb mb out n j
  | 0, j, h => absurd rfl h
  | n + 1, j, h => by
    unfold whO at h ⊢
    cases hm : mc j with
    | no => rfl
    | ex c => rfl
    | ok b =>
      rw [hm] at h
      simp only [R.ok_bind] at h ⊢
      cases hb : vb b with
      | false => simp
      | true =>
        rw [hb] at h
        simp only [if_true] at h ⊢
        cases hmb : mb j b with
        | no => rfl
        | ex c => rfl
        | ok o =>
          rw [hmb] at h
          cases o with
          | nx j' => exact whO_succ n j' h
          | rt t b => rfl
          | bk j' => rfl
theorem whO_le {B J : Type} {mc : J → R B} {vb : B → Bool} {mb : J → B → R (Oc J)} {out : J → B → J} {n : Nat} {j : J} (h : whO mc vb mb out n j ≠ .no) : ∀ k, whO mc vb mb out (n + k) j = whO mc vb mb out n j
  | 0 => rfl
  | k + 1 => by
    have := whO_le h k
    rw [show n + (k + 1) = (n + k) + 1 from rfl, whO_succ (n + k) j (by rw [this]; exact h), this]
open Classical in
/-- the loop's end, if it comes -/
noncomputable def whX {B J : Type} (mc : J → R B) (vb : B → Bool) (mb : J → B → R (Oc J)) (out : J → B → J) (j : J) : R (Oc J) :=
  if h : ∃ n, whO mc vb mb out n j ≠ .no then whO mc vb mb out h.choose j else .no
theorem whX_eq {B J : Type} {mc : J → R B} {vb : B → Bool} {mb : J → B → R (Oc J)} {out : J → B → J} {n : Nat} {j : J} (h : whO mc vb mb out n j ≠ .no) : whX mc vb mb out j = whO mc vb mb out n j := by
  have hx : ∃ n, whO mc vb mb out n j ≠ .no := ⟨n, h⟩
  unfold whX
  rw [dif_pos hx]
  have hc := hx.choose_spec
  rcases Nat.le_total n hx.choose with hl | hl
  · obtain ⟨k, e⟩ := Nat.exists_eq_add_of_le hl
    rw [e]
    exact whO_le h k
  · obtain ⟨k, e⟩ := Nat.exists_eq_add_of_le hl
    have := whO_le hc k
    rw [← e] at this
    exact this.symm
theorem whX_some {B J : Type} {mc : J → R B} {vb : B → Bool} {mb : J → B → R (Oc J)} {out : J → B → J} {j : J} (h : whX mc vb mb out j ≠ .no) : ∃ n, whX mc vb mb out j = whO mc vb mb out n j := by
  unfold whX at h ⊢
  by_cases hx : ∃ n, whO mc vb mb out n j ≠ .no
  · rw [dif_pos hx]
    exact ⟨_, rfl⟩
  · rw [dif_neg hx] at h
    exact absurd rfl h
/-- while c: body -/
theorem ss_whileO {J : Type} {c : Expr} {body : List Stmt} {emb : J → En} {mc : J → R B} {vb : B → Bool} {mb : J → B → R (Oc J)} {env : J → B → En} (j0 : J) (out : J → B → J) (hpass : PassesOwn (model X.prog X.w) X.A X.env X.xe) (hc : ∀ j, VB X E own (emb j) c (mc j) vb (env j))
    (hb : ∀ j b, BS X E io fr own (env j b) body (mb j b) (postO emb) own) (h0 : ρ = emb j0 := by rfl) (hx : ∀ j b, env j b = emb (out j b) := by intro _ _; rfl) :
    SS X E io fr own ρ (.While c body [] pos) (whX mc vb mb out j0) (postO emb) own := by
  subst h0
  let tb : TS := fun Dn σ H => ∃ j b, rdS X.K X.mg E io fr own (env j b) (mb j b) (postO emb) own Dn σ H
  have hbody : PSs X body tb := ⟨fun pins s σ H Dn I ⟨j, b, hq⟩ => (hb j b).run pins s σ H Dn I hq⟩
  let tc : TT := fun σ H Q => ∃ j, rdVB X.K X.mg E own (emb j) (mc j) vb (env j) σ H Q
  have hcond : PT X c tc := ⟨fun pins s σ H Q I ⟨j, hq⟩ => (hc j).run pins s σ H Q I hq⟩
  refine ps_weak (ps_while hpass hcond hbody) fun Dn σ H hq => ?_
  obtain ⟨G0, H0, A0, ad0, G, er, f, q⟩ := hq
  have hne : whX mc vb mb out j0 ≠ .no := fun z => by rw [z] at q; exact q.elim
  obtain ⟨n0, e0⟩ := whX_some hne
  rw [e0] at q
  refine ⟨fun n σ H => ∃ j ad G2, Er X.K own (emb j) ad σ G2 H ∧ Fr0 io G0 H0 A0 own ad G2 H ∧ PostR X.K X.mg E io fr G0 H0 A0 own (whO mc vb mb out n j) (postO emb) Dn, ⟨n0, j0, ad0, G, er, f, q⟩, ?_⟩
  rintro n σ1 H1 ⟨j, ad, G1, er1, f1, q1⟩
  refine ⟨j, ad, G1, er1, ?_⟩
  cases n with
  | zero => exact q1.elim
  | succ n =>
    have q2 : PostR X.K X.mg E io fr G0 H0 A0 own ((mc j).bind fun b => if vb b = true then (mb j b).bind fun o => match o with
      | .nx j' => whO mc vb mb out n j'
      | .rt t b => .ok (.rt t b)
      | .bk j' => .ok (.nx j') else .ok (.nx (out j b))) (postO emb) Dn := q1
    cases em : mc j with
    | no => rw [em] at q2; exact q2.elim
    | ex c' => rw [em] at q2; exact fun H' s => q2 H' fun b o e hne => s _ _ (f1.h0 b o e hne)
    | ok b =>
      rw [em] at q2
      intro G2 H2 er2 fr2
      have f2 := f1.next er1 fr2 er2
      have q3 : PostR X.K X.mg E io fr G0 H0 A0 own (if vb b = true then (mb j b).bind fun o => match o with
        | .nx j' => whO mc vb mb out n j'
        | .rt t b => .ok (.rt t b)
        | .bk j' => .ok (.nx j') else .ok (.nx (out j b))) (postO emb) Dn := q2
      cases hv : vb b with
      | false =>
        rw [hv, if_neg Bool.false_ne_true] at q3
        rw [if_neg Bool.false_ne_true]
        rw [hx] at er2
        exact q3 ad σ1 G2 H2 er2 f2
      | true =>
        rw [hv, if_pos rfl] at q3
        rw [if_pos rfl]
        refine ⟨fun σ' H' => ∃ j ad G2, Er X.K own (emb j) ad σ' G2 H' ∧ Fr0 io G0 H0 A0 own ad G2 H' ∧ PostR X.K X.mg E io fr G0 H0 A0 own (whO mc vb mb out n j) (postO emb) Dn, fun σ' H' hN => ⟨n, Nat.lt_succ_self n, hN⟩, j, b, G0, H0, A0, ad, G2, er2, f2, ?_⟩
        cases eb : mb j b with
        | no => rw [eb] at q3; exact q3.elim
        | ex c => rw [eb] at q3; exact q3
        | ok o =>
          rw [eb] at q3
          cases o with
          | nx j' => exact fun ad' σ' G' H' er' f' => ⟨j', ad', G', er', f', q3⟩
          | rt t b => exact q3
          | bk j' => exact fun ad' σ' G' H' er' f' => q3 ad' σ' G' H' er' f'
end
/-! ### a def -/
def startE (N : List Str) (ts : List D) : En := ts.map some ++ List.replicate (N.length - ts.length) none
theorem getN_none {α : Type} : ∀ {n i : Nat} {t : α}, getN (List.replicate n (none : Option α)) i ≠ some t
  | 0, _, _, h => by cases h
  | _ + 1, 0, _, h => by cases h
  | n + 1, i + 1, _, h => getN_none (n := n) (i := i) h
theorem start_get {K : PySem.W.Frag} {G : Hp} {m : Nat} : ∀ {vs : List V} {ts : List D} {i : Nat} {t : D}, RepAll K G vs ts → getN (ts.map some ++ List.replicate m none) i = some t → ∃ v, (vs.map some ++ List.replicate m none)[i]? = some (some v) ∧ Rep K G v t
  | [], _, i, t, .nil, h => absurd h getN_none
  | v :: vs, d :: ds, 0, t, .cons r _, h => by
    cases h
    exact ⟨v, rfl, r⟩
  | v :: vs, d :: ds, i + 1, t, .cons _ q, h => by
    obtain ⟨w, e, r⟩ := start_get (i := i) (t := t) q h
    exact ⟨w, e, r⟩
theorem start_len {K : PySem.W.Frag} {G : Hp} {N : List Str} {vs : List V} {ts : List D} (h : RepAll K G vs ts) : (startE N ts).length = (L2.start N vs).length := by
  unfold startE L2.start
  rw [List.length_append, List.length_append, List.length_map, List.length_map, List.length_replicate, List.length_replicate, h.length]
theorem Er.start {K : PySem.W.Frag} {G H : Hp} {N : List Str} {vs : List V} {ts : List D} {ad : Nat → Addr} (sa : Same G H) (h : RepAll K G vs ts) : Er K [] (startE N ts) ad (L2.start N vs) G H where
  len := start_len h
  gh := sa
  fz := fun i t e _ => by
    unfold startE at e
    unfold L2.start
    rw [h.length]
    exact start_get h e
  ow := fun _ h => nomatch h
  inj := fun _ h => nomatch h
theorem Er.startB {K : PySem.W.Frag} {G H : Hp} {N : List Str} {a : Addr} {b : D} {vs : List V} {ts : List D} (sa : Same G H) (o : OwnAt K G H a b) (h : RepAll K G vs ts) : Er K [0] (startE N (b :: ts)) (fun _ => a) (L2.start N (.ref a :: vs)) G H where
  len := by
    unfold startE L2.start
    simp only [List.length_append, List.length_map, List.length_replicate, List.length_cons, h.length]
  gh := sa
  fz := fun i t e hi => by
    cases i with
    | zero => exact absurd List.mem_cons_self hi
    | succ i =>
      have e' : getN (ts.map some ++ List.replicate (N.length - (ts.length + 1)) none) i = some t := e
      obtain ⟨v, e2, r⟩ := start_get h e'
      refine ⟨v, ?_, r⟩
      rw [← h.length] at e2
      exact e2
  ow := fun i hi => by
    obtain rfl := List.mem_singleton.mp hi
    exact ⟨b, rfl, rfl, o⟩
  inj := fun i hi j hj _ => (List.mem_singleton.mp hi).trans (List.mem_singleton.mp hj).symm
section
variable {P : Program} {w : World} {K : PySem.W.Frag} {mg : Str → Option Value} {base : Heap}
theorem cal_fn {k : Nat} {x : Str} {np : Nat} {fr : Md} {st : Stmt} {f : Addr} {fd : FuncData} {N ps : List Str} {mf : List D → R D} (F : Fun K x x st f fd) (S : FnScope N ps (defScope st)) (hb : Binds K fd ps []) (hm : mg x = some (.ref f)) (hnp : np = ps.length)
    (hbody : ∀ (cdv : Value) (A : Around) (outer : List Env) (s : Shared) (H : Hp) (E : XK), Room k (A.deeper (envOfC x (defScope st) s.heap.objs.size f cdv)) → ∀ ts : List D, ts.length = np →
      BS (cxOf (L2N.CX P w) P w K mg base N x (defScope st) f cdv A outer s H E) E false fr [] (startE N ts) (defBody st) (mf ts) (fun t => .rt t .none) []) :
    CalOk P w K mg base (k + 1) x (spP K mg np fr mf) := by
  refine ⟨f, fd, ps, okN F S (fun vs H Q E h => h.1.trans hnp) fun cdv A outer s H vs Q E hr h => ?_, hm, F.kp, hb⟩
  obtain ⟨hl, G, ts, sa, ra, q⟩ := h
  refine ⟨_, hbody cdv A outer s H E hr ts (by rw [← ra.length]; exact hl), G, H, 0, fun _ => 0, G, Er.start sa ra, ⟨Same.refl _, fun _ _ e _ => e, fun _ h _ => h, (fun _ h => nomatch h), (fun z => nomatch z)⟩, ?_⟩
  cases em : mf ts with
  | no => rw [em] at q; exact q.elim
  | ex c => rw [em] at q; exact fun H' h => q H' fun b o e => h b o e fun z => nomatch z
  | ok t =>
    rw [em] at q
    exact fun v G' H' r => q v G' H' ⟨r.g0, r.gh, (fun b o e => r.h0 b o e (fun z => nomatch z)), r.nw⟩ r.an
theorem cal_box {k : Nat} {x : Str} {np : Nat} {fr : Md} {st : Stmt} {f : Addr} {fd : FuncData} {N ps : List Str} {mf : D → List D → R (D × D)} (F : Fun K x x st f fd) (S : FnScope N ps (defScope st)) (hb : Binds K fd ps []) (hm : mg x = some (.ref f)) (hnp : np = ps.length)
    (hbody : ∀ (cdv : Value) (A : Around) (outer : List Env) (s : Shared) (H : Hp) (E : XK), Room k (A.deeper (envOfC x (defScope st) s.heap.objs.size f cdv)) → ∀ (b : D) (ts : List D), ts.length + 1 = np →
      BS (cxOf (L2N.CX P w) P w K mg base N x (defScope st) f cdv A outer s H E) E true fr [0] (startE N (b :: ts)) (defBody st) (mf b ts) (fun p => .rt p.1 p.2) []) :
    CalOk P w K mg base (k + 1) x (spB K np fr mf) := by
  refine ⟨f, fd, ps, okN F S (fun vs H Q E h => h.1.trans hnp) fun cdv A outer s H vs Q E hr h => ?_, hm, F.kp, hb⟩
  obtain ⟨hl, G, a, ws, b, ts, rfl, sa, o, ra, t, b', em, q⟩ := h
  refine ⟨_, hbody cdv A outer s H E hr b ts (by rw [← ra.length]; exact hl), G, H, a, fun _ => a, G, Er.startB sa o ra, ⟨Same.refl _, fun _ _ e _ => e, fun _ h _ => h, fun i hi => .inr ⟨rfl, rfl⟩, fun _ => ⟨List.mem_cons_self, rfl⟩⟩, ?_⟩
  rw [em]
  exact fun v G' H' r => q v G' H' r.g0 r.gh (fun c o e hne => r.h0 c o e fun _ => hne) r.nw (r.bx rfl) r.an
theorem pass_cx {N : List Str} {x : Str} {sc : Scope} {f : Addr} {cdv : Value} {A : Around} {outer : List Env} {s : Shared} {H : Hp} {E : XK} : Passes (L2N.CX P w) (cxOf (L2N.CX P w) P w K mg base N x sc f cdv A outer s H E) E :=
  L2N.passes_call (L2N.takes_of rfl rfl rfl rfl) fun _ _ _ _ h => h
theorem own_cx {N : List Str} {x : Str} {sc : Scope} {f : Addr} {cdv : Value} {A : Around} {outer : List Env} {s : Shared} {H : Hp} {E : XK} : PassesOwn (model P w) (cxOf (L2N.CX P w) P w K mg base N x sc f cdv A outer s H E).A (cxOf (L2N.CX P w) P w K mg base N x sc f cdv A outer s H E).env (cxOf (L2N.CX P w) P w K mg base N x sc f cdv A outer s H E).xe :=
  passes_of (X := cxOf (L2N.CX P w) P w K mg base N x sc f cdv A outer s H E) rfl
end
end TL
/-! the tree layer, 17: joints for the printed terms -/
namespace TL
open PySem PySem.Spec PyProof.Rows L2
section
variable {X : Cx} {E : XK} {ρ : En} {e tg : Expr}
theorem xq {m m' : R D} (h : XP X E ρ e m) (q : m' = m := by rfl) : XP X E ρ e m' := q ▸ h
theorem xqF {m m' : R D} (h : XF X E ρ e m) (q : m' = m := by rfl) : XF X E ρ e m' := q ▸ h
theorem xqB {m m' : R Bool} (h : XB X E ρ e m) (q : m' = m := by rfl) : XB X E ρ e m' := q ▸ h
theorem xqI {m m' : R (List D)} (h : XI X E ρ tg e m) (q : m' = m := by rfl) : XI X E ρ tg e m' := q ▸ h
end
section
variable {X : Cx} {own : List Nat} {S : Type} {emb : S → En} {e tg : Expr}
theorem jq {m m' : S → R (D × S)} (h : JP X own emb e m) (q : m' = m := by rfl) : JP X own emb e m' := q ▸ h
theorem jqF {m m' : S → R (D × S)} (h : JF X own emb e m) (q : m' = m := by rfl) : JF X own emb e m' := q ▸ h
theorem jqB {m m' : S → R (Bool × S)} (h : JB X own emb e m) (q : m' = m := by rfl) : JB X own emb e m' := q ▸ h
theorem jqI {m m' : S → R (List D × S)} (h : JI X own emb tg e m) (q : m' = m := by rfl) : JI X own emb tg e m' := q ▸ h
theorem lq {elt tg iter : Expr} {ifs : List Expr} {scope : Scope} {K : PySem.W.Frag} {mg : Str → Option Value} {E : XK} {ρ : En} {m m' : R D} (h : LCx X elt tg iter ifs scope (rdF K mg E ρ m)) (q : m' = m := by rfl) : LCx X elt tg iter ifs scope (rdF K mg E ρ m') := q ▸ h
theorem ljq {elt tg iter : Expr} {ifs : List Expr} {scope : Scope} {K : PySem.W.Frag} {m m' : S → R (D × S)} (h : LCx X elt tg iter ifs scope (rdJF K own emb m)) (q : m' = m := by rfl) : LCx X elt tg iter ifs scope (rdJF K own emb m') := q ▸ h
end
section
variable {X : Cx} {E : XK} {io : Bool} {fr : Md} {own own' own1 : List Nat} {ρ ρe ρ' : En} {A B : Type} {st : Stmt} {rest : List Stmt} {post : A → Fin} {post1 : B → Fin} {e : Expr} {pos : Pos}
theorem bs_seqP {J : Type} {emb : J → En} {m1 : R (Oc J)} (ret : D → D → A) {k : J → R A} (h1 : SS X E io fr own ρ st m1 (postO emb) own1) (h2 : ∀ j, BS X E io fr own1 (emb j) rest (k j) post own') (hr : ∀ t b, post (ret t b) = .rt t b := by intro _ _; rfl) : BS X E io fr own ρ (st :: rest) (thenO m1 ret k) post own' := by
  refine ⟨fun pins s σ H Dn I hq => ?_⟩
  obtain ⟨G0, H0, A0, ad, G, er, f, q⟩ := hq
  cases em : m1 with
  | no => rw [em] at q; exact q.elim
  | ex c => exact (pss_cons h1 (pss_never (sts := rest))).run pins s σ H Dn I ⟨G0, H0, A0, ad, G, er, f, by rw [em] at q ⊢; exact q⟩
  | ok o =>
    cases o with
    | nx j =>
      rw [em] at q
      exact (pss_cons h1 (h2 j)).run pins s σ H Dn I ⟨G0, H0, A0, ad, G, er, f, by
        rw [em]
        exact fun ad' σ' G' H' er' f' => ⟨G0, H0, A0, ad', G', er', f', q⟩⟩
    | rt t b =>
      rw [em] at q
      have q' : Post X.K io fr G0 H0 A0 own' Dn (post (ret t b)) := q
      rw [hr] at q'
      exact (pss_cons h1 (pss_never (sts := rest))).run pins s σ H Dn I ⟨G0, H0, A0, ad, G, er, f, by rw [em]; exact q'⟩
    | bk j => rw [em] at q; exact q.elim
/-- a loop or an if may have returned, no box -/
theorem bs_seqN {J : Type} {emb : J → En} {m1 : R (Oc J)} (ret : D → D → A) {k : J → R A} (h1 : SS X E false fr own ρ st m1 (postO emb) own1) (h2 : ∀ j, BS X E false fr own1 (emb j) rest (k j) post own') (hr : ∀ t b, ∃ b', post (ret t b) = .rt t b' := by intro _ _; exact ⟨_, rfl⟩) : BS X E false fr own ρ (st :: rest) (thenO m1 ret k) post own' := by
  refine ⟨fun pins s σ H Dn I hq => ?_⟩
  obtain ⟨G0, H0, A0, ad, G, er, f, q⟩ := hq
  cases em : m1 with
  | no => rw [em] at q; exact q.elim
  | ex c => exact (pss_cons h1 (pss_never (sts := rest))).run pins s σ H Dn I ⟨G0, H0, A0, ad, G, er, f, by rw [em] at q ⊢; exact q⟩
  | ok o =>
    cases o with
    | nx j =>
      rw [em] at q
      exact (pss_cons h1 (h2 j)).run pins s σ H Dn I ⟨G0, H0, A0, ad, G, er, f, by
        rw [em]
        exact fun ad' σ' G' H' er' f' => ⟨G0, H0, A0, ad', G', er', f', q⟩⟩
    | rt t b =>
      rw [em] at q
      have q' : Post X.K false fr G0 H0 A0 own' Dn (post (ret t b)) := q
      obtain ⟨b', eb⟩ := hr t b
      rw [eb] at q'
      exact (pss_cons h1 (pss_never (sts := rest))).run pins s σ H Dn I ⟨G0, H0, A0, ad, G, er, f, by rw [em]; exact fun v G' H' r => q' v G' H' ⟨r.gh, r.g0, r.h0, r.nw, r.an, fun z => nomatch z⟩⟩
    | bk j => rw [em] at q; exact q.elim
/-- the readings of a comprehension for a name on one line -/
theorem lv_p {elt tg iter : Expr} {ifs : List Expr} {scope : Scope} {m : R D} (h : LCx X elt tg iter ifs scope (rdF X.K X.mg E ρe m)) (hb : Bor own ρ ρe m := by exact bor_nil) : LCx X elt tg iter ifs scope (rdV X.K X.mg E own ρ m (fun t => t) (fun _ => ρ)) := h.map fun σ H Q q => xpf_rd σ H Q (vp_rd hb σ H Q q)
theorem lv_fp {elt tg iter : Expr} {ifs : List Expr} {scope : Scope} {m : R D} (h : LCx X elt tg iter ifs scope (rdF X.K X.mg E ρe m)) (hb : BorF own ρ ρe m := by exact borF_nil) : LCx X elt tg iter ifs scope (rdVF X.K X.mg E own ρ m (fun t => t) (fun _ => ρ)) := h.map fun σ H Q q => vf_rd hb σ H Q q
theorem lv_j {elt tg iter : Expr} {ifs : List Expr} {scope : Scope} {S : Type} {emb : S → En} {m : S → R (D × S)} (s : S) (h : LCx X elt tg iter ifs scope (rdJF X.K own emb m)) : LCx X elt tg iter ifs scope (rdV X.K X.mg E own (emb s) (nox (m s)) (fun p => p.1) (fun p => emb p.2)) := h.map fun σ H Q q => jpf_rd σ H Q (vpj_rd s σ H Q q)
theorem lx_nf {elt tg iter : Expr} {ifs : List Expr} {scope : Scope} {m : R D} (h : LCx X elt tg iter ifs scope (rdF X.K X.mg E ρ m)) : LCx X elt tg iter ifs scope (rdF X.K X.mg E ρ (nf m)) := h.map fun σ H Q ⟨G, s, ep, q⟩ => ⟨G, s, ep, by
  cases m with
  | no => exact q
  | ex c => exact q
  | ok t =>
    simp only [nf, R.ok_bind] at q
    split at q
    · exact q
    · exact q.elim⟩
end
/-! ### a block that never goes on -/
def Nev {A : Type} (m : R A) (post : A → Fin) : Prop := ∀ a, m = .ok a → ∀ ρ', post a ≠ .nx ρ'
theorem nev_rt {J : Type} {emb : J → En} {t b : D} : Nev (R.ok (Oc.rt t b)) (postO emb) := fun a h ρ' e => by
  cases h
  cases e
theorem nev_bk {J : Type} {emb : J → En} {j : J} : Nev (R.ok (Oc.bk j)) (postO emb) := fun a h ρ' e => by
  cases h
  cases e
theorem nev_bind {A B : Type} {m : R A} {f : A → R B} {post : B → Fin} (h : ∀ a, Nev (f a) post) : Nev (m.bind f) post := fun a e => by
  cases m with
  | no => exact nomatch e
  | ex c => exact nomatch e
  | ok x => exact h x a e
theorem nev_ite {A : Type} {c : Prop} [Decidable c] {m n : R A} {post : A → Fin} (h1 : Nev m post) (h2 : Nev n post) : Nev (if c then m else n) post := by
  split
  · exact h1
  · exact h2
theorem nev_then {A J J2 : Type} {m : R (Oc J)} {emb : J2 → En} {k : J → R (Oc J2)} (h : ∀ j, Nev (k j) (postO emb)) : Nev (thenO m (fun t b => Oc.rt t b) k) (postO emb) := nev_bind fun o => by
  cases o with
  | nx j => exact h j
  | rt t b => exact nev_rt
  | bk j => exact fun _ e => nomatch e
/-! ### the end of a law -/
theorem rep_true {K : PySem.W.Frag} {G : Hp} {v : V} (h : Rep K G v (.bool true)) : v = .bl true := by
  cases h
  rfl
def scrD (ns : List Int) : D := .dict [(.none, .list (ns.map .int))]
end TL
/-! the tree layer, 18: more of what changes slots -/
namespace TL
open PySem PySem.Spec PyProof.Rows L2
def ixO : D → D → R D
  | .list ts, .int i => match atI ts i with
    | some t => .ok t
    | none => .no
  | _, _ => .no
section
variable {X : Cx} {own : List Nat} {S : Type} {emb : S → En} {x : Str} {p pos : Pos} {b : Expr}
/-- x[b], x an owned slot -/
theorem jp_ixO {get : S → D} {mb : S → R (D × S)} (i : Nat) (hb : JP X own emb b mb) (hg : ∀ s, getN (emb s) i = some (get s) := by intro _; rfl) (hi : i ∈ own := by decide) (hN : X.N[i]? = some x := by rfl) (hv : Vis X.env.scope x := by first | exact Or.inl rfl | exact Or.inr (Or.inl rfl) | exact Or.inr (Or.inr rfl)) (hd : (x == ("__debug__" : Str)) = false := by decide)
    (hcd : (x == ("__classdict__" : Str)) = false := by decide) (hs : PlainIx b := by exact fun _ _ => rfl) : JP X own emb (.Subscript (.Name x p) b pos) (fun s => (mb s).bind fun q => (ixO (get q.2) q.1).bind fun z => .ok (z, q.2)) :=
  pe_weak (pe_ix ix_list (pe_var hN hv hd hcd) hb hs) fun σ H Q hq => by
    obtain ⟨s, ad, G, er, t, s', e, q⟩ := hq
    obtain ⟨t0, e0, es0, o0⟩ := er.ow i hi
    refine ⟨_, es0, s, ad, G, er, ?_⟩
    dsimp only at e
    cases em : mb s with
    | no => rw [em] at e; exact nomatch e
    | ex c => rw [em] at e; exact nomatch e
    | ok r =>
      rw [em] at e
      simp only [R.ok_bind] at e
      refine ⟨r.1, r.2, rfl, fun v G' H' er' fr' rv => ?_⟩
      have ei := hg r.2
      cases eg : get r.2 with
      | list ts =>
        rw [eg] at e ei
        cases ek : r.1 with
        | int k =>
          rw [ek] at e rv
          cases rv
          simp only [ixO] at e
          cases ea : L2.atI ts k with
          | none => rw [ea] at e; exact nomatch e
          | some u =>
            rw [ea] at e
            cases e
            obtain ⟨xs, es, eh, rr⟩ := er'.ownL hi ei
            obtain ⟨w, ew, rw'⟩ := rr.atI ea
            exact ⟨_, xs, k, w, rfl, rfl, SqL.of eh, ew, q w G' H' er' fr' rw'⟩
        | none | bool _ | str _ | tuple _ | dict _ | list _ => rw [ek] at e; exact nomatch e
      | none | bool _ | int _ | str _ | tuple _ | dict _ => rw [eg] at e; cases r.1 <;> exact nomatch e
end
section
variable {P : Program} {w : World} {K : PySem.W.Frag} {mg : Str → Option Value} {base : Heap}
/-- as cal_fn, for the law itself -/
theorem fn_fn {k : Nat} {x : Str} {np : Nat} {fr : Md} {st : Stmt} {f : Addr} {fd : FuncData} {N ps : List Str} {mf : List D → R D} (F : Fun K x x st f fd) (S : FnScope N ps (defScope st)) (hnp : np = ps.length)
    (hbody : ∀ (cdv : Value) (A : Around) (outer : List Env) (s : Shared) (H : Hp) (E : XK), Room k (A.deeper (envOfC x (defScope st) s.heap.objs.size f cdv)) → ∀ ts : List D, ts.length = np →
      BS (cxOf (L2N.CX P w) P w K mg base N x (defScope st) f cdv A outer s H E) E false fr [] (startE N ts) (defBody st) (mf ts) (fun t => .rt t .none) []) :
    FnOk P w K mg base (L2N.CX P w) (k + 1) f fd ps (spP K mg np fr mf) := by
  refine okN F S (fun vs H Q E h => h.1.trans hnp) fun cdv A outer s H vs Q E hr h => ?_
  obtain ⟨hl, G, ts, sa, ra, q⟩ := h
  refine ⟨_, hbody cdv A outer s H E hr ts (by rw [← ra.length]; exact hl), G, H, 0, fun _ => 0, G, Er.start sa ra, ⟨Same.refl _, fun _ _ e _ => e, fun _ h _ => h, (fun _ h => nomatch h), (fun z => nomatch z)⟩, ?_⟩
  cases em : mf ts with
  | no => rw [em] at q; exact q.elim
  | ex c => rw [em] at q; exact fun H' h => q H' fun b o e => h b o e fun z => nomatch z
  | ok t =>
    rw [em] at q
    exact fun v G' H' r => q v G' H' ⟨r.g0, r.gh, (fun b o e => r.h0 b o e (fun z => nomatch z)), r.nw⟩ r.an
theorem cx_end {w : World} {H : Hp} {s : Shared} {e : Value} {s' : Shared} (h : L2N.CX P w [] H s (fun _ _ _ => False) e s') : False := by
  obtain ⟨_, _, _, _, _, _, _, _, _, _, _, _, z⟩ := h
  exact z
end
end TL
/-! the tree layer: enumerate of a tuple -/
namespace TL
open PySem PySem.Spec PyProof.Rows L2
/-- the new iterator over the tuple at l; the enumerate object over it -/
abbrev obTi (l : Addr) : Obj := { cls := .type "tuple_iterator", data := .fields #[.ref l, .int 0 0] }
abbrev obEn (i : Addr) : Obj := { cls := .type "enumerate", data := .fields #[.none, .bool false, .ref i, rawInt 0, .none, .none] }
theorem en_newT (l : Addr) (items : Array Value) (n : Nat) (dct : Option Addr) (sl : Array (Option Value)) : Meets (Builtin.«enumerate.__new__» ⟨[.type "enumerate", .ref l], []⟩) (fun _ R s => s.heap.get? l = some { cls := .type "tuple", dict := dct, data := .seq items n, slots := sl } ∧ R (.ok (.ret (.ref (s.heap.push (obTi l)).objs.size))) { s with heap := (s.heap.push (obTi l)).push (obEn s.heap.objs.size) }) :=
  .of_wp fun prog w A R ⟨hp, g, d, tk, os⟩ ⟨hl, h⟩ => by
    have hsub := sub_enumerate
    have hL : Heap.IsTuple (Shared.heap ⟨hp, g, d, tk, os⟩) l items := ⟨_, hl, rfl, n, rfl⟩
    wp_walk using AutoSeq1.wpAny_loadPart' hl
    refine wpAny_stack_any fun stk => wpAny_pure (by
      split
      · rename_i c _ _ _ _ _
        cases (c == Value.type "enumerate") <;> (wp_walk using AutoSeq1.wpAny_loadPart' hl, wpAny_pyIter_tuple hL) <;> exact ⟨_, rfl, h⟩
      · (wp_walk using AutoSeq1.wpAny_loadPart' hl, wpAny_pyIter_tuple hL) <;> exact ⟨_, rfl, h⟩)
section
variable {prog : Program} {w : World} {A : Around} {E : Value → Shared → Prop} {s : Shared}
theorem en_callT {l : Addr} {items : Array Value} {Q : Value → Shared → Prop} (hL : s.heap.IsTuple l items) (h : ∀ h', IsEnum h' (s.heap.objs.size + 1) s.heap.objs.size 0 .none → h'.IsTupleIter s.heap.objs.size l 0 → h'.objs.size = s.heap.objs.size + 2 → (∀ b o, s.heap.get? b = some o → h'.get? b = some o) → Q (.ref (s.heap.objs.size + 1)) { s with heap := h' }) :
    wpAny (model prog w) A (call (.type "enumerate") [.ref l]) Q E s := by
  obtain ⟨⟨c, dct, dt, sl⟩, hl, hc, n, hd⟩ := hL
  simp only at hc hd
  subst hc
  subst hd
  have hz : (s.heap.push (obTi l)).objs.size = s.heap.objs.size + 1 := Heap.size_push ..
  have he : IsEnum ((s.heap.push (obTi l)).push (obEn s.heap.objs.size)) (s.heap.objs.size + 1) s.heap.objs.size 0 .none := by
    have hp := Heap.get?_push_size (s.heap.push (obTi l)) (o := obEn s.heap.objs.size) rfl
    rw [hz] at hp
    exact hp
  refine callType_new F.called_enumerate (by decide) (F.typeCall_enumerate_1 _) (F.newCall_enumerate_1 _) (fun obj => F.args_object_init_2 obj _) F.entry_enumerate_new (en_newT l items n dct sl) ⟨hl, ?_⟩
  show _ ∧ _
  rw [hz]
  exact ⟨⟨_, he, rfl⟩, h _ he ⟨_, Heap.get?_push_of_some _ (Heap.get?_push_size _ rfl), rfl, rfl⟩ (by rw [Heap.size_push, hz]) fun b o x => Heap.get?_push_of_some _ (Heap.get?_push_of_some _ x)⟩
end
/-- the list or tuple at a, each item in a new pair with its place -/
def IteU (K : PySem.W.Frag) (k : Kd) (a : Addr) : It :=
  ⟨fun i H => ∃ (xs : List V) (x : V), SqK k K H a xs ∧ xs[i]? = some x, fun i H v H' => ∃ T x u, v = .ref T ∧ H T = none ∧ TupH u [.int (i : Nat), x] ∧ H' = upd H T u ∧ ∀ xs, SqK k K H a xs → xs[i]? = some x, fun i H => ∃ xs : List V, SqK k K H a xs ∧ xs.length = i⟩
def InT (k : Kd) (a e it : Addr) (i : Nat) (h : Heap) : Prop := (∃ old, IsEnum h e it ((i : Nat) : Int) old) ∧ IsIt k h it a i ∧ e ≠ it ∧ a ≠ it ∧ e ≠ a
theorem turn_enT {P : Program} {w : World} {K : PySem.W.Frag} {elts : List Expr} {kk : Nat} {tpos : Pos} (k : Kd) (a e it : Addr) : Turn P w K (.Tuple elts kk tpos) (IteU K k a) [e, it] e (InT k a e it) where
  mem := by simp
  obj := fun i h ⟨⟨old, he⟩, hi, _⟩ b hb => by
    rcases (by simpa using hb : b = e ∨ b = it) with rfl | rfl
    · exact ⟨_, he, fun v q => nomatch q⟩
    · exact hi.obj
  keep := fun i h h' ⟨⟨old, he⟩, hi, hr⟩ q => ⟨⟨old, q e (by simp) _ he⟩, hi.keep fun o z => q it (by simp) o z, hr⟩
  item := by
    intro X hP hw hK hc i pins s σ H E I hf ⟨⟨old, he⟩, hit, hne, hai, hea⟩ hg
    subst hP hw hK
    obtain ⟨xs, x, hq, hx⟩ := hg
    obtain ⟨its, rv, p, hz, _⟩ := hq.is I
    obtain ⟨u, hu, ru⟩ := rv.get hx
    have hel : e < s.heap.objs.size := Heap.lt_size he
    have hil : it < s.heap.objs.size := let ⟨_, q, _⟩ := hit.obj; Heap.lt_size q
    have lt : i < its.toArray.size := by
      rw [List.size_toArray]
      exact (List.getElem?_eq_some_iff.mp hu).1
    refine wpAny_pyNext_enum_itemD (drawsK k (A := X.A.in1) (I.ok.hd hc) it a hai its.toArray) he ⟨hit, p⟩ lt hne (by simp [hne, hea]) fun v h' tk hv ho ⟨hit', _⟩ hT hsz hk => ?_
    obtain rfl : v = u := by
      have : its[i]? = some v := by simpa using hv
      rw [hu] at this
      exact (Option.some.inj this).symm
    refine ⟨_, rfl, wpAny_letOwnedTupleGo_enum (s := { s with heap := h', toks := tk + 1 }) ho fun h'' he' sb => ?_⟩
    have hT2 : h''.get? s.heap.objs.size = some { cls := .type "tuple", data := .seq #[.int i tk, v] } := (sb.2 _ (Nat.ne_of_gt hel)).trans hT
    have new : ObjOk X.prog X.w (upd H s.heap.objs.size (.frz { cls := .type "tuple", data := .seq #[.int i tk, v] } (.tup [.int (i : Nat), x]))) h'' s.heap.objs.size (.frz { cls := .type "tuple", data := .seq #[.int i tk, v] } (.tup [.int (i : Nat), x])) := okU (its := [.int i tk, v]) (by show 2 ≤ sizeLine; decide) (.cons ⟨_, rfl⟩ (.cons ru .nil)) hT2 rfl rfl
    have I1 : Inv X pins σ (upd H s.heap.objs.size (.frz { cls := .type "tuple", data := .seq #[.int i tk, v] } (.tup [.int (i : Nat), x]))) { s with heap := h'', toks := tk + 1 } := I.turnedNew (ch := [e, it]) (fun b ob hb q => (sb.2 b (fun z => hb (by simp [z]))).trans (hk b ob (fun z => hb (by simp [z])) (fun z => hb (by simp [z])) q)) hf (Nat.le_refl _) new
    refine ⟨.ref s.heap.objs.size, _, I1, rfl, ⟨_, x, _, rfl, I.hok.fresh (Nat.le_refl _), ⟨_, ⟨rfl, rfl⟩, rfl⟩, rfl, fun ys hy => by rw [hy.inj hq I]; exact hx⟩, ⟨⟨v, ?_⟩, hit'.keep fun o q => (sb.2 it (Ne.symm hne)).trans q, hne, hai, hea⟩, fun b hb => ?_⟩
    · rw [show ((i + 1 : Nat) : Int) = (i : Int) + 1 by omega]
      exact he'
    · have hb' : b < s.heap.objs.size := by rcases (by simpa using hb : b = e ∨ b = it) with rfl | rfl <;> assumption
      rw [upd_ne (Nat.ne_of_lt hb')]
      exact (hf b hb).1
  done := by
    intro X hP hw hK hc i pins s σ H E I hf ⟨⟨old, he⟩, hit, hne, hai, hea⟩ hg
    subst hP hw hK
    obtain ⟨xs, hq, hx⟩ := hg
    obtain ⟨its, rv, p, hz, _⟩ := hq.is I
    obtain ⟨f0, f1, f2, f3, f4, f5⟩ := hf it (by simp)
    have hl := rv.length
    have en : i = its.toArray.size := by
      rw [List.size_toArray, ← hl]
      exact hx.symm
    refine wpAny_pyNext_enum_endD (drawsK k (A := X.A.in1) (I.ok.hd hc) it a hai its.toArray) he ⟨by rw [← en]; exact hit, p⟩ fun h' eb => ⟨rfl, I.turned (t' := s.toks) (fun b o hb q => eb b o hb q) f0 f1 f3 f4 f5⟩
  self := fun A i s Q E st h => let ⟨⟨_, he⟩, _⟩ := st; wpAny_pyIter_enum he h
def iEnU (K : PySem.W.Frag) (ta : TA) : TI := fun σ H R => ta σ H fun vs H1 => ∃ k a xs, vs = [.ref a] ∧ SqK k K H1 a xs ∧ R (IteU K k a) H1
theorem pi_enU {X : Cx} {e : Expr} {ta : TA} {p pos tpos : Pos} {elts : List Expr} {kk : Nat} (hg : Gl X "enumerate") (hm : X.mg "enumerate" = none) (ha : PA X [e] ta) (hs : starEach [e] X.env = [(false, eval e X.env)] := by rfl) : PI X (.Tuple elts kk tpos) (.Call (.Name "enumerate" p) [e] [] pos) (iEnU X.K ta) := ⟨fun pins s σ H R I h => by
  refine Call_ (ld_blt I hg hm boot_enumerate (PyProof.Rows.callWith_type1 (thn (ha.run pos pins s σ H _ I h) fun us s1 ⟨vs, H1, I1, r1, k, a, xs, ex, hq, q⟩ => ?_) hs rfl))
  subst ex
  cases Vals.ref1 r1
  obtain ⟨its, rv, pt, hz, hla⟩ := hq.is I1
  have fin : ∀ h' : Heap, IsEnum h' (s1.heap.objs.size + 1) s1.heap.objs.size 0 .none → IsIt k h' s1.heap.objs.size a 0 → (∀ b o, s1.heap.get? b = some o → h'.get? b = some o) → PIE X pins σ (.Tuple elts kk tpos) R (.ref (s1.heap.objs.size + 1)) { s1 with heap := h' } := fun h' he hit hk => by
    have I2 : Inv X pins σ H1 { s1 with heap := h' } := I1.kept (t' := s1.toks) hk
    refine ⟨s1.heap.objs.size + 1, [s1.heap.objs.size + 1, s1.heap.objs.size], _, _, H1, rfl, I2, turn_enT k a (s1.heap.objs.size + 1) s1.heap.objs.size, ⟨⟨.none, he⟩, hit, Nat.succ_ne_self _, Nat.ne_of_lt hla, Nat.ne_of_gt (Nat.lt_succ_of_lt hla)⟩, fun b hb => ?_, q⟩
    have hle : s1.heap.objs.size ≤ b := by
      rcases (by simpa using hb : b = s1.heap.objs.size + 1 ∨ b = s1.heap.objs.size) with z | z
      · rw [z]; exact Nat.le_succ _
      · rw [z]; exact Nat.le_refl _
    exact I1.fpOk hle (I1.hok.fresh hle)
  cases k with
  | t => exact en_callT pt fun h' he hit hsz hk => wpAny_pyIter_enum he (fin h' he hit hk)
  | l => exact call_enumerate_list pt fun h' he hit hsz hk => wpAny_pyIter_enum he (fin h' he hit hk)⟩
end TL
/-! the tree layer, 19: enumerate -/
namespace TL
open PySem PySem.Spec PyProof.Rows L2
/-- (0, x), (1, y), .. -/
def enumD (xs : List D) : List D := (List.range xs.length).zipWith (fun (k : Nat) x => PyData.tuple [.int (k : Int), x]) xs
def pyEnum : List D → R (List D)
  | [.list xs] => .ok (enumD xs)
  | [.tuple xs] => .ok (enumD xs)
  | _ => .no
theorem enumD_len {xs : List D} : (enumD xs).length = xs.length := by
  unfold enumD
  rw [List.length_zipWith, List.length_range]
  exact Nat.min_self _
theorem enumD_get {xs : List D} {i : Nat} {d : D} (h : (enumD xs)[i]? = some d) : ∃ a, xs[i]? = some a ∧ d = .tuple [.int (i : Int), a] := by
  unfold enumD at h
  rw [List.getElem?_zipWith] at h
  cases e2 : xs[i]? with
  | none => rw [e2] at h; cases e1 : (List.range xs.length)[i]? <;> rw [e1] at h <;> cases h
  | some a =>
    have hi : i < xs.length := (List.getElem?_eq_some_iff.mp e2).1
    rw [e2, List.getElem?_range hi] at h
    cases h
    exact ⟨a, rfl, rfl⟩
theorem itOk_enU {K : PySem.W.Frag} {G : Hp} {k : Kd} {a : Addr} {vs : List V} {ds : List D} (h : ∀ H, Same G H → SqK k K H a vs) (r : RepAll K G vs ds) : ItOk K (IteU K k a) G (enumD ds) where
  go := fun i H hi s => by
    rw [enumD_len, ← r.length] at hi
    exact ⟨vs, vs[i], h H s, List.getElem?_eq_getElem hi⟩
  stop := fun H s => ⟨vs, h H s, by rw [enumD_len, r.length]⟩
  yld := fun i x G2 H H' d e s s2 y => by
    obtain ⟨T, x1, u, rfl, nT, tu, rfl, f1⟩ := y
    obtain ⟨da, e1, rfl⟩ := enumD_get e
    obtain ⟨v, ev, rv⟩ := r.get e1
    have := (f1 vs (h _ (s.trans s2))).symm.trans ev
    cases this
    exact yld_pair s2 nT tu (.int _) (rv.mono s)
section
variable {X : Cx} {E : XK} {ρ : En}
theorem xi_enum {a : Expr} {elts : List Expr} {kk : Nat} {tpos p pos : Pos} {mk : CP} (hm : X.mg "enumerate" = none) (ha : XAk X E ρ [a] mk) (hg : Gl X "enumerate" := by rfl) (hs : starEach [a] X.env = [(false, eval a X.env)] := by rfl) : XI X E ρ (.Tuple elts kk tpos) (.Call (.Name "enumerate" p) [a] [] pos) (mk (List D) pyEnum) := by
  obtain ⟨m, e, hl, h⟩ := ha
  rw [e]
  refine ⟨fun pins s σ H Rr I hq => ?_⟩
  obtain ⟨G, sa, ep, q⟩ := hq
  cases em : m with
  | no => rw [em] at q; exact q.elim
  | ex c => rw [em] at h q; exact (pi_enU hg hm h hs).run pins s σ H Rr I ⟨G, sa, ep, q⟩
  | ok ts =>
    have hl1 := hl ts em
    rw [em] at h q
    match ts, hl1, q with
    | [.list xs], _, q =>
      refine (pi_enU hg hm (pa_len h) hs).run pins s σ H Rr I ⟨G, sa, ep, fun vs G1 H1 fr ra lo => ?_⟩
      obtain ⟨v, rfl, r1⟩ := repAll1 ra
      cases r1 with
      | lst h1 a1 => exact ⟨.l, _, _, rfl, same_lst fr.gh h1, q _ G1 H1 fr (by rw [enumD_len, ← a1.length]; exact lo _ List.mem_cons_self _ _ rfl (.inl (same_lst fr.gh h1))) (itOk_enU (fun H s => same_lst s h1) a1)⟩
    | [.tuple xs], _, q =>
      refine (pi_enU hg hm (pa_len h) hs).run pins s σ H Rr I ⟨G, sa, ep, fun vs G1 H1 fr ra lo => ?_⟩
      obtain ⟨v, rfl, r1⟩ := repAll1 ra
      cases r1 with
      | tup h1 a1 => exact ⟨.t, _, _, rfl, same_seqT fr.gh h1, q _ G1 H1 fr (by rw [enumD_len, ← a1.length]; exact lo _ List.mem_cons_self _ _ rfl (.inr (same_seqT fr.gh h1))) (itOk_enU (fun H s => same_seqT s h1) a1)⟩
    | [.none], _, q | [.bool _], _, q | [.str _], _, q | [.int _], _, q | [.dict _], _, q => exact q.elim
end
end TL
/-! the tree layer, 20: a, b = e -/
namespace TL
open PySem PySem.Spec PyProof.Rows L2
section
variable {X : Cx} {E : XK} {io : Bool} {fr : Md} {own : List Nat} {ρ : En} {A α : Type} {e tg : Expr} {pos : Pos}
theorem ss_asgG {sl : List Nat} {u : D → R α} {put : α → En → En} {m : R A} {val : A → D} {env : A → En} (he : VP X E own ρ e m val env) (hg : XG X tg sl u put) (hsl : ∀ i ∈ sl, i ∉ own := by decide) (hs : swapsWithSole [tg] e pos.line X.env = pure false := by rfl) (hw : swappedStores [tg] e X.env = pure none := by rfl)
    (h1 : (assignEach [tg] X.env).map (·.2) = [assign tg X.env] := by rfl) : SS X E io fr own ρ (.Assign [tg] e pos) (m.bind fun a => (nox (u (val a))).bind fun p => .ok (a, p)) (fun r => .nx (put r.2 (env r.1))) own :=
  ps_weak (ps_asg he hg hs hw h1) fun Dn σ H hq => by
    obtain ⟨G0, H0, A0, ad, G, er, f, q⟩ := hq
    refine ⟨ad, G, er, ?_⟩
    cases em : m with
    | no => rw [em] at q; exact q.elim
    | ex c => rw [em] at q; exact fun H' s => q H' fun b o e hne => s _ _ (f.h0 b o e hne)
    | ok a =>
      rw [em] at q
      intro v G' H' er' fr' r
      have f' := f.next er fr' er'
      have q1 : PostR X.K X.mg E io fr G0 H0 A0 own ((nox (u (val a))).bind fun p => .ok (a, p)) (fun r => .nx (put r.2 (env r.1))) Dn := q
      cases eu : u (val a) with
      | no => rw [eu] at q1; exact q1.elim
      | ex c => rw [eu] at q1; exact q1.elim
      | ok p =>
        rw [eu] at q1
        refine ⟨G', val a, p, er'.gh, r, eu, fun ps hp => ?_⟩
        refine q1 ad _ G' H' ?_ f'
        show Er X.K own (put p (env a)) ad _ G' H'
        rw [hp.eq]
        exact puts_er hp.rep (fun x hx => hsl _ (hp.sub x hx)) er'
end
section
variable {X : Cx} {E : XK} {ρ : En} {pos : Pos}
/-- {} -/
theorem ep_dict0 : XP X E ρ (.Dict [] [] pos) (.ok (.dict [])) := pe_weak pe_dnewK fun σ H Q ⟨G, s, ep, q⟩ p np => q _ _ _ (Fr.new s np) (.dK (.inl upd_same) rfl .nil)
end
end TL
/-! the tree layer: a tuple backwards -/
namespace TL
open PySem PySem.Spec PyProof.Rows L2 HT
theorem rev_pick (xs : Array Value) : ((List.range xs.size).filterMap fun (m : Nat) => xs[(((xs.size : Int) - 1) + (m : Int) * (-1)).toNat]?).toArray = xs.toList.reverse.toArray := by
  have e : (List.range xs.size).filterMap (fun (m : Nat) => xs[(((xs.size : Int) - 1) + (m : Int) * (-1)).toNat]?) = ((List.range xs.size).map fun k => xs.size - 1 - k).filterMap (xs[·]?) := by
    have e1 : ((List.range xs.size).map fun k => xs.size - 1 - k) = (List.range xs.size).map fun (m : Nat) => (((xs.size : Int) - 1) + (m : Int) * (-1)).toNat := List.map_congr_left fun m hm => by
      have := List.mem_range.mp hm
      omega
    rw [e1, List.filterMap_map]
    rfl
  rw [e, PySem.W.krv_range, List.filterMap_reverse, PySem.W.krv_all]
section
variable {prog : Program} {w : World} {A : Around} {E : Value → Shared → Prop} {s : Shared}
theorem rev_applied {sl : Addr} {vl vu vs : Value} {n : Nat} {Q : Int × Int × Nat → Shared → Prop} (hs : s.heap.IsSliceOf sl vl vu vs) (pl : IsPart vl none) (pu : IsPart vu none) (ps : IsPart vs (some (-1))) (h : Q ((n : Int) - 1, -1, n) s) : wpAny (model prog w) A (Builtin.Slice.sliceApplied (.ref sl) (pure (n : Int))) Q E s := by
  obtain ⟨os, hos, hcs, hds⟩ := id hs
  unfold Builtin.Slice.sliceApplied Builtin.Slice.sliceFields
  refine wpAny_bind (wpAny_bind (wpAny_field hos hds (x := vl) rfl (wpAny_bind (wpAny_field hos hds (x := vu) rfl (wpAny_bind (wpAny_field hos hds (x := vs) rfl (wpAny_pure ?_)))))))
  refine wpAny_bind (slicePart_ ps ?_)
  show wpAny _ _ (if ((-1 : Int) == 0) = true then _ else _) _ _ s
  rw [if_neg (by decide)]
  refine wpAny_bind (slicePart_ pl (wpAny_bind (slicePart_ pu (wpAny_bind (wpAny_pure ?_)))))
  have ea : Builtin.Slice.sliceAdjust none none (-1) (n : Int) = ((n : Int) - 1, -1) := rfl
  have ep : Builtin.Slice.slicePlaces ((n : Int) - 1) (-1) (-1) = n := by
    unfold Builtin.Slice.slicePlaces
    simp only [show ¬ ((-1 : Int) > 0) by decide, if_false, show (- -1 : Int) = 1 by decide, Int.ediv_one]
    split <;> omega
  show wpAny _ _ (match Builtin.Slice.sliceAdjust none none (-1) (n : Int) with | (lo, hi) => pure (lo, (-1 : Int), Builtin.Slice.slicePlaces lo hi (-1))) _ _ s
  rw [ea]
  show wpAny _ _ (pure ((n : Int) - 1, (-1 : Int), Builtin.Slice.slicePlaces ((n : Int) - 1) (-1) (-1))) _ _ s
  rw [ep]
  exact wpAny_pure h
theorem tup_rev {t sl : Addr} {items : Array Value} {vl vu vs : Value} {Q : Value → Shared → Prop} (ht : IsTup s.heap t items) (hs : s.heap.IsSliceOf sl vl vu vs) (pl : IsPart vl none) (pu : IsPart vu none) (ps : IsPart vs (some (-1))) (h : Q (.ref s.heap.objs.size) { s with heap := s.heap.push { cls := .type "tuple", data := .seq items.toList.reverse.toArray } }) (hsz : items.size ≤ sizeLine) :
    wpAny (model prog w) A (getItem (.ref t) (.ref sl)) Q E s := by
  have htake : sizeOk (.seq items.toList.reverse.toArray) := by
    show items.toList.reverse.toArray.size ≤ sizeLine
    rw [List.size_toArray, List.length_reverse, Array.length_toList]
    exact hsz
  obtain ⟨os, hos, hcs, hds⟩ := id hs
  have hTs : s.TypeIs (.ref sl) "slice" := ⟨os, hos, hcs⟩
  unfold getItem
  try with_reducible refine wpAny_holding ?_
  first | refine wpAny_bind (wpAny_pure ?_) | skip
  refine wpAny_bind (wpAny_sequenceKey ht.typeIs (by decide) (wpAny_bind (wpAny_callSpecial?_slot (name := Str.ofString "__getitem__") ht.typeIs PyProof.Rows.slot_tuple_getitem (wpAny_call_entry PyProof.Rows.slot_tuple_getitem ht.typeIs entry_tuple_getitem ?_ (args_tuple_getitem _ _)))))
  show wpAny _ _ (Builtin.Tuple.tupleItemsOf (.ref t) >>= _) _ _ s
  refine wpAny_bind (tupleItemsOf_ ht (wpAny_bind (wpAny_typeOf hTs ?_)))
  rw [if_pos (by decide)]
  refine wpAny_bind (rev_applied (n := items.size) hs pl pu ps ?_)
  show wpAny _ _ (if (((items.size : Int) - 1) == 0 && (-1 : Int) == 1 && items.size == items.size) = true then _ else _) _ _ s
  rw [if_neg (by simp), rev_pick]
  first
    | exact wpAny_bind (m := Builtin.Tuple.tupleExact _) (wpAny_newObj_type (wpAny_pure ⟨_, rfl, wpAny_pure h⟩) htake)
    | exact wpAny_bind (wpAny_bind (m := Builtin.Tuple.tupleExact _) (wpAny_newObj_type (wpAny_pure (wpAny_pure ⟨_, rfl, wpAny_pure h⟩)) htake))
    | exact wpAny_bind (m := Builtin.Tuple.tupleExact _) (wpAny_newObj_type (wpAny_bind (wpAny_pure (wpAny_pure ⟨_, rfl, wpAny_pure h⟩))) htake)
end
section
variable {X : Cx}
/-- t[::-1], t a tuple -/
def tRevT (K : PySem.W.Frag) (te : TE) : TE := fun σ H Q => te σ H fun x H1 => ∃ a xs, x = .ref a ∧ SqT K H1 a xs ∧ ∀ p u, H1 p = none → TL.TupH u xs.reverse → Q (.ref p) (upd H1 p u)
theorem pe_revT {e : Expr} {te : TE} {k : Nat} {p1 p2 p3 pos : Pos} (he : PE X e te) : PE X (.Subscript e (.Slice none none (some (.UnaryOp .USub (.Constant (.int 1) k p1) p2)) p3) pos) (tRevT X.K te) := ⟨fun pins s σ H Q I h => by
  refine Subscript_ (thn (he.run pins s σ H _ I h) fun v s1 ⟨x, H1, I1, r1, a, xs, ex, hx, q⟩ => ?_)
  subst ex
  cases r1
  have hst : PO X (some (.UnaryOp .USub (.Constant (.int 1) k p1) p2)) (tPart (tUn (rU fun i => .int (-i)) (tC (.int 1)))) := po_some (pe_un un_neg pe_int)
  refine wpAny_Slice (thn (po_none.run pins s1 σ H1 (fun o H2 => o = none ∧ H2 = H1) I1 ⟨rfl, rfl⟩) fun vl s2 ⟨l, H2, I2, pl, el, e2⟩ => ?_)
  subst el e2
  refine thn (po_none.run pins s2 σ H2 (fun o H3 => o = none ∧ H3 = H2) I2 ⟨rfl, rfl⟩) fun vu s3 ⟨u, H3, I3, pu, eu, e3⟩ => ?_
  subst eu e3
  refine thn (hst.run pins s3 σ H3 (fun o H4 => o = some (-1) ∧ H4 = H3) I3 ⟨1, rfl, -1, rfl, rfl, rfl⟩) fun vs s4 ⟨o, H4, I4, ps, eo, e4⟩ => ?_
  subst eo e4
  have I5 : Inv X pins σ H4 { s4 with heap := s4.heap.push { cls := .type "slice", data := .fields #[vl, vu, vs] } } := I4.kept (t' := s4.toks) fun b ob q => Heap.get?_push_of_some _ q
  obtain ⟨its, r, ht, hz⟩ := I5.tuple hx
  have hlen := r.length
  show wpAny (model X.prog X.w) X.A (subscriptTail e (.Slice none none (some (.UnaryOp .USub (.Constant (.int 1) k p1) p2)) p3) (.ref a) (.ref s4.heap.objs.size)) (EP X pins σ Q) X.xe { s4 with heap := s4.heap.push { cls := .type "slice", data := .fields #[vl, vu, vs] } }
  refine tail_any (ops := [.ref a, .ref s4.heap.objs.size]) ht.typeIs (PyProof.Rows.slot_tuple_getitem.lookup) ?_ (by with_unfolding_all rfl)
  refine tup_rev ht (Heap.IsSliceOf.new _ vl vu vs) pl pu ps ?_ (by rw [List.size_toArray]; omega)
  exact ⟨.ref _, _, I5.laid (t' := s4.toks) (o := .frz _ (.tup xs.reverse)) (fun b ob q => Heap.get?_push_of_some _ q) (Nat.le_refl _) (TL.okU (by rw [List.length_reverse]; exact hz) r.reverse (Heap.get?_push_size _ rfl) rfl rfl), rfl, q _ _ (I5.hok.fresh (Nat.le_refl _)) ⟨_, ⟨rfl, rfl⟩, rfl⟩⟩⟩
end
end TL
/-! the tree layer, 21: backwards -/
namespace TL
open PySem PySem.Spec PyProof.Rows L2
def pyRev : D → R D
  | .list xs => .ok (.list xs.reverse)
  | .tuple xs => .ok (.tuple xs.reverse)
  | _ => .no
theorem xp_rev {X : Cx} {E : XK} {ρ : En} {e : Expr} {m : R D} {k : Nat} {p1 p2 p3 pos : Pos} (he : XP X E ρ e m) : XP X E ρ (.Subscript e (.Slice none none (some (.UnaryOp .USub (.Constant (.int 1) k p1) p2)) p3) pos) (m.bind pyRev) := ⟨fun pins st σ H Q I hq => by
  obtain ⟨G, sa, ep, q⟩ := hq
  cases m with
  | no => exact q.elim
  | ex c => exact (pe_revL he).run pins st σ H Q I ⟨G, sa, ep, q⟩
  | ok t =>
    cases t with
    | list ts =>
      refine (pe_revL he).run pins st σ H Q I ⟨G, sa, ep, fun v G1 H1 fr r => ?_⟩
      cases r with
      | lst h a => exact ⟨_, _, rfl, same_lst fr.gh h, fun p np => q _ _ _ (fr.trans (Fr.new fr.gh np)) (rep_newL fr.gh np a.reverse)⟩
    | tuple ts =>
      refine (pe_revT he).run pins st σ H Q I ⟨G, sa, ep, fun v G1 H1 fr r => ?_⟩
      cases r with
      | tup h a => exact ⟨_, _, rfl, same_seqT fr.gh h, fun p u np tu => q _ _ _ (fr.trans (Fr.new fr.gh np)) (rep_newT fr.gh np tu a.reverse)⟩
    | none | bool _ | int _ | str _ | dict _ => exact q.elim⟩
end TL
/-! the tree layer, 22: further rules -/
namespace TL
open PySem PySem.Spec PyProof.Rows L2
section
variable {X : Cx} {E : XK} {own : List Nat} {ρ : En} {e : Expr}
end
end TL
/-! the tree layer, 23: e.index(x), e.count(x) of a list or a tuple; l.extend(t) -/
namespace TL
open PySem PySem.Spec PyProof.Rows L2
section
variable {X : Cx}
variable {o e : Expr} {es : List Expr} {to : TE} {t : TA} {name : Str} {apos cpos : Pos} {idl idt : String} {rl rt : V → List V → Hp → VK → Prop}
end
/-- the first place of an equal one -/
def sqOk : D → R Unit
  | .list _ => .ok ()
  | .tuple _ => .ok ()
  | _ => .no
def placeOf (ds : List D) (d : D) : Option Nat := ds.findIdx? fun z => PyData.eqv z d
def pyIndex (x y : D) : R D := match x with
  | .list ds => if fit y = true ∧ fit (.list ds) = true then (match placeOf ds y with
    | some j => .ok (.int (j : Nat))
    | none => .no) else .no
  | .tuple ds => if fit y = true ∧ fit (.tuple ds) = true then (match placeOf ds y with
    | some j => .ok (.int (j : Nat))
    | none => .no) else .no
  | _ => .no
section
variable {X : Cx} {E : XK} {ρ : En} {o e : Expr} {m me : R D} {apos cpos : Pos}
end
end TL
/-! the tree layer, 24: constants of the module, raise -/
namespace TL
open PySem PySem.Spec PyProof.Rows L2
section
variable {X : Cx} {E : XK} {io : Bool} {fr : Md} {own own' : List Nat} {ρ : En} {A B : Type} {post : A → Fin} {pos : Pos}
/-- an exception class of the module -/
structure ClsX (K : PySem.W.Frag) (mg : Str → Option Value) (c : Str) : Prop where
  ex : ∃ C, mg c = some (.ref C) ∧ PySem.W.excIn K C [.type "ValueError", .type "Exception", .type "BaseException", .type "object"] "ValueError.__new__" = true ∧ PySem.W.keepIn K (.ref C) = true ∧
    PySem.W.subIn K (.ref C) (.type "BaseException") = some true ∧ PySem.W.typeIn K (.ref C) = some (.type "type")
end
section
variable {P : Program} {w : World} {K : PySem.W.Frag} {mg : Str → Option Value} {base : Heap} {N : List Str} {x : Str} {sc : Scope} {f : Addr} {cdv : Value} {A : Around} {outer : List Env} {s : Shared} {H : Hp} {E : XK} {io : Bool} {fr : Md} {own own' : List Nat} {ρ : En} {B : Type} {post : B → Fin} {pos : Pos}
end
theorem nev_ex {J : Type} {post : J → Fin} {x : String} : Nev (R.ex x : R J) post := fun _ h => nomatch h
end TL
/-! the tree layer, 25: a, b = x, y -/
namespace TL
open PySem PySem.Spec PyProof.Rows L2
section
variable {X : Cx} {E : XK} {io : Bool} {fr : Md} {own : List Nat} {ρ : En} {A : Type} {e : Expr} {pos : Pos}
end
section
variable {X : Cx}
end
end TL
/-! the tree layer, 26: the end, the script's numbers bounded -/
namespace TL
open PySem PySem.Spec PyProof.Rows L2
def Small (ns : List Int) : Prop := ∀ z ∈ ns, Builtin.Int.intBits z ≤ 1048576
def spTB (K : PySem.W.Frag) : Sp := fun vs H Q _ => ∃ (a : Addr) (ns : List Int), vs = [.ref a] ∧ SqL K H a (ns.map V.int) ∧ ns.length ≤ 63 ∧ Small ns ∧ ∀ H', Q (.bl true) H'
theorem law_fnB {P : Program} {w : World} {K : PySem.W.Frag} {mg : Str → Option Value} {base : Heap} {k : Nat} {f : Addr} {fd : FuncData} {ps : List Str} {mf : List D → R D} (h : ∀ ns : List Int, ns.length ≤ 63 → Small ns → mf [scrD ns] = .ok (.bool true)) (F : FnOk P w K mg base (L2N.CX P w) k f fd ps (spP K mg 1 .fz mf)) : FnOk P w K mg base (L2N.CX P w) k f fd ps (spTB K) :=
  F.imp fun vs H Q E ⟨a, ns, e, hS, hl, hb, q⟩ => ⟨by rw [e]; rfl, H, [scrD ns], Same.refl _, by rw [e]; exact .cons (.scr hS) .nil, by
    rw [h ns hl hb]
    intro v G' H' fr an
    have e2 := rep_true an
    subst e2
    exact q H'⟩
end TL
/-! the tree layer, 27: try .. except X as e: what e's kind is, told by a def of the law's own -/
namespace TL
open PySem PySem.Spec PyProof.Rows L2
/-! ### the classes -/
/-- what each asked class says of C, named c -/
inductive ExRow (K : PySem.W.Frag) (mg : Str → Option Value) (C : Addr) (c : Str) : List Str → Prop
  | nil : ExRow K mg C c []
  | cons {x : Str} {xs : List Str} {X : Addr} {b : Bool} (h : mg x = some (.ref X)) (k : PySem.W.kitOne K (.ref C) (.ref X) = some b) (e : b = (decide (c = x) || decide (x = ("ValueError" : Str)))) (t : ExRow K mg C c xs) : ExRow K mg C c (x :: xs)
theorem ExRow.get {K : PySem.W.Frag} {mg : Str → Option Value} {C : Addr} {c x : Str} : ∀ {xs : List Str}, ExRow K mg C c xs → x ∈ xs → ∃ X, mg x = some (.ref X) ∧ PySem.W.kitOne K (.ref C) (.ref X) = some (decide (c = x) || decide (x = ("ValueError" : Str)))
  | _, .cons h k e t, hm => by
    rcases List.mem_cons.mp hm with z | z
    · subst z
      exact ⟨_, h, by rw [k, e]⟩
    · exact t.get z
/-- a class that may be raised: caught by J -/
structure ExC (K : PySem.W.Frag) (mg : Str → Option Value) (J : Value) (xs : List Str) (c : Str) : Prop where
  ex : ∃ C, mg c = some (.ref C) ∧ L2.ExcC K C ∧ PySem.W.kitOne K (.ref C) (.type "ValueError") = some true ∧ PySem.W.exmOne K (.ref C) J = some true ∧ ExRow K mg C c xs
/-! ### a def called where an exception is handled: it is told of that exception -/
structure FnE (P : Program) (w : World) (K : PySem.W.Frag) (mg : Str → Option Value) (base : Heap) (CX : CXT) (k : Nat) (f : Addr) (fd : FuncData) (ps : List Str) (sp : Addr × Obj → Sp) : Prop where
  len : ∀ p vs H Q E, sp p vs H Q E → vs.length = ps.length
  run : ∀ (A : Around) (outer : List Env) (s : Shared) (H : Hp) (args : Args) (us : List Value) (vs : List V) (Q : VK) (E : XK) (p : Addr × Obj), L2H.RoomH k A → L2H.Hot1 A p → L2H.PinOk outer H s p → Env0 P w K mg base A outer s H → BindsTo s fd args (ps.zip us) → Vals vs us → sp p vs H Q E →
    codeAny (model P w) A (.call (.ref f) args) (CR CX outer P w H s Q E) s
section
variable {P : Program} {w : World} {K : PySem.W.Frag} {mg : Str → Option Value} {base : Heap}
end
section
variable {X : Cx} {CX : CXT} {k : Nat} {f : Addr} {fd : FuncData} {ps : List Str} {sp : Addr × Obj → Sp} {E : L2.St → XK} {x m : Str} {q pos : Pos} {e : Expr} {es : List Expr} {t : TA} {p : Addr × Obj}
end
section
variable {X : Cx} {E : XK} {ρ : En} {pos : Pos} {p : Addr × Obj} {c : Str} {cs xs : List Str} {J : Value}
end
end TL
/-! the tree layer, 28: try: body, except J as e: a def of the law's own is told of e -/
namespace TL
open PySem PySem.Spec PyProof.Rows L2
theorem passN {X : Cx} : Passes (L2N.CX X.prog X.w) X E0 := fun _ _ _ _ _ _ _ h => by
  obtain ⟨_, _, _, _, _, _, _, _, _, _, _, _, z⟩ := h
  exact z.elim
section
variable {X : Cx} {E : XK} {fr : Md} {ρ : En} {J : Type} {emb : J → En} {mb : R (Oc J)} {cs xs : List Str} {Jv : Value} {mk : D → R D} {j k : Nat} {n kx : Str} {np kp ep cp rp hp pos : Pos} {body : List Stmt} {jn : Str}
end
end TL
/-! the tree layer, 29: e.count(x) -/
namespace TL
open PySem PySem.Spec PyProof.Rows L2
section
variable {X : Cx}
end
section
variable {X : Cx} {E : XK} {ρ : En} {o e : Expr} {m me : R D} {apos cpos : Pos}
end
end TL
namespace TL
open PySem PySem.Spec PyProof.Rows L2
end TL
namespace TL
open PySem PySem.Spec PySem.W
end TL
/-! the tree layer, 30: a <= b < c < d; while True -/
namespace TL
open PySem PySem.Spec PyProof.Rows L2
section
variable {X : Cx} {E : XK} {ρ : En} {a b c d : Expr} {ma mb mc md : R D} {pos : Pos}
end
end TL
/-! the tree layer, 31: a list walked where an exception is handled -/
namespace HotX
open PySem PySem.Spec PyProof.Rows HandSPX
section
variable {prog : Program} {w : World} {A : Around} {E : Value → Shared → Prop} {s : Shared}
end
end HotX
namespace L2HL
open PySem PySem.Spec PyProof.Rows L2 HotX
abbrev St := L2.St
section
variable {X : Cx}
end
end L2HL
namespace HotX
open PySem PySem.Spec PyProof.Rows
end HotX
/-! the tree layer, 32: comprehensions and sums where an exception is handled -/
namespace TL
open PySem PySem.Spec PyProof.Rows L2
section
variable {X : Cx} {E : XK} {ρ : En} {α : Type} {tg iter elt : Expr} {scope : Scope} {own : List (Str × Nat)} {sl : List Nat} {u : D → R α} {put : α → En → En} {m : R D} {me : α → R D} {p : Addr × Obj} {pos : Pos}
end
end TL
namespace HotX
open PySem PySem.Spec PyProof.Rows
section
variable {prog : Program} {w : World} {A : Around} {E : Value → Shared → Prop} {s : Shared} {l : Addr}
end
end HotX
namespace TL
open PySem PySem.Spec PyProof.Rows L2
section
variable {X : Cx} {E : XK}
end
end TL
/-! the tree layer, 33: x[i], x[j] = e; len(set(..)) -/
namespace TL
open PySem PySem.Spec PyProof.Rows L2
section
variable {X : Cx} {E : XK} {io : Bool} {fr : Md} {own own' own1 : List Nat} {ρ ρ' : En} {A B : Type} {st : Stmt} {rest : List Stmt} {post : A → Fin} {e : Expr} {pos : Pos}
theorem getN_setN {α : Type} {v : α} : ∀ {xs : List (Option α)} {i : Nat}, i < xs.length → getN (setN xs i (some v)) i = some v
  | [], _, h => nomatch h
  | _ :: _, 0, _ => rfl
  | _ :: xs, i + 1, h => getN_setN (xs := xs) (i := i) (Nat.lt_of_succ_lt_succ h)
theorem Er.ep_hideS {K : PySem.W.Frag} {own : List Nat} {ρ : En} {ad : Nat → Addr} {σ : L2.St} {G H : Hp} {i : Nat} {r : Option D} (er : Er K own (setN ρ i r) ad σ G H) (hi : i ∈ own) : Ep K G (hideE own ρ) σ := ⟨(wipeE_length.trans (setN_length (xs := ρ) (i := i) (v := r)).symm).trans er.len, fun k t e => by
  obtain ⟨e1, hk⟩ := getN_wipe e
  exact er.fz k t (by rw [getN_setN_ne (show k ≠ i from fun z => hk (by rw [z]; exact hi))]; exact e1) hk⟩
/-- x[k], x[l] = e, x the slot's own list -/
theorem ss_swap {x : Str} {ix1 ix2 : Expr} {px1 px2 tp1 tp2 pt : Pos} {kt : Nat} {J : Type} {emb : J → En} (i : Nat) {ts : A → D} (pk : A → D → J) {m : R A} {val : A → D} {env : A → En} {mi1 mi2 : A → R D}
    (he : VP X E own ρ e m val env) (hx1 : ∀ a, XP X E (hideE own (env a)) ix1 (mi1 a)) (hx2 : ∀ a, XP X E (hideE own (env a)) ix2 (mi2 a)) (ht : ∀ a, getN (env a) i = some (ts a) := by intro _; rfl) (hpk : ∀ a r, emb (pk a r) = setN (env a) i (some r) := by intro _ _; rfl) (hi : i ∈ own := by decide) (hN : X.N[i]? = some x := by rfl) (hc : X.calm = true := by rfl)
    (hv : Vis X.env.scope x := by first | exact Or.inl rfl | exact Or.inr (Or.inl rfl) | exact Or.inr (Or.inr rfl)) (hd : (x == ("__debug__" : Str)) = false := by decide) (hcd : (x == ("__classdict__" : Str)) = false := by decide)
    (hs : swapsWithSole [.Tuple [.Subscript (.Name x px1) ix1 tp1, .Subscript (.Name x px2) ix2 tp2] kt pt] e pos.line X.env = pure false := by rfl) (hw : swappedStores [.Tuple [.Subscript (.Name x px1) ix1 tp1, .Subscript (.Name x px2) ix2 tp2] kt pt] e X.env = pure none := by rfl)
    (h1 : (assignEach [.Tuple [.Subscript (.Name x px1) ix1 tp1, .Subscript (.Name x px2) ix2 tp2] kt pt] X.env).map (·.2) = [assign (.Tuple [.Subscript (.Name x px1) ix1 tp1, .Subscript (.Name x px2) ix2 tp2] kt pt) X.env] := by rfl)
    (ha1 : ∀ v, assign (.Subscript (.Name x px1) ix1 tp1) X.env v = (do
      let ov ← holding [v] (eval (.Name x px1) X.env)
      let iv ← holding [v, ov] (eval ix1 X.env)
      standAt tp1
      holding [v, ov, iv] (setItem ov iv v)
      release [v, ov, iv] []) := by intro _; rfl)
    (ha2 : ∀ v, assign (.Subscript (.Name x px2) ix2 tp2) X.env v = (do
      let ov ← holding [v] (eval (.Name x px2) X.env)
      let iv ← holding [v, ov] (eval ix2 X.env)
      standAt tp2
      holding [v, ov, iv] (setItem ov iv v)
      release [v, ov, iv] []) := by intro _; rfl)
    (hn : (assignEach [.Subscript (.Name x px1) ix1 tp1, .Subscript (.Name x px2) ix2 tp2] X.env).length = 2 := by rfl) (hst : (assignEach [.Subscript (.Name x px1) ix1 tp1, .Subscript (.Name x px2) ix2 tp2] X.env).findIdx? (·.1) = none := by rfl)
    (hp1 : (assignEach [.Subscript (.Name x px1) ix1 tp1, .Subscript (.Name x px2) ix2 tp2] X.env).map (·.2) = assign (.Subscript (.Name x px1) ix1 tp1) X.env :: (assignEach [.Subscript (.Name x px2) ix2 tp2] X.env).map (·.2) := by rfl)
    (hp2 : (assignEach [.Subscript (.Name x px2) ix2 tp2] X.env).map (·.2) = assign (.Subscript (.Name x px2) ix2 tp2) X.env :: (assignEach [] X.env).map (·.2) := by rfl) :
    SS X E io fr own ρ (.Assign [.Tuple [.Subscript (.Name x px1) ix1 tp1, .Subscript (.Name x px2) ix2 tp2] kt pt] e pos)
      (m.bind fun a => (nox (unp2 (val a))).bind fun p => (mi1 a).bind fun k => (setD (ts a) k p.1).bind fun r => (mi2 a).bind fun l => (setD r l p.2).bind fun r2 => .ok (pk a r2)) (fun j => .nx (emb j)) own :=
  ps_weak (t := tAsg (rdV X.K X.mg E own ρ m val env) (fun v σ H Q => ∃ a, (gTup X.K 2 (gCons (gSub (tVar i) (rdP X.K X.mg E (hideE own (env a)) (mi1 a)) rSetL) (gCons (gSub (tVar i) (rdP X.K X.mg E (hideE own (env a)) (mi2 a)) rSetL) gNil))) v σ H Q))
    (ps_asg he ⟨fun pins s σ H v u Q I r ⟨a, q⟩ => (pg_tup hc (pgs_cons (pg_sub (pe_var hN hv hd hcd) (hx1 a) set_list ha1) (pgs_cons (pg_sub (pe_var hN hv hd hcd) (hx2 a) set_list ha2) pgs_nil hp2) hp1) hn hst).run pins s σ H v u Q I r q⟩ hs hw h1) fun Dn σ H hq => by
    obtain ⟨G0, H0, A0, ad, G, er, f, q⟩ := hq
    refine ⟨ad, G, er, ?_⟩
    cases em : m with
    | no => rw [em] at q; exact q.elim
    | ex c => rw [em] at q; exact fun H' s => q H' fun b o e hne => s _ _ (f.h0 b o e hne)
    | ok a =>
      rw [em] at q
      intro v G' H' er' fr' r
      have f' := f.next er fr' er'
      have q1 : PostR X.K X.mg E io fr G0 H0 A0 own ((nox (unp2 (val a))).bind fun p => (mi1 a).bind fun k => (setD (ts a) k p.1).bind fun r => (mi2 a).bind fun l => (setD r l p.2).bind fun r2 => .ok (pk a r2)) (fun j => .nx (emb j)) Dn := q
      cases eu : unp2 (val a) with
      | no => rw [eu] at q1; exact q1.elim
      | ex c => rw [eu] at q1; exact q1.elim
      | ok p =>
        rw [eu] at q1
        generalize val a = d at r eu
        match d, eu with
        | .tuple [t1, t2], eu =>
          cases eu
          cases r with
          | tup h ra =>
            obtain ⟨v1, v2, rfl, r1, r2⟩ := repAll2 ra
            refine ⟨a, _, _, rfl, same_seqT er'.gh h, rfl, v1, [v2], rfl, ?_⟩
            obtain ⟨t0, e0, es0, o0⟩ := er'.ow i hi
            refine ⟨_, es0, G', er'.gh, er'.ep_hide, ?_⟩
            have q2 : PostR X.K X.mg E io fr G0 H0 A0 own ((mi1 a).bind fun k => (setD (ts a) k t1).bind fun r => (mi2 a).bind fun l => (setD r l t2).bind fun r2 => .ok (pk a r2)) (fun j => .nx (emb j)) Dn := q1
            cases ei : mi1 a with
            | no => rw [ei] at q2; exact q2.elim
            | ex c => rw [ei] at q2; exact fun H' s => q2 H' fun b o e hne => s _ _ (f'.h0 b o e hne)
            | ok k =>
              rw [ei] at q2
              intro kv G2 H2 fr2 rk
              have er2 := er_pure er' fr2
              have f2 := f'.next er' fr2.toO er2
              have q3 : PostR X.K X.mg E io fr G0 H0 A0 own ((setD (ts a) k t1).bind fun r => (mi2 a).bind fun l => (setD r l t2).bind fun r2 => .ok (pk a r2)) (fun j => .nx (emb j)) Dn := q2
              cases rk with
              | int n =>
                have et := ht a
                cases ety : ts a with
                | list us =>
                  rw [ety] at q3 et
                  obtain ⟨xs, es, eh, rr⟩ := er2.ownL hi et
                  have q4 : PostR X.K X.mg E io fr G0 H0 A0 own ((match ixN us.length n with
                    | some j => R.ok (PyData.list (us.set j t1))
                    | none => R.no).bind fun r => (mi2 a).bind fun l => (setD r l t2).bind fun r2 => .ok (pk a r2)) (fun j => .nx (emb j)) Dn := q3
                  cases ej : ixN us.length n with
                  | none => rw [ej] at q4; exact q4.elim
                  | some j =>
                    rw [ej] at q4
                    refine ⟨_, xs, n, j, rfl, rfl, eh, by rw [rr.length]; exact ej, ?_⟩
                    have on := own_at (H := H2) (er2.g_none hi) (rr.set (v := v1) (d := t1) (r1.mono fr2.gg) j)
                    obtain ⟨er3, fr3⟩ := er2.write hi on
                    have f3 := f2.next er2 fr3 er3
                    refine ⟨v2, [], rfl, ?_⟩
                    refine ⟨_, es, G2, er3.gh, er3.ep_hideS hi, ?_⟩
                    have q5 : PostR X.K X.mg E io fr G0 H0 A0 own ((mi2 a).bind fun l => (setD (.list (us.set j t1)) l t2).bind fun r2 => .ok (pk a r2)) (fun j => .nx (emb j)) Dn := q4
                    cases ei2 : mi2 a with
                    | no => rw [ei2] at q5; exact q5.elim
                    | ex c => rw [ei2] at q5; exact fun H' s => q5 H' fun b o e hne => s _ _ (f3.h0 b o e hne)
                    | ok l =>
                      rw [ei2] at q5
                      intro lv G4 H4 fr4 rl
                      have er4 := er_pure er3 fr4
                      have f4 := f3.next er3 fr4.toO er4
                      have q6 : PostR X.K X.mg E io fr G0 H0 A0 own ((setD (.list (us.set j t1)) l t2).bind fun r2 => .ok (pk a r2)) (fun j => .nx (emb j)) Dn := q5
                      cases rl with
                      | int n2 =>
                        have hlt := getN_lt et
                        obtain ⟨xs2, es2, eh2, rr2⟩ := er4.ownL hi (show getN (setN (env a) i (some (.list (us.set j t1)))) i = some (.list (us.set j t1)) from getN_setN hlt)
                        have q7 : PostR X.K X.mg E io fr G0 H0 A0 own ((match ixN (us.set j t1).length n2 with
                          | some j2 => R.ok (PyData.list ((us.set j t1).set j2 t2))
                          | none => R.no).bind fun r2 => .ok (pk a r2)) (fun j => .nx (emb j)) Dn := q6
                        cases ej2 : ixN (us.set j t1).length n2 with
                        | none => rw [ej2] at q7; exact q7.elim
                        | some j2 =>
                          rw [ej2] at q7
                          refine ⟨_, xs2, n2, j2, rfl, rfl, eh2, by rw [rr2.length]; exact ej2, ?_⟩
                          have on2 := own_at (H := H4) (er4.g_none hi) (rr2.set (v := v2) (d := t2) (r2.mono (fr2.gg.trans fr4.gg)) j2)
                          obtain ⟨er5, fr5⟩ := er4.write hi on2
                          refine ⟨rfl, ?_⟩
                          exact q7 ad σ G4 _ (by rw [hpk]; exact setN_setN ▸ er5) (f4.next er4 fr5 er5)
                      | _ => exact q6.elim
                | _ => rw [ety] at q3; exact q3.elim
              | _ => simp only [setD] at q3; first | exact q3.elim | (cases ety : ts a <;> rw [ety] at q3 <;> exact q3.elim)
        | .tuple [], eu | .tuple [_], eu | .tuple (_ :: _ :: _ :: _), eu => cases eu
        | .none, eu | .bool _, eu | .int _, eu | .str _, eu | .list _, eu | .dict _, eu => cases eu
end
section
variable {X : Cx} {own : List Nat} {S : Type} {emb : S → En} {a : Expr} {pos p2 : Pos}
end
/-! ### len(set(..)) -/
section
variable {X : Cx} {E : XK} {ρ : En} {a : Expr} {m : R D} {pos : Pos}
end
end TL
/-! the tree layer, 34: x is True -/
namespace TL
open PySem PySem.Spec PyProof.Rows L2
section
variable {X : Cx} {E : XK}
def pyIsNotB (x y : D) : R D := match x, y with
  | .bool a, .bool b => .ok (.bool (!decide (a = b)))
  | _, _ => .no
end
section
variable {X : Cx} {E : XK} {ρ : En}
end
end TL
namespace JT
open PySem PySem.Spec PyProof.Rows L2 TL
def m_is_whole : List D → R D
  | [p0] => ((((R.ok p0).bind fun x1 => isD ["int"] x1).bind fun x5 => (tru x5).bind fun k6 => if k6 = true then (((R.ok p0).bind fun x2 => isD ["bool"] x2).bind fun x3 => (tru x3).bind fun k4 => R.ok (PyData.bool (!k4))) else R.ok x5).bind fun v7 => R.ok v7)
  | _ => R.no
def m_is_upto : List D → R D
  | [p0, p1] => ((((R.ok p0).bind fun x1 => m_is_whole [x1]).bind fun x8 => (tru x8).bind fun k9 => if k9 = true then ((R.ok (PyData.int 0)).bind fun x2 => (R.ok p0).bind fun x3 => (pyLe x2 x3).bind fun x4 => (asB x4).bind fun x5 => if x5 = true then (R.ok p1).bind fun x6 => pyLt x3 x6 else R.ok (PyData.bool false)) else R.ok x8).bind fun v10 => R.ok v10)
  | _ => R.no
def m_having : List D → R D
  | [p0, p1] => (((((R.ok p0).bind fun x1 => pyEnum [x1]).bind fun is3 => (filR (fun d5 => (unp2 d5).bind fun a2 => ((R.ok p1).bind fun x6 => (R.ok a2.2).bind fun x7 => (pyIn x6 x7).bind asB)) (fun d5 => (unp2 d5).bind fun a2 => (R.ok a2.1)) is3).bind fun rs4 => R.ok (PyData.list rs4)).bind fun x9 => pyTuple [x9]).bind fun v10 => R.ok v10)
  | _ => R.no
def m_law_cell : List D → R D
  | [p0, p1] => (((R.ok p1).bind fun x2 => ((R.ok p0).bind fun x1 => pyLen [x1]).bind fun x3 => (pyLt x2 x3).bind asB).bind fun b5 => if b5 = true then (((R.ok p0).bind fun x6 => (R.ok p1).bind fun x7 => pyIx x6 x7).bind fun v8 => R.ok v8) else ((((R.ok (PyData.int 6151)).bind fun x9 => (R.ok p1).bind fun x10 => pyMul x9 x10).bind fun x11 => (R.ok (PyData.int 29)).bind fun x12 => pyAdd x11 x12).bind fun v13 => R.ok v13))
  | _ => R.no
def m_heads_with : List D → R D
  | [p0, p1] => (((((R.ok p0).bind fun x1 => (R.ok (PyData.int 1)).bind fun x2 => pyIx x1 x2).bind fun x3 => (R.ok p1).bind fun x4 => m_having [x3, x4]).bind fun x5 => pyList [x5]).bind fun v6 => R.ok v6)
  | _ => R.no
def m_is_pair : List D → R D
  | [p0, p1] => ((((((R.ok p1).bind fun x1 => isD ["tuple"] x1).bind tru).bind fun k2 => R.ok (!k2)).bind fun k20 => if k20 = true then R.ok true else ((((R.ok p1).bind fun x3 => pyLen [x3]).bind fun x4 => (R.ok (PyData.int 2)).bind fun x5 => (pyNe x4 x5).bind asB).bind fun k19 => if k19 = true then R.ok true else ((((((R.ok p1).bind fun x7 => items x7).bind fun is14 => (mapR (fun d16 => ((fun d => R.ok d) d16).bind fun a8 => ((R.ok a8).bind fun x9 => (((R.ok p0).bind fun x10 => (R.ok (PyData.int 1)).bind fun x11 => pyIx x10 x11).bind fun x12 => pyLen [x12]).bind fun x13 => m_is_upto [x9, x13])) is14).bind fun rs15 => R.ok (PyData.list rs15)).bind fun x17 => pyAll [x17]).bind tru).bind fun k18 => R.ok (!k18)))).bind fun b21 => if b21 = true then ((R.ok (PyData.bool false)).bind fun v22 => R.ok v22) else ((((R.ok p1).bind fun x23 => (R.ok (PyData.int 0)).bind fun x24 => pyIx x23 x24).bind fun x27 => ((R.ok p1).bind fun x25 => (R.ok (PyData.int 1)).bind fun x26 => pyIx x25 x26).bind fun x28 => pyLt x27 x28).bind fun v29 => R.ok v29))
  | _ => R.no
noncomputable def m_come_to_2 : List D → R D
  | [p0, p1, p2] => (((R.ok p2).bind fun x1 => R.ok (PyData.list [x1])).bind fun v2 => (((R.ok p2).bind fun x3 => R.ok (PyData.list [x3])).bind fun v4 => (thenO (J := (D × D)) (whX (fun (j5 : (D × D)) => ((R.ok j5.2).bind fun x6 => (R.ok (PyData.list [])).bind fun x7 => (pyNe x6 x7).bind asB)) (fun b9 => b9) (fun (j5 : (D × D)) b9 => ((nox ((popD j5.2).bind fun q11 => R.ok (q11.1, q11.2))).bind fun v12 => ((((R.ok p0).bind fun x13 => items x13).bind fun b14 => foldR unp2 (fun (j15 : (D × D)) a16 => ((((R.ok v12.1).bind fun x19 => ((R.ok a16.1).bind fun x17 => (R.ok a16.2).bind fun x18 => R.ok (PyData.tuple [x17, x18])).bind fun x20 => (pyIn x19 x20).bind asB).bind fun b22 => if b22 = true then ((((R.ok a16.1).bind fun x53 => (R.ok a16.2).bind fun x54 => pyAdd x53 x54).bind fun x55 => (R.ok v12.1).bind fun x56 => pySub x55 x56).bind fun v57 => (((((R.ok v57).bind fun x58 => (R.ok p1).bind fun x59 => (pyIn x58 x59).bind asB).bind fun k64 => if k64 = true then ((R.ok v57).bind fun x61 => (R.ok j15.1).bind fun x62 => (pyNotIn x61 x62).bind asB) else R.ok false).bind fun b65 => if b65 = true then (((lstD j15.1).bind fun u75 => (R.ok v57).bind fun v74 => (appD j15.1 v74).bind fun r76 => R.ok r76).bind fun j77 => (((lstD j15.2).bind fun u79 => (R.ok v57).bind fun v78 => (appD j15.2 v78).bind fun r80 => R.ok r80).bind fun j81 => (R.ok (j77, j81)))) else (R.ok (j15.1, j15.2))).bind fun j82 => (R.ok (j82.1, j82.2)))) else (R.ok (j15.1, j15.2))).bind fun j83 => (R.ok (j83.1, j83.2)))) b14 (j5.1, v12.2)).bind fun j84 => (R.ok (Oc.nx (j84.1, j84.2)))))) (fun (j5 : (D × D)) b9 => (j5.1, j5.2)) (v2, v4)) (fun t b => t) (fun j85 => (R.ok j85.1)))))
  | _ => R.no
noncomputable def m_hang_together : List D → R D
  | [p0, p1] => (((((R.ok p0).bind fun x1 => (R.ok p1).bind fun x2 => ((R.ok p1).bind fun x3 => (R.ok (PyData.int 0)).bind fun x4 => pyIx x3 x4).bind fun x5 => m_come_to_2 [x1, x2, x5]).bind fun x6 => pyLen [x6]).bind fun x8 => ((R.ok p1).bind fun x7 => pyLen [x7]).bind fun x9 => pyEq x8 x9).bind fun v10 => R.ok v10)
  | _ => R.no
noncomputable def m_is_tree : List D → R D
  | [p0, p1] => ((((R.ok p0).bind fun x1 => (R.ok (PyData.int 1)).bind fun x2 => pyIx x1 x2).bind fun x3 => pyLen [x3]).bind fun v4 => ((((((R.ok p1).bind fun x5 => isD ["tuple"] x5).bind tru).bind fun k6 => R.ok (!k6)).bind fun k23 => if k23 = true then R.ok true else ((((R.ok p1).bind fun x7 => pyLen [x7]).bind fun x10 => ((R.ok v4).bind fun x8 => (R.ok (PyData.int 1)).bind fun x9 => pySub x8 x9).bind fun x11 => (pyNe x10 x11).bind asB).bind fun k22 => if k22 = true then R.ok true else ((((((R.ok p1).bind fun x13 => items x13).bind fun is17 => (mapR (fun d19 => ((fun d => R.ok d) d19).bind fun a14 => ((R.ok p0).bind fun x15 => (R.ok a14).bind fun x16 => m_is_pair [x15, x16])) is17).bind fun rs18 => R.ok (PyData.list rs18)).bind fun x20 => pyAll [x20]).bind tru).bind fun k21 => R.ok (!k21)))).bind fun b24 => if b24 = true then ((R.ok (PyData.bool false)).bind fun v25 => R.ok v25) else (((((((R.ok p1).bind fun x26 => ((R.ok p1).bind fun x28 => ((R.ok (PyData.int 1)).bind fun x27 => partD x27).bind fun x29 => (R.ok (none : Option Int)).bind fun x30 => pySl x28 x29 x30).bind fun x31 => pyZip [x26, x31]).bind fun is35 => (mapR (fun d37 => (unp2 d37).bind fun a32 => ((R.ok a32.1).bind fun x33 => (R.ok a32.2).bind fun x34 => pyLt x33 x34)) is35).bind fun rs36 => R.ok (PyData.list rs36)).bind fun x38 => pyAll [x38]).bind tru).bind fun k39 => R.ok (!k39)).bind fun b40 => if b40 = true then ((R.ok (PyData.bool false)).bind fun v41 => R.ok v41) else (((R.ok p1).bind fun x42 => (((R.ok v4).bind fun x43 => (asInt x43).bind fun n44 => R.ok ((0 : Int), n44)).bind fun q45 => (rgL q45).bind fun ts46 => R.ok (PyData.list ts46)).bind fun x47 => m_hang_together [x42, x47]).bind fun v48 => R.ok v48))))
  | _ => R.no
noncomputable def m_is_joining : List D → R D
  | [p0, p1] => (thenO (J := Unit) ((((R.ok p0).bind fun x1 => (R.ok (PyData.int 0)).bind fun x2 => pyIx x1 x2).bind fun x3 => pyRange [x3]).bind fun b4 => foldO (fun d => R.ok d) (fun (j5 : Unit) a6 => (((R.ok p0).bind fun x7 => (R.ok a6).bind fun x8 => m_heads_with [x7, x8]).bind fun v9 => ((((R.ok v9).bind fun x10 => (R.ok (PyData.list [])).bind fun x11 => (pyNe x10 x11).bind asB).bind fun k16 => if k16 = true then ((((R.ok p1).bind fun x13 => (R.ok v9).bind fun x14 => m_hang_together [x13, x14]).bind tru).bind fun k15 => R.ok (!k15)) else R.ok false).bind fun b17 => if b17 = true then ((R.ok (PyData.bool false)).bind fun v18 => R.ok (Oc.rt v18 PyData.none)) else (R.ok (Oc.nx ()))))) b4 ()) (fun t b => t) (fun j19 => ((R.ok (PyData.bool true)).bind fun v20 => R.ok v20)))
  | _ => R.no
noncomputable def m_is_join_tree : List D → R D
  | [p0, p1] => ((((R.ok p0).bind fun x1 => (R.ok p1).bind fun x2 => m_is_tree [x1, x2]).bind fun x5 => (tru x5).bind fun k6 => if k6 = true then ((R.ok p0).bind fun x3 => (R.ok p1).bind fun x4 => m_is_joining [x3, x4]) else R.ok x5).bind fun v7 => R.ok v7)
  | _ => R.no
def m_law_mix : List D → R D
  | [p0, p1] => (((((R.ok p0).bind fun x1 => (R.ok (PyData.int 1)).bind fun x2 => pyAdd x1 x2).bind fun x3 => (R.ok (PyData.int 40692)).bind fun x4 => pyMul x3 x4).bind fun x7 => ((R.ok (PyData.int 104729)).bind fun x5 => (R.ok p1).bind fun x6 => pyMul x5 x6).bind fun x8 => pyAdd x7 x8).bind fun v9 => (((((R.ok v9).bind fun x10 => (R.ok v9).bind fun x11 => pyMul x10 x11).bind fun x12 => (R.ok (PyData.int 2147483399)).bind fun x13 => pyMod x12 x13).bind fun x14 => (R.ok p1).bind fun x15 => pyAdd x14 x15).bind fun v16 => ((((R.ok v16).bind fun x19 => ((R.ok v16).bind fun x17 => (R.ok (PyData.int 31)).bind fun x18 => pyAdd x17 x18).bind fun x20 => pyMul x19 x20).bind fun x21 => (R.ok (PyData.int 2147483563)).bind fun x22 => pyMod x21 x22).bind fun v23 => R.ok v23)))
  | _ => R.no
def m_law_box_2 : List D → R D
  | [p0, p1] => (((R.ok p0).bind fun x1 => (R.ok p1).bind fun x2 => m_law_cell [x1, x2]).bind fun v3 => ((((R.ok v3).bind fun x4 => (R.ok (PyData.int 2)).bind fun x5 => pyMod x4 x5).bind fun x6 => (R.ok (PyData.int 0)).bind fun x7 => (pyEq x6 x7).bind asB).bind fun b9 => if b9 = true then ((((R.ok v3).bind fun x10 => (R.ok (PyData.int 2)).bind fun x11 => pyDiv x10 x11).bind fun x12 => R.ok (PyData.list [x12])).bind fun v13 => R.ok v13) else ((R.ok (PyData.int 0)).bind fun v14 => ((((R.ok (PyData.int 24)).bind fun x15 => pyRange [x15]).bind fun b16 => foldR (fun d => R.ok d) (fun (j17 : (D)) a18 => ((((R.ok j17).bind fun x19 => (R.ok (PyData.int 2147483647)).bind fun x20 => pyMul x19 x20).bind fun x23 => ((R.ok v3).bind fun x21 => (R.ok a18).bind fun x22 => m_law_mix [x21, x22]).bind fun x24 => pyAdd x23 x24).bind fun v25 => (R.ok v25))) b16 v14).bind fun j26 => (((R.ok j26).bind fun x27 => R.ok (PyData.list [x27])).bind fun v28 => R.ok v28)))))
  | _ => R.no
def m_law_take_2 : D → List D → R (D × D)
  | p0, [p1] => (((nl (((R.ok p0).bind fun x2 => (R.ok (PyData.int 0)).bind fun x3 => pyIx x2 x3).bind fun x4 => (R.ok p1).bind fun x5 => pyDivmod [x4, x5])).bind fun v6 => (nox (unp2 v6)).bind fun pq7 => R.ok (v6, pq7)).bind fun r1 => (((R.ok r1.2.1).bind fun v8 => (R.ok (PyData.int 0)).bind fun k9 => (setD p0 k9 v8).bind fun r10 => R.ok r10).bind fun j11 => ((R.ok r1.2.2).bind fun v12 => R.ok (v12, j11))))
  | _, _ => R.no
def m_law_head : D → List D → R (D × D)
  | p0, [p1] => ((nox ((((R.ok p1).bind fun x45 => pyRange [x45]).bind fun i44 => R.ok (i44, p0)).bind fun pq38 => (filJ (fun d40 s41 => ((fun d => R.ok d) d40).bind fun a3 => ((((R.ok (PyData.int 3)).bind fun t55 => R.ok (t55, s41)).bind fun pq54 => (m_law_take_2 pq54.2 [pq54.1]).bind fun q56 => R.ok (q56.1, q56.2)).bind fun pq50 => ((R.ok (PyData.int 0)).bind fun t57 => R.ok (t57, pq50.2)).bind fun q51 => ((pyEq pq50.1 q51.1).bind asB).bind fun z52 => R.ok (z52, q51.2))) (fun d42 s43 => ((fun d => R.ok d) d42).bind fun a3 => ((R.ok a3).bind fun t58 => R.ok (t58, s43))) pq38.1 pq38.2).bind fun r39 => R.ok (PyData.list r39.1, r39.2))).bind fun v59 => ((((R.ok v59.1).bind fun x60 => (R.ok (PyData.list [])).bind fun x61 => (pyEq x60 x61).bind asB).bind fun b63 => if b63 = true then ((nox ((((R.ok p1).bind fun t79 => R.ok (t79, v59.2)).bind fun pq78 => (m_law_take_2 pq78.2 [pq78.1]).bind fun q80 => R.ok (q80.1, q80.2)).bind fun pq77 => R.ok (PyData.list [pq77.1], pq77.2))).bind fun v81 => (R.ok (v81.2, v81.1))) else (R.ok (v59.2, v59.1))).bind fun j82 => (((R.ok j82.2).bind fun x83 => pyTuple [x83]).bind fun v84 => R.ok (v84, j82.1))))
  | _, _ => R.no
def m_law_grown : D → List D → R (D × D)
  | p0, [p1, p2] => ((nox ((((R.ok p1).bind fun t7 => R.ok (t7, p0)).bind fun pq6 => (m_law_head pq6.2 [pq6.1]).bind fun q8 => R.ok (q8.1, q8.2)).bind fun pq5 => R.ok (PyData.list [pq5.1], pq5.2))).bind fun v9 => (((((R.ok p2).bind fun x10 => (R.ok (PyData.int 1)).bind fun x11 => pySub x10 x11).bind fun x12 => pyRange [x12]).bind fun b13 => foldR (fun d => R.ok d) (fun (j14 : (D × D)) a15 => ((nox (((R.ok (PyData.int 4)).bind fun t20 => R.ok (t20, j14.1)).bind fun pq19 => (m_law_take_2 pq19.2 [pq19.1]).bind fun q21 => R.ok (q21.1, q21.2))).bind fun v22 => ((nox (((((nl (((R.ok j14.2).bind fun x57 => pyLen [x57]).bind fun x58 => (R.ok (PyData.int 1)).bind fun x59 => pySub x58 x59)).bind fun t56 => R.ok (t56, v22.2)).bind fun pq54 => (((nl ((R.ok j14.2).bind fun x62 => pyLen [x62])).bind fun t61 => R.ok (t61, pq54.2)).bind fun pq60 => (m_law_take_2 pq60.2 [pq60.1]).bind fun q63 => R.ok (q63.1, q63.2)).bind fun pq55 => R.ok (PyData.list [pq54.1, pq55.1], pq55.2)).bind fun pq51 => ((((R.ok v22.1).bind fun x65 => (R.ok (PyData.int 1)).bind fun x66 => pyGt x65 x66).bind fun x67 => pyInt [x67]).bind fun t64 => R.ok (t64, pq51.2)).bind fun q52 => (pyIx pq51.1 q52.1).bind fun z53 => R.ok (z53, q52.2)).bind fun q49 => (ixO j14.2 q49.1).bind fun z50 => R.ok (z50, q49.2))).bind fun v68 => ((nox ((((R.ok v68.1).bind fun x113 => items x113).bind fun i112 => R.ok (i112, v68.2)).bind fun pq106 => (filJ (fun d108 s109 => ((fun d => R.ok d) d108).bind fun a71 => ((((R.ok (PyData.int 3)).bind fun t123 => R.ok (t123, s109)).bind fun pq122 => (m_law_take_2 pq122.2 [pq122.1]).bind fun q124 => R.ok (q124.1, q124.2)).bind fun pq118 => ((R.ok (PyData.int 0)).bind fun t125 => R.ok (t125, pq118.2)).bind fun q119 => ((pyGt pq118.1 q119.1).bind asB).bind fun z120 => R.ok (z120, q119.2))) (fun d110 s111 => ((fun d => R.ok d) d110).bind fun a71 => ((R.ok a71).bind fun t126 => R.ok (t126, s111))) pq106.1 pq106.2).bind fun r107 => R.ok (PyData.list r107.1, r107.2))).bind fun v127 => ((nf (((R.ok p1).bind fun x128 => pyRange [x128]).bind fun is130 => (filR (fun d132 => ((fun d => R.ok d) d132).bind fun a129 => ((((R.ok j14.2).bind fun x133 => items x133).bind fun is135 => (filR (fun d137 => ((fun d => R.ok d) d137).bind fun a134 => ((R.ok a129).bind fun x138 => (R.ok a134).bind fun x139 => (pyIn x138 x139).bind asB)) (fun d137 => ((fun d => R.ok d) d137).bind fun a134 => (R.ok a134)) is135).bind fun rs136 => R.ok (PyData.list rs136)).bind fun x141 => (R.ok (PyData.list [])).bind fun x142 => (pyNe x141 x142).bind asB)) (fun d132 => ((fun d => R.ok d) d132).bind fun a129 => (R.ok a129)) is130).bind fun rs131 => R.ok (PyData.list rs131))).bind fun v144 => ((nox ((((R.ok p1).bind fun x202 => pyRange [x202]).bind fun i201 => R.ok (i201, v127.2)).bind fun pq195 => (filJ (fun d197 s198 => ((fun d => R.ok d) d197).bind fun a147 => ((((R.ok a147).bind fun x205 => (R.ok v144).bind fun x206 => (pyNotIn x205 x206).bind asB).bind fun t204 => R.ok (t204, s198)).bind fun pq203 => if pq203.1 = true then ((((R.ok (PyData.int 2)).bind fun t217 => R.ok (t217, pq203.2)).bind fun pq216 => (m_law_take_2 pq216.2 [pq216.1]).bind fun q218 => R.ok (q218.1, q218.2)).bind fun pq212 => ((R.ok (PyData.int 0)).bind fun t219 => R.ok (t219, pq212.2)).bind fun q213 => ((pyEq pq212.1 q213.1).bind asB).bind fun z214 => R.ok (z214, q213.2)) else R.ok (false, pq203.2))) (fun d199 s200 => ((fun d => R.ok d) d199).bind fun a147 => ((R.ok a147).bind fun t220 => R.ok (t220, s200))) pq195.1 pq195.2).bind fun r196 => R.ok (PyData.list r196.1, r196.2))).bind fun v221 => ((((R.ok v127.1).bind fun x222 => (R.ok v221.1).bind fun x223 => pyAdd x222 x223).bind fun x224 => pySorted [x224]).bind fun v225 => ((((R.ok v225).bind fun x226 => (R.ok (PyData.list [])).bind fun x227 => (pyEq x226 x227).bind asB).bind fun b229 => if b229 = true then ((nox ((((R.ok v68.1).bind fun t264 => R.ok (t264, v221.2)).bind fun pq261 => ((((R.ok v68.1).bind fun x267 => pyLen [x267]).bind fun t266 => R.ok (t266, pq261.2)).bind fun pq265 => (m_law_take_2 pq265.2 [pq265.1]).bind fun q268 => R.ok (q268.1, q268.2)).bind fun q262 => (pyIx pq261.1 q262.1).bind fun z263 => R.ok (z263, q262.2)).bind fun pq260 => R.ok (PyData.list [pq260.1], pq260.2))).bind fun v269 => (R.ok (v269.2, v269.1))) else (R.ok (v221.2, v225))).bind fun j270 => (((lstD j14.2).bind fun u273 => ((R.ok j270.2).bind fun x271 => pyTuple [x271]).bind fun v272 => (appD j14.2 v272).bind fun r274 => R.ok r274).bind fun j275 => (R.ok (j270.1, j275))))))))))) b13 (v9.2, v9.1)).bind fun j276 => (R.ok (j276.2, j276.1))))
  | _, _ => R.no
def m_law_barred : D → List D → R (D × D)
  | p0, [p1] => ((nox ((((R.ok p1).bind fun x23 => (R.ok (PyData.int 3)).bind fun x24 => (pyEq x23 x24).bind asB).bind fun t22 => R.ok (t22, p0)).bind fun pq21 => if pq21.1 = true then R.ok (true, pq21.2) else ((((R.ok (PyData.int 2)).bind fun t35 => R.ok (t35, pq21.2)).bind fun pq34 => (m_law_take_2 pq34.2 [pq34.1]).bind fun q36 => R.ok (q36.1, q36.2)).bind fun pq30 => ((R.ok (PyData.int 0)).bind fun t37 => R.ok (t37, pq30.2)).bind fun q31 => ((pyEq pq30.1 q31.1).bind asB).bind fun z32 => R.ok (z32, q31.2)))).bind fun b38 => if b38.1 = true then ((nox (((R.ok (PyData.int 3)).bind fun t57 => R.ok (t57, b38.2)).bind fun pq54 => (((((R.ok (PyData.int 6)).bind fun x60 => (R.ok p1).bind fun x61 => pyMin [x60, x61]).bind fun x62 => (R.ok (PyData.int 2)).bind fun x63 => pySub x62 x63).bind fun t59 => R.ok (t59, pq54.2)).bind fun pq58 => (m_law_take_2 pq58.2 [pq58.1]).bind fun q64 => R.ok (q64.1, q64.2)).bind fun q55 => (pyAdd pq54.1 q55.1).bind fun z56 => R.ok (z56, q55.2))).bind fun v65 => ((((R.ok v65.1).bind fun x66 => pyRange [x66]).bind fun is77 => (mapR (fun d79 => ((fun d => R.ok d) d79).bind fun a67 => ((((R.ok v65.1).bind fun x68 => pyRange [x68]).bind fun is70 => (filR (fun d72 => ((fun d => R.ok d) d72).bind fun a69 => ((R.ok a69).bind fun x73 => (R.ok a67).bind fun x74 => (pyNe x73 x74).bind asB)) (fun d72 => ((fun d => R.ok d) d72).bind fun a69 => (R.ok a69)) is70).bind fun rs71 => R.ok (PyData.list rs71)).bind fun x76 => pyTuple [x76])) is77).bind fun rs78 => R.ok (PyData.list rs78)).bind fun v80 => R.ok (v80, v65.2))) else ((nox (((R.ok (PyData.int 4)).bind fun t99 => R.ok (t99, b38.2)).bind fun pq96 => (((((R.ok (PyData.int 6)).bind fun x102 => (R.ok p1).bind fun x103 => pyMin [x102, x103]).bind fun x104 => (R.ok (PyData.int 3)).bind fun x105 => pySub x104 x105).bind fun t101 => R.ok (t101, pq96.2)).bind fun pq100 => (m_law_take_2 pq100.2 [pq100.1]).bind fun q106 => R.ok (q106.1, q106.2)).bind fun q97 => (pyAdd pq96.1 q97.1).bind fun z98 => R.ok (z98, q97.2))).bind fun v107 => ((((R.ok v107.1).bind fun x108 => pyRange [x108]).bind fun is118 => (mapR (fun d120 => ((fun d => R.ok d) d120).bind fun a109 => ((((R.ok a109).bind fun x110 => (((R.ok a109).bind fun x111 => (R.ok (PyData.int 1)).bind fun x112 => pyAdd x111 x112).bind fun x113 => (R.ok v107.1).bind fun x114 => pyMod x113 x114).bind fun x115 => R.ok (PyData.list [x110, x115])).bind fun x116 => pySorted [x116]).bind fun x117 => pyTuple [x117])) is118).bind fun rs119 => R.ok (PyData.list rs119)).bind fun v121 => R.ok (v121, v107.2))))
  | _, _ => R.no
noncomputable def m_law_named_2 : D → List D → R (D × D)
  | p0, [p1, p2] => ((((R.ok p1).bind fun x1 => (asInt x1).bind fun n2 => R.ok ((0 : Int), n2)).bind fun q3 => (rgL q3).bind fun ts4 => R.ok (PyData.list ts4)).bind fun v5 => ((nox ((((R.ok p1).bind fun x35 => pyRange [x35]).bind fun i34 => R.ok (i34, (v5, p0))).bind fun pq30 => (mapJ (fun d32 s33 => ((fun d => R.ok d) d32).bind fun a8 => ((lstD s33.1).bind fun u38 => (((nl ((R.ok s33.1).bind fun x41 => pyLen [x41])).bind fun t40 => R.ok (t40, s33)).bind fun pq39 => (m_law_take_2 pq39.2.2 [pq39.1]).bind fun q42 => R.ok (q42.1, (pq39.2.1, q42.2))).bind fun pq36 => (popAtD pq36.2.1 pq36.1).bind fun q37 => R.ok (q37.1, (q37.2, pq36.2.2)))) pq30.1 pq30.2).bind fun r31 => R.ok (PyData.list r31.1, r31.2))).bind fun v43 => ((((R.ok p2).bind fun x44 => items x44).bind fun is55 => (mapR (fun d57 => ((fun d => R.ok d) d57).bind fun a45 => (((((R.ok a45).bind fun x46 => items x46).bind fun is50 => (mapR (fun d52 => ((fun d => R.ok d) d52).bind fun a47 => ((R.ok v43.1).bind fun x48 => (R.ok a47).bind fun x49 => pyIx x48 x49)) is50).bind fun rs51 => R.ok (PyData.list rs51)).bind fun x53 => pySorted [x53]).bind fun x54 => pyTuple [x54])) is55).bind fun rs56 => R.ok (PyData.list rs56)).bind fun v58 => ((R.ok (PyData.list [])).bind fun v59 => (thenO (J := (D × D × D)) (whX (fun (j60 : (D × D × D)) => ((R.ok j60.2.1).bind fun x61 => (R.ok (PyData.list [])).bind fun x62 => (pyNe x61 x62).bind asB)) (fun b64 => b64) (fun (j60 : (D × D × D)) b64 => (((lstD j60.2.2).bind fun u81 => (nox ((lstD (j60.2.1, j60.1).1).bind fun u75 => (((nl ((R.ok ((j60.2.1, j60.1).1)).bind fun x78 => pyLen [x78])).bind fun t77 => R.ok (t77, (j60.2.1, j60.1))).bind fun pq76 => (m_law_take_2 pq76.2.2 [pq76.1]).bind fun q79 => R.ok (q79.1, (pq76.2.1, q79.2))).bind fun pq73 => (popAtD pq73.2.1 pq73.1).bind fun q74 => R.ok (q74.1, (q74.2, pq73.2.2)))).bind fun v80 => (appD j60.2.2 v80.1).bind fun r82 => R.ok (v80.2.1, v80.2.2, r82)).bind fun j83 => (R.ok (Oc.nx (j83.2.1, j83.1, j83.2.2))))) (fun (j60 : (D × D × D)) b64 => (j60.1, j60.2.1, j60.2.2)) (v43.2.2, v58, v59)) (fun t b => (t, b)) (fun j84 => (((R.ok j84.2.2).bind fun x85 => pyTuple [x85]).bind fun v86 => R.ok (v86, j84.1))))))))
  | _, _ => R.no
noncomputable def m_law_layout_2 : D → List D → R (D × D)
  | p0, [p1, p2] => ((nox (((R.ok (PyData.int 1)).bind fun t11 => R.ok (t11, p0)).bind fun pq8 => (((R.ok p1).bind fun t13 => R.ok (t13, pq8.2)).bind fun pq12 => (m_law_take_2 pq12.2 [pq12.1]).bind fun q14 => R.ok (q14.1, q14.2)).bind fun q9 => (pyAdd pq8.1 q9.1).bind fun z10 => R.ok (z10, q9.2))).bind fun v15 => ((nox (((R.ok (PyData.int 1)).bind fun t26 => R.ok (t26, v15.2)).bind fun pq23 => (((R.ok p2).bind fun t28 => R.ok (t28, pq23.2)).bind fun pq27 => (m_law_take_2 pq27.2 [pq27.1]).bind fun q29 => R.ok (q29.1, q29.2)).bind fun q24 => (pyAdd pq23.1 q24.1).bind fun z25 => R.ok (z25, q24.2))).bind fun v30 => ((nox (((R.ok (PyData.int 5)).bind fun t35 => R.ok (t35, v30.2)).bind fun pq34 => (m_law_take_2 pq34.2 [pq34.1]).bind fun q36 => R.ok (q36.1, q36.2))).bind fun v37 => ((((R.ok v37.1).bind fun x38 => (R.ok (PyData.int 0)).bind fun x39 => (pyEq x38 x39).bind asB).bind fun k44 => if k44 = true then ((R.ok v15.1).bind fun x41 => (R.ok (PyData.int 2)).bind fun x42 => (pyGt x41 x42).bind asB) else R.ok false).bind fun b45 => if b45 = true then ((nox (((R.ok v15.1).bind fun t50 => R.ok (t50, v37.2)).bind fun pq49 => (m_law_barred pq49.2 [pq49.1]).bind fun q51 => R.ok (q51.1, q51.2))).bind fun v52 => ((nox ((((((R.ok (PyData.int 1)).bind fun x95 => ((R.ok (PyData.int 0)).bind fun x90 => ((R.ok p2).bind fun x92 => ((R.ok v52.1).bind fun x91 => pyLen [x91]).bind fun x93 => pySub x92 x93).bind fun x94 => pyMax [x90, x94]).bind fun x96 => pyAdd x95 x96).bind fun t89 => R.ok (t89, v52.2)).bind fun pq88 => (m_law_take_2 pq88.2 [pq88.1]).bind fun q97 => R.ok (q97.1, q97.2)).bind fun pq87 => (pyRange [pq87.1]).bind fun z98 => R.ok (z98, pq87.2)).bind fun pq83 => (mapJ (fun d85 s86 => ((fun d => R.ok d) d85).bind fun a60 => (((R.ok v15.1).bind fun t100 => R.ok (t100, s86)).bind fun pq99 => (m_law_head pq99.2 [pq99.1]).bind fun q101 => R.ok (q101.1, q101.2))) pq83.1 pq83.2).bind fun r84 => R.ok (PyData.list r84.1, r84.2))).bind fun v102 => ((nox (((R.ok v15.1).bind fun t125 => R.ok (t125, v102.2)).bind fun pq123 => (((R.ok v15.1).bind fun t128 => R.ok (t128, pq123.2)).bind fun pq126 => ((((R.ok v52.1).bind fun x130 => (R.ok v102.1).bind fun x131 => pyAdd x130 x131).bind fun x133 => (R.ok (none : Option Int)).bind fun x134 => ((R.ok (PyData.int 6)).bind fun x132 => partD x132).bind fun x135 => pySl x133 x134 x135).bind fun t129 => R.ok (t129, pq126.2)).bind fun pq127 => (m_law_named_2 pq127.2 [pq126.1, pq127.1]).bind fun q136 => R.ok (q136.1, q136.2)).bind fun pq124 => R.ok (PyData.tuple [pq123.1, pq124.1], pq124.2))).bind fun v137 => R.ok (v137.1, v137.2)))) else (((R.ok v37.1).bind fun x138 => (R.ok (PyData.int 1)).bind fun x139 => (pyEq x138 x139).bind asB).bind fun b141 => if b141 = true then ((nox (((R.ok v15.1).bind fun t166 => R.ok (t166, v37.2)).bind fun pq164 => (((R.ok v15.1).bind fun t169 => R.ok (t169, pq164.2)).bind fun pq167 => ((((R.ok v30.1).bind fun x175 => pyRange [x175]).bind fun i174 => R.ok (i174, pq167.2)).bind fun pq170 => (mapJ (fun d172 s173 => ((fun d => R.ok d) d172).bind fun a144 => (((R.ok v15.1).bind fun t177 => R.ok (t177, s173)).bind fun pq176 => (m_law_head pq176.2 [pq176.1]).bind fun q178 => R.ok (q178.1, q178.2))) pq170.1 pq170.2).bind fun r171 => R.ok (PyData.list r171.1, r171.2)).bind fun pq168 => (m_law_named_2 pq168.2 [pq167.1, pq168.1]).bind fun q179 => R.ok (q179.1, q179.2)).bind fun pq165 => R.ok (PyData.tuple [pq164.1, pq165.1], pq165.2))).bind fun v180 => R.ok (v180.1, v180.2)) else ((nox (((R.ok v15.1).bind fun t195 => R.ok (t195, v37.2)).bind fun pq193 => (((R.ok v15.1).bind fun t198 => R.ok (t198, pq193.2)).bind fun pq196 => (((R.ok v15.1).bind fun t201 => R.ok (t201, pq196.2)).bind fun pq199 => ((R.ok v30.1).bind fun t202 => R.ok (t202, pq199.2)).bind fun pq200 => (m_law_grown pq200.2 [pq199.1, pq200.1]).bind fun q203 => R.ok (q203.1, q203.2)).bind fun pq197 => (m_law_named_2 pq197.2 [pq196.1, pq197.1]).bind fun q204 => R.ok (q204.1, q204.2)).bind fun pq194 => R.ok (PyData.tuple [pq193.1, pq194.1], pq194.2))).bind fun v205 => R.ok (v205.1, v205.2)))))))
  | _, _ => R.no
def m_law_hang : List D → R D
  | [p0, p1] => (((R.ok p1).bind fun x1 => (R.ok (PyData.list [])).bind fun x2 => (pyEq x1 x2).bind asB).bind fun b4 => if b4 = true then ((R.ok (PyData.bool true)).bind fun v5 => R.ok v5) else (((R.ok p1).bind fun x7 => (R.ok (none : Option Int)).bind fun x8 => ((R.ok (PyData.int 1)).bind fun x6 => partD x6).bind fun x9 => pySl x7 x8 x9).bind fun v10 => (((((R.ok p1).bind fun x11 => pyLen [x11]).bind fun x12 => pyRange [x12]).bind fun b13 => foldR (fun d => R.ok d) (fun (j14 : (D)) a15 => ((((R.ok p0).bind fun x16 => items x16).bind fun b17 => foldR unp2 (fun (j18 : (D)) a19 => ((((((R.ok a19.1).bind fun x20 => (R.ok j18).bind fun x21 => pyIn x20 x21).bind fun x24 => ((R.ok a19.2).bind fun x22 => (R.ok j18).bind fun x23 => pyIn x22 x23).bind fun x25 => (pyNe x24 x25).bind asB).bind fun k34 => if k34 = true then (((R.ok a19.1).bind fun x27 => (R.ok p1).bind fun x28 => (pyIn x27 x28).bind asB).bind fun k33 => if k33 = true then ((R.ok a19.2).bind fun x30 => (R.ok p1).bind fun x31 => (pyIn x30 x31).bind asB) else R.ok false) else R.ok false).bind fun b35 => if b35 = true then (((R.ok j18).bind fun x55 => ((((R.ok a19.1).bind fun x47 => (R.ok a19.2).bind fun x48 => R.ok (PyData.list [x47, x48])).bind fun x52 => (((R.ok a19.1).bind fun x49 => (R.ok j18).bind fun x50 => pyIn x49 x50).bind fun x51 => pyInt [x51]).bind fun x53 => pyIx x52 x53).bind fun x54 => R.ok (PyData.list [x54])).bind fun x56 => pyAdd x55 x56).bind fun v57 => (R.ok v57)) else (R.ok j18)).bind fun j58 => (R.ok j58))) b17 j14).bind fun j59 => (R.ok j59))) b13 v10).bind fun j60 => ((((R.ok j60).bind fun x61 => pyLen [x61]).bind fun x63 => ((R.ok p1).bind fun x62 => pyLen [x62]).bind fun x64 => pyEq x63 x64).bind fun v65 => R.ok v65))))
  | _ => R.no
def m_law_is_pair : List D → R D
  | [p0, p1] => ((((((R.ok p1).bind fun x1 => isD ["tuple"] x1).bind tru).bind fun k2 => R.ok (!k2)).bind fun k16 => if k16 = true then R.ok true else ((((R.ok p1).bind fun x3 => pyLen [x3]).bind fun x4 => (R.ok (PyData.int 2)).bind fun x5 => (pyNe x4 x5).bind asB).bind fun k15 => if k15 = true then R.ok true else ((((((R.ok p1).bind fun x7 => items x7).bind fun is10 => (mapR (fun d12 => ((fun d => R.ok d) d12).bind fun a8 => ((R.ok a8).bind fun x9 => m_is_whole [x9])) is10).bind fun rs11 => R.ok (PyData.list rs11)).bind fun x13 => pyAll [x13]).bind tru).bind fun k14 => R.ok (!k14)))).bind fun b17 => if b17 = true then ((R.ok (PyData.bool false)).bind fun v18 => R.ok v18) else (((R.ok (PyData.int 0)).bind fun x26 => ((R.ok p1).bind fun x19 => (R.ok (PyData.int 0)).bind fun x20 => pyIx x19 x20).bind fun x27 => (pyLe x26 x27).bind fun x28 => (asB x28).bind fun x29 => if x29 = true then ((R.ok p1).bind fun x21 => (R.ok (PyData.int 1)).bind fun x22 => pyIx x21 x22).bind fun x30 => (pyLt x27 x30).bind fun x31 => (asB x31).bind fun x32 => if x32 = true then (((R.ok p0).bind fun x23 => (R.ok (PyData.int 1)).bind fun x24 => pyIx x23 x24).bind fun x25 => pyLen [x25]).bind fun x33 => pyLt x30 x33 else R.ok (PyData.bool false) else R.ok (PyData.bool false)).bind fun v34 => R.ok v34))
  | _ => R.no
def m_law_is_tree : List D → R D
  | [p0, p1] => ((((((R.ok p1).bind fun x1 => isD ["tuple"] x1).bind tru).bind fun k2 => R.ok (!k2)).bind fun k12 => if k12 = true then R.ok true else (((R.ok p1).bind fun x3 => pyLen [x3]).bind fun x9 => ((((R.ok p0).bind fun x4 => (R.ok (PyData.int 1)).bind fun x5 => pyIx x4 x5).bind fun x6 => pyLen [x6]).bind fun x7 => (R.ok (PyData.int 1)).bind fun x8 => pySub x7 x8).bind fun x10 => (pyNe x9 x10).bind asB)).bind fun b13 => if b13 = true then ((R.ok (PyData.bool false)).bind fun v14 => R.ok v14) else ((((((((R.ok p1).bind fun x15 => items x15).bind fun is19 => (mapR (fun d21 => ((fun d => R.ok d) d21).bind fun a16 => ((R.ok p0).bind fun x17 => (R.ok a16).bind fun x18 => m_law_is_pair [x17, x18])) is19).bind fun rs20 => R.ok (PyData.list rs20)).bind fun x22 => pyAll [x22]).bind tru).bind fun k23 => R.ok (!k23)).bind fun k29 => if k29 = true then R.ok true else (((R.ok p1).bind fun x24 => pyList [x24]).bind fun x26 => ((R.ok p1).bind fun x25 => pySortedSet x25).bind fun x27 => (pyNe x26 x27).bind asB)).bind fun b30 => if b30 = true then ((R.ok (PyData.bool false)).bind fun v31 => R.ok v31) else (((R.ok p1).bind fun x32 => (((((R.ok p0).bind fun x33 => (R.ok (PyData.int 1)).bind fun x34 => pyIx x33 x34).bind fun x35 => pyLen [x35]).bind fun x36 => (asInt x36).bind fun n37 => R.ok ((0 : Int), n37)).bind fun q38 => (rgL q38).bind fun ts39 => R.ok (PyData.list ts39)).bind fun x40 => m_law_hang [x32, x40]).bind fun v41 => R.ok v41)))
  | _ => R.no
def m_law_joins : List D → R D
  | [p0, p1] => (thenO (J := Unit) ((((R.ok p0).bind fun x1 => (R.ok (PyData.int 0)).bind fun x2 => pyIx x1 x2).bind fun x3 => pyRange [x3]).bind fun b4 => foldO (fun d => R.ok d) (fun (j5 : Unit) a6 => (((((R.ok p1).bind fun x7 => ((((R.ok p0).bind fun x8 => (R.ok (PyData.int 1)).bind fun x9 => pyIx x8 x9).bind fun x10 => pyEnum [x10]).bind fun is12 => (filR (fun d14 => (unp2 d14).bind fun a11 => ((R.ok a6).bind fun x15 => (R.ok a11.2).bind fun x16 => (pyIn x15 x16).bind asB)) (fun d14 => (unp2 d14).bind fun a11 => (R.ok a11.1)) is12).bind fun rs13 => R.ok (PyData.list rs13)).bind fun x18 => m_law_hang [x7, x18]).bind tru).bind fun k19 => R.ok (!k19)).bind fun b20 => if b20 = true then ((R.ok (PyData.bool false)).bind fun v21 => R.ok (Oc.rt v21 PyData.none)) else (R.ok (Oc.nx ())))) b4 ()) (fun t b => t) (fun j22 => ((R.ok (PyData.bool true)).bind fun v23 => R.ok v23)))
  | _ => R.no
def m_law_odd_2 : D → List D → R (D × D)
  | p0, [] => (((R.ok PyData.none).bind fun x1 => (R.ok (PyData.bool true)).bind fun x2 => (R.ok (PyData.bool false)).bind fun x3 => ((R.ok (PyData.int 1)).bind fun x4 => pyNeg x4).bind fun x5 => (R.ok (PyData.int 0)).bind fun x6 => (R.ok (PyData.int 1)).bind fun x7 => (R.ok (PyData.int 7)).bind fun x8 => (R.ok (PyData.int 10)).bind fun x9 => (R.ok (PyData.str "")).bind fun x10 => (R.ok (PyData.str "0")).bind fun x11 => (R.ok (PyData.str "none")).bind fun x12 => (R.ok (PyData.tuple [])).bind fun x13 => ((R.ok (PyData.int 0)).bind fun x14 => R.ok (PyData.tuple [x14])).bind fun x15 => ((R.ok (PyData.int 0)).bind fun x16 => (R.ok (PyData.int 1)).bind fun x17 => R.ok (PyData.tuple [x16, x17])).bind fun x18 => ((R.ok (PyData.int 1)).bind fun x19 => (R.ok (PyData.int 0)).bind fun x20 => R.ok (PyData.tuple [x19, x20])).bind fun x21 => ((R.ok (PyData.int 0)).bind fun x22 => (R.ok (PyData.int 0)).bind fun x23 => R.ok (PyData.tuple [x22, x23])).bind fun x24 => ((R.ok (PyData.int 0)).bind fun x25 => (R.ok (PyData.bool true)).bind fun x26 => R.ok (PyData.tuple [x25, x26])).bind fun x27 => ((R.ok (PyData.int 0)).bind fun x28 => R.ok (PyData.list [x28])).bind fun x29 => (R.ok (PyData.dict [])).bind fun x30 => R.ok (PyData.list [x1, x2, x3, x5, x6, x7, x8, x9, x10, x11, x12, x13, x15, x18, x21, x24, x27, x29, x30])).bind fun v31 => (((R.ok v31).bind fun x68 => ((((R.ok (PyData.int 0)).bind fun x32 => R.ok (PyData.tuple [x32])).bind fun x33 => R.ok (PyData.tuple [x33])).bind fun x34 => (((R.ok (PyData.int 0)).bind fun x35 => (R.ok (PyData.int 1)).bind fun x36 => R.ok (PyData.tuple [x35, x36])).bind fun x37 => R.ok (PyData.tuple [x37])).bind fun x38 => (((R.ok (PyData.int 0)).bind fun x39 => (R.ok (PyData.int 1)).bind fun x40 => R.ok (PyData.tuple [x39, x40])).bind fun x41 => R.ok (PyData.list [x41])).bind fun x42 => ((R.ok (PyData.int 10)).bind fun x43 => (R.ok (PyData.int 39)).bind fun x44 => pyPow x43 x44).bind fun x45 => ((R.ok (PyData.int 0)).bind fun x46 => (R.ok (PyData.int 10)).bind fun x47 => R.ok (PyData.tuple [x46, x47])).bind fun x48 => ((R.ok (PyData.int 0)).bind fun x49 => ((R.ok (PyData.int 1)).bind fun x50 => pyNeg x50).bind fun x51 => R.ok (PyData.tuple [x49, x51])).bind fun x52 => ((R.ok (PyData.tuple [])).bind fun x53 => (R.ok (PyData.tuple [])).bind fun x54 => R.ok (PyData.tuple [x53, x54])).bind fun x55 => (((R.ok (PyData.int 0)).bind fun x56 => (R.ok (PyData.int 1)).bind fun x57 => R.ok (PyData.tuple [x56, x57])).bind fun x58 => ((R.ok (PyData.int 0)).bind fun x59 => (R.ok (PyData.int 1)).bind fun x60 => R.ok (PyData.tuple [x59, x60])).bind fun x61 => R.ok (PyData.tuple [x58, x61])).bind fun x62 => (((R.ok (PyData.int 0)).bind fun x63 => (R.ok (PyData.int 1)).bind fun x64 => R.ok (PyData.tuple [x63, x64])).bind fun x65 => (R.ok PyData.none).bind fun x66 => R.ok (PyData.tuple [x65, x66])).bind fun x67 => R.ok (PyData.list [x34, x38, x42, x45, x48, x52, x55, x62, x67])).bind fun x69 => pyAdd x68 x69).bind fun v70 => ((nox (((R.ok v70).bind fun t83 => R.ok (t83, p0)).bind fun pq80 => ((((R.ok v70).bind fun x86 => pyLen [x86]).bind fun t85 => R.ok (t85, pq80.2)).bind fun pq84 => (m_law_take_2 pq84.2 [pq84.1]).bind fun q87 => R.ok (q87.1, q87.2)).bind fun q81 => (pyIx pq80.1 q81.1).bind fun z82 => R.ok (z82, q81.2))).bind fun v88 => R.ok (v88.1, v88.2))))
  | _, _ => R.no
def m_law_some_tree : D → List D → R (D × D)
  | p0, [p1] => ((R.ok (PyData.list [])).bind fun v1 => ((((R.ok (PyData.int 1)).bind fun x2 => (((R.ok p1).bind fun x3 => (R.ok (PyData.int 1)).bind fun x4 => pyIx x3 x4).bind fun x5 => pyLen [x5]).bind fun x6 => pyRange [x2, x6]).bind fun b7 => foldR (fun d => R.ok d) (fun (j8 : (D × D)) a9 => ((nox (((R.ok a9).bind fun t14 => R.ok (t14, j8.1)).bind fun pq13 => (m_law_take_2 pq13.2 [pq13.1]).bind fun q15 => R.ok (q15.1, q15.2))).bind fun v16 => ((((((R.ok p1).bind fun x17 => (R.ok (PyData.int 1)).bind fun x18 => pyIx x17 x18).bind fun x20 => (R.ok (none : Option Int)).bind fun x21 => ((R.ok a9).bind fun x19 => partD x19).bind fun x22 => pySl x20 x21 x22).bind fun x23 => items x23).bind fun is38 => (mapR (fun d40 => ((fun d => R.ok d) d40).bind fun a24 => ((((((R.ok p1).bind fun x25 => (R.ok (PyData.int 1)).bind fun x26 => pyIx x25 x26).bind fun x27 => (R.ok a9).bind fun x28 => pyIx x27 x28).bind fun x29 => items x29).bind fun is31 => (filR (fun d33 => ((fun d => R.ok d) d33).bind fun a30 => ((R.ok a30).bind fun x34 => (R.ok a24).bind fun x35 => (pyIn x34 x35).bind asB)) (fun d33 => ((fun d => R.ok d) d33).bind fun a30 => (R.ok a30)) is31).bind fun rs32 => R.ok (PyData.list rs32)).bind fun x37 => pyLen [x37])) is38).bind fun rs39 => R.ok (PyData.list rs39)).bind fun v41 => (((nox ((((R.ok (PyData.int 3)).bind fun t63 => R.ok (t63, v16.2)).bind fun pq62 => (m_law_take_2 pq62.2 [pq62.1]).bind fun q64 => R.ok (q64.1, q64.2)).bind fun pq58 => ((R.ok (PyData.int 0)).bind fun t65 => R.ok (t65, pq58.2)).bind fun q59 => ((pyGt pq58.1 q59.1).bind asB).bind fun z60 => R.ok (z60, q59.2))).bind fun b66 => if b66.1 = true then (((R.ok v41).bind fun x72 => (sqOk x72).bind fun _ => ((R.ok v41).bind fun x71 => pyMax [x71]).bind fun x73 => pyIndex x72 x73).bind fun v74 => (R.ok (b66.2, v74))) else (R.ok (b66.2, v16.1))).bind fun j75 => (((lstD j8.2).bind fun u79 => ((R.ok j75.2).bind fun x76 => (R.ok a9).bind fun x77 => R.ok (PyData.tuple [x76, x77])).bind fun v78 => (appD j8.2 v78).bind fun r80 => R.ok r80).bind fun j81 => (R.ok (j75.1, j81))))))) b7 (p0, v1)).bind fun j82 => ((((R.ok j82.2).bind fun x83 => pySorted [x83]).bind fun x84 => pyTuple [x84]).bind fun v85 => R.ok (v85, j82.1))))
  | _, _ => R.no
def m_law_bent_3 : D → List D → R (D × D)
  | p0, [p1, p2] => ((nox ((m_law_odd_2 p0 []).bind fun q2 => R.ok (q2.1, q2.2))).bind fun v3 => (((R.ok p2).bind fun x4 => (R.ok (PyData.tuple [])).bind fun x5 => (pyEq x4 x5).bind asB).bind fun b7 => if b7 = true then ((nox ((((R.ok v3.1).bind fun x43 => (((R.ok (PyData.int 0)).bind fun x44 => (R.ok (PyData.int 0)).bind fun x45 => R.ok (PyData.tuple [x44, x45])).bind fun x46 => R.ok (PyData.tuple [x46])).bind fun x47 => (((R.ok (PyData.int 0)).bind fun x48 => (R.ok (PyData.int 1)).bind fun x49 => R.ok (PyData.tuple [x48, x49])).bind fun x50 => R.ok (PyData.tuple [x50])).bind fun x51 => (R.ok (PyData.list [])).bind fun x52 => ((R.ok v3.1).bind fun x53 => R.ok (PyData.tuple [x53])).bind fun x54 => R.ok (PyData.list [x43, x47, x51, x52, x54])).bind fun t42 => R.ok (t42, v3.2)).bind fun pq39 => (((R.ok (PyData.int 5)).bind fun t56 => R.ok (t56, pq39.2)).bind fun pq55 => (m_law_take_2 pq55.2 [pq55.1]).bind fun q57 => R.ok (q57.1, q57.2)).bind fun q40 => (pyIx pq39.1 q40.1).bind fun z41 => R.ok (z41, q40.2))).bind fun v58 => R.ok (v58.1, v58.2)) else ((nox ((((R.ok p2).bind fun x66 => pyLen [x66]).bind fun t65 => R.ok (t65, v3.2)).bind fun pq64 => (m_law_take_2 pq64.2 [pq64.1]).bind fun q67 => R.ok (q67.1, q67.2))).bind fun v68 => ((nox ((((R.ok p2).bind fun x76 => pyLen [x76]).bind fun t75 => R.ok (t75, v68.2)).bind fun pq74 => (m_law_take_2 pq74.2 [pq74.1]).bind fun q77 => R.ok (q77.1, q77.2))).bind fun v78 => (((R.ok p2).bind fun x79 => pyList [x79]).bind fun v80 => (((nl (((R.ok v80).bind fun x81 => (R.ok v78.1).bind fun x82 => pyIx x81 x82).bind fun x83 => ((R.ok v80).bind fun x84 => (R.ok v68.1).bind fun x85 => pyIx x84 x85).bind fun x86 => R.ok (PyData.tuple [x83, x86]))).bind fun v87 => (nox (unp2 v87)).bind fun pq88 => (R.ok v68.1).bind fun k89 => (setD v80 k89 pq88.1).bind fun r90 => (R.ok v78.1).bind fun k91 => (setD r90 k91 pq88.2).bind fun r92 => R.ok r92).bind fun j93 => (((nox ((((((R.ok p1).bind fun x123 => (R.ok (PyData.int 1)).bind fun x124 => pyIx x123 x124).bind fun x125 => pyLen [x125]).bind fun t122 => R.ok (t122, v78.2)).bind fun pq121 => (m_law_take_2 pq121.2 [pq121.1]).bind fun q126 => R.ok (q126.1, q126.2)).bind fun pq119 => ((((R.ok (PyData.int 1)).bind fun x132 => (((R.ok p1).bind fun x129 => (R.ok (PyData.int 1)).bind fun x130 => pyIx x129 x130).bind fun x131 => pyLen [x131]).bind fun x133 => pyAdd x132 x133).bind fun t128 => R.ok (t128, pq119.2)).bind fun pq127 => (m_law_take_2 pq127.2 [pq127.1]).bind fun q134 => R.ok (q134.1, q134.2)).bind fun pq120 => R.ok (PyData.tuple [pq119.1, pq120.1], pq120.2))).bind fun v135 => (nox (unp2 v135.1)).bind fun pq136 => R.ok (v135, pq136)).bind fun r94 => (((((R.ok p2).bind fun x138 => (R.ok (none : Option Int)).bind fun x139 => ((R.ok v68.1).bind fun x137 => partD x137).bind fun x140 => pySl x138 x139 x140).bind fun x147 => ((R.ok p2).bind fun x144 => (((R.ok v68.1).bind fun x141 => (R.ok (PyData.int 1)).bind fun x142 => pyAdd x141 x142).bind fun x143 => partD x143).bind fun x145 => (R.ok (none : Option Int)).bind fun x146 => pySl x144 x145 x146).bind fun x148 => pyAdd x147 x148).bind fun x149 => (((R.ok p2).bind fun x153 => (R.ok (none : Option Int)).bind fun x154 => (((R.ok v68.1).bind fun x150 => (R.ok (PyData.int 1)).bind fun x151 => pyAdd x150 x151).bind fun x152 => partD x152).bind fun x155 => pySl x153 x154 x155).bind fun x160 => ((R.ok p2).bind fun x157 => ((R.ok v68.1).bind fun x156 => partD x156).bind fun x158 => (R.ok (none : Option Int)).bind fun x159 => pySl x157 x158 x159).bind fun x161 => pyAdd x160 x161).bind fun x162 => ((R.ok j93).bind fun x163 => pyTuple [x163]).bind fun x164 => ((R.ok p2).bind fun x165 => pyList [x165]).bind fun x166 => (R.ok v3.1).bind fun x167 => ((R.ok p2).bind fun x169 => ((R.ok v3.1).bind fun x168 => R.ok (PyData.tuple [x168])).bind fun x170 => pyAdd x169 x170).bind fun x171 => R.ok (PyData.list [x149, x162, x164, x166, x167, x171])).bind fun v172 => ((((((R.ok r94.2.1).bind fun x173 => (R.ok r94.2.2).bind fun x174 => R.ok (PyData.tuple [x173, x174])).bind fun x175 => (((R.ok p2).bind fun x176 => (R.ok v68.1).bind fun x177 => pyIx x176 x177).bind fun x178 => pyRev x178).bind fun x179 => (R.ok v3.1).bind fun x180 => (((R.ok p2).bind fun x181 => (R.ok v68.1).bind fun x182 => pyIx x181 x182).bind fun x183 => pyList [x183]).bind fun x184 => (((R.ok p2).bind fun x185 => (R.ok v68.1).bind fun x186 => pyIx x185 x186).bind fun x188 => ((R.ok (PyData.int 0)).bind fun x187 => R.ok (PyData.tuple [x187])).bind fun x189 => pyAdd x188 x189).bind fun x190 => ((R.ok (PyData.bool false)).bind fun x191 => (((R.ok p2).bind fun x192 => (R.ok v68.1).bind fun x193 => pyIx x192 x193).bind fun x194 => (R.ok (PyData.int 1)).bind fun x195 => pyIx x194 x195).bind fun x196 => R.ok (PyData.tuple [x191, x196])).bind fun x197 => R.ok (PyData.list [x175, x179, x180, x184, x190, x197])).bind fun x198 => items x198).bind fun b199 => foldR (fun d => R.ok d) (fun (j200 : (D)) a201 => (((lstD j200).bind fun u218 => ((((R.ok p2).bind fun x203 => (R.ok (none : Option Int)).bind fun x204 => ((R.ok v68.1).bind fun x202 => partD x202).bind fun x205 => pySl x203 x204 x205).bind fun x207 => ((R.ok a201).bind fun x206 => R.ok (PyData.tuple [x206])).bind fun x208 => pyAdd x207 x208).bind fun x215 => ((R.ok p2).bind fun x212 => (((R.ok v68.1).bind fun x209 => (R.ok (PyData.int 1)).bind fun x210 => pyAdd x209 x210).bind fun x211 => partD x211).bind fun x213 => (R.ok (none : Option Int)).bind fun x214 => pySl x212 x213 x214).bind fun x216 => pyAdd x215 x216).bind fun v217 => (appD j200 v217).bind fun r219 => R.ok r219).bind fun j220 => (R.ok j220))) b199 v172).bind fun j221 => (((lstD j221).bind fun u246 => ((((((R.ok p2).bind fun x223 => (R.ok (none : Option Int)).bind fun x224 => ((R.ok v68.1).bind fun x222 => partD x222).bind fun x225 => pySl x223 x224 x225).bind fun x233 => ((((R.ok r94.2.1).bind fun x226 => (R.ok r94.2.2).bind fun x227 => pyMin [x226, x227]).bind fun x228 => ((R.ok r94.2.1).bind fun x229 => (R.ok r94.2.2).bind fun x230 => pyMax [x229, x230]).bind fun x231 => R.ok (PyData.tuple [x228, x231])).bind fun x232 => R.ok (PyData.tuple [x232])).bind fun x234 => pyAdd x233 x234).bind fun x241 => ((R.ok p2).bind fun x238 => (((R.ok v68.1).bind fun x235 => (R.ok (PyData.int 1)).bind fun x236 => pyAdd x235 x236).bind fun x237 => partD x237).bind fun x239 => (R.ok (none : Option Int)).bind fun x240 => pySl x238 x239 x240).bind fun x242 => pyAdd x241 x242).bind fun x243 => pySorted [x243]).bind fun x244 => pyTuple [x244]).bind fun v245 => (appD j221 v245).bind fun r247 => R.ok r247).bind fun j248 => ((nox (((R.ok j248).bind fun t259 => R.ok (t259, r94.1.2)).bind fun pq256 => (((R.ok (PyData.int 13)).bind fun t261 => R.ok (t261, pq256.2)).bind fun pq260 => (m_law_take_2 pq260.2 [pq260.1]).bind fun q262 => R.ok (q262.1, q262.2)).bind fun q257 => (pyIx pq256.1 q257.1).bind fun z258 => R.ok (z258, q257.2))).bind fun v263 => R.ok (v263.1, v263.2))))))))))))
  | _, _ => R.no
noncomputable def m_law_k21 : List D → R D
  | [p0] => (thenO (J := Unit) ((((R.ok (PyData.int 1)).bind fun x1 => (((R.ok p0).bind fun x2 => pyLen [x2]).bind fun x3 => (R.ok (PyData.int 6)).bind fun x4 => pyMin [x3, x4]).bind fun x5 => pyMax [x1, x5]).bind fun x6 => pyRange [x6]).bind fun b7 => foldO (fun d => R.ok d) (fun (j8 : Unit) a9 => (((R.ok p0).bind fun x10 => (R.ok a9).bind fun x11 => m_law_box_2 [x10, x11]).bind fun v12 => ((nox (((R.ok (PyData.int 7)).bind fun t20 => R.ok (t20, v12)).bind fun pq18 => ((R.ok (PyData.int 6)).bind fun t21 => R.ok (t21, pq18.2)).bind fun pq19 => (m_law_layout_2 pq19.2 [pq18.1, pq19.1]).bind fun q22 => R.ok (q22.1, q22.2))).bind fun v23 => ((nox (((R.ok v23.1).bind fun t28 => R.ok (t28, v23.2)).bind fun pq27 => (m_law_some_tree pq27.2 [pq27.1]).bind fun q29 => R.ok (q29.1, q29.2))).bind fun v30 => (thenO (J := (D)) ((nox ((((R.ok v30.1).bind fun t55 => R.ok (t55, v30.2)).bind fun pq51 => (((R.ok v23.1).bind fun t58 => R.ok (t58, pq51.2)).bind fun pq56 => ((R.ok v30.1).bind fun t59 => R.ok (t59, pq56.2)).bind fun pq57 => (m_law_bent_3 pq57.2 [pq56.1, pq57.1]).bind fun q60 => R.ok (q60.1, q60.2)).bind fun pq52 => (((R.ok v23.1).bind fun t63 => R.ok (t63, pq52.2)).bind fun pq61 => ((R.ok v30.1).bind fun t64 => R.ok (t64, pq61.2)).bind fun pq62 => (m_law_bent_3 pq62.2 [pq61.1, pq62.1]).bind fun q65 => R.ok (q65.1, q65.2)).bind fun pq53 => ((m_law_odd_2 pq53.2 []).bind fun q66 => R.ok (q66.1, q66.2)).bind fun pq54 => R.ok (PyData.list [pq51.1, pq52.1, pq53.1, pq54.1], pq54.2)).bind fun pq49 => (items pq49.1).bind fun i50 => R.ok (i50, pq49.2))).bind fun b67 => foldO (fun d => R.ok d) (fun (j68 : (D)) a69 => (((((R.ok v23.1).bind fun x71 => (R.ok a69).bind fun x72 => m_is_tree [x71, x72]).bind fun x73 => ((R.ok v23.1).bind fun x74 => (R.ok a69).bind fun x75 => m_is_join_tree [x74, x75]).bind fun x76 => R.ok (PyData.tuple [x73, x76])).bind fun v77 => (nox (unp2 v77)).bind fun pq78 => R.ok (v77, pq78)).bind fun r70 => (((R.ok v23.1).bind fun x79 => (R.ok a69).bind fun x80 => m_law_is_tree [x79, x80]).bind fun v81 => ((((((R.ok r70.2.1).bind fun x82 => isD ["bool"] x82).bind tru).bind fun k83 => R.ok (!k83)).bind fun k90 => if k90 = true then R.ok true else (((((R.ok r70.2.2).bind fun x84 => isD ["bool"] x84).bind tru).bind fun k85 => R.ok (!k85)).bind fun k89 => if k89 = true then R.ok true else ((R.ok r70.2.1).bind fun x86 => (R.ok v81).bind fun x87 => (pyNe x86 x87).bind asB))).bind fun b91 => if b91 = true then ((R.ok (PyData.bool false)).bind fun v92 => R.ok (Oc.rt v92 PyData.none)) else (((R.ok r70.2.2).bind fun x97 => ((R.ok v81).bind fun x95 => (tru x95).bind fun k96 => if k96 = true then ((R.ok v23.1).bind fun x93 => (R.ok a69).bind fun x94 => m_law_joins [x93, x94]) else R.ok x95).bind fun x98 => (pyNe x97 x98).bind asB).bind fun b100 => if b100 = true then ((R.ok (PyData.bool false)).bind fun v101 => R.ok (Oc.rt v101 PyData.none)) else (R.ok (Oc.nx j68))))))) b67.1 b67.2) (fun t b => (Oc.rt t b)) (fun j102 => ((((R.ok v23.1).bind fun x103 => (R.ok v30.1).bind fun x104 => m_is_tree [x103, x104]).bind fun x105 => (R.ok (PyData.bool true)).bind fun x106 => (pyIsNotB x105 x106).bind asB).bind fun b108 => if b108 = true then ((R.ok (PyData.bool false)).bind fun v109 => R.ok (Oc.rt v109 PyData.none)) else (R.ok (Oc.nx ()))))))))) b7 ()) (fun t b => t) (fun j110 => ((R.ok (PyData.bool true)).bind fun v111 => R.ok v111)))
  | _ => R.no
def m_all_columns : List D → R D
  | [p0] => (((((R.ok p0).bind fun x1 => (R.ok (PyData.int 0)).bind fun x2 => pyIx x1 x2).bind fun x3 => pyRange [x3]).bind fun is5 => (filR (fun d7 => ((fun d => R.ok d) d7).bind fun a4 => ((((R.ok p0).bind fun x8 => (R.ok (PyData.int 1)).bind fun x9 => pyIx x8 x9).bind fun x10 => (R.ok a4).bind fun x11 => m_having [x10, x11]).bind fun x12 => (R.ok (PyData.tuple [])).bind fun x13 => (pyNe x12 x13).bind asB)) (fun d7 => ((fun d => R.ok d) d7).bind fun a4 => (R.ok a4)) is5).bind fun rs6 => R.ok (PyData.list rs6)).bind fun v15 => R.ok v15)
  | _ => R.no
def m_is_within : List D → R D
  | [p0, p1] => (((((R.ok p0).bind fun x1 => items x1).bind fun is5 => (mapR (fun d7 => ((fun d => R.ok d) d7).bind fun a2 => ((R.ok a2).bind fun x3 => (R.ok p1).bind fun x4 => pyIn x3 x4)) is5).bind fun rs6 => R.ok (PyData.list rs6)).bind fun x8 => pyAll [x8]).bind fun v9 => R.ok v9)
  | _ => R.no
def m_is_nest : List D → R D
  | [p0, p1] => ((((R.ok p0).bind fun x1 => items x1).bind fun is3 => (filR (fun d5 => ((fun d => R.ok d) d5).bind fun a2 => ((R.ok p1).bind fun x6 => (R.ok a2).bind fun x7 => (pyIn x6 x7).bind asB)) (fun d5 => ((fun d => R.ok d) d5).bind fun a2 => (R.ok a2)) is3).bind fun rs4 => R.ok (PyData.list rs4)).bind fun v9 => (thenO (J := Unit) (((R.ok v9).bind fun x10 => items x10).bind fun b11 => foldO (fun d => R.ok d) (fun (j12 : Unit) a13 => (thenO (J := Unit) (((R.ok v9).bind fun x14 => items x14).bind fun b15 => foldO (fun d => R.ok d) (fun (j16 : Unit) a17 => ((((((R.ok a13).bind fun x18 => (R.ok a17).bind fun x19 => m_is_within [x18, x19]).bind tru).bind fun k20 => R.ok (!k20)).bind fun k24 => if k24 = true then ((((R.ok a17).bind fun x21 => (R.ok a13).bind fun x22 => m_is_within [x21, x22]).bind tru).bind fun k23 => R.ok (!k23)) else R.ok false).bind fun b25 => if b25 = true then ((R.ok (PyData.bool false)).bind fun v26 => R.ok (Oc.rt v26 PyData.none)) else (R.ok (Oc.nx ())))) b15 ()) (fun t b => (Oc.rt t b)) (fun j27 => (R.ok (Oc.nx ()))))) b11 ()) (fun t b => t) (fun j28 => ((R.ok (PyData.bool true)).bind fun v29 => R.ok v29))))
  | _ => R.no
def m_taken_out : List D → R D
  | [p0, p1] => ((((R.ok p0).bind fun x1 => items x1).bind fun is12 => (mapR (fun d14 => ((fun d => R.ok d) d14).bind fun a2 => ((((R.ok a2).bind fun x3 => items x3).bind fun is5 => (filR (fun d7 => ((fun d => R.ok d) d7).bind fun a4 => ((R.ok a4).bind fun x8 => (R.ok p1).bind fun x9 => (pyNe x8 x9).bind asB)) (fun d7 => ((fun d => R.ok d) d7).bind fun a4 => (R.ok a4)) is5).bind fun rs6 => R.ok (PyData.list rs6)).bind fun x11 => pyTuple [x11])) is12).bind fun rs13 => R.ok (PyData.list rs13)).bind fun v15 => R.ok v15)
  | _ => R.no
def m_are_nests : List D → R D
  | [p0, p1] => ((((((R.ok p1).bind fun x1 => isD ["tuple"] x1).bind tru).bind fun k2 => R.ok (!k2)).bind fun k14 => if k14 = true then R.ok true else ((((((R.ok p1).bind fun x3 => items x3).bind fun is9 => (mapR (fun d11 => ((fun d => R.ok d) d11).bind fun a4 => ((R.ok a4).bind fun x5 => ((R.ok p0).bind fun x6 => (R.ok (PyData.int 0)).bind fun x7 => pyIx x6 x7).bind fun x8 => m_is_upto [x5, x8])) is9).bind fun rs10 => R.ok (PyData.list rs10)).bind fun x12 => pyAll [x12]).bind tru).bind fun k13 => R.ok (!k13))).bind fun b15 => if b15 = true then ((R.ok (PyData.bool false)).bind fun v16 => R.ok v16) else ((((R.ok p1).bind fun x17 => pySorted [x17]).bind fun x19 => ((R.ok p0).bind fun x18 => m_all_columns [x18]).bind fun x20 => (pyNe x19 x20).bind asB).bind fun b22 => if b22 = true then ((R.ok (PyData.bool false)).bind fun v23 => R.ok v23) else ((((R.ok p0).bind fun x24 => (R.ok (PyData.int 1)).bind fun x25 => pyIx x24 x25).bind fun x26 => pyList [x26]).bind fun v27 => (thenO (J := (D)) (((R.ok p1).bind fun x28 => items x28).bind fun b29 => foldO (fun d => R.ok d) (fun (j30 : (D)) a31 => (((((R.ok j30).bind fun x32 => (R.ok a31).bind fun x33 => m_is_nest [x32, x33]).bind tru).bind fun k34 => R.ok (!k34)).bind fun b35 => if b35 = true then ((R.ok (PyData.bool false)).bind fun v36 => R.ok (Oc.rt v36 PyData.none)) else (((R.ok j30).bind fun x37 => (R.ok a31).bind fun x38 => m_taken_out [x37, x38]).bind fun v39 => (R.ok (Oc.nx v39))))) b29 v27) (fun t b => t) (fun j40 => ((R.ok (PyData.bool true)).bind fun v41 => R.ok v41))))))
  | _ => R.no
noncomputable def m_first_nests : List D → R D
  | [p0] => ((((R.ok p0).bind fun x1 => (R.ok (PyData.int 1)).bind fun x2 => pyIx x1 x2).bind fun x3 => pyList [x3]).bind fun v4 => (((R.ok p0).bind fun x5 => m_all_columns [x5]).bind fun v6 => ((R.ok (PyData.tuple [])).bind fun v7 => (thenO (J := (D × D × D)) (whX (fun (j8 : (D × D × D)) => ((R.ok j8.2.1).bind fun x9 => (R.ok (PyData.list [])).bind fun x10 => (pyNe x9 x10).bind asB)) (fun b12 => b12) (fun (j8 : (D × D × D)) b12 => ((nf (((R.ok j8.2.1).bind fun x13 => items x13).bind fun is15 => (filR (fun d17 => ((fun d => R.ok d) d17).bind fun a14 => (((R.ok j8.1).bind fun x18 => (R.ok a14).bind fun x19 => m_is_nest [x18, x19]).bind tru)) (fun d17 => ((fun d => R.ok d) d17).bind fun a14 => (R.ok a14)) is15).bind fun rs16 => R.ok (PyData.list rs16))).bind fun v20 => (((R.ok v20).bind fun x21 => (R.ok (PyData.list [])).bind fun x22 => (pyEq x21 x22).bind asB).bind fun b24 => if b24 = true then ((R.ok PyData.none).bind fun v25 => R.ok (Oc.rt v25 PyData.none)) else (((R.ok j8.2.2).bind fun x29 => (((R.ok v20).bind fun x26 => (R.ok (PyData.int 0)).bind fun x27 => pyIx x26 x27).bind fun x28 => R.ok (PyData.tuple [x28])).bind fun x30 => pyAdd x29 x30).bind fun v31 => (((lstD j8.2.1).bind fun u35 => ((R.ok v20).bind fun x32 => (R.ok (PyData.int 0)).bind fun x33 => pyIx x32 x33).bind fun v34 => (remD j8.2.1 v34).bind fun r36 => R.ok r36).bind fun j37 => (((R.ok j8.1).bind fun x38 => ((R.ok v20).bind fun x39 => (R.ok (PyData.int 0)).bind fun x40 => pyIx x39 x40).bind fun x41 => m_taken_out [x38, x41]).bind fun v42 => (R.ok (Oc.nx (v42, j37, v31))))))))) (fun (j8 : (D × D × D)) b12 => (j8.1, j8.2.1, j8.2.2)) (v4, v6, v7)) (fun t b => t) (fun j43 => ((R.ok j43.2.2).bind fun v44 => R.ok v44))))))
  | _ => R.no
def m_law_columns : List D → R D
  | [p0] => (((((R.ok p0).bind fun x1 => (R.ok (PyData.int 0)).bind fun x2 => pyIx x1 x2).bind fun x3 => pyRange [x3]).bind fun is5 => (filR (fun d7 => ((fun d => R.ok d) d7).bind fun a4 => (((((R.ok p0).bind fun x8 => (R.ok (PyData.int 1)).bind fun x9 => pyIx x8 x9).bind fun x10 => items x10).bind fun is12 => (filR (fun d14 => ((fun d => R.ok d) d14).bind fun a11 => ((R.ok a4).bind fun x15 => (R.ok a11).bind fun x16 => (pyIn x15 x16).bind asB)) (fun d14 => ((fun d => R.ok d) d14).bind fun a11 => (R.ok a11)) is12).bind fun rs13 => R.ok (PyData.list rs13)).bind fun x18 => (R.ok (PyData.list [])).bind fun x19 => (pyNe x18 x19).bind asB)) (fun d7 => ((fun d => R.ok d) d7).bind fun a4 => (R.ok a4)) is5).bind fun rs6 => R.ok (PyData.list rs6)).bind fun v21 => R.ok v21)
  | _ => R.no
def m_law_is_nest : List D → R D
  | [p0, p1] => ((((R.ok p0).bind fun x1 => items x1).bind fun is3 => (filR (fun d5 => ((fun d => R.ok d) d5).bind fun a2 => ((R.ok p1).bind fun x6 => (R.ok a2).bind fun x7 => (pyIn x6 x7).bind asB)) (fun d5 => ((fun d => R.ok d) d5).bind fun a2 => (R.ok a2)) is3).bind fun rs4 => R.ok (PyData.list rs4)).bind fun v9 => (thenO (J := Unit) (((R.ok v9).bind fun x10 => items x10).bind fun b11 => foldO (fun d => R.ok d) (fun (j12 : Unit) a13 => (thenO (J := Unit) (((R.ok v9).bind fun x14 => items x14).bind fun b15 => foldO (fun d => R.ok d) (fun (j16 : Unit) a17 => ((((((R.ok a13).bind fun x18 => items x18).bind fun is20 => (filR (fun d22 => ((fun d => R.ok d) d22).bind fun a19 => ((R.ok a19).bind fun x23 => (R.ok a17).bind fun x24 => (pyNotIn x23 x24).bind asB)) (fun d22 => ((fun d => R.ok d) d22).bind fun a19 => (R.ok (PyData.int 1))) is20).bind fun rs21 => R.ok (PyData.list rs21)).bind fun x26 => (R.ok (PyData.list [])).bind fun x27 => (pyNe x26 x27).bind asB).bind fun k40 => if k40 = true then ((((R.ok a17).bind fun x29 => items x29).bind fun is31 => (filR (fun d33 => ((fun d => R.ok d) d33).bind fun a30 => ((R.ok a30).bind fun x34 => (R.ok a13).bind fun x35 => (pyNotIn x34 x35).bind asB)) (fun d33 => ((fun d => R.ok d) d33).bind fun a30 => (R.ok (PyData.int 1))) is31).bind fun rs32 => R.ok (PyData.list rs32)).bind fun x37 => (R.ok (PyData.list [])).bind fun x38 => (pyNe x37 x38).bind asB) else R.ok false).bind fun b41 => if b41 = true then ((R.ok (PyData.bool false)).bind fun v42 => R.ok (Oc.rt v42 PyData.none)) else (R.ok (Oc.nx ())))) b15 ()) (fun t b => (Oc.rt t b)) (fun j43 => (R.ok (Oc.nx ()))))) b11 ()) (fun t b => t) (fun j44 => ((R.ok (PyData.bool true)).bind fun v45 => R.ok v45))))
  | _ => R.no
def m_law_are_nests : List D → R D
  | [p0, p1] => ((((((R.ok p1).bind fun x1 => isD ["tuple"] x1).bind tru).bind fun k2 => R.ok (!k2)).bind fun k11 => if k11 = true then R.ok true else ((((((R.ok p1).bind fun x3 => items x3).bind fun is6 => (mapR (fun d8 => ((fun d => R.ok d) d8).bind fun a4 => ((R.ok a4).bind fun x5 => m_is_whole [x5])) is6).bind fun rs7 => R.ok (PyData.list rs7)).bind fun x9 => pyAll [x9]).bind tru).bind fun k10 => R.ok (!k10))).bind fun b12 => if b12 = true then ((R.ok (PyData.bool false)).bind fun v13 => R.ok v13) else ((((R.ok p1).bind fun x14 => pySorted [x14]).bind fun x16 => ((R.ok p0).bind fun x15 => m_law_columns [x15]).bind fun x17 => (pyNe x16 x17).bind asB).bind fun b19 => if b19 = true then ((R.ok (PyData.bool false)).bind fun v20 => R.ok v20) else ((((R.ok p0).bind fun x21 => (R.ok (PyData.int 1)).bind fun x22 => pyIx x21 x22).bind fun x23 => pyList [x23]).bind fun v24 => (thenO (J := (D)) (((R.ok p1).bind fun x25 => items x25).bind fun b26 => foldO (fun d => R.ok d) (fun (j27 : (D)) a28 => (((((R.ok j27).bind fun x29 => (R.ok a28).bind fun x30 => m_law_is_nest [x29, x30]).bind tru).bind fun k31 => R.ok (!k31)).bind fun b32 => if b32 = true then ((R.ok (PyData.bool false)).bind fun v33 => R.ok (Oc.rt v33 PyData.none)) else (((R.ok j27).bind fun x34 => (R.ok a28).bind fun x35 => m_taken_out [x34, x35]).bind fun v36 => (R.ok (Oc.nx v36))))) b26 v24) (fun t b => t) (fun j37 => ((R.ok (PyData.bool true)).bind fun v38 => R.ok v38))))))
  | _ => R.no
noncomputable def m_law_first : List D → R D
  | [p0, p1] => ((((R.ok (PyData.tuple [])).bind fun x1 => (R.ok p0).bind fun x2 => R.ok (PyData.tuple [x1, x2])).bind fun x3 => R.ok (PyData.list [x3])).bind fun v4 => (thenO (J := (D)) (whX (fun (j5 : (D)) => ((R.ok j5).bind fun x6 => (R.ok (PyData.list [])).bind fun x7 => (pyNe x6 x7).bind asB)) (fun b9 => b9) (fun (j5 : (D)) b9 => (((nox ((popD j5).bind fun q12 => R.ok (q12.1, q12.2))).bind fun v13 => (nox (unp2 v13.1)).bind fun pq14 => R.ok (v13, pq14)).bind fun r10 => ((((R.ok r10.2.1).bind fun x15 => pyLen [x15]).bind fun x17 => ((R.ok p1).bind fun x16 => pyLen [x16]).bind fun x18 => (pyEq x17 x18).bind asB).bind fun b20 => if b20 = true then ((R.ok r10.2.1).bind fun v21 => R.ok (Oc.rt v21 PyData.none)) else ((((R.ok p1).bind fun x22 => items x22).bind fun is24 => (filR (fun d26 => ((fun d => R.ok d) d26).bind fun a23 => (((R.ok a23).bind fun x27 => (R.ok r10.2.1).bind fun x28 => (pyNotIn x27 x28).bind asB).bind fun k32 => if k32 = true then (((R.ok r10.2.2).bind fun x30 => (R.ok a23).bind fun x31 => m_law_is_nest [x30, x31]).bind tru) else R.ok false)) (fun d26 => ((fun d => R.ok d) d26).bind fun a23 => (R.ok a23)) is24).bind fun rs25 => R.ok (PyData.list rs25)).bind fun v33 => (((lstD r10.1.2).bind fun u48 => ((((R.ok v33).bind fun x34 => pyRev x34).bind fun x35 => items x35).bind fun is44 => (mapR (fun d46 => ((fun d => R.ok d) d46).bind fun a36 => (((R.ok r10.2.1).bind fun x38 => ((R.ok a36).bind fun x37 => R.ok (PyData.tuple [x37])).bind fun x39 => pyAdd x38 x39).bind fun x40 => ((R.ok r10.2.2).bind fun x41 => (R.ok a36).bind fun x42 => m_taken_out [x41, x42]).bind fun x43 => R.ok (PyData.tuple [x40, x43]))) is44).bind fun rs45 => R.ok (PyData.list rs45)).bind fun v47 => (extD r10.1.2 v47).bind fun r49 => R.ok r49).bind fun j50 => (R.ok (Oc.nx j50))))))) (fun (j5 : (D)) b9 => j5) v4) (fun t b => t) (fun j51 => ((R.ok PyData.none).bind fun v52 => R.ok v52))))
  | _ => R.no
def m_law_bent_5 : D → List D → R (D × D)
  | p0, [p1, p2] => ((nox ((m_law_odd_2 p0 []).bind fun q2 => R.ok (q2.1, q2.2))).bind fun v3 => ((nox ((((R.ok p2).bind fun x11 => pyLen [x11]).bind fun t10 => R.ok (t10, v3.2)).bind fun pq9 => (m_law_take_2 pq9.2 [pq9.1]).bind fun q12 => R.ok (q12.1, q12.2))).bind fun v13 => ((nox ((((R.ok p2).bind fun x21 => pyLen [x21]).bind fun t20 => R.ok (t20, v13.2)).bind fun pq19 => (m_law_take_2 pq19.2 [pq19.1]).bind fun q22 => R.ok (q22.1, q22.2))).bind fun v23 => (((R.ok p2).bind fun x24 => pyList [x24]).bind fun v25 => (((nl (((R.ok v25).bind fun x26 => (R.ok v23.1).bind fun x27 => pyIx x26 x27).bind fun x28 => ((R.ok v25).bind fun x29 => (R.ok v13.1).bind fun x30 => pyIx x29 x30).bind fun x31 => R.ok (PyData.tuple [x28, x31]))).bind fun v32 => (nox (unp2 v32)).bind fun pq33 => (R.ok v13.1).bind fun k34 => (setD v25 k34 pq33.1).bind fun r35 => (R.ok v23.1).bind fun k36 => (setD r35 k36 pq33.2).bind fun r37 => R.ok r37).bind fun j38 => ((((R.ok j38).bind fun x39 => pyTuple [x39]).bind fun x40 => (((R.ok p2).bind fun x42 => (R.ok (none : Option Int)).bind fun x43 => ((R.ok v13.1).bind fun x41 => partD x41).bind fun x44 => pySl x42 x43 x44).bind fun x51 => ((R.ok p2).bind fun x48 => (((R.ok v13.1).bind fun x45 => (R.ok (PyData.int 1)).bind fun x46 => pyAdd x45 x46).bind fun x47 => partD x47).bind fun x49 => (R.ok (none : Option Int)).bind fun x50 => pySl x48 x49 x50).bind fun x52 => pyAdd x51 x52).bind fun x53 => (((R.ok p2).bind fun x57 => (R.ok (none : Option Int)).bind fun x58 => (((R.ok v13.1).bind fun x54 => (R.ok (PyData.int 1)).bind fun x55 => pyAdd x54 x55).bind fun x56 => partD x56).bind fun x59 => pySl x57 x58 x59).bind fun x64 => ((R.ok p2).bind fun x61 => ((R.ok v13.1).bind fun x60 => partD x60).bind fun x62 => (R.ok (none : Option Int)).bind fun x63 => pySl x61 x62 x63).bind fun x65 => pyAdd x64 x65).bind fun x66 => ((R.ok p2).bind fun x67 => pyRev x67).bind fun x68 => ((R.ok p2).bind fun x69 => pyList [x69]).bind fun x70 => (R.ok v3.1).bind fun x71 => R.ok (PyData.list [x40, x53, x66, x68, x70, x71])).bind fun v72 => (((nox ((((((R.ok p1).bind fun x91 => (R.ok (PyData.int 0)).bind fun x92 => pyIx x91 x92).bind fun t90 => R.ok (t90, v23.2)).bind fun pq89 => (m_law_take_2 pq89.2 [pq89.1]).bind fun q93 => R.ok (q93.1, q93.2)).bind fun pq87 => ((R.ok v3.1).bind fun t94 => R.ok (t94, pq87.2)).bind fun pq88 => R.ok (PyData.list [pq87.1, pq88.1], pq88.2)).bind fun pq85 => (items pq85.1).bind fun i86 => R.ok (i86, pq85.2))).bind fun b95 => foldR (fun d => R.ok d) (fun (j96 : (D × D)) a97 => (((lstD j96.2).bind fun u114 => ((((R.ok p2).bind fun x99 => (R.ok (none : Option Int)).bind fun x100 => ((R.ok v13.1).bind fun x98 => partD x98).bind fun x101 => pySl x99 x100 x101).bind fun x103 => ((R.ok a97).bind fun x102 => R.ok (PyData.tuple [x102])).bind fun x104 => pyAdd x103 x104).bind fun x111 => ((R.ok p2).bind fun x108 => (((R.ok v13.1).bind fun x105 => (R.ok (PyData.int 1)).bind fun x106 => pyAdd x105 x106).bind fun x107 => partD x107).bind fun x109 => (R.ok (none : Option Int)).bind fun x110 => pySl x108 x109 x110).bind fun x112 => pyAdd x111 x112).bind fun v113 => (appD j96.2 v113).bind fun r115 => R.ok r115).bind fun j116 => (R.ok (j96.1, j116)))) b95.1 (b95.2, v72)).bind fun j117 => ((nox (((R.ok j117.2).bind fun t128 => R.ok (t128, j117.1)).bind fun pq125 => (((R.ok (PyData.int 8)).bind fun t130 => R.ok (t130, pq125.2)).bind fun pq129 => (m_law_take_2 pq129.2 [pq129.1]).bind fun q131 => R.ok (q131.1, q131.2)).bind fun q126 => (pyIx pq125.1 q126.1).bind fun z127 => R.ok (z127, q126.2))).bind fun v132 => R.ok (v132.1, v132.2)))))))))
  | _, _ => R.no
noncomputable def m_law_k41 : List D → R D
  | [p0] => (thenO (J := Unit) ((((R.ok (PyData.int 1)).bind fun x1 => (((R.ok p0).bind fun x2 => pyLen [x2]).bind fun x3 => (R.ok (PyData.int 5)).bind fun x4 => pyMin [x3, x4]).bind fun x5 => pyMax [x1, x5]).bind fun x6 => pyRange [x6]).bind fun b7 => foldO (fun d => R.ok d) (fun (j8 : Unit) a9 => (((R.ok p0).bind fun x10 => (R.ok a9).bind fun x11 => m_law_box_2 [x10, x11]).bind fun v12 => ((nox (((R.ok (PyData.int 7)).bind fun t20 => R.ok (t20, v12)).bind fun pq18 => ((R.ok (PyData.int 6)).bind fun t21 => R.ok (t21, pq18.2)).bind fun pq19 => (m_law_layout_2 pq19.2 [pq18.1, pq19.1]).bind fun q22 => R.ok (q22.1, q22.2))).bind fun v23 => (((R.ok v23.1).bind fun x24 => m_law_columns [x24]).bind fun v25 => (((((R.ok v23.1).bind fun x26 => (R.ok (PyData.int 1)).bind fun x27 => pyIx x26 x27).bind fun x28 => pyList [x28]).bind fun x29 => (R.ok v25).bind fun x30 => m_law_first [x29, x30]).bind fun v31 => (((R.ok v23.1).bind fun x32 => m_first_nests [x32]).bind fun v33 => (((((R.ok v33).bind fun x34 => (R.ok PyData.none).bind fun x35 => pyIs x34 x35).bind fun x38 => ((R.ok v31).bind fun x36 => (R.ok PyData.none).bind fun x37 => pyIs x36 x37).bind fun x39 => (pyNe x38 x39).bind asB).bind fun k44 => if k44 = true then R.ok true else ((R.ok v33).bind fun x41 => (R.ok v31).bind fun x42 => (pyNe x41 x42).bind asB)).bind fun b45 => if b45 = true then ((R.ok (PyData.bool false)).bind fun v46 => R.ok (Oc.rt v46 PyData.none)) else (((R.ok v25).bind fun x47 => pyList [x47]).bind fun v48 => ((nox ((((((R.ok v25).bind fun x84 => pyLen [x84]).bind fun x85 => pyRange [x85]).bind fun i83 => R.ok (i83, (v48, v23.2))).bind fun pq79 => (mapJ (fun d81 s82 => ((fun d => R.ok d) d81).bind fun a53 => ((lstD s82.1).bind fun u88 => (((nl ((R.ok s82.1).bind fun x91 => pyLen [x91])).bind fun t90 => R.ok (t90, s82)).bind fun pq89 => (m_law_take_2 pq89.2.2 [pq89.1]).bind fun q92 => R.ok (q92.1, (pq89.2.1, q92.2))).bind fun pq86 => (popAtD pq86.2.1 pq86.1).bind fun q87 => R.ok (q87.1, (q87.2, pq86.2.2)))) pq79.1 pq79.2).bind fun r80 => R.ok (PyData.list r80.1, r80.2)).bind fun pq78 => (pyTuple [pq78.1]).bind fun z93 => R.ok (z93, pq78.2))).bind fun v94 => (thenO (J := (D)) ((nox ((((R.ok v94.1).bind fun t126 => R.ok (t126, v94.2.2)).bind fun pq121 => (((R.ok v23.1).bind fun t129 => R.ok (t129, pq121.2)).bind fun pq127 => ((R.ok v94.1).bind fun t130 => R.ok (t130, pq127.2)).bind fun pq128 => (m_law_bent_5 pq128.2 [pq127.1, pq128.1]).bind fun q131 => R.ok (q131.1, q131.2)).bind fun pq122 => ((R.ok v31).bind fun t132 => R.ok (t132, pq122.2)).bind fun pq123 => (((R.ok v23.1).bind fun t135 => R.ok (t135, pq123.2)).bind fun pq133 => (((R.ok v31).bind fun x137 => (tru x137).bind fun k138 => if k138 = true then R.ok x137 else (R.ok v94.1)).bind fun t136 => R.ok (t136, pq133.2)).bind fun pq134 => (m_law_bent_5 pq134.2 [pq133.1, pq134.1]).bind fun q139 => R.ok (q139.1, q139.2)).bind fun pq124 => ((m_law_odd_2 pq124.2 []).bind fun q140 => R.ok (q140.1, q140.2)).bind fun pq125 => R.ok (PyData.list [pq121.1, pq122.1, pq123.1, pq124.1, pq125.1], pq125.2)).bind fun pq119 => (items pq119.1).bind fun i120 => R.ok (i120, pq119.2))).bind fun b141 => foldO (fun d => R.ok d) (fun (j142 : (D)) a143 => (((R.ok v23.1).bind fun x144 => (R.ok a143).bind fun x145 => m_are_nests [x144, x145]).bind fun v146 => ((((((R.ok v146).bind fun x147 => isD ["bool"] x147).bind tru).bind fun k148 => R.ok (!k148)).bind fun k154 => if k154 = true then R.ok true else ((R.ok v146).bind fun x151 => ((R.ok v23.1).bind fun x149 => (R.ok a143).bind fun x150 => m_law_are_nests [x149, x150]).bind fun x152 => (pyNe x151 x152).bind asB)).bind fun b155 => if b155 = true then ((R.ok (PyData.bool false)).bind fun v156 => R.ok (Oc.rt v156 PyData.none)) else (R.ok (Oc.nx j142))))) b141.1 b141.2) (fun t b => (Oc.rt t b)) (fun j157 => (R.ok (Oc.nx ()))))))))))))) b7 ()) (fun t b => t) (fun j158 => ((R.ok (PyData.bool true)).bind fun v159 => R.ok v159)))
  | _ => R.no
end JT
namespace LK41
open PySem PySem.Spec PyProof.Rows L2 TL JT
def topS (i : Nat) : Stmt := PySem.Challenge.pw_jointrees_k41_rows_of_nests.main.body.getD i (.Pass ⟨0, 0, 0, 0⟩)
abbrev s_is_whole : Stmt := topS 1
theorem sc_is_whole : FnScope ["thing"] ["thing"] (defScope s_is_whole) := ⟨rfl, rfl, rfl, by decide +kernel, rfl, by decide +kernel, by decide +kernel⟩
abbrev s_is_upto : Stmt := topS 2
theorem sc_is_upto : FnScope ["thing", "many"] ["thing", "many"] (defScope s_is_upto) := ⟨rfl, rfl, rfl, by decide +kernel, rfl, by decide +kernel, by decide +kernel⟩
abbrev s_having : Stmt := topS 3
theorem sc_having : FnScope ["heads", "column", "number", "head"] ["heads", "column"] (defScope s_having) := ⟨rfl, rfl, rfl, by decide +kernel, rfl, by decide +kernel, by decide +kernel⟩
abbrev s_all_columns : Stmt := topS 4
theorem sc_all_columns : FnScope ["layout", "column"] ["layout"] (defScope s_all_columns) := ⟨rfl, rfl, rfl, by decide +kernel, rfl, by decide +kernel, by decide +kernel⟩
abbrev s_is_within : Stmt := topS 6
theorem sc_is_within : FnScope ["one", "other", "column"] ["one", "other"] (defScope s_is_within) := ⟨rfl, rfl, rfl, by decide +kernel, rfl, by decide +kernel, by decide +kernel⟩
abbrev s_is_nest : Stmt := topS 7
theorem sc_is_nest : FnScope ["heads", "column", "some", "head", "one", "other"] ["heads", "column"] (defScope s_is_nest) := ⟨rfl, rfl, rfl, by decide +kernel, rfl, by decide +kernel, by decide +kernel⟩
abbrev s_taken_out : Stmt := topS 8
theorem sc_taken_out : FnScope ["heads", "column", "head", "one"] ["heads", "column"] (defScope s_taken_out) := ⟨rfl, rfl, rfl, by decide +kernel, rfl, by decide +kernel, by decide +kernel⟩
abbrev s_are_nests : Stmt := topS 9
theorem sc_are_nests : FnScope ["layout", "thing", "one", "heads", "column"] ["layout", "thing"] (defScope s_are_nests) := ⟨rfl, rfl, rfl, by decide +kernel, rfl, by decide +kernel, by decide +kernel⟩
abbrev s_first_nests : Stmt := topS 10
theorem sc_first_nests : FnScope ["layout", "heads", "left", "found", "some", "column"] ["layout"] (defScope s_first_nests) := ⟨rfl, rfl, rfl, by decide +kernel, rfl, by decide +kernel, by decide +kernel⟩
abbrev s__law_cell : Stmt := topS 12
theorem sc__law_cell : FnScope ["_law_script", "_law_k"] ["_law_script", "_law_k"] (defScope s__law_cell) := ⟨rfl, rfl, rfl, by decide +kernel, rfl, by decide +kernel, by decide +kernel⟩
abbrev s__law_mix : Stmt := topS 13
theorem sc__law_mix : FnScope ["_law_cell_here", "_law_k", "_law_number"] ["_law_cell_here", "_law_k"] (defScope s__law_mix) := ⟨rfl, rfl, rfl, by decide +kernel, rfl, by decide +kernel, by decide +kernel⟩
abbrev s__law_box : Stmt := topS 14
theorem sc__law_box : FnScope ["_law_script", "_law_k", "_law_here", "_law_number", "_law_j"] ["_law_script", "_law_k"] (defScope s__law_box) := ⟨rfl, rfl, rfl, by decide +kernel, rfl, by decide +kernel, by decide +kernel⟩
abbrev s__law_take : Stmt := topS 15
theorem sc__law_take : FnScope ["_law_box_here", "_law_many", "_law_left", "_law_digit"] ["_law_box_here", "_law_many"] (defScope s__law_take) := ⟨rfl, rfl, rfl, by decide +kernel, rfl, by decide +kernel, by decide +kernel⟩
abbrev s__law_head : Stmt := topS 16
theorem sc__law_head : FnScope ["_law_box_here", "_law_many", "_law_some", "_law_column"] ["_law_box_here", "_law_many"] (defScope s__law_head) := ⟨rfl, rfl, rfl, by decide +kernel, rfl, by decide +kernel, by decide +kernel⟩
abbrev s__law_grown : Stmt := topS 17
theorem sc__law_grown : FnScope ["_law_box_here", "_law_many", "_law_heads", "_law_found", "_law_turn", "_law_way", "_law_base", "_law_kept", "_law_column", "_law_met", "_law_head_here", "_law_fresh"] ["_law_box_here", "_law_many", "_law_heads"] (defScope s__law_grown) := ⟨rfl, rfl, rfl, by decide +kernel, rfl, by decide +kernel, by decide +kernel⟩
abbrev s__law_barred : Stmt := topS 18
theorem sc__law_barred : FnScope ["_law_box_here", "_law_many", "_law_size", "_law_lack", "_law_column"] ["_law_box_here", "_law_many"] (defScope s__law_barred) := ⟨rfl, rfl, rfl, by decide +kernel, rfl, by decide +kernel, by decide +kernel⟩
abbrev s__law_named : Stmt := topS 19
theorem sc__law_named : FnScope ["_law_box_here", "_law_many", "_law_heads", "_law_left", "_law_names", "_law_turn", "_law_rows", "_law_head_here", "_law_column", "_law_found"] ["_law_box_here", "_law_many", "_law_heads"] (defScope s__law_named) := ⟨rfl, rfl, rfl, by decide +kernel, rfl, by decide +kernel, by decide +kernel⟩
abbrev s__law_layout : Stmt := topS 20
theorem sc__law_layout : FnScope ["_law_box_here", "_law_most", "_law_heads", "_law_many", "_law_number", "_law_way", "_law_some", "_law_extra", "_law_turn"] ["_law_box_here", "_law_most", "_law_heads"] (defScope s__law_layout) := ⟨rfl, rfl, rfl, by decide +kernel, rfl, by decide +kernel, by decide +kernel⟩
abbrev s__law_whole : Stmt := topS 21
theorem sc__law_whole : FnScope ["_law_found"] ["_law_found"] (defScope s__law_whole) := ⟨rfl, rfl, rfl, by decide +kernel, rfl, by decide +kernel, by decide +kernel⟩
abbrev s__law_odd : Stmt := topS 22
theorem sc__law_odd : FnScope ["_law_box_here", "_law_some"] ["_law_box_here"] (defScope s__law_odd) := ⟨rfl, rfl, rfl, by decide +kernel, rfl, by decide +kernel, by decide +kernel⟩
abbrev s__law_columns : Stmt := topS 23
theorem sc__law_columns : FnScope ["_law_layout_here", "_law_column", "_law_head_here"] ["_law_layout_here"] (defScope s__law_columns) := ⟨rfl, rfl, rfl, by decide +kernel, rfl, by decide +kernel, by decide +kernel⟩
abbrev s__law_taken : Stmt := topS 24
theorem sc__law_taken : FnScope ["_law_heads", "_law_column", "_law_head_here", "_law_one"] ["_law_heads", "_law_column"] (defScope s__law_taken) := ⟨rfl, rfl, rfl, by decide +kernel, rfl, by decide +kernel, by decide +kernel⟩
abbrev s__law_is_nest : Stmt := topS 25
theorem sc__law_is_nest : FnScope ["_law_heads", "_law_column", "_law_some", "_law_head_here", "_law_one", "_law_other", "_law_here"] ["_law_heads", "_law_column"] (defScope s__law_is_nest) := ⟨rfl, rfl, rfl, by decide +kernel, rfl, by decide +kernel, by decide +kernel⟩
abbrev s__law_are_nests : Stmt := topS 26
theorem sc__law_are_nests : FnScope ["_law_layout_here", "_law_thing", "_law_one", "_law_heads", "_law_column"] ["_law_layout_here", "_law_thing"] (defScope s__law_are_nests) := ⟨rfl, rfl, rfl, by decide +kernel, rfl, by decide +kernel, by decide +kernel⟩
abbrev s__law_first : Stmt := topS 27
theorem sc__law_first : FnScope ["_law_heads", "_law_left", "_law_rows", "_law_row", "_law_here", "_law_more", "_law_column"] ["_law_heads", "_law_left"] (defScope s__law_first) := ⟨rfl, rfl, rfl, by decide +kernel, rfl, by decide +kernel, by decide +kernel⟩
abbrev s__law_bent : Stmt := topS 28
theorem sc__law_bent : FnScope ["_law_box_here", "_law_layout_here", "_law_row", "_law_odd_here", "_law_at", "_law_to", "_law_rows", "_law_some", "_law_one"] ["_law_box_here", "_law_layout_here", "_law_row"] (defScope s__law_bent) := ⟨rfl, rfl, rfl, by decide +kernel, rfl, by decide +kernel, by decide +kernel⟩
abbrev s_law : Stmt := topS 29
theorem sc_law : FnScope ["_law_script", "_law_k", "_law_box_here", "_law_layout_here", "_law_left", "_law_due", "_law_found", "_law_drawn", "_law_row", "_law_turn", "_law_thing", "_law_told"] ["_law_script"] (defScope s_law) := ⟨rfl, rfl, rfl, by decide +kernel, rfl, by decide +kernel, by decide +kernel⟩
theorem k_is_whole {P : Program} {w : World} {K : PySem.W.Frag} {mg : Str → Option Value} {base : Heap} {fa : Addr} {fd : FuncData} (F : Fun K "is_whole" "is_whole" s_is_whole fa fd) (hb : Binds K fd ["thing"] []) (hm : mg "is_whole" = some (.ref fa)) (z_bool : mg "bool" = none) (z_int : mg "int" = none) (z_isinstance : mg "isinstance" = none) : CalOk P w K mg base 1 "is_whole" (spP K mg 1 .fz m_is_whole) :=
  cal_fn (N := ["thing"]) F sc_is_whole hb hm rfl fun cdv A outer s H E hr ts hl => match ts, hl with
    | [p0], _ => by
      have hu : (A.deeper (envOfC "is_whole" (defScope s_is_whole) s.heap.objs.size fa cdv)).units + 66 < cLine := by
        have := hr.un
        omega
      rw [m_is_whole]
      exact (show BS _ E false .fz [] [some p0] _ _ _ _ from (bs_ret (g := fun (v7 : D) => v7) (bx := fun (v7 : D) => PyData.none) (vp_p (ρe := [some p0]) (xq (ep_and (ep_isi (n := "int") z_isinstance z_int (ep_var 0)) (ep_one (ep_not (ep_isi (n := "bool") z_isinstance z_bool (ep_var 0))))))) (hb := (fun _ z => nomatch z))))
theorem k_is_upto {P : Program} {w : World} {K : PySem.W.Frag} {mg : Str → Option Value} {base : Heap} {fa : Addr} {fd : FuncData} (F : Fun K "is_upto" "is_upto" s_is_upto fa fd) (hb : Binds K fd ["thing", "many"] []) (hm : mg "is_upto" = some (.ref fa))  (c_is_whole : CalOk P w K mg base 1 "is_whole" (spP K mg 1 .fz m_is_whole)) : CalOk P w K mg base 2 "is_upto" (spP K mg 2 .fz m_is_upto) :=
  cal_fn (N := ["thing", "many"]) F sc_is_upto hb hm rfl fun cdv A outer s H E hr ts hl => match ts, hl with
    | [p0, p1], _ => by
      have hu : (A.deeper (envOfC "is_upto" (defScope s_is_upto) s.heap.objs.size fa cdv)).units + 66 < cLine := by
        have := hr.un
        omega
      rw [m_is_upto]
      exact (show BS _ E false .fz [] [some p0, some p1] _ _ _ _ from (bs_ret (g := fun (v10 : D) => v10) (bx := fun (v10 : D) => PyData.none) (vp_p (ρe := [some p0, some p1]) (xq (ep_and (xp_call c_is_whole hr (by omega) pass_cx (ea_cons (ep_var 0) ea_nil)) (ep_one (ep_chain od_le (od_lt hu) ep_int (ep_var 0) (ep_var 1)))))) (hb := (fun _ z => nomatch z))))
theorem k_having {P : Program} {w : World} {K : PySem.W.Frag} {mg : Str → Option Value} {base : Heap} {fa : Addr} {fd : FuncData} (F : Fun K "having" "having" s_having fa fd) (hb : Binds K fd ["heads", "column"] []) (hm : mg "having" = some (.ref fa)) (z_enumerate : mg "enumerate" = none) (z_tuple : mg "tuple" = none) : CalOk P w K mg base 1 "having" (spP K mg 2 .fz m_having) :=
  cal_fn (N := ["heads", "column", "number", "head"]) F sc_having hb hm rfl fun cdv A outer s H E hr ts hl => match ts, hl with
    | [p0, p1], _ => by
      have hu : (A.deeper (envOfC "having" (defScope s_having) s.heap.objs.size fa cdv)).units + 66 < cLine := by
        have := hr.un
        omega
      rw [m_having]
      exact (show BS _ E false .fz [] [some p0, some p1, none, none] _ _ _ _ from (bs_ret (g := fun (v10 : D) => v10) (bx := fun (v10 : D) => PyData.none) (vp_p (ρe := [some p0, some p1, none, none]) (xq (ep_callT cd_tuple z_tuple (ea_cons (xp_of_xf (xf_lc (lcx_lcf (own := [("number", 2), ("head", 3)]) (cond := fun a2 => ((R.ok p1).bind fun x6 => (R.ok a2.2).bind fun x7 => (pyIn x6 x7).bind asB)) (me := fun a2 => (R.ok a2.1)) sc_having.nd (xi_enum z_enumerate (ea_cons (ep_var 0) ea_nil)) (fun s H C cl fp => xg_pair 2 3 sc_having.nd) (fun s H C cl fp a2 => xqB (eb_cmp (od_in hu) (ep_var 1) (ep_var 3))) (fun s H C cl fp a2 => xq (ep_var 2)) (blkOk_by (N := ["heads", "column", "number", "head"]) (sc := defScope s_having) (by decide +kernel))))) ea_nil)))) (hb := (fun _ z => nomatch z))))
theorem k_all_columns {P : Program} {w : World} {K : PySem.W.Frag} {mg : Str → Option Value} {base : Heap} {fa : Addr} {fd : FuncData} (F : Fun K "all_columns" "all_columns" s_all_columns fa fd) (hb : Binds K fd ["layout"] []) (hm : mg "all_columns" = some (.ref fa)) (z_range : mg "range" = none) (c_having : CalOk P w K mg base 1 "having" (spP K mg 2 .fz m_having)) : CalOk P w K mg base 2 "all_columns" (spP K mg 1 .nw m_all_columns) :=
  cal_fn (N := ["layout", "column"]) F sc_all_columns hb hm rfl fun cdv A outer s H E hr ts hl => match ts, hl with
    | [p0], _ => by
      have hu : (A.deeper (envOfC "all_columns" (defScope s_all_columns) s.heap.objs.size fa cdv)).units + 66 < cLine := by
        have := hr.un
        omega
      rw [m_all_columns]
      exact (show BS _ E false .nw [] [some p0, none] _ _ _ _ from (bs_retF (g := fun (v15 : D) => v15) (bx := fun (v15 : D) => PyData.none) (vf_p (ρe := [some p0, none]) (xqF (xf_lc (lcx_lcf (own := [("column", 1)]) (cond := fun a4 => ((((R.ok p0).bind fun x8 => (R.ok (PyData.int 1)).bind fun x9 => pyIx x8 x9).bind fun x10 => (R.ok a4).bind fun x11 => m_having [x10, x11]).bind fun x12 => (R.ok (PyData.tuple [])).bind fun x13 => (pyNe x12 x13).bind asB)) (me := fun a4 => (R.ok a4)) sc_all_columns.nd (xi_range1 z_range (ea_cons (ep_ix id_ix (ep_var 0) ep_int) ea_nil)) (fun s H C cl fp => xg_name 1 sc_all_columns.nd) (fun s H C cl fp a4 => xqB (eb_cmp (od_ne hu) (xp_call c_having hr (by omega) passN (ea_cons (ep_ix id_ix (ep_var 0) ep_int) (ea_cons (ep_var 1) ea_nil))) (ep_tup ea_nil))) (fun s H C cl fp a4 => xq (ep_var 1)) (blkOk_by (N := ["layout", "column"]) (sc := defScope s_all_columns) (by decide +kernel)))))) (hb := (fun _ z => nomatch z))))
theorem k_is_within {P : Program} {w : World} {K : PySem.W.Frag} {mg : Str → Option Value} {base : Heap} {fa : Addr} {fd : FuncData} (F : Fun K "is_within" "is_within" s_is_within fa fd) (hb : Binds K fd ["one", "other"] []) (hm : mg "is_within" = some (.ref fa)) (z_all : mg "all" = none) : CalOk P w K mg base 1 "is_within" (spP K mg 2 .fz m_is_within) :=
  cal_fn (N := ["one", "other", "column"]) F sc_is_within hb hm rfl fun cdv A outer s H E hr ts hl => match ts, hl with
    | [p0, p1], _ => by
      have hu : (A.deeper (envOfC "is_within" (defScope s_is_within) s.heap.objs.size fa cdv)).units + 66 < cLine := by
        have := hr.un
        omega
      rw [m_is_within]
      exact (show BS _ E false .fz [] [some p0, some p1, none] _ _ _ _ from (bs_ret (g := fun (v9 : D) => v9) (bx := fun (v9 : D) => PyData.none) (vp_p (ρe := [some p0, some p1, none]) (xq (ep_callB (cd_all rfl) z_all (ea_cons (xp_of_xf (xf_lc (lcx_lc (own := [("column", 2)]) (me := fun a2 => ((R.ok a2).bind fun x3 => (R.ok p1).bind fun x4 => pyIn x3 x4)) sc_is_within.nd (xi_val (ep_var 0)) (fun s H C cl fp => xg_name 2 sc_is_within.nd) (fun s H C cl fp a2 => xq (ep_cmp (od_in hu) (ep_var 2) (ep_var 1))) (blkOk_by (N := ["one", "other", "column"]) (sc := defScope s_is_within) (by decide +kernel))))) ea_nil)))) (hb := (fun _ z => nomatch z))))
theorem k_is_nest {P : Program} {w : World} {K : PySem.W.Frag} {mg : Str → Option Value} {base : Heap} {fa : Addr} {fd : FuncData} (F : Fun K "is_nest" "is_nest" s_is_nest fa fd) (hb : Binds K fd ["heads", "column"] []) (hm : mg "is_nest" = some (.ref fa))  (c_is_within : CalOk P w K mg base 1 "is_within" (spP K mg 2 .fz m_is_within)) : CalOk P w K mg base 2 "is_nest" (spP K mg 2 .fz m_is_nest) :=
  cal_fn (N := ["heads", "column", "some", "head", "one", "other"]) F sc_is_nest hb hm rfl fun cdv A outer s H E hr ts hl => match ts, hl with
    | [p0, p1], _ => by
      have hu : (A.deeper (envOfC "is_nest" (defScope s_is_nest) s.heap.objs.size fa cdv)).units + 66 < cLine := by
        have := hr.un
        omega
      rw [m_is_nest]
      exact (show BS _ E false .fz [] [some p0, some p1, none, none, none, none] _ _ _ _ from (bs_seq (emb := fun v9 => [some p0, some p1, some v9, none, none, none]) (own1 := []) (ss_setLc 2 (lv_p (ρe := [some p0, some p1, none, none, none, none]) (lq (lcx_lcf (own := [("head", 3)]) (cond := fun a2 => ((R.ok p1).bind fun x6 => (R.ok a2).bind fun x7 => (pyIn x6 x7).bind asB)) (me := fun a2 => (R.ok a2)) sc_is_nest.nd (xi_val (ep_var 0)) (fun s H C cl fp => xg_name 3 sc_is_nest.nd) (fun s H C cl fp a2 => xqB (eb_cmp (od_in hu) (ep_var 1) (ep_var 3))) (fun s H C cl fp a2 => xq (ep_var 3)) (blkOk_by (N := ["heads", "column", "some", "head", "one", "other"]) (sc := defScope s_is_nest) (by decide +kernel)))))) (fun v9 => by exact (bs_seqN (emb := fun (j28 : Unit) => [some p0, some p1, some v9, none, none, none]) (own1 := []) (fun t b => t) (ss_forO (emb := fun (j12 : Unit) => [some p0, some p1, some v9, none, none, none]) (fun b11 => ()) own_cx rfl (vi_p (xqI (xi_val (ep_var 2)))) (xg_name 4 sc_is_nest.nd) (fun j12 a13 => (show BS _ _ _ _ [] [some p0, some p1, some v9, none, some a13, none] _ _ _ _ from by exact (bs_seqP (emb := fun (j27 : Unit) => [some p0, some p1, some v9, none, some a13, none]) (own1 := []) (fun t b => (Oc.rt t b)) (ss_forO (emb := fun (j16 : Unit) => [some p0, some p1, some v9, none, some a13, none]) (fun b15 => ()) own_cx rfl (vi_p (xqI (xi_val (ep_var 2)))) (xg_name 5 sc_is_nest.nd) (fun j16 a17 => (show BS _ _ _ _ [] [some p0, some p1, some v9, none, some a13, some a17] _ _ _ _ from by exact (bs_if (vb_p (ρe := [some p0, some p1, some v9, none, some a13, some a17]) (xqB (eb_w (ew_and (eb_not (eb_val (xp_call c_is_within hr (by omega) pass_cx (ea_cons (ep_var 4) (ea_cons (ep_var 5) ea_nil))))) (ew_and1 (eb_not (eb_val (xp_call c_is_within hr (by omega) pass_cx (ea_cons (ep_var 5) (ea_cons (ep_var 4) ea_nil))))))))) (.inr rfl)) (fun b25 => (show BS _ _ _ _ [] [some p0, some p1, some v9, none, some a13, some a17] _ _ _ _ from by exact (bs_ret (g := fun (v26 : D) => (Oc.rt v26 PyData.none)) (bx := fun (v26 : D) => PyData.none) (vp_p (ρe := [some p0, some p1, some v9, none, some a13, some a17]) (xq ep_bool)) (hb := (fun _ z => nomatch z))))) (fun b25 => (show BS _ _ _ _ [] [some p0, some p1, some v9, none, some a13, some a17] _ _ _ _ from by exact (bs_end [5] (a := (Oc.nx ()))))) (fun _ => by repeat' (first | exact nev_rt | exact nev_bk | exact nev_ex | refine nev_then fun _ => ?_ | refine nev_bind fun _ => ?_ | refine nev_ite ?_ ?_)))))) (fun j27 => by exact (bs_end [4] (a := (Oc.nx ())))))))) (fun j28 => by exact (bs_ret (g := fun (v29 : D) => v29) (bx := fun (v29 : D) => PyData.none) (vp_p (ρe := [some p0, some p1, some v9, none, none, none]) (xq ep_bool)) (hb := (fun _ z => nomatch z))))))))
theorem k_taken_out {P : Program} {w : World} {K : PySem.W.Frag} {mg : Str → Option Value} {base : Heap} {fa : Addr} {fd : FuncData} (F : Fun K "taken_out" "taken_out" s_taken_out fa fd) (hb : Binds K fd ["heads", "column"] []) (hm : mg "taken_out" = some (.ref fa)) (z_tuple : mg "tuple" = none) : CalOk P w K mg base 1 "taken_out" (spP K mg 2 .nw m_taken_out) :=
  cal_fn (N := ["heads", "column", "head", "one"]) F sc_taken_out hb hm rfl fun cdv A outer s H E hr ts hl => match ts, hl with
    | [p0, p1], _ => by
      have hu : (A.deeper (envOfC "taken_out" (defScope s_taken_out) s.heap.objs.size fa cdv)).units + 66 < cLine := by
        have := hr.un
        omega
      rw [m_taken_out]
      exact (show BS _ E false .nw [] [some p0, some p1, none, none] _ _ _ _ from (bs_retF (g := fun (v15 : D) => v15) (bx := fun (v15 : D) => PyData.none) (vf_p (ρe := [some p0, some p1, none, none]) (xqF (xf_lc (lcx_lc (own := [("head", 2)]) (me := fun a2 => ((((R.ok a2).bind fun x3 => items x3).bind fun is5 => (filR (fun d7 => ((fun d => R.ok d) d7).bind fun a4 => ((R.ok a4).bind fun x8 => (R.ok p1).bind fun x9 => (pyNe x8 x9).bind asB)) (fun d7 => ((fun d => R.ok d) d7).bind fun a4 => (R.ok a4)) is5).bind fun rs6 => R.ok (PyData.list rs6)).bind fun x11 => pyTuple [x11])) sc_taken_out.nd (xi_val (ep_var 0)) (fun s H C cl fp => xg_name 2 sc_taken_out.nd) (fun s H C cl fp a2 => xq (ep_callT cd_tuple z_tuple (ea_cons (xp_of_xf (xf_lc (lcx_lcf (own := [("one", 3)]) (cond := fun a4 => ((R.ok a4).bind fun x8 => (R.ok p1).bind fun x9 => (pyNe x8 x9).bind asB)) (me := fun a4 => (R.ok a4)) sc_taken_out.nd (xi_val (ep_var 2)) (fun s H C cl fp => xg_name 3 sc_taken_out.nd) (fun s H C cl fp a4 => xqB (eb_cmp (od_ne hu) (ep_var 3) (ep_var 1))) (fun s H C cl fp a4 => xq (ep_var 3)) (blkOk_by (by rfl))))) ea_nil))) (blkOk_by (N := ["heads", "column", "head", "one"]) (sc := defScope s_taken_out) (by decide +kernel)))))) (hb := (fun _ z => nomatch z))))
theorem k_are_nests {P : Program} {w : World} {K : PySem.W.Frag} {mg : Str → Option Value} {base : Heap} {fa : Addr} {fd : FuncData} (F : Fun K "are_nests" "are_nests" s_are_nests fa fd) (hb : Binds K fd ["layout", "thing"] []) (hm : mg "are_nests" = some (.ref fa)) (z_all : mg "all" = none) (z_isinstance : mg "isinstance" = none) (z_list : mg "list" = none) (z_sorted : mg "sorted" = none) (z_tuple : mg "tuple" = none) (c_all_columns : CalOk P w K mg base 2 "all_columns" (spP K mg 1 .nw m_all_columns)) (c_taken_out : CalOk P w K mg base 1 "taken_out" (spP K mg 2 .nw m_taken_out)) (c_is_nest : CalOk P w K mg base 2 "is_nest" (spP K mg 2 .fz m_is_nest)) (c_is_upto : CalOk P w K mg base 2 "is_upto" (spP K mg 2 .fz m_is_upto)) : CalOk P w K mg base 3 "are_nests" (spP K mg 2 .fz m_are_nests) :=
  cal_fn (N := ["layout", "thing", "one", "heads", "column"]) F sc_are_nests hb hm rfl fun cdv A outer s H E hr ts hl => match ts, hl with
    | [p0, p1], _ => by
      have hu : (A.deeper (envOfC "are_nests" (defScope s_are_nests) s.heap.objs.size fa cdv)).units + 66 < cLine := by
        have := hr.un
        omega
      rw [m_are_nests]
      exact (show BS _ E false .fz [] [some p0, some p1, none, none, none] _ _ _ _ from (bs_if (vb_p (ρe := [some p0, some p1, none, none, none]) (xqB (eb_w (ew_or (eb_not (eb_val (ep_isi (n := "tuple") z_isinstance z_tuple (ep_var 1)))) (ew_or1 (eb_not (eb_val (ep_callB (cd_all rfl) z_all (ea_cons (xp_of_xf (xf_lc (lcx_lc (own := [("one", 2)]) (me := fun a4 => ((R.ok a4).bind fun x5 => ((R.ok p0).bind fun x6 => (R.ok (PyData.int 0)).bind fun x7 => pyIx x6 x7).bind fun x8 => m_is_upto [x5, x8])) sc_are_nests.nd (xi_val (ep_var 1)) (fun s H C cl fp => xg_name 2 sc_are_nests.nd) (fun s H C cl fp a4 => xq (xp_call c_is_upto hr (by omega) passN (ea_cons (ep_var 2) (ea_cons (ep_ix id_ix (ep_var 0) ep_int) ea_nil)))) (blkOk_by (N := ["layout", "thing", "one", "heads", "column"]) (sc := defScope s_are_nests) (by decide +kernel))))) ea_nil)))))))) (.inr rfl)) (fun b15 => (show BS _ _ _ _ [] [some p0, some p1, none, none, none] _ _ _ _ from by exact (bs_ret (g := fun (v16 : D) => v16) (bx := fun (v16 : D) => PyData.none) (vp_p (ρe := [some p0, some p1, none, none, none]) (xq ep_bool)) (hb := (fun _ z => nomatch z))))) (fun b15 => (show BS _ _ _ _ [] [some p0, some p1, none, none, none] _ _ _ _ from by exact (bs_if (vb_p (ρe := [some p0, some p1, none, none, none]) (xqB (eb_cmp (od_ne hu) (xp_of_xf (xf_callB (cf_sorted hu) z_sorted (ea_cons (ep_var 1) ea_nil))) (xp_of_xf (xf_call c_all_columns hr (by omega) pass_cx (ea_cons (ep_var 0) ea_nil))))) (.inr rfl)) (fun b22 => (show BS _ _ _ _ [] [some p0, some p1, none, none, none] _ _ _ _ from by exact (bs_ret (g := fun (v23 : D) => v23) (bx := fun (v23 : D) => PyData.none) (vp_p (ρe := [some p0, some p1, none, none, none]) (xq ep_bool)) (hb := (fun _ z => nomatch z))))) (fun b22 => (show BS _ _ _ _ [] [some p0, some p1, none, none, none] _ _ _ _ from by exact (bs_seq (emb := fun v27 => [some p0, some p1, none, some v27, none]) (own1 := []) (ss_set 3 sc_are_nests.nd (vp_p (ρe := [some p0, some p1, none, none, none]) (xq (xp_of_xf (xf_callT cf_list z_list (ea_cons (ep_ix id_ix (ep_var 0) ep_int) ea_nil)))))) (fun v27 => by exact (bs_seqN (emb := fun (j40 : (D)) => [some p0, some p1, none, some j40, none]) (own1 := []) (fun t b => t) (ss_forO (emb := fun (j30 : (D)) => [some p0, some p1, none, some j30, none]) (fun b29 => v27) own_cx rfl (vi_p (xqI (xi_val (ep_var 1)))) (xg_name 4 sc_are_nests.nd) (fun j30 a31 => (show BS _ _ _ _ [] [some p0, some p1, none, some j30, some a31] _ _ _ _ from by exact (bs_if (vb_p (ρe := [some p0, some p1, none, some j30, some a31]) (xqB (eb_not (eb_val (xp_call c_is_nest hr (by omega) pass_cx (ea_cons (ep_var 3) (ea_cons (ep_var 4) ea_nil)))))) (.inr rfl)) (fun b35 => (show BS _ _ _ _ [] [some p0, some p1, none, some j30, some a31] _ _ _ _ from by exact (bs_ret (g := fun (v36 : D) => (Oc.rt v36 PyData.none)) (bx := fun (v36 : D) => PyData.none) (vp_p (ρe := [some p0, some p1, none, some j30, some a31]) (xq ep_bool)) (hb := (fun _ z => nomatch z))))) (fun b35 => (show BS _ _ _ _ [] [some p0, some p1, none, some j30, some a31] _ _ _ _ from by exact (bs_seq (emb := fun v39 => [some p0, some p1, none, some v39, some a31]) (own1 := []) (ss_set 3 sc_are_nests.nd (vp_p (ρe := [some p0, some p1, none, some j30, some a31]) (xq (xp_of_xf (xf_call c_taken_out hr (by omega) pass_cx (ea_cons (ep_var 3) (ea_cons (ep_var 4) ea_nil))))))) (fun v39 => by exact (bs_end [4] (a := (Oc.nx v39))))))) (fun _ => by repeat' (first | exact nev_rt | exact nev_bk | exact nev_ex | refine nev_then fun _ => ?_ | refine nev_bind fun _ => ?_ | refine nev_ite ?_ ?_)))))) (fun j40 => by exact (bs_ret (g := fun (v41 : D) => v41) (bx := fun (v41 : D) => PyData.none) (vp_p (ρe := [some p0, some p1, none, some j40, none]) (xq ep_bool)) (hb := (fun _ z => nomatch z))))))))) (by intro _ _ _ _ h; exact nomatch h)))) (by intro _ _ _ _ h; exact nomatch h)))
theorem k_first_nests {P : Program} {w : World} {K : PySem.W.Frag} {mg : Str → Option Value} {base : Heap} {fa : Addr} {fd : FuncData} (F : Fun K "first_nests" "first_nests" s_first_nests fa fd) (hb : Binds K fd ["layout"] []) (hm : mg "first_nests" = some (.ref fa)) (z_list : mg "list" = none) (c_all_columns : CalOk P w K mg base 2 "all_columns" (spP K mg 1 .nw m_all_columns)) (c_taken_out : CalOk P w K mg base 1 "taken_out" (spP K mg 2 .nw m_taken_out)) (c_is_nest : CalOk P w K mg base 2 "is_nest" (spP K mg 2 .fz m_is_nest)) : CalOk P w K mg base 3 "first_nests" (spP K mg 1 .fz m_first_nests) :=
  cal_fn (N := ["layout", "heads", "left", "found", "some", "column"]) F sc_first_nests hb hm rfl fun cdv A outer s H E hr ts hl => match ts, hl with
    | [p0], _ => by
      have hu : (A.deeper (envOfC "first_nests" (defScope s_first_nests) s.heap.objs.size fa cdv)).units + 66 < cLine := by
        have := hr.un
        omega
      rw [m_first_nests]
      exact (show BS _ E false .fz [] [some p0, none, none, none, none, none] _ _ _ _ from (bs_seq (emb := fun v4 => [some p0, some v4, none, none, none, none]) (own1 := []) (ss_set 1 sc_first_nests.nd (vp_p (ρe := [some p0, none, none, none, none, none]) (xq (xp_of_xf (xf_callT cf_list z_list (ea_cons (ep_ix id_ix (ep_var 0) ep_int) ea_nil)))))) (fun v4 => by exact (bs_seq (emb := fun v6 => [some p0, some v4, some v6, none, none, none]) (own1 := [2]) (ss_setF 2 sc_first_nests.nd (vf_p (ρe := [some p0, some v4, none, none, none, none]) (xqF (xf_call c_all_columns hr (by omega) pass_cx (ea_cons (ep_var 0) ea_nil))))) (fun v6 => by exact (bs_seq (emb := fun v7 => [some p0, some v4, some v6, some v7, none, none]) (own1 := [2]) (ss_set 3 sc_first_nests.nd (vp_p (ρe := hideE [2] [some p0, some v4, some v6, none, none, none]) (xq (ep_tup ea_nil)) bor_hide)) (fun v7 => by exact (bs_seqN (emb := fun (j43 : (D × D × D)) => [some p0, some j43.1, some j43.2.1, some j43.2.2, none, none]) (own1 := [2]) (fun t b => t) (ss_whileO (emb := fun (j8 : (D × D × D)) => [some p0, some j8.1, some j8.2.1, some j8.2.2, none, none]) (v4, v6, v7) (fun (j8 : (D × D × D)) b12 => (j8.1, j8.2.1, j8.2.2)) own_cx (fun j8 => (vb_p (ρe := [some p0, some j8.1, some j8.2.1, some j8.2.2, none, none]) (xqB (eb_cmp (od_ne hu) (ep_var 2) (ep_lst ea_nil))) (.inr rfl))) (fun j8 b12 => (show BS _ _ _ _ [2] [some p0, some j8.1, some j8.2.1, some j8.2.2, none, none] _ _ _ _ from by exact (bs_seq (emb := fun v20 => [some p0, some j8.1, some j8.2.1, some j8.2.2, some v20, none]) (own1 := [4, 2]) (ss_setLcF 4 (lv_fp (ρe := [some p0, some j8.1, some j8.2.1, some j8.2.2, none, none]) (lx_nf (lq (lcx_lcf (own := [("column", 5)]) (cond := fun a14 => (((R.ok j8.1).bind fun x18 => (R.ok a14).bind fun x19 => m_is_nest [x18, x19]).bind tru)) (me := fun a14 => (R.ok a14)) sc_first_nests.nd (xi_val (ep_var 2)) (fun s H C cl fp => xg_name 5 sc_first_nests.nd) (fun s H C cl fp a14 => xqB (eb_val (xp_call c_is_nest hr (by omega) passN (ea_cons (ep_var 1) (ea_cons (ep_var 5) ea_nil))))) (fun s H C cl fp a14 => xq (ep_var 5)) (blkOk_by (N := ["layout", "heads", "left", "found", "some", "column"]) (sc := defScope s_first_nests) (by decide +kernel))))) (.inr ⟨rfl, nf_nf⟩))) (fun v20 => by exact (bs_freeze 4 (show BS _ _ _ _ [2] [some p0, some j8.1, some j8.2.1, some j8.2.2, some v20, none] _ _ _ _ from by exact (bs_if (vb_p (ρe := hideE [2] [some p0, some j8.1, some j8.2.1, some j8.2.2, some v20, none]) (xqB (eb_cmp (od_eq hu) (ep_var 4) (ep_lst ea_nil))) (.inl rfl)) (fun b24 => (show BS _ _ _ _ [2] [some p0, some j8.1, some j8.2.1, some j8.2.2, some v20, none] _ _ _ _ from by exact (bs_freeze 2 (show BS _ _ _ _ [] [some p0, some j8.1, some j8.2.1, some j8.2.2, some v20, none] _ _ _ _ from by exact (bs_ret (g := fun (v25 : D) => (Oc.rt v25 PyData.none)) (bx := fun (v25 : D) => PyData.none) (vp_p (ρe := [some p0, some j8.1, some j8.2.1, some j8.2.2, some v20, none]) (xq ep_none)) (hb := (fun _ z => nomatch z))))))) (fun b24 => (show BS _ _ _ _ [2] [some p0, some j8.1, some j8.2.1, some j8.2.2, some v20, none] _ _ _ _ from by exact (bs_seq (emb := fun v31 => [some p0, some j8.1, some j8.2.1, some v31, some v20, none]) (own1 := [2]) (ss_set 3 sc_first_nests.nd (vp_p (ρe := hideE [2] [some p0, some j8.1, some j8.2.1, some j8.2.2, some v20, none]) (xq (ep_bin od_add (ep_var 3) (ep_tup (ea_cons (ep_ix id_ix (ep_var 4) ep_int) ea_nil)))) bor_hide)) (fun v31 => by exact (bs_seq (emb := fun j37 => [some p0, some j8.1, some j37, some v31, some v20, none]) (own1 := [2]) (ss_meth 2 (ts := fun v34 => j8.2.1) (fun v34 r36 => r36) PySem.F.slot_list_remove PySem.F.type_list_remove mt_remove meth_remove rem_l rem_r rem_ex (vp_p (ρe := hideE [2] [some p0, some j8.1, some j8.2.1, some v31, some v20, none]) (xq (ep_ix id_ix (ep_var 4) ep_int)) bor_hide)) (fun j37 => by exact (bs_seq (emb := fun v42 => [some p0, some v42, some j37, some v31, some v20, none]) (own1 := [2]) (ss_set 1 sc_first_nests.nd (vp_p (ρe := hideE [2] [some p0, some j8.1, some j37, some v31, some v20, none]) (xq (xp_of_xf (xf_call c_taken_out hr (by omega) pass_cx (ea_cons (ep_var 1) (ea_cons (ep_ix id_ix (ep_var 4) ep_int) ea_nil))))) bor_hide)) (fun v42 => by exact (bs_end [4] (a := (Oc.nx (v42, j37, v31)))))))))))) (fun _ => by repeat' (first | exact nev_rt | exact nev_bk | exact nev_ex | refine nev_then fun _ => ?_ | refine nev_bind fun _ => ?_ | refine nev_ite ?_ ?_)))))))))) (fun j43 => by exact (bs_freeze 2 (show BS _ _ _ _ [] [some p0, some j43.1, some j43.2.1, some j43.2.2, none, none] _ _ _ _ from by exact (bs_ret (g := fun (v44 : D) => v44) (bx := fun (v44 : D) => PyData.none) (vp_p (ρe := [some p0, some j43.1, some j43.2.1, some j43.2.2, none, none]) (xq (ep_var 3))) (hb := (fun _ z => nomatch z))))))))))))))
theorem k__law_cell {P : Program} {w : World} {K : PySem.W.Frag} {mg : Str → Option Value} {base : Heap} {fa : Addr} {fd : FuncData} (F : Fun K "_law_cell" "_law_cell" s__law_cell fa fd) (hb : Binds K fd ["_law_script", "_law_k"] []) (hm : mg "_law_cell" = some (.ref fa)) (z_len : mg "len" = none) : CalOk P w K mg base 1 "_law_cell" (spP K mg 2 .fz m_law_cell) :=
  cal_fn (N := ["_law_script", "_law_k"]) F sc__law_cell hb hm rfl fun cdv A outer s H E hr ts hl => match ts, hl with
    | [p0, p1], _ => by
      have hu : (A.deeper (envOfC "_law_cell" (defScope s__law_cell) s.heap.objs.size fa cdv)).units + 66 < cLine := by
        have := hr.un
        omega
      rw [m_law_cell]
      exact (show BS _ E false .fz [] [some p0, some p1] _ _ _ _ from (bs_if (vb_p (ρe := [some p0, some p1]) (xqB (eb_cmp (od_lt hu) (ep_var 1) (ep_callB cd_len z_len (ea_cons (ep_var 0) ea_nil)))) (.inr rfl)) (fun b5 => (show BS _ _ _ _ [] [some p0, some p1] _ _ _ _ from by exact (bs_ret (g := fun (v8 : D) => v8) (bx := fun (v8 : D) => PyData.none) (vp_p (ρe := [some p0, some p1]) (xq (ep_ix id_ix (ep_var 0) (ep_var 1)))) (hb := (fun _ z => nomatch z))))) (fun b5 => (show BS _ _ _ _ [] [some p0, some p1] _ _ _ _ from by exact (bs_ret (g := fun (v13 : D) => v13) (bx := fun (v13 : D) => PyData.none) (vp_p (ρe := [some p0, some p1]) (xq (ep_bin od_add (ep_bin od_mul ep_int (ep_var 1)) ep_int))) (hb := (fun _ z => nomatch z))))) (by intro _ _ _ _ h; exact nomatch h)))
theorem k__law_mix {P : Program} {w : World} {K : PySem.W.Frag} {mg : Str → Option Value} {base : Heap} {fa : Addr} {fd : FuncData} (F : Fun K "_law_mix" "_law_mix" s__law_mix fa fd) (hb : Binds K fd ["_law_cell_here", "_law_k"] []) (hm : mg "_law_mix" = some (.ref fa))  : CalOk P w K mg base 1 "_law_mix" (spP K mg 2 .fz m_law_mix) :=
  cal_fn (N := ["_law_cell_here", "_law_k", "_law_number"]) F sc__law_mix hb hm rfl fun cdv A outer s H E hr ts hl => match ts, hl with
    | [p0, p1], _ => by
      have hu : (A.deeper (envOfC "_law_mix" (defScope s__law_mix) s.heap.objs.size fa cdv)).units + 66 < cLine := by
        have := hr.un
        omega
      rw [m_law_mix]
      exact (show BS _ E false .fz [] [some p0, some p1, none] _ _ _ _ from (bs_seq (emb := fun v9 => [some p0, some p1, some v9]) (own1 := []) (ss_set 2 sc__law_mix.nd (vp_p (ρe := [some p0, some p1, none]) (xq (ep_bin od_add (ep_bin od_mul (ep_bin od_add (ep_var 0) ep_int) ep_int) (ep_bin od_mul ep_int (ep_var 1)))))) (fun v9 => by exact (bs_seq (emb := fun v16 => [some p0, some p1, some v16]) (own1 := []) (ss_set 2 sc__law_mix.nd (vp_p (ρe := [some p0, some p1, some v9]) (xq (ep_bin od_add (ep_bin od_mod (ep_bin od_mul (ep_var 2) (ep_var 2)) ep_int) (ep_var 1))))) (fun v16 => by exact (bs_ret (g := fun (v23 : D) => v23) (bx := fun (v23 : D) => PyData.none) (vp_p (ρe := [some p0, some p1, some v16]) (xq (ep_bin od_mod (ep_bin od_mul (ep_var 2) (ep_bin od_add (ep_var 2) ep_int)) ep_int))) (hb := (fun _ z => nomatch z))))))))
theorem k__law_box {P : Program} {w : World} {K : PySem.W.Frag} {mg : Str → Option Value} {base : Heap} {fa : Addr} {fd : FuncData} (F : Fun K "_law_box" "_law_box" s__law_box fa fd) (hb : Binds K fd ["_law_script", "_law_k"] []) (hm : mg "_law_box" = some (.ref fa)) (z_range : mg "range" = none) (c__law_cell : CalOk P w K mg base 1 "_law_cell" (spP K mg 2 .fz m_law_cell)) (c__law_mix : CalOk P w K mg base 1 "_law_mix" (spP K mg 2 .fz m_law_mix)) : CalOk P w K mg base 2 "_law_box" (spP K mg 2 .nw m_law_box_2) :=
  cal_fn (N := ["_law_script", "_law_k", "_law_here", "_law_number", "_law_j"]) F sc__law_box hb hm rfl fun cdv A outer s H E hr ts hl => match ts, hl with
    | [p0, p1], _ => by
      have hu : (A.deeper (envOfC "_law_box" (defScope s__law_box) s.heap.objs.size fa cdv)).units + 66 < cLine := by
        have := hr.un
        omega
      rw [m_law_box_2]
      exact (show BS _ E false .nw [] [some p0, some p1, none, none, none] _ _ _ _ from (bs_seq (emb := fun v3 => [some p0, some p1, some v3, none, none]) (own1 := []) (ss_set 2 sc__law_box.nd (vp_p (ρe := [some p0, some p1, none, none, none]) (xq (xp_call c__law_cell hr (by omega) pass_cx (ea_cons (ep_var 0) (ea_cons (ep_var 1) ea_nil)))))) (fun v3 => by exact (bs_if (vb_p (ρe := [some p0, some p1, some v3, none, none]) (xqB (eb_cmp (od_eq hu) (ep_bin od_mod (ep_var 2) ep_int) ep_int)) (.inr rfl)) (fun b9 => (show BS _ _ _ _ [] [some p0, some p1, some v3, none, none] _ _ _ _ from by exact (bs_retF (g := fun (v13 : D) => v13) (bx := fun (v13 : D) => PyData.none) (vf_p (ρe := [some p0, some p1, some v3, none, none]) (xqF (xf_lst (ea_cons (ep_bin od_div (ep_var 2) ep_int) ea_nil)))) (hb := (fun _ z => nomatch z))))) (fun b9 => (show BS _ _ _ _ [] [some p0, some p1, some v3, none, none] _ _ _ _ from by exact (bs_seq (emb := fun v14 => [some p0, some p1, some v3, some v14, none]) (own1 := []) (ss_set 3 sc__law_box.nd (vp_p (ρe := [some p0, some p1, some v3, none, none]) (xq ep_int))) (fun v14 => by exact (bs_seq (emb := fun (j26 : (D)) => [some p0, some p1, some v3, some j26, none]) (own1 := []) (ss_for (emb := fun (j17 : (D)) => [some p0, some p1, some v3, some j17, none]) (fun b16 => v14) own_cx rfl (vi_p (xqI (xi_range1 z_range (ea_cons ep_int ea_nil)))) (xg_name 4 sc__law_box.nd) (fun j17 a18 => (show BS _ _ _ _ [] [some p0, some p1, some v3, some j17, some a18] _ _ _ _ from by exact (bs_seq (emb := fun v25 => [some p0, some p1, some v3, some v25, some a18]) (own1 := []) (ss_set 3 sc__law_box.nd (vp_p (ρe := [some p0, some p1, some v3, some j17, some a18]) (xq (ep_bin od_add (ep_bin od_mul (ep_var 3) ep_int) (xp_call c__law_mix hr (by omega) pass_cx (ea_cons (ep_var 2) (ea_cons (ep_var 4) ea_nil))))))) (fun v25 => by exact (bs_end [4] (a := v25))))))) (fun j26 => by exact (bs_retF (g := fun (v28 : D) => v28) (bx := fun (v28 : D) => PyData.none) (vf_p (ρe := [some p0, some p1, some v3, some j26, none]) (xqF (xf_lst (ea_cons (ep_var 3) ea_nil)))) (hb := (fun _ z => nomatch z))))))))) (by intro _ _ _ _ h; exact nomatch h)))))
theorem k__law_take {P : Program} {w : World} {K : PySem.W.Frag} {mg : Str → Option Value} {base : Heap} {fa : Addr} {fd : FuncData} (F : Fun K "_law_take" "_law_take" s__law_take fa fd) (hb : Binds K fd ["_law_box_here", "_law_many"] []) (hm : mg "_law_take" = some (.ref fa)) (z_divmod : mg "divmod" = none) : CalOk P w K mg base 1 "_law_take" (spB K 2 .fz m_law_take_2) :=
  cal_box (N := ["_law_box_here", "_law_many", "_law_left", "_law_digit"]) F sc__law_take hb hm rfl fun cdv A outer s H E hr b ts hl => match b, ts, hl with
    | p0, [p1], _ => by
      have hu : (A.deeper (envOfC "_law_take" (defScope s__law_take) s.heap.objs.size fa cdv)).units + 66 < cLine := by
        have := hr.un
        omega
      rw [m_law_take_2]
      exact (show BS _ E true .fz [0] [some p0, some p1, none, none] _ _ _ _ from (bs_seq (emb := fun r1 => [some p0, some p1, some r1.2.1, some r1.2.2]) (own1 := [0]) (ss_asgG (vp_p (ρe := [some p0, some p1, none, none]) (xp_nl (xq (ep_callB cd_divmod z_divmod (ea_cons (ep_ix id_ix (ep_var 0) ep_int) (ea_cons (ep_var 1) ea_nil))))) (bor_flat nl_nl)) (xg_pair 2 3 sc__law_take.nd)) (fun r1 => by exact (bs_seq (emb := fun j11 => [some j11, some p1, some r1.2.1, some r1.2.2]) (own1 := [0]) (ss_store 0 (ts := fun v8 => p0) (mi := fun v8 => (R.ok (PyData.int 0))) (fun v8 r10 => r10) (vp_p (ρe := hideE [0] [some p0, some p1, some r1.2.1, some r1.2.2]) (xq (ep_var 2)) bor_hide) (fun v8 => xq ep_int)) (fun j11 => by exact (bs_ret (g := fun (v12 : D) => (v12, j11)) (bx := fun (v12 : D) => j11) (vp_p (ρe := hideE [0] [some j11, some p1, some r1.2.1, some r1.2.2]) (xq (ep_var 3)) bor_hide) (hb := (fun _ _ => rfl))))))))
theorem k__law_head {P : Program} {w : World} {K : PySem.W.Frag} {mg : Str → Option Value} {base : Heap} {fa : Addr} {fd : FuncData} (F : Fun K "_law_head" "_law_head" s__law_head fa fd) (hb : Binds K fd ["_law_box_here", "_law_many"] []) (hm : mg "_law_head" = some (.ref fa)) (z_range : mg "range" = none) (z_tuple : mg "tuple" = none) (c__law_take : CalOk P w K mg base 1 "_law_take" (spB K 2 .fz m_law_take_2)) : CalOk P w K mg base 2 "_law_head" (spB K 2 .fz m_law_head) :=
  cal_box (N := ["_law_box_here", "_law_many", "_law_some", "_law_column"]) F sc__law_head hb hm rfl fun cdv A outer s H E hr b ts hl => match b, ts, hl with
    | p0, [p1], _ => by
      have hu : (A.deeper (envOfC "_law_head" (defScope s__law_head) s.heap.objs.size fa cdv)).units + 66 < cLine := by
        have := hr.un
        omega
      rw [m_law_head]
      exact (show BS _ E true .fz [0] [some p0, some p1, none, none] _ _ _ _ from (bs_seq (emb := fun v59 => [some v59.2, some p1, some v59.1, none]) (own1 := [0]) (ss_setLc 2 (lv_j (emb := (fun (s : D) => [some s, some p1, none, none])) (m := fun s => ((((R.ok p1).bind fun x24 => pyRange [x24]).bind fun i23 => R.ok (i23, s)).bind fun pq17 => (filJ (fun d19 s20 => ((fun d => R.ok d) d19).bind fun a3 => ((((R.ok (PyData.int 3)).bind fun t34 => R.ok (t34, s20)).bind fun pq33 => (m_law_take_2 pq33.2 [pq33.1]).bind fun q35 => R.ok (q35.1, q35.2)).bind fun pq29 => ((R.ok (PyData.int 0)).bind fun t36 => R.ok (t36, pq29.2)).bind fun q30 => ((pyEq pq29.1 q30.1).bind asB).bind fun z31 => R.ok (z31, q30.2))) (fun d21 s22 => ((fun d => R.ok d) d21).bind fun a3 => ((R.ok a3).bind fun t37 => R.ok (t37, s22))) pq17.1 pq17.2).bind fun r18 => R.ok (PyData.list r18.1, r18.2))) p0 (ljq (jlcx_lcf (ow := [("_law_column", 3)]) (cond := fun a3 s => ((((R.ok (PyData.int 3)).bind fun t13 => R.ok (t13, s)).bind fun pq12 => (m_law_take_2 pq12.2 [pq12.1]).bind fun q14 => R.ok (q14.1, q14.2)).bind fun pq8 => ((R.ok (PyData.int 0)).bind fun t15 => R.ok (t15, pq8.2)).bind fun q9 => ((pyEq pq8.1 q9.1).bind asB).bind fun z10 => R.ok (z10, q9.2))) (me := fun a3 s => ((R.ok a3).bind fun t16 => R.ok (t16, s))) sc__law_head.nd ⟨fun _ _ j hj => (match j, hj with | 0, hj => absurd (by decide) hj | 1, _ => rfl | 2, _ => rfl | 3, _ => rfl | _ + 4, _ => rfl), fun _ _ => rfl⟩ (ji_of (m := fun s => ((R.ok p1).bind fun x2 => pyRange [x2])) (fun s => xqI (xi_range1 z_range (ea_cons (ep_var 1) ea_nil)))) (fun s H C cl fp => xg_name 3 sc__law_head.nd) (fun s H C cl fp a3 => jqB (show JB _ _ (fun (s : D) => [some s, some p1, none, some a3]) _ _ from (jb_cmp (od_eq hu) (jp_box (get := fun s => s) (put := fun s d => d) 0 ⟨fun _ => rfl, fun _ _ => rfl⟩ c__law_take hr (by omega) passN (ja_cons (jp_of (ρe := fun (s : D) => hideE [0] [some s, some p1, none, some a3]) (m := fun s => (R.ok (PyData.int 3))) (fun s => xq ep_int) (fun s => bor_hide)) ja_nil)) (jp_of (ρe := fun (s : D) => hideE [0] [some s, some p1, none, some a3]) (m := fun s => (R.ok (PyData.int 0))) (fun s => xq ep_int) (fun s => bor_hide))))) (fun s H C cl fp a3 => jq (show JP _ _ (fun (s : D) => [some s, some p1, none, some a3]) _ _ from (jp_of (ρe := fun (s : D) => hideE [0] [some s, some p1, none, some a3]) (m := fun s => (R.ok a3)) (fun s => xq (ep_var 3)) (fun s => bor_hide)))) (blkOk_by (N := ["_law_box_here", "_law_many", "_law_some", "_law_column"]) (sc := defScope s__law_head) (by decide +kernel)))))) (fun v59 => by exact (bs_seq (emb := fun (j82 : (D × D)) => [some j82.1, some p1, some j82.2, none]) (own1 := [0]) (ss_if (vb_p (ρe := hideE [0] [some v59.2, some p1, some v59.1, none]) (xqB (eb_cmp (od_eq hu) (ep_var 2) (ep_lst ea_nil))) (.inl rfl)) (fun b63 => (show BS _ _ _ _ [0] [some v59.2, some p1, some v59.1, none] _ _ _ _ from by exact (bs_seq (emb := fun v81 => [some v81.2, some p1, some v81.1, none]) (own1 := [0]) (ss_set 2 sc__law_head.nd (vp_j (emb := (fun (s : D) => [some s, some p1, some v59.1, none])) (m := fun s => ((((R.ok p1).bind fun t75 => R.ok (t75, s)).bind fun pq74 => (m_law_take_2 pq74.2 [pq74.1]).bind fun q76 => R.ok (q76.1, q76.2)).bind fun pq73 => R.ok (PyData.list [pq73.1], pq73.2))) v59.2 (jq (jp_lst (ja_cons (jp_box (get := fun s => s) (put := fun s d => d) 0 ⟨fun _ => rfl, fun _ _ => rfl⟩ c__law_take hr (by omega) passN (ja_cons (jp_of (ρe := fun (s : D) => hideE [0] [some s, some p1, some v59.1, none]) (m := fun s => (R.ok p1)) (fun s => xq (ep_var 1)) (fun s => bor_hide)) ja_nil)) ja_nil))))) (fun v81 => by exact (bs_end [] (a := (v81.2, v81.1))))))) (fun b63 => (show BS _ _ _ _ [0] [some v59.2, some p1, some v59.1, none] _ _ _ _ from by exact (bs_end [] (a := (v59.2, v59.1)))))) (fun j82 => by exact (bs_ret (g := fun (v84 : D) => (v84, j82.1)) (bx := fun (v84 : D) => j82.1) (vp_p (ρe := hideE [0] [some j82.1, some p1, some j82.2, none]) (xq (ep_callT cd_tuple z_tuple (ea_cons (ep_var 2) ea_nil))) bor_hide) (hb := (fun _ _ => rfl))))))))
theorem k__law_grown {P : Program} {w : World} {K : PySem.W.Frag} {mg : Str → Option Value} {base : Heap} {fa : Addr} {fd : FuncData} (F : Fun K "_law_grown" "_law_grown" s__law_grown fa fd) (hb : Binds K fd ["_law_box_here", "_law_many", "_law_heads"] []) (hm : mg "_law_grown" = some (.ref fa)) (z_int : mg "int" = none) (z_len : mg "len" = none) (z_range : mg "range" = none) (z_sorted : mg "sorted" = none) (z_tuple : mg "tuple" = none) (c__law_head : CalOk P w K mg base 2 "_law_head" (spB K 2 .fz m_law_head)) (c__law_take : CalOk P w K mg base 1 "_law_take" (spB K 2 .fz m_law_take_2)) : CalOk P w K mg base 3 "_law_grown" (spB K 3 .nw m_law_grown) :=
  cal_box (N := ["_law_box_here", "_law_many", "_law_heads", "_law_found", "_law_turn", "_law_way", "_law_base", "_law_kept", "_law_column", "_law_met", "_law_head_here", "_law_fresh"]) F sc__law_grown hb hm rfl fun cdv A outer s H E hr b ts hl => match b, ts, hl with
    | p0, [p1, p2], _ => by
      have hu : (A.deeper (envOfC "_law_grown" (defScope s__law_grown) s.heap.objs.size fa cdv)).units + 66 < cLine := by
        have := hr.un
        omega
      rw [m_law_grown]
      exact (show BS _ E true .nw [0] [some p0, some p1, some p2, none, none, none, none, none, none, none, none, none] _ _ _ _ from (bs_seq (emb := fun v9 => [some v9.2, some p1, some p2, some v9.1, none, none, none, none, none, none, none, none]) (own1 := [3, 0]) (ss_setF 3 sc__law_grown.nd (vf_j (emb := (fun (s : D) => [some s, some p1, some p2, none, none, none, none, none, none, none, none, none])) (m := fun s => ((((R.ok p1).bind fun t3 => R.ok (t3, s)).bind fun pq2 => (m_law_head pq2.2 [pq2.1]).bind fun q4 => R.ok (q4.1, q4.2)).bind fun pq1 => R.ok (PyData.list [pq1.1], pq1.2))) p0 (jqF (jf_lst (ja_cons (jp_box (get := fun s => s) (put := fun s d => d) 0 ⟨fun _ => rfl, fun _ _ => rfl⟩ c__law_head hr (by omega) passN (ja_cons (jp_of (ρe := fun (s : D) => hideE [0] [some s, some p1, some p2, none, none, none, none, none, none, none, none, none]) (m := fun s => (R.ok p1)) (fun s => xq (ep_var 1)) (fun s => bor_hide)) ja_nil)) ja_nil))))) (fun v9 => by exact (bs_seq (emb := fun (j276 : (D × D)) => [some j276.1, some p1, some p2, some j276.2, none, none, none, none, none, none, none, none]) (own1 := [3, 0]) (ss_for (emb := fun (j14 : (D × D)) => [some j14.1, some p1, some p2, some j14.2, none, none, none, none, none, none, none, none]) (fun b13 => (v9.2, v9.1)) own_cx rfl (vi_p (xqI (xi_range1 z_range (ea_cons (ep_bin od_sub (ep_var 2) ep_int) ea_nil)))) (xg_name 4 sc__law_grown.nd) (fun j14 a15 => (show BS _ _ _ _ [3, 0] [some j14.1, some p1, some p2, some j14.2, some a15, none, none, none, none, none, none, none] _ _ _ _ from by exact (bs_seq (emb := fun v22 => [some v22.2, some p1, some p2, some j14.2, some a15, some v22.1, none, none, none, none, none, none]) (own1 := [3, 0]) (ss_set 5 sc__law_grown.nd (vp_j (emb := (fun (s : D) => [some s, some p1, some p2, some j14.2, some a15, none, none, none, none, none, none, none])) (m := fun s => (((R.ok (PyData.int 4)).bind fun t17 => R.ok (t17, s)).bind fun pq16 => (m_law_take_2 pq16.2 [pq16.1]).bind fun q18 => R.ok (q18.1, q18.2))) j14.1 (jq (jp_box (get := fun s => s) (put := fun s d => d) 0 ⟨fun _ => rfl, fun _ _ => rfl⟩ c__law_take hr (by omega) passN (ja_cons (jp_of (ρe := fun (s : D) => hideE [3, 0] [some s, some p1, some p2, some j14.2, some a15, none, none, none, none, none, none, none]) (m := fun s => (R.ok (PyData.int 4))) (fun s => xq ep_int) (fun s => bor_hide)) ja_nil))))) (fun v22 => by exact (bs_seq (emb := fun v68 => [some v68.2, some p1, some p2, some j14.2, some a15, some v22.1, some v68.1, none, none, none, none, none]) (own1 := [3, 0]) (ss_set 6 sc__law_grown.nd (vp_j (emb := (fun (s : D) => [some s, some p1, some p2, some j14.2, some a15, some v22.1, none, none, none, none, none, none])) (m := fun s => (((((nl (((R.ok j14.2).bind fun x38 => pyLen [x38]).bind fun x39 => (R.ok (PyData.int 1)).bind fun x40 => pySub x39 x40)).bind fun t37 => R.ok (t37, s)).bind fun pq35 => (((nl ((R.ok j14.2).bind fun x43 => pyLen [x43])).bind fun t42 => R.ok (t42, pq35.2)).bind fun pq41 => (m_law_take_2 pq41.2 [pq41.1]).bind fun q44 => R.ok (q44.1, q44.2)).bind fun pq36 => R.ok (PyData.list [pq35.1, pq36.1], pq36.2)).bind fun pq32 => ((((R.ok v22.1).bind fun x46 => (R.ok (PyData.int 1)).bind fun x47 => pyGt x46 x47).bind fun x48 => pyInt [x48]).bind fun t45 => R.ok (t45, pq32.2)).bind fun q33 => (pyIx pq32.1 q33.1).bind fun z34 => R.ok (z34, q33.2)).bind fun q30 => (ixO j14.2 q30.1).bind fun z31 => R.ok (z31, q30.2))) v22.2 (jq (jp_ixO (get := fun (s : D) => j14.2) 3 (jp_ix id_ix (jp_lst (ja_cons (jp_of (ρe := fun (s : D) => [some s, some p1, some p2, some j14.2, some a15, some v22.1, none, none, none, none, none, none]) (m := fun s => nl (((R.ok j14.2).bind fun x23 => pyLen [x23]).bind fun x24 => (R.ok (PyData.int 1)).bind fun x25 => pySub x24 x25)) (fun s => xp_nl (xq (ep_bin od_sub (ep_callB cd_len z_len (ea_cons (ep_var 3) ea_nil)) ep_int))) (fun s => bor_flat nl_nl)) (ja_cons (jp_box (get := fun s => s) (put := fun s d => d) 0 ⟨fun _ => rfl, fun _ _ => rfl⟩ c__law_take hr (by omega) passN (ja_cons (jp_of (ρe := fun (s : D) => [some s, some p1, some p2, some j14.2, some a15, some v22.1, none, none, none, none, none, none]) (m := fun s => nl ((R.ok j14.2).bind fun x26 => pyLen [x26])) (fun s => xp_nl (xq (ep_callB cd_len z_len (ea_cons (ep_var 3) ea_nil)))) (fun s => bor_flat nl_nl)) ja_nil)) ja_nil))) (jp_of (ρe := fun (s : D) => hideE [3, 0] [some s, some p1, some p2, some j14.2, some a15, some v22.1, none, none, none, none, none, none]) (m := fun s => (((R.ok v22.1).bind fun x27 => (R.ok (PyData.int 1)).bind fun x28 => pyGt x27 x28).bind fun x29 => pyInt [x29])) (fun s => xq (ep_callT cd_int z_int (ea_cons (ep_cmp od_gt (ep_var 5) ep_int) ea_nil))) (fun s => bor_hide))))))) (fun v68 => by exact (bs_seq (emb := fun v127 => [some v127.2, some p1, some p2, some j14.2, some a15, some v22.1, some v68.1, some v127.1, none, none, none, none]) (own1 := [3, 0]) (ss_setLc 7 (lv_j (emb := (fun (s : D) => [some s, some p1, some p2, some j14.2, some a15, some v22.1, some v68.1, none, none, none, none, none])) (m := fun s => ((((R.ok v68.1).bind fun x92 => items x92).bind fun i91 => R.ok (i91, s)).bind fun pq85 => (filJ (fun d87 s88 => ((fun d => R.ok d) d87).bind fun a71 => ((((R.ok (PyData.int 3)).bind fun t102 => R.ok (t102, s88)).bind fun pq101 => (m_law_take_2 pq101.2 [pq101.1]).bind fun q103 => R.ok (q103.1, q103.2)).bind fun pq97 => ((R.ok (PyData.int 0)).bind fun t104 => R.ok (t104, pq97.2)).bind fun q98 => ((pyGt pq97.1 q98.1).bind asB).bind fun z99 => R.ok (z99, q98.2))) (fun d89 s90 => ((fun d => R.ok d) d89).bind fun a71 => ((R.ok a71).bind fun t105 => R.ok (t105, s90))) pq85.1 pq85.2).bind fun r86 => R.ok (PyData.list r86.1, r86.2))) v68.2 (ljq (jlcx_lcf (ow := [("_law_column", 8)]) (cond := fun a71 s => ((((R.ok (PyData.int 3)).bind fun t81 => R.ok (t81, s)).bind fun pq80 => (m_law_take_2 pq80.2 [pq80.1]).bind fun q82 => R.ok (q82.1, q82.2)).bind fun pq76 => ((R.ok (PyData.int 0)).bind fun t83 => R.ok (t83, pq76.2)).bind fun q77 => ((pyGt pq76.1 q77.1).bind asB).bind fun z78 => R.ok (z78, q77.2))) (me := fun a71 s => ((R.ok a71).bind fun t84 => R.ok (t84, s))) sc__law_grown.nd ⟨fun _ _ j hj => (match j, hj with | 0, hj => absurd (by decide) hj | 1, _ => rfl | 2, _ => rfl | 3, hj => absurd (by decide) hj | 4, _ => rfl | 5, _ => rfl | 6, _ => rfl | 7, _ => rfl | 8, _ => rfl | 9, _ => rfl | 10, _ => rfl | 11, _ => rfl | _ + 12, _ => rfl), fun _ _ => rfl⟩ (ji_of (m := fun s => ((R.ok v68.1).bind fun x70 => items x70)) (fun s => xqI (xi_val (ep_var 6)))) (fun s H C cl fp => xg_name 8 sc__law_grown.nd) (fun s H C cl fp a71 => jqB (show JB _ _ (fun (s : D) => [some s, some p1, some p2, some j14.2, some a15, some v22.1, some v68.1, none, some a71, none, none, none]) _ _ from (jb_cmp od_gt (jp_box (get := fun s => s) (put := fun s d => d) 0 ⟨fun _ => rfl, fun _ _ => rfl⟩ c__law_take hr (by omega) passN (ja_cons (jp_of (ρe := fun (s : D) => hideE [3, 0] [some s, some p1, some p2, some j14.2, some a15, some v22.1, some v68.1, none, some a71, none, none, none]) (m := fun s => (R.ok (PyData.int 3))) (fun s => xq ep_int) (fun s => bor_hide)) ja_nil)) (jp_of (ρe := fun (s : D) => hideE [3, 0] [some s, some p1, some p2, some j14.2, some a15, some v22.1, some v68.1, none, some a71, none, none, none]) (m := fun s => (R.ok (PyData.int 0))) (fun s => xq ep_int) (fun s => bor_hide))))) (fun s H C cl fp a71 => jq (show JP _ _ (fun (s : D) => [some s, some p1, some p2, some j14.2, some a15, some v22.1, some v68.1, none, some a71, none, none, none]) _ _ from (jp_of (ρe := fun (s : D) => hideE [3, 0] [some s, some p1, some p2, some j14.2, some a15, some v22.1, some v68.1, none, some a71, none, none, none]) (m := fun s => (R.ok a71)) (fun s => xq (ep_var 8)) (fun s => bor_hide)))) (blkOk_by (N := ["_law_box_here", "_law_many", "_law_heads", "_law_found", "_law_turn", "_law_way", "_law_base", "_law_kept", "_law_column", "_law_met", "_law_head_here", "_law_fresh"]) (sc := defScope s__law_grown) (by decide +kernel)))))) (fun v127 => by exact (bs_seq (emb := fun v144 => [some v127.2, some p1, some p2, some j14.2, some a15, some v22.1, some v68.1, some v127.1, none, some v144, none, none]) (own1 := [9, 3, 0]) (ss_setF 9 sc__law_grown.nd (vf_p (ρe := [some v127.2, some p1, some p2, some j14.2, some a15, some v22.1, some v68.1, some v127.1, none, none, none, none]) (xf_nf (xqF (xf_lc (lcx_lcf (own := [("_law_column", 8)]) (cond := fun a129 => ((((R.ok j14.2).bind fun x133 => items x133).bind fun is135 => (filR (fun d137 => ((fun d => R.ok d) d137).bind fun a134 => ((R.ok a129).bind fun x138 => (R.ok a134).bind fun x139 => (pyIn x138 x139).bind asB)) (fun d137 => ((fun d => R.ok d) d137).bind fun a134 => (R.ok a134)) is135).bind fun rs136 => R.ok (PyData.list rs136)).bind fun x141 => (R.ok (PyData.list [])).bind fun x142 => (pyNe x141 x142).bind asB)) (me := fun a129 => (R.ok a129)) sc__law_grown.nd (xi_range1 z_range (ea_cons (ep_var 1) ea_nil)) (fun s H C cl fp => xg_name 8 sc__law_grown.nd) (fun s H C cl fp a129 => xqB (eb_cmp (od_ne hu) (xp_of_xf (xf_lc (lcx_lcf (own := [("_law_head_here", 10)]) (cond := fun a134 => ((R.ok a129).bind fun x138 => (R.ok a134).bind fun x139 => (pyIn x138 x139).bind asB)) (me := fun a134 => (R.ok a134)) sc__law_grown.nd (xi_val (ep_var 3)) (fun s H C cl fp => xg_name 10 sc__law_grown.nd) (fun s H C cl fp a134 => xqB (eb_cmp (od_in hu) (ep_var 8) (ep_var 10))) (fun s H C cl fp a134 => xq (ep_var 10)) (blkOk_by (by rfl))))) (ep_lst ea_nil))) (fun s H C cl fp a129 => xq (ep_var 8)) (blkOk_by (N := ["_law_box_here", "_law_many", "_law_heads", "_law_found", "_law_turn", "_law_way", "_law_base", "_law_kept", "_law_column", "_law_met", "_law_head_here", "_law_fresh"]) (sc := defScope s__law_grown) (by decide +kernel)))))) (.inr ⟨rfl, nf_nf⟩))) (fun v144 => by exact (bs_freeze 9 (show BS _ _ _ _ [3, 0] [some v127.2, some p1, some p2, some j14.2, some a15, some v22.1, some v68.1, some v127.1, none, some v144, none, none] _ _ _ _ from by exact (bs_seq (emb := fun v221 => [some v221.2, some p1, some p2, some j14.2, some a15, some v22.1, some v68.1, some v127.1, none, some v144, none, some v221.1]) (own1 := [3, 0]) (ss_setLc 11 (lv_j (emb := (fun (s : D) => [some s, some p1, some p2, some j14.2, some a15, some v22.1, some v68.1, some v127.1, none, some v144, none, none])) (m := fun s => ((((R.ok p1).bind fun x176 => pyRange [x176]).bind fun i175 => R.ok (i175, s)).bind fun pq169 => (filJ (fun d171 s172 => ((fun d => R.ok d) d171).bind fun a147 => ((((R.ok a147).bind fun x179 => (R.ok v144).bind fun x180 => (pyNotIn x179 x180).bind asB).bind fun t178 => R.ok (t178, s172)).bind fun pq177 => if pq177.1 = true then ((((R.ok (PyData.int 2)).bind fun t191 => R.ok (t191, pq177.2)).bind fun pq190 => (m_law_take_2 pq190.2 [pq190.1]).bind fun q192 => R.ok (q192.1, q192.2)).bind fun pq186 => ((R.ok (PyData.int 0)).bind fun t193 => R.ok (t193, pq186.2)).bind fun q187 => ((pyEq pq186.1 q187.1).bind asB).bind fun z188 => R.ok (z188, q187.2)) else R.ok (false, pq177.2))) (fun d173 s174 => ((fun d => R.ok d) d173).bind fun a147 => ((R.ok a147).bind fun t194 => R.ok (t194, s174))) pq169.1 pq169.2).bind fun r170 => R.ok (PyData.list r170.1, r170.2))) v127.2 (ljq (jlcx_lcf (ow := [("_law_column", 8)]) (cond := fun a147 s => ((((R.ok a147).bind fun x153 => (R.ok v144).bind fun x154 => (pyNotIn x153 x154).bind asB).bind fun t152 => R.ok (t152, s)).bind fun pq151 => if pq151.1 = true then ((((R.ok (PyData.int 2)).bind fun t165 => R.ok (t165, pq151.2)).bind fun pq164 => (m_law_take_2 pq164.2 [pq164.1]).bind fun q166 => R.ok (q166.1, q166.2)).bind fun pq160 => ((R.ok (PyData.int 0)).bind fun t167 => R.ok (t167, pq160.2)).bind fun q161 => ((pyEq pq160.1 q161.1).bind asB).bind fun z162 => R.ok (z162, q161.2)) else R.ok (false, pq151.2))) (me := fun a147 s => ((R.ok a147).bind fun t168 => R.ok (t168, s))) sc__law_grown.nd ⟨fun _ _ j hj => (match j, hj with | 0, hj => absurd (by decide) hj | 1, _ => rfl | 2, _ => rfl | 3, hj => absurd (by decide) hj | 4, _ => rfl | 5, _ => rfl | 6, _ => rfl | 7, _ => rfl | 8, _ => rfl | 9, _ => rfl | 10, _ => rfl | 11, _ => rfl | _ + 12, _ => rfl), fun _ _ => rfl⟩ (ji_of (m := fun s => ((R.ok p1).bind fun x146 => pyRange [x146])) (fun s => xqI (xi_range1 z_range (ea_cons (ep_var 1) ea_nil)))) (fun s H C cl fp => xg_name 8 sc__law_grown.nd) (fun s H C cl fp a147 => jqB (show JB _ _ (fun (s : D) => [some s, some p1, some p2, some j14.2, some a15, some v22.1, some v68.1, some v127.1, some a147, some v144, none, none]) _ _ from (jb_w (jw_and (jb_of (ρe := fun (s : D) => hideE [3, 0] [some s, some p1, some p2, some j14.2, some a15, some v22.1, some v68.1, some v127.1, some a147, some v144, none, none]) (m := fun s => ((R.ok a147).bind fun x148 => (R.ok v144).bind fun x149 => (pyNotIn x148 x149).bind asB)) (fun s => xqB (eb_cmp (od_notin hu) (ep_var 8) (ep_var 9))) (fun s => .inl rfl)) (jw_and1 (jb_cmp (od_eq hu) (jp_box (get := fun s => s) (put := fun s d => d) 0 ⟨fun _ => rfl, fun _ _ => rfl⟩ c__law_take hr (by omega) passN (ja_cons (jp_of (ρe := fun (s : D) => hideE [3, 0] [some s, some p1, some p2, some j14.2, some a15, some v22.1, some v68.1, some v127.1, some a147, some v144, none, none]) (m := fun s => (R.ok (PyData.int 2))) (fun s => xq ep_int) (fun s => bor_hide)) ja_nil)) (jp_of (ρe := fun (s : D) => hideE [3, 0] [some s, some p1, some p2, some j14.2, some a15, some v22.1, some v68.1, some v127.1, some a147, some v144, none, none]) (m := fun s => (R.ok (PyData.int 0))) (fun s => xq ep_int) (fun s => bor_hide)))))))) (fun s H C cl fp a147 => jq (show JP _ _ (fun (s : D) => [some s, some p1, some p2, some j14.2, some a15, some v22.1, some v68.1, some v127.1, some a147, some v144, none, none]) _ _ from (jp_of (ρe := fun (s : D) => hideE [3, 0] [some s, some p1, some p2, some j14.2, some a15, some v22.1, some v68.1, some v127.1, some a147, some v144, none, none]) (m := fun s => (R.ok a147)) (fun s => xq (ep_var 8)) (fun s => bor_hide)))) (blkOk_by (N := ["_law_box_here", "_law_many", "_law_heads", "_law_found", "_law_turn", "_law_way", "_law_base", "_law_kept", "_law_column", "_law_met", "_law_head_here", "_law_fresh"]) (sc := defScope s__law_grown) (by decide +kernel)))))) (fun v221 => by exact (bs_seq (emb := fun v225 => [some v221.2, some p1, some p2, some j14.2, some a15, some v22.1, some v68.1, some v127.1, none, some v144, some v225, some v221.1]) (own1 := [3, 0]) (ss_set 10 sc__law_grown.nd (vp_p (ρe := hideE [3, 0] [some v221.2, some p1, some p2, some j14.2, some a15, some v22.1, some v68.1, some v127.1, none, some v144, none, some v221.1]) (xq (xp_of_xf (xf_callB (cf_sorted hu) z_sorted (ea_cons (ep_bin od_add (ep_var 7) (ep_var 11)) ea_nil)))) bor_hide)) (fun v225 => by exact (bs_seq (emb := fun (j270 : (D × D)) => [some j270.1, some p1, some p2, some j14.2, some a15, some v22.1, some v68.1, some v127.1, none, some v144, some j270.2, some v221.1]) (own1 := [3, 0]) (ss_if (vb_p (ρe := hideE [3, 0] [some v221.2, some p1, some p2, some j14.2, some a15, some v22.1, some v68.1, some v127.1, none, some v144, some v225, some v221.1]) (xqB (eb_cmp (od_eq hu) (ep_var 10) (ep_lst ea_nil))) (.inl rfl)) (fun b229 => (show BS _ _ _ _ [3, 0] [some v221.2, some p1, some p2, some j14.2, some a15, some v22.1, some v68.1, some v127.1, none, some v144, some v225, some v221.1] _ _ _ _ from by exact (bs_seq (emb := fun v269 => [some v269.2, some p1, some p2, some j14.2, some a15, some v22.1, some v68.1, some v127.1, none, some v144, some v269.1, some v221.1]) (own1 := [3, 0]) (ss_set 10 sc__law_grown.nd (vp_j (emb := (fun (s : D) => [some s, some p1, some p2, some j14.2, some a15, some v22.1, some v68.1, some v127.1, none, some v144, some v225, some v221.1])) (m := fun s => ((((R.ok v68.1).bind fun t255 => R.ok (t255, s)).bind fun pq252 => ((((R.ok v68.1).bind fun x258 => pyLen [x258]).bind fun t257 => R.ok (t257, pq252.2)).bind fun pq256 => (m_law_take_2 pq256.2 [pq256.1]).bind fun q259 => R.ok (q259.1, q259.2)).bind fun q253 => (pyIx pq252.1 q253.1).bind fun z254 => R.ok (z254, q253.2)).bind fun pq251 => R.ok (PyData.list [pq251.1], pq251.2))) v221.2 (jq (jp_lst (ja_cons (jp_ix id_ix (jp_of (ρe := fun (s : D) => hideE [3, 0] [some s, some p1, some p2, some j14.2, some a15, some v22.1, some v68.1, some v127.1, none, some v144, some v225, some v221.1]) (m := fun s => (R.ok v68.1)) (fun s => xq (ep_var 6)) (fun s => bor_hide)) (jp_box (get := fun s => s) (put := fun s d => d) 0 ⟨fun _ => rfl, fun _ _ => rfl⟩ c__law_take hr (by omega) passN (ja_cons (jp_of (ρe := fun (s : D) => hideE [3, 0] [some s, some p1, some p2, some j14.2, some a15, some v22.1, some v68.1, some v127.1, none, some v144, some v225, some v221.1]) (m := fun s => ((R.ok v68.1).bind fun x250 => pyLen [x250])) (fun s => xq (ep_callB cd_len z_len (ea_cons (ep_var 6) ea_nil))) (fun s => bor_hide)) ja_nil))) ja_nil))))) (fun v269 => by exact (bs_end [] (a := (v269.2, v269.1))))))) (fun b229 => (show BS _ _ _ _ [3, 0] [some v221.2, some p1, some p2, some j14.2, some a15, some v22.1, some v68.1, some v127.1, none, some v144, some v225, some v221.1] _ _ _ _ from by exact (bs_end [] (a := (v221.2, v225)))))) (fun j270 => by exact (bs_seq (emb := fun j275 => [some j270.1, some p1, some p2, some j275, some a15, some v22.1, some v68.1, some v127.1, none, some v144, some j270.2, some v221.1]) (own1 := [3, 0]) (ss_meth 3 (ts := fun v272 => j14.2) (fun v272 r274 => r274) PySem.F.slot_list_append PySem.F.type_list_append mt_append meth_append app_l app_r app_ex (vp_p (ρe := hideE [3, 0] [some j270.1, some p1, some p2, some j14.2, some a15, some v22.1, some v68.1, some v127.1, none, some v144, some j270.2, some v221.1]) (xq (ep_callT cd_tuple z_tuple (ea_cons (ep_var 10) ea_nil))) bor_hide)) (fun j275 => by exact (bs_end [4, 5, 6, 7, 9, 10, 11] (a := (j270.1, j275)))))))))))))))))))))))) (fun j276 => by exact (bs_retO 3 (t := j276.2) (b := j276.1) (a := (j276.2, j276.1)) (hb := (fun _ => rfl))))))))
theorem k__law_barred {P : Program} {w : World} {K : PySem.W.Frag} {mg : Str → Option Value} {base : Heap} {fa : Addr} {fd : FuncData} (F : Fun K "_law_barred" "_law_barred" s__law_barred fa fd) (hb : Binds K fd ["_law_box_here", "_law_many"] []) (hm : mg "_law_barred" = some (.ref fa)) (z_min : mg "min" = none) (z_range : mg "range" = none) (z_sorted : mg "sorted" = none) (z_tuple : mg "tuple" = none) (c__law_take : CalOk P w K mg base 1 "_law_take" (spB K 2 .fz m_law_take_2)) : CalOk P w K mg base 2 "_law_barred" (spB K 2 .nw m_law_barred) :=
  cal_box (N := ["_law_box_here", "_law_many", "_law_size", "_law_lack", "_law_column"]) F sc__law_barred hb hm rfl fun cdv A outer s H E hr b ts hl => match b, ts, hl with
    | p0, [p1], _ => by
      have hu : (A.deeper (envOfC "_law_barred" (defScope s__law_barred) s.heap.objs.size fa cdv)).units + 66 < cLine := by
        have := hr.un
        omega
      rw [m_law_barred]
      exact (show BS _ E true .nw [0] [some p0, some p1, none, none, none] _ _ _ _ from (bs_if (vb_j (emb := (fun (s : D) => [some s, some p1, none, none, none])) (m := fun s => ((((R.ok p1).bind fun x6 => (R.ok (PyData.int 3)).bind fun x7 => (pyEq x6 x7).bind asB).bind fun t5 => R.ok (t5, s)).bind fun pq4 => if pq4.1 = true then R.ok (true, pq4.2) else ((((R.ok (PyData.int 2)).bind fun t18 => R.ok (t18, pq4.2)).bind fun pq17 => (m_law_take_2 pq17.2 [pq17.1]).bind fun q19 => R.ok (q19.1, q19.2)).bind fun pq13 => ((R.ok (PyData.int 0)).bind fun t20 => R.ok (t20, pq13.2)).bind fun q14 => ((pyEq pq13.1 q14.1).bind asB).bind fun z15 => R.ok (z15, q14.2)))) p0 (jqB (jb_w (jw_or (jb_of (ρe := fun (s : D) => hideE [0] [some s, some p1, none, none, none]) (m := fun s => ((R.ok p1).bind fun x1 => (R.ok (PyData.int 3)).bind fun x2 => (pyEq x1 x2).bind asB)) (fun s => xqB (eb_cmp (od_eq hu) (ep_var 1) ep_int)) (fun s => .inl rfl)) (jw_or1 (jb_cmp (od_eq hu) (jp_box (get := fun s => s) (put := fun s d => d) 0 ⟨fun _ => rfl, fun _ _ => rfl⟩ c__law_take hr (by omega) passN (ja_cons (jp_of (ρe := fun (s : D) => hideE [0] [some s, some p1, none, none, none]) (m := fun s => (R.ok (PyData.int 2))) (fun s => xq ep_int) (fun s => bor_hide)) ja_nil)) (jp_of (ρe := fun (s : D) => hideE [0] [some s, some p1, none, none, none]) (m := fun s => (R.ok (PyData.int 0))) (fun s => xq ep_int) (fun s => bor_hide)))))))) (fun b38 => (show BS _ _ _ _ [0] [some b38.2, some p1, none, none, none] _ _ _ _ from by exact (bs_seq (emb := fun v65 => [some v65.2, some p1, some v65.1, none, none]) (own1 := [0]) (ss_set 2 sc__law_barred.nd (vp_j (emb := (fun (s : D) => [some s, some p1, none, none, none])) (m := fun s => (((R.ok (PyData.int 3)).bind fun t46 => R.ok (t46, s)).bind fun pq43 => (((((R.ok (PyData.int 6)).bind fun x49 => (R.ok p1).bind fun x50 => pyMin [x49, x50]).bind fun x51 => (R.ok (PyData.int 2)).bind fun x52 => pySub x51 x52).bind fun t48 => R.ok (t48, pq43.2)).bind fun pq47 => (m_law_take_2 pq47.2 [pq47.1]).bind fun q53 => R.ok (q53.1, q53.2)).bind fun q44 => (pyAdd pq43.1 q44.1).bind fun z45 => R.ok (z45, q44.2))) b38.2 (jq (jp_bin od_add (jp_of (ρe := fun (s : D) => hideE [0] [some s, some p1, none, none, none]) (m := fun s => (R.ok (PyData.int 3))) (fun s => xq ep_int) (fun s => bor_hide)) (jp_box (get := fun s => s) (put := fun s d => d) 0 ⟨fun _ => rfl, fun _ _ => rfl⟩ c__law_take hr (by omega) passN (ja_cons (jp_of (ρe := fun (s : D) => hideE [0] [some s, some p1, none, none, none]) (m := fun s => (((R.ok (PyData.int 6)).bind fun x39 => (R.ok p1).bind fun x40 => pyMin [x39, x40]).bind fun x41 => (R.ok (PyData.int 2)).bind fun x42 => pySub x41 x42)) (fun s => xq (ep_bin od_sub (ep_callB (cd_min hu rfl) z_min (ea_cons ep_int (ea_cons (ep_var 1) ea_nil))) ep_int)) (fun s => bor_hide)) ja_nil)))))) (fun v65 => by exact (bs_retF (g := fun (v80 : D) => (v80, v65.2)) (bx := fun (v80 : D) => v65.2) (vf_p (ρe := hideE [0] [some v65.2, some p1, some v65.1, none, none]) (xqF (xf_lc (lcx_lc (own := [("_law_lack", 3)]) (me := fun a67 => ((((R.ok v65.1).bind fun x68 => pyRange [x68]).bind fun is70 => (filR (fun d72 => ((fun d => R.ok d) d72).bind fun a69 => ((R.ok a69).bind fun x73 => (R.ok a67).bind fun x74 => (pyNe x73 x74).bind asB)) (fun d72 => ((fun d => R.ok d) d72).bind fun a69 => (R.ok a69)) is70).bind fun rs71 => R.ok (PyData.list rs71)).bind fun x76 => pyTuple [x76])) sc__law_barred.nd (xi_range1 z_range (ea_cons (ep_var 2) ea_nil)) (fun s H C cl fp => xg_name 3 sc__law_barred.nd) (fun s H C cl fp a67 => xq (ep_callT cd_tuple z_tuple (ea_cons (xp_of_xf (xf_lc (lcx_lcf (own := [("_law_column", 4)]) (cond := fun a69 => ((R.ok a69).bind fun x73 => (R.ok a67).bind fun x74 => (pyNe x73 x74).bind asB)) (me := fun a69 => (R.ok a69)) sc__law_barred.nd (xi_range1 z_range (ea_cons (ep_var 2) ea_nil)) (fun s H C cl fp => xg_name 4 sc__law_barred.nd) (fun s H C cl fp a69 => xqB (eb_cmp (od_ne hu) (ep_var 4) (ep_var 3))) (fun s H C cl fp a69 => xq (ep_var 4)) (blkOk_by (by rfl))))) ea_nil))) (blkOk_by (N := ["_law_box_here", "_law_many", "_law_size", "_law_lack", "_law_column"]) (sc := defScope s__law_barred) (by decide +kernel))))) borF_hide) (hb := (fun _ _ => rfl))))))) (fun b38 => (show BS _ _ _ _ [0] [some b38.2, some p1, none, none, none] _ _ _ _ from by exact (bs_seq (emb := fun v107 => [some v107.2, some p1, some v107.1, none, none]) (own1 := [0]) (ss_set 2 sc__law_barred.nd (vp_j (emb := (fun (s : D) => [some s, some p1, none, none, none])) (m := fun s => (((R.ok (PyData.int 4)).bind fun t88 => R.ok (t88, s)).bind fun pq85 => (((((R.ok (PyData.int 6)).bind fun x91 => (R.ok p1).bind fun x92 => pyMin [x91, x92]).bind fun x93 => (R.ok (PyData.int 3)).bind fun x94 => pySub x93 x94).bind fun t90 => R.ok (t90, pq85.2)).bind fun pq89 => (m_law_take_2 pq89.2 [pq89.1]).bind fun q95 => R.ok (q95.1, q95.2)).bind fun q86 => (pyAdd pq85.1 q86.1).bind fun z87 => R.ok (z87, q86.2))) b38.2 (jq (jp_bin od_add (jp_of (ρe := fun (s : D) => hideE [0] [some s, some p1, none, none, none]) (m := fun s => (R.ok (PyData.int 4))) (fun s => xq ep_int) (fun s => bor_hide)) (jp_box (get := fun s => s) (put := fun s d => d) 0 ⟨fun _ => rfl, fun _ _ => rfl⟩ c__law_take hr (by omega) passN (ja_cons (jp_of (ρe := fun (s : D) => hideE [0] [some s, some p1, none, none, none]) (m := fun s => (((R.ok (PyData.int 6)).bind fun x81 => (R.ok p1).bind fun x82 => pyMin [x81, x82]).bind fun x83 => (R.ok (PyData.int 3)).bind fun x84 => pySub x83 x84)) (fun s => xq (ep_bin od_sub (ep_callB (cd_min hu rfl) z_min (ea_cons ep_int (ea_cons (ep_var 1) ea_nil))) ep_int)) (fun s => bor_hide)) ja_nil)))))) (fun v107 => by exact (bs_retF (g := fun (v121 : D) => (v121, v107.2)) (bx := fun (v121 : D) => v107.2) (vf_p (ρe := hideE [0] [some v107.2, some p1, some v107.1, none, none]) (xqF (xf_lc (lcx_lc (own := [("_law_column", 4)]) (me := fun a109 => ((((R.ok a109).bind fun x110 => (((R.ok a109).bind fun x111 => (R.ok (PyData.int 1)).bind fun x112 => pyAdd x111 x112).bind fun x113 => (R.ok v107.1).bind fun x114 => pyMod x113 x114).bind fun x115 => R.ok (PyData.list [x110, x115])).bind fun x116 => pySorted [x116]).bind fun x117 => pyTuple [x117])) sc__law_barred.nd (xi_range1 z_range (ea_cons (ep_var 2) ea_nil)) (fun s H C cl fp => xg_name 4 sc__law_barred.nd) (fun s H C cl fp a109 => xq (ep_callT cd_tuple z_tuple (ea_cons (xp_of_xf (xf_callB (cf_sorted hu) z_sorted (ea_cons (ep_lst (ea_cons (ep_var 4) (ea_cons (ep_bin od_mod (ep_bin od_add (ep_var 4) ep_int) (ep_var 2)) ea_nil))) ea_nil))) ea_nil))) (blkOk_by (N := ["_law_box_here", "_law_many", "_law_size", "_law_lack", "_law_column"]) (sc := defScope s__law_barred) (by decide +kernel))))) borF_hide) (hb := (fun _ _ => rfl))))))) (by intro _ _ _ _ h; exact nomatch h)))
theorem k__law_named {P : Program} {w : World} {K : PySem.W.Frag} {mg : Str → Option Value} {base : Heap} {fa : Addr} {fd : FuncData} (F : Fun K "_law_named" "_law_named" s__law_named fa fd) (hb : Binds K fd ["_law_box_here", "_law_many", "_law_heads"] []) (hm : mg "_law_named" = some (.ref fa)) (z_len : mg "len" = none) (z_list : mg "list" = none) (z_range : mg "range" = none) (z_sorted : mg "sorted" = none) (z_tuple : mg "tuple" = none) (c__law_take : CalOk P w K mg base 1 "_law_take" (spB K 2 .fz m_law_take_2)) : CalOk P w K mg base 2 "_law_named" (spB K 3 .fz m_law_named_2) :=
  cal_box (N := ["_law_box_here", "_law_many", "_law_heads", "_law_left", "_law_names", "_law_turn", "_law_rows", "_law_head_here", "_law_column", "_law_found"]) F sc__law_named hb hm rfl fun cdv A outer s H E hr b ts hl => match b, ts, hl with
    | p0, [p1, p2], _ => by
      have hu : (A.deeper (envOfC "_law_named" (defScope s__law_named) s.heap.objs.size fa cdv)).units + 66 < cLine := by
        have := hr.un
        omega
      rw [m_law_named_2]
      exact (show BS _ E true .fz [0] [some p0, some p1, some p2, none, none, none, none, none, none, none] _ _ _ _ from (bs_seq (emb := fun v5 => [some p0, some p1, some p2, some v5, none, none, none, none, none, none]) (own1 := [3, 0]) (ss_setF 3 sc__law_named.nd (vf_p (ρe := hideE [0] [some p0, some p1, some p2, none, none, none, none, none, none, none]) (xqF (xf_listRg z_list (xrg_1 z_range (ep_var 1)))) borF_hide)) (fun v5 => by exact (bs_seq (emb := fun v43 => [some v43.2.2, some p1, some p2, some v43.2.1, some v43.1, none, none, none, none, none]) (own1 := [3, 0]) (ss_set 4 sc__law_named.nd (vp_j (emb := (fun (s : (D × D)) => [some s.2, some p1, some p2, some s.1, none, none, none, none, none, none])) (m := fun s => ((((R.ok p1).bind fun x22 => pyRange [x22]).bind fun i21 => R.ok (i21, s)).bind fun pq17 => (mapJ (fun d19 s20 => ((fun d => R.ok d) d19).bind fun a8 => ((lstD s20.1).bind fun u25 => (((nl ((R.ok s20.1).bind fun x28 => pyLen [x28])).bind fun t27 => R.ok (t27, s20)).bind fun pq26 => (m_law_take_2 pq26.2.2 [pq26.1]).bind fun q29 => R.ok (q29.1, (pq26.2.1, q29.2))).bind fun pq23 => (popAtD pq23.2.1 pq23.1).bind fun q24 => R.ok (q24.1, (q24.2, pq23.2.2)))) pq17.1 pq17.2).bind fun r18 => R.ok (PyData.list r18.1, r18.2))) (v5, p0) (jq (jp_of_jf (jf_lc (jlcx_lc (ow := [("_law_turn", 5)]) (me := fun a8 s => ((lstD s.1).bind fun u12 => (((nl ((R.ok s.1).bind fun x15 => pyLen [x15])).bind fun t14 => R.ok (t14, s)).bind fun pq13 => (m_law_take_2 pq13.2.2 [pq13.1]).bind fun q16 => R.ok (q16.1, (pq13.2.1, q16.2))).bind fun pq10 => (popAtD pq10.2.1 pq10.1).bind fun q11 => R.ok (q11.1, (q11.2, pq10.2.2)))) sc__law_named.nd ⟨fun _ _ j hj => (match j, hj with | 0, hj => absurd (by decide) hj | 1, _ => rfl | 2, _ => rfl | 3, hj => absurd (by decide) hj | 4, _ => rfl | 5, _ => rfl | 6, _ => rfl | 7, _ => rfl | 8, _ => rfl | 9, _ => rfl | _ + 10, _ => rfl), fun _ _ => rfl⟩ (ji_of (m := fun s => ((R.ok p1).bind fun x7 => pyRange [x7])) (fun s => xqI (xi_range1 z_range (ea_cons (ep_var 1) ea_nil)))) (fun s H C cl fp => xg_name 5 sc__law_named.nd) (fun s H C cl fp a8 => jq (show JP _ _ (fun (s : (D × D)) => [some s.2, some p1, some p2, some s.1, none, some a8, none, none, none, none]) _ _ from (jp_popAt (get := fun s => s.1) (put := fun s d => (d, s.2)) 3 ⟨fun _ => rfl, fun _ _ => rfl⟩ (jp_box (get := fun s => s.2) (put := fun s d => (s.1, d)) 0 ⟨fun _ => rfl, fun _ _ => rfl⟩ c__law_take hr (by omega) passN (ja_cons (jp_of (ρe := fun (s : (D × D)) => [some s.2, some p1, some p2, some s.1, none, some a8, none, none, none, none]) (m := fun s => nl ((R.ok s.1).bind fun x9 => pyLen [x9])) (fun s => xp_nl (xq (ep_callB cd_len z_len (ea_cons (ep_var 3) ea_nil)))) (fun s => bor_flat nl_nl)) ja_nil))))) (blkOk_by (N := ["_law_box_here", "_law_many", "_law_heads", "_law_left", "_law_names", "_law_turn", "_law_rows", "_law_head_here", "_law_column", "_law_found"]) (sc := defScope s__law_named) (by decide +kernel)))))))) (fun v43 => by exact (bs_freeze 3 (show BS _ _ _ _ [0] [some v43.2.2, some p1, some p2, some v43.2.1, some v43.1, none, none, none, none, none] _ _ _ _ from by exact (bs_seq (emb := fun v58 => [some v43.2.2, some p1, some p2, some v43.2.1, some v43.1, none, some v58, none, none, none]) (own1 := [6, 0]) (ss_setLcF 6 (lv_fp (ρe := hideE [0] [some v43.2.2, some p1, some p2, some v43.2.1, some v43.1, none, none, none, none, none]) (lq (lcx_lc (own := [("_law_head_here", 7)]) (me := fun a45 => (((((R.ok a45).bind fun x46 => items x46).bind fun is50 => (mapR (fun d52 => ((fun d => R.ok d) d52).bind fun a47 => ((R.ok v43.1).bind fun x48 => (R.ok a47).bind fun x49 => pyIx x48 x49)) is50).bind fun rs51 => R.ok (PyData.list rs51)).bind fun x53 => pySorted [x53]).bind fun x54 => pyTuple [x54])) sc__law_named.nd (xi_val (ep_var 2)) (fun s H C cl fp => xg_name 7 sc__law_named.nd) (fun s H C cl fp a45 => xq (ep_callT cd_tuple z_tuple (ea_cons (xp_of_xf (xf_callB (cf_sorted hu) z_sorted (ea_cons (xp_of_xf (xf_lc (lcx_lc (own := [("_law_column", 8)]) (me := fun a47 => ((R.ok v43.1).bind fun x48 => (R.ok a47).bind fun x49 => pyIx x48 x49)) sc__law_named.nd (xi_val (ep_var 7)) (fun s H C cl fp => xg_name 8 sc__law_named.nd) (fun s H C cl fp a47 => xq (ep_ix id_ix (ep_var 4) (ep_var 8))) (blkOk_by (by rfl))))) ea_nil))) ea_nil))) (blkOk_by (N := ["_law_box_here", "_law_many", "_law_heads", "_law_left", "_law_names", "_law_turn", "_law_rows", "_law_head_here", "_law_column", "_law_found"]) (sc := defScope s__law_named) (by decide +kernel)))) borF_hide)) (fun v58 => by exact (bs_seq (emb := fun v59 => [some v43.2.2, some p1, some p2, some v43.2.1, some v43.1, none, some v58, none, none, some v59]) (own1 := [9, 6, 0]) (ss_setF 9 sc__law_named.nd (vf_p (ρe := hideE [6, 0] [some v43.2.2, some p1, some p2, some v43.2.1, some v43.1, none, some v58, none, none, none]) (xqF (xf_lst ea_nil)) borF_hide)) (fun v59 => by exact (bs_seqP (emb := fun (j84 : (D × D × D)) => [some j84.1, some p1, some p2, some v43.2.1, some v43.1, none, some j84.2.1, none, none, some j84.2.2]) (own1 := [9, 6, 0]) (fun t b => (t, b)) (ss_whileO (emb := fun (j60 : (D × D × D)) => [some j60.1, some p1, some p2, some v43.2.1, some v43.1, none, some j60.2.1, none, none, some j60.2.2]) (v43.2.2, v58, v59) (fun (j60 : (D × D × D)) b64 => (j60.1, j60.2.1, j60.2.2)) own_cx (fun j60 => (vb_p (ρe := [some j60.1, some p1, some p2, some v43.2.1, some v43.1, none, some j60.2.1, none, none, some j60.2.2]) (xqB (eb_cmp (od_ne hu) (ep_var 6) (ep_lst ea_nil))) (.inr rfl))) (fun j60 b64 => (show BS _ _ _ _ [9, 6, 0] [some j60.1, some p1, some p2, some v43.2.1, some v43.1, none, some j60.2.1, none, none, some j60.2.2] _ _ _ _ from by exact (bs_seq (emb := fun j83 => [some j83.2.1, some p1, some p2, some v43.2.1, some v43.1, none, some j83.1, none, none, some j83.2.2]) (own1 := [9, 6, 0]) (ss_meth 9 (ts := fun v80 => j60.2.2) (fun v80 r82 => (v80.2.1, v80.2.2, r82)) PySem.F.slot_list_append PySem.F.type_list_append mt_append meth_append app_l app_r app_ex (vp_j (emb := (fun (s : (D × D)) => [some s.2, some p1, some p2, some v43.2.1, some v43.1, none, some s.1, none, none, some j60.2.2])) (m := fun s => ((lstD s.1).bind fun u68 => (((nl ((R.ok s.1).bind fun x71 => pyLen [x71])).bind fun t70 => R.ok (t70, s)).bind fun pq69 => (m_law_take_2 pq69.2.2 [pq69.1]).bind fun q72 => R.ok (q72.1, (pq69.2.1, q72.2))).bind fun pq66 => (popAtD pq66.2.1 pq66.1).bind fun q67 => R.ok (q67.1, (q67.2, pq66.2.2)))) (j60.2.1, j60.1) (jq (jp_popAt (get := fun s => s.1) (put := fun s d => (d, s.2)) 6 ⟨fun _ => rfl, fun _ _ => rfl⟩ (jp_box (get := fun s => s.2) (put := fun s d => (s.1, d)) 0 ⟨fun _ => rfl, fun _ _ => rfl⟩ c__law_take hr (by omega) passN (ja_cons (jp_of (ρe := fun (s : (D × D)) => [some s.2, some p1, some p2, some v43.2.1, some v43.1, none, some s.1, none, none, some j60.2.2]) (m := fun s => nl ((R.ok s.1).bind fun x65 => pyLen [x65])) (fun s => xp_nl (xq (ep_callB cd_len z_len (ea_cons (ep_var 6) ea_nil)))) (fun s => bor_flat nl_nl)) ja_nil)))))) (fun j83 => by exact (bs_end [] (a := (Oc.nx (j83.2.1, j83.1, j83.2.2))))))))) (fun j84 => by exact (bs_freeze 9 (show BS _ _ _ _ [6, 0] [some j84.1, some p1, some p2, some v43.2.1, some v43.1, none, some j84.2.1, none, none, some j84.2.2] _ _ _ _ from by exact (bs_freeze 6 (show BS _ _ _ _ [0] [some j84.1, some p1, some p2, some v43.2.1, some v43.1, none, some j84.2.1, none, none, some j84.2.2] _ _ _ _ from by exact (bs_ret (g := fun (v86 : D) => (v86, j84.1)) (bx := fun (v86 : D) => j84.1) (vp_p (ρe := hideE [0] [some j84.1, some p1, some p2, some v43.2.1, some v43.1, none, some j84.2.1, none, none, some j84.2.2]) (xq (ep_callT cd_tuple z_tuple (ea_cons (ep_var 9) ea_nil))) bor_hide) (hb := (fun _ _ => rfl))))))))))))))))))))
theorem k__law_layout {P : Program} {w : World} {K : PySem.W.Frag} {mg : Str → Option Value} {base : Heap} {fa : Addr} {fd : FuncData} (F : Fun K "_law_layout" "_law_layout" s__law_layout fa fd) (hb : Binds K fd ["_law_box_here", "_law_most", "_law_heads"] []) (hm : mg "_law_layout" = some (.ref fa)) (z_len : mg "len" = none) (z_max : mg "max" = none) (z_range : mg "range" = none) (c__law_take : CalOk P w K mg base 1 "_law_take" (spB K 2 .fz m_law_take_2)) (c__law_barred : CalOk P w K mg base 2 "_law_barred" (spB K 2 .nw m_law_barred)) (c__law_named : CalOk P w K mg base 2 "_law_named" (spB K 3 .fz m_law_named_2)) (c__law_head : CalOk P w K mg base 2 "_law_head" (spB K 2 .fz m_law_head)) (c__law_grown : CalOk P w K mg base 3 "_law_grown" (spB K 3 .nw m_law_grown)) : CalOk P w K mg base 4 "_law_layout" (spB K 3 .fz m_law_layout_2) :=
  cal_box (N := ["_law_box_here", "_law_most", "_law_heads", "_law_many", "_law_number", "_law_way", "_law_some", "_law_extra", "_law_turn"]) F sc__law_layout hb hm rfl fun cdv A outer s H E hr b ts hl => match b, ts, hl with
    | p0, [p1, p2], _ => by
      have hu : (A.deeper (envOfC "_law_layout" (defScope s__law_layout) s.heap.objs.size fa cdv)).units + 66 < cLine := by
        have := hr.un
        omega
      rw [m_law_layout_2]
      exact (show BS _ E true .fz [0] [some p0, some p1, some p2, none, none, none, none, none, none] _ _ _ _ from (bs_seq (emb := fun v15 => [some v15.2, some p1, some p2, some v15.1, none, none, none, none, none]) (own1 := [0]) (ss_set 3 sc__law_layout.nd (vp_j (emb := (fun (s : D) => [some s, some p1, some p2, none, none, none, none, none, none])) (m := fun s => (((R.ok (PyData.int 1)).bind fun t4 => R.ok (t4, s)).bind fun pq1 => (((R.ok p1).bind fun t6 => R.ok (t6, pq1.2)).bind fun pq5 => (m_law_take_2 pq5.2 [pq5.1]).bind fun q7 => R.ok (q7.1, q7.2)).bind fun q2 => (pyAdd pq1.1 q2.1).bind fun z3 => R.ok (z3, q2.2))) p0 (jq (jp_bin od_add (jp_of (ρe := fun (s : D) => hideE [0] [some s, some p1, some p2, none, none, none, none, none, none]) (m := fun s => (R.ok (PyData.int 1))) (fun s => xq ep_int) (fun s => bor_hide)) (jp_box (get := fun s => s) (put := fun s d => d) 0 ⟨fun _ => rfl, fun _ _ => rfl⟩ c__law_take hr (by omega) passN (ja_cons (jp_of (ρe := fun (s : D) => hideE [0] [some s, some p1, some p2, none, none, none, none, none, none]) (m := fun s => (R.ok p1)) (fun s => xq (ep_var 1)) (fun s => bor_hide)) ja_nil)))))) (fun v15 => by exact (bs_seq (emb := fun v30 => [some v30.2, some p1, some p2, some v15.1, some v30.1, none, none, none, none]) (own1 := [0]) (ss_set 4 sc__law_layout.nd (vp_j (emb := (fun (s : D) => [some s, some p1, some p2, some v15.1, none, none, none, none, none])) (m := fun s => (((R.ok (PyData.int 1)).bind fun t19 => R.ok (t19, s)).bind fun pq16 => (((R.ok p2).bind fun t21 => R.ok (t21, pq16.2)).bind fun pq20 => (m_law_take_2 pq20.2 [pq20.1]).bind fun q22 => R.ok (q22.1, q22.2)).bind fun q17 => (pyAdd pq16.1 q17.1).bind fun z18 => R.ok (z18, q17.2))) v15.2 (jq (jp_bin od_add (jp_of (ρe := fun (s : D) => hideE [0] [some s, some p1, some p2, some v15.1, none, none, none, none, none]) (m := fun s => (R.ok (PyData.int 1))) (fun s => xq ep_int) (fun s => bor_hide)) (jp_box (get := fun s => s) (put := fun s d => d) 0 ⟨fun _ => rfl, fun _ _ => rfl⟩ c__law_take hr (by omega) passN (ja_cons (jp_of (ρe := fun (s : D) => hideE [0] [some s, some p1, some p2, some v15.1, none, none, none, none, none]) (m := fun s => (R.ok p2)) (fun s => xq (ep_var 2)) (fun s => bor_hide)) ja_nil)))))) (fun v30 => by exact (bs_seq (emb := fun v37 => [some v37.2, some p1, some p2, some v15.1, some v30.1, some v37.1, none, none, none]) (own1 := [0]) (ss_set 5 sc__law_layout.nd (vp_j (emb := (fun (s : D) => [some s, some p1, some p2, some v15.1, some v30.1, none, none, none, none])) (m := fun s => (((R.ok (PyData.int 5)).bind fun t32 => R.ok (t32, s)).bind fun pq31 => (m_law_take_2 pq31.2 [pq31.1]).bind fun q33 => R.ok (q33.1, q33.2))) v30.2 (jq (jp_box (get := fun s => s) (put := fun s d => d) 0 ⟨fun _ => rfl, fun _ _ => rfl⟩ c__law_take hr (by omega) passN (ja_cons (jp_of (ρe := fun (s : D) => hideE [0] [some s, some p1, some p2, some v15.1, some v30.1, none, none, none, none]) (m := fun s => (R.ok (PyData.int 5))) (fun s => xq ep_int) (fun s => bor_hide)) ja_nil))))) (fun v37 => by exact (bs_if (vb_p (ρe := hideE [0] [some v37.2, some p1, some p2, some v15.1, some v30.1, some v37.1, none, none, none]) (xqB (eb_w (ew_and (eb_cmp (od_eq hu) (ep_var 5) ep_int) (ew_and1 (eb_cmp od_gt (ep_var 3) ep_int))))) (.inl rfl)) (fun b45 => (show BS _ _ _ _ [0] [some v37.2, some p1, some p2, some v15.1, some v30.1, some v37.1, none, none, none] _ _ _ _ from by exact (bs_seq (emb := fun v52 => [some v52.2, some p1, some p2, some v15.1, some v30.1, some v37.1, some v52.1, none, none]) (own1 := [0]) (ss_set 6 sc__law_layout.nd (vp_j (emb := (fun (s : D) => [some s, some p1, some p2, some v15.1, some v30.1, some v37.1, none, none, none])) (m := fun s => (((R.ok v15.1).bind fun t47 => R.ok (t47, s)).bind fun pq46 => (m_law_barred pq46.2 [pq46.1]).bind fun q48 => R.ok (q48.1, q48.2))) v37.2 (jq (jp_box (get := fun s => s) (put := fun s d => d) 0 ⟨fun _ => rfl, fun _ _ => rfl⟩ c__law_barred hr (by omega) passN (ja_cons (jp_of (ρe := fun (s : D) => hideE [0] [some s, some p1, some p2, some v15.1, some v30.1, some v37.1, none, none, none]) (m := fun s => (R.ok v15.1)) (fun s => xq (ep_var 3)) (fun s => bor_hide)) ja_nil))))) (fun v52 => by exact (bs_seq (emb := fun v102 => [some v102.2, some p1, some p2, some v15.1, some v30.1, some v37.1, some v52.1, some v102.1, none]) (own1 := [0]) (ss_setLc 7 (lv_j (emb := (fun (s : D) => [some s, some p1, some p2, some v15.1, some v30.1, some v37.1, some v52.1, none, none])) (m := fun s => ((((((R.ok (PyData.int 1)).bind fun x76 => ((R.ok (PyData.int 0)).bind fun x71 => ((R.ok p2).bind fun x73 => ((R.ok v52.1).bind fun x72 => pyLen [x72]).bind fun x74 => pySub x73 x74).bind fun x75 => pyMax [x71, x75]).bind fun x77 => pyAdd x76 x77).bind fun t70 => R.ok (t70, s)).bind fun pq69 => (m_law_take_2 pq69.2 [pq69.1]).bind fun q78 => R.ok (q78.1, q78.2)).bind fun pq68 => (pyRange [pq68.1]).bind fun z79 => R.ok (z79, pq68.2)).bind fun pq64 => (mapJ (fun d66 s67 => ((fun d => R.ok d) d66).bind fun a60 => (((R.ok v15.1).bind fun t81 => R.ok (t81, s67)).bind fun pq80 => (m_law_head pq80.2 [pq80.1]).bind fun q82 => R.ok (q82.1, q82.2))) pq64.1 pq64.2).bind fun r65 => R.ok (PyData.list r65.1, r65.2))) v52.2 (ljq (jlcx_lc (ow := [("_law_turn", 8)]) (me := fun a60 s => (((R.ok v15.1).bind fun t62 => R.ok (t62, s)).bind fun pq61 => (m_law_head pq61.2 [pq61.1]).bind fun q63 => R.ok (q63.1, q63.2))) sc__law_layout.nd ⟨fun _ _ j hj => (match j, hj with | 0, hj => absurd (by decide) hj | 1, _ => rfl | 2, _ => rfl | 3, _ => rfl | 4, _ => rfl | 5, _ => rfl | 6, _ => rfl | 7, _ => rfl | 8, _ => rfl | _ + 9, _ => rfl), fun _ _ => rfl⟩ (ji_range1 z_range (ja_cons (jp_box (get := fun s => s) (put := fun s d => d) 0 ⟨fun _ => rfl, fun _ _ => rfl⟩ c__law_take hr (by omega) passN (ja_cons (jp_of (ρe := fun (s : D) => hideE [0] [some s, some p1, some p2, some v15.1, some v30.1, some v37.1, some v52.1, none, none]) (m := fun s => ((R.ok (PyData.int 1)).bind fun x58 => ((R.ok (PyData.int 0)).bind fun x53 => ((R.ok p2).bind fun x55 => ((R.ok v52.1).bind fun x54 => pyLen [x54]).bind fun x56 => pySub x55 x56).bind fun x57 => pyMax [x53, x57]).bind fun x59 => pyAdd x58 x59)) (fun s => xq (ep_bin od_add ep_int (ep_callB (cd_max hu rfl) z_max (ea_cons ep_int (ea_cons (ep_bin od_sub (ep_var 2) (ep_callB cd_len z_len (ea_cons (ep_var 6) ea_nil))) ea_nil))))) (fun s => bor_hide)) ja_nil)) ja_nil)) (fun s H C cl fp => xg_name 8 sc__law_layout.nd) (fun s H C cl fp a60 => jq (show JP _ _ (fun (s : D) => [some s, some p1, some p2, some v15.1, some v30.1, some v37.1, some v52.1, none, some a60]) _ _ from (jp_box (get := fun s => s) (put := fun s d => d) 0 ⟨fun _ => rfl, fun _ _ => rfl⟩ c__law_head hr (by omega) passN (ja_cons (jp_of (ρe := fun (s : D) => hideE [0] [some s, some p1, some p2, some v15.1, some v30.1, some v37.1, some v52.1, none, some a60]) (m := fun s => (R.ok v15.1)) (fun s => xq (ep_var 3)) (fun s => bor_hide)) ja_nil)))) (blkOk_by (N := ["_law_box_here", "_law_most", "_law_heads", "_law_many", "_law_number", "_law_way", "_law_some", "_law_extra", "_law_turn"]) (sc := defScope s__law_layout) (by decide +kernel)))))) (fun v102 => by exact (bs_ret (g := fun (v137 : (D × D)) => (v137.1, v137.2)) (bx := fun (v137 : (D × D)) => v137.2) (vp_j (emb := (fun (s : D) => [some s, some p1, some p2, some v15.1, some v30.1, some v37.1, some v52.1, some v102.1, none])) (m := fun s => (((R.ok v15.1).bind fun t111 => R.ok (t111, s)).bind fun pq109 => (((R.ok v15.1).bind fun t114 => R.ok (t114, pq109.2)).bind fun pq112 => ((((R.ok v52.1).bind fun x116 => (R.ok v102.1).bind fun x117 => pyAdd x116 x117).bind fun x119 => (R.ok (none : Option Int)).bind fun x120 => ((R.ok (PyData.int 6)).bind fun x118 => partD x118).bind fun x121 => pySl x119 x120 x121).bind fun t115 => R.ok (t115, pq112.2)).bind fun pq113 => (m_law_named_2 pq113.2 [pq112.1, pq113.1]).bind fun q122 => R.ok (q122.1, q122.2)).bind fun pq110 => R.ok (PyData.tuple [pq109.1, pq110.1], pq110.2))) v102.2 (jq (jp_tup (ja_cons (jp_of (ρe := fun (s : D) => hideE [0] [some s, some p1, some p2, some v15.1, some v30.1, some v37.1, some v52.1, some v102.1, none]) (m := fun s => (R.ok v15.1)) (fun s => xq (ep_var 3)) (fun s => bor_hide)) (ja_cons (jp_box (get := fun s => s) (put := fun s d => d) 0 ⟨fun _ => rfl, fun _ _ => rfl⟩ c__law_named hr (by omega) passN (ja_cons (jp_of (ρe := fun (s : D) => hideE [0] [some s, some p1, some p2, some v15.1, some v30.1, some v37.1, some v52.1, some v102.1, none]) (m := fun s => (R.ok v15.1)) (fun s => xq (ep_var 3)) (fun s => bor_hide)) (ja_cons (jp_of (ρe := fun (s : D) => hideE [0] [some s, some p1, some p2, some v15.1, some v30.1, some v37.1, some v52.1, some v102.1, none]) (m := fun s => (((R.ok v52.1).bind fun x103 => (R.ok v102.1).bind fun x104 => pyAdd x103 x104).bind fun x106 => (R.ok (none : Option Int)).bind fun x107 => ((R.ok (PyData.int 6)).bind fun x105 => partD x105).bind fun x108 => pySl x106 x107 x108)) (fun s => xq (xp_slice (ep_bin od_add (ep_var 6) (ep_var 7)) xo_none (xo_some ep_int))) (fun s => bor_hide)) ja_nil))) ja_nil))))) (hb := (fun _ _ => rfl))))))))) (fun b45 => (show BS _ _ _ _ [0] [some v37.2, some p1, some p2, some v15.1, some v30.1, some v37.1, none, none, none] _ _ _ _ from by exact (bs_if (vb_p (ρe := hideE [0] [some v37.2, some p1, some p2, some v15.1, some v30.1, some v37.1, none, none, none]) (xqB (eb_cmp (od_eq hu) (ep_var 5) ep_int)) (.inl rfl)) (fun b141 => (show BS _ _ _ _ [0] [some v37.2, some p1, some p2, some v15.1, some v30.1, some v37.1, none, none, none] _ _ _ _ from by exact (bs_ret (g := fun (v180 : (D × D)) => (v180.1, v180.2)) (bx := fun (v180 : (D × D)) => v180.2) (vp_j (emb := (fun (s : D) => [some s, some p1, some p2, some v15.1, some v30.1, some v37.1, none, none, none])) (m := fun s => (((R.ok v15.1).bind fun t150 => R.ok (t150, s)).bind fun pq148 => (((R.ok v15.1).bind fun t153 => R.ok (t153, pq148.2)).bind fun pq151 => ((((R.ok v30.1).bind fun x159 => pyRange [x159]).bind fun i158 => R.ok (i158, pq151.2)).bind fun pq154 => (mapJ (fun d156 s157 => ((fun d => R.ok d) d156).bind fun a144 => (((R.ok v15.1).bind fun t161 => R.ok (t161, s157)).bind fun pq160 => (m_law_head pq160.2 [pq160.1]).bind fun q162 => R.ok (q162.1, q162.2))) pq154.1 pq154.2).bind fun r155 => R.ok (PyData.list r155.1, r155.2)).bind fun pq152 => (m_law_named_2 pq152.2 [pq151.1, pq152.1]).bind fun q163 => R.ok (q163.1, q163.2)).bind fun pq149 => R.ok (PyData.tuple [pq148.1, pq149.1], pq149.2))) v37.2 (jq (jp_tup (ja_cons (jp_of (ρe := fun (s : D) => hideE [0] [some s, some p1, some p2, some v15.1, some v30.1, some v37.1, none, none, none]) (m := fun s => (R.ok v15.1)) (fun s => xq (ep_var 3)) (fun s => bor_hide)) (ja_cons (jp_box (get := fun s => s) (put := fun s d => d) 0 ⟨fun _ => rfl, fun _ _ => rfl⟩ c__law_named hr (by omega) passN (ja_cons (jp_of (ρe := fun (s : D) => hideE [0] [some s, some p1, some p2, some v15.1, some v30.1, some v37.1, none, none, none]) (m := fun s => (R.ok v15.1)) (fun s => xq (ep_var 3)) (fun s => bor_hide)) (ja_cons (jp_of_jf (jf_lc (jlcx_lc (ow := [("_law_turn", 8)]) (me := fun a144 s => (((R.ok v15.1).bind fun t146 => R.ok (t146, s)).bind fun pq145 => (m_law_head pq145.2 [pq145.1]).bind fun q147 => R.ok (q147.1, q147.2))) sc__law_layout.nd ⟨fun _ _ j hj => (match j, hj with | 0, hj => absurd (by decide) hj | 1, _ => rfl | 2, _ => rfl | 3, _ => rfl | 4, _ => rfl | 5, _ => rfl | 6, _ => rfl | 7, _ => rfl | 8, _ => rfl | _ + 9, _ => rfl), fun _ _ => rfl⟩ (ji_of (m := fun s => ((R.ok v30.1).bind fun x143 => pyRange [x143])) (fun s => xqI (xi_range1 z_range (ea_cons (ep_var 4) ea_nil)))) (fun s H C cl fp => xg_name 8 sc__law_layout.nd) (fun s H C cl fp a144 => jq (show JP _ _ (fun (s : D) => [some s, some p1, some p2, some v15.1, some v30.1, some v37.1, none, none, some a144]) _ _ from (jp_box (get := fun s => s) (put := fun s d => d) 0 ⟨fun _ => rfl, fun _ _ => rfl⟩ c__law_head hr (by omega) passN (ja_cons (jp_of (ρe := fun (s : D) => hideE [0] [some s, some p1, some p2, some v15.1, some v30.1, some v37.1, none, none, some a144]) (m := fun s => (R.ok v15.1)) (fun s => xq (ep_var 3)) (fun s => bor_hide)) ja_nil)))) (blkOk_by (N := ["_law_box_here", "_law_most", "_law_heads", "_law_many", "_law_number", "_law_way", "_law_some", "_law_extra", "_law_turn"]) (sc := defScope s__law_layout) (by decide +kernel))))) ja_nil))) ja_nil))))) (hb := (fun _ _ => rfl))))) (fun b141 => (show BS _ _ _ _ [0] [some v37.2, some p1, some p2, some v15.1, some v30.1, some v37.1, none, none, none] _ _ _ _ from by exact (bs_ret (g := fun (v205 : (D × D)) => (v205.1, v205.2)) (bx := fun (v205 : (D × D)) => v205.2) (vp_j (emb := (fun (s : D) => [some s, some p1, some p2, some v15.1, some v30.1, some v37.1, none, none, none])) (m := fun s => (((R.ok v15.1).bind fun t183 => R.ok (t183, s)).bind fun pq181 => (((R.ok v15.1).bind fun t186 => R.ok (t186, pq181.2)).bind fun pq184 => (((R.ok v15.1).bind fun t189 => R.ok (t189, pq184.2)).bind fun pq187 => ((R.ok v30.1).bind fun t190 => R.ok (t190, pq187.2)).bind fun pq188 => (m_law_grown pq188.2 [pq187.1, pq188.1]).bind fun q191 => R.ok (q191.1, q191.2)).bind fun pq185 => (m_law_named_2 pq185.2 [pq184.1, pq185.1]).bind fun q192 => R.ok (q192.1, q192.2)).bind fun pq182 => R.ok (PyData.tuple [pq181.1, pq182.1], pq182.2))) v37.2 (jq (jp_tup (ja_cons (jp_of (ρe := fun (s : D) => hideE [0] [some s, some p1, some p2, some v15.1, some v30.1, some v37.1, none, none, none]) (m := fun s => (R.ok v15.1)) (fun s => xq (ep_var 3)) (fun s => bor_hide)) (ja_cons (jp_box (get := fun s => s) (put := fun s d => d) 0 ⟨fun _ => rfl, fun _ _ => rfl⟩ c__law_named hr (by omega) passN (ja_cons (jp_of (ρe := fun (s : D) => hideE [0] [some s, some p1, some p2, some v15.1, some v30.1, some v37.1, none, none, none]) (m := fun s => (R.ok v15.1)) (fun s => xq (ep_var 3)) (fun s => bor_hide)) (ja_cons (jp_box (get := fun s => s) (put := fun s d => d) 0 ⟨fun _ => rfl, fun _ _ => rfl⟩ c__law_grown hr (by omega) passN (ja_cons (jp_of (ρe := fun (s : D) => hideE [0] [some s, some p1, some p2, some v15.1, some v30.1, some v37.1, none, none, none]) (m := fun s => (R.ok v15.1)) (fun s => xq (ep_var 3)) (fun s => bor_hide)) (ja_cons (jp_of (ρe := fun (s : D) => hideE [0] [some s, some p1, some p2, some v15.1, some v30.1, some v37.1, none, none, none]) (m := fun s => (R.ok v30.1)) (fun s => xq (ep_var 4)) (fun s => bor_hide)) ja_nil))) ja_nil))) ja_nil))))) (hb := (fun _ _ => rfl))))) (by intro _ _ _ _ h; exact nomatch h)))) (by intro _ _ _ _ h; exact nomatch h)))))))))
theorem k__law_whole {P : Program} {w : World} {K : PySem.W.Frag} {mg : Str → Option Value} {base : Heap} {fa : Addr} {fd : FuncData} (F : Fun K "_law_whole" "_law_whole" s__law_whole fa fd) (hb : Binds K fd ["_law_found"] []) (hm : mg "_law_whole" = some (.ref fa)) (z_bool : mg "bool" = none) (z_int : mg "int" = none) (z_isinstance : mg "isinstance" = none) : CalOk P w K mg base 1 "_law_whole" (spP K mg 1 .fz m_is_whole) :=
  cal_fn (N := ["_law_found"]) F sc__law_whole hb hm rfl fun cdv A outer s H E hr ts hl => match ts, hl with
    | [p0], _ => by
      have hu : (A.deeper (envOfC "_law_whole" (defScope s__law_whole) s.heap.objs.size fa cdv)).units + 66 < cLine := by
        have := hr.un
        omega
      rw [m_is_whole]
      exact (show BS _ E false .fz [] [some p0] _ _ _ _ from (bs_ret (g := fun (v7 : D) => v7) (bx := fun (v7 : D) => PyData.none) (vp_p (ρe := [some p0]) (xq (ep_and (ep_isi (n := "int") z_isinstance z_int (ep_var 0)) (ep_one (ep_not (ep_isi (n := "bool") z_isinstance z_bool (ep_var 0))))))) (hb := (fun _ z => nomatch z))))
theorem k__law_odd {P : Program} {w : World} {K : PySem.W.Frag} {mg : Str → Option Value} {base : Heap} {fa : Addr} {fd : FuncData} (F : Fun K "_law_odd" "_law_odd" s__law_odd fa fd) (hb : Binds K fd ["_law_box_here"] []) (hm : mg "_law_odd" = some (.ref fa)) (z_len : mg "len" = none) (c__law_take : CalOk P w K mg base 1 "_law_take" (spB K 2 .fz m_law_take_2)) : CalOk P w K mg base 2 "_law_odd" (spB K 1 .fz m_law_odd_2) :=
  cal_box (N := ["_law_box_here", "_law_some"]) F sc__law_odd hb hm rfl fun cdv A outer s H E hr b ts hl => match b, ts, hl with
    | p0, [], _ => by
      have hu : (A.deeper (envOfC "_law_odd" (defScope s__law_odd) s.heap.objs.size fa cdv)).units + 66 < cLine := by
        have := hr.un
        omega
      rw [m_law_odd_2]
      exact (show BS _ E true .fz [0] [some p0, none] _ _ _ _ from (bs_seq (emb := fun v31 => [some p0, some v31]) (own1 := [0]) (ss_set 1 sc__law_odd.nd (vp_p (ρe := hideE [0] [some p0, none]) (xq (ep_lst (ea_cons ep_none (ea_cons ep_bool (ea_cons ep_bool (ea_cons (ep_un ud_neg ep_int) (ea_cons ep_int (ea_cons ep_int (ea_cons ep_int (ea_cons ep_int (ea_cons ep_str (ea_cons ep_str (ea_cons ep_str (ea_cons (ep_tup ea_nil) (ea_cons (ep_tup (ea_cons ep_int ea_nil)) (ea_cons (ep_tup (ea_cons ep_int (ea_cons ep_int ea_nil))) (ea_cons (ep_tup (ea_cons ep_int (ea_cons ep_int ea_nil))) (ea_cons (ep_tup (ea_cons ep_int (ea_cons ep_int ea_nil))) (ea_cons (ep_tup (ea_cons ep_int (ea_cons ep_bool ea_nil))) (ea_cons (ep_lst (ea_cons ep_int ea_nil)) (ea_cons ep_dict0 ea_nil))))))))))))))))))))) bor_hide)) (fun v31 => by exact (bs_seq (emb := fun v70 => [some p0, some v70]) (own1 := [0]) (ss_set 1 sc__law_odd.nd (vp_p (ρe := hideE [0] [some p0, some v31]) (xq (ep_bin od_add (ep_var 1) (ep_lst (ea_cons (ep_tup (ea_cons (ep_tup (ea_cons ep_int ea_nil)) ea_nil)) (ea_cons (ep_tup (ea_cons (ep_tup (ea_cons ep_int (ea_cons ep_int ea_nil))) ea_nil)) (ea_cons (ep_lst (ea_cons (ep_tup (ea_cons ep_int (ea_cons ep_int ea_nil))) ea_nil)) (ea_cons (ep_bin od_pow ep_int ep_int) (ea_cons (ep_tup (ea_cons ep_int (ea_cons ep_int ea_nil))) (ea_cons (ep_tup (ea_cons ep_int (ea_cons (ep_un ud_neg ep_int) ea_nil))) (ea_cons (ep_tup (ea_cons (ep_tup ea_nil) (ea_cons (ep_tup ea_nil) ea_nil))) (ea_cons (ep_tup (ea_cons (ep_tup (ea_cons ep_int (ea_cons ep_int ea_nil))) (ea_cons (ep_tup (ea_cons ep_int (ea_cons ep_int ea_nil))) ea_nil))) (ea_cons (ep_tup (ea_cons (ep_tup (ea_cons ep_int (ea_cons ep_int ea_nil))) (ea_cons ep_none ea_nil))) ea_nil)))))))))))) bor_hide)) (fun v70 => by exact (bs_ret (g := fun (v88 : (D × D)) => (v88.1, v88.2)) (bx := fun (v88 : (D × D)) => v88.2) (vp_j (emb := (fun (s : D) => [some s, some v70])) (m := fun s => (((R.ok v70).bind fun t75 => R.ok (t75, s)).bind fun pq72 => ((((R.ok v70).bind fun x78 => pyLen [x78]).bind fun t77 => R.ok (t77, pq72.2)).bind fun pq76 => (m_law_take_2 pq76.2 [pq76.1]).bind fun q79 => R.ok (q79.1, q79.2)).bind fun q73 => (pyIx pq72.1 q73.1).bind fun z74 => R.ok (z74, q73.2))) p0 (jq (jp_ix id_ix (jp_of (ρe := fun (s : D) => hideE [0] [some s, some v70]) (m := fun s => (R.ok v70)) (fun s => xq (ep_var 1)) (fun s => bor_hide)) (jp_box (get := fun s => s) (put := fun s d => d) 0 ⟨fun _ => rfl, fun _ _ => rfl⟩ c__law_take hr (by omega) passN (ja_cons (jp_of (ρe := fun (s : D) => hideE [0] [some s, some v70]) (m := fun s => ((R.ok v70).bind fun x71 => pyLen [x71])) (fun s => xq (ep_callB cd_len z_len (ea_cons (ep_var 1) ea_nil))) (fun s => bor_hide)) ja_nil))))) (hb := (fun _ _ => rfl))))))))
theorem k__law_columns {P : Program} {w : World} {K : PySem.W.Frag} {mg : Str → Option Value} {base : Heap} {fa : Addr} {fd : FuncData} (F : Fun K "_law_columns" "_law_columns" s__law_columns fa fd) (hb : Binds K fd ["_law_layout_here"] []) (hm : mg "_law_columns" = some (.ref fa)) (z_range : mg "range" = none) : CalOk P w K mg base 1 "_law_columns" (spP K mg 1 .nw m_law_columns) :=
  cal_fn (N := ["_law_layout_here", "_law_column", "_law_head_here"]) F sc__law_columns hb hm rfl fun cdv A outer s H E hr ts hl => match ts, hl with
    | [p0], _ => by
      have hu : (A.deeper (envOfC "_law_columns" (defScope s__law_columns) s.heap.objs.size fa cdv)).units + 66 < cLine := by
        have := hr.un
        omega
      rw [m_law_columns]
      exact (show BS _ E false .nw [] [some p0, none, none] _ _ _ _ from (bs_retF (g := fun (v21 : D) => v21) (bx := fun (v21 : D) => PyData.none) (vf_p (ρe := [some p0, none, none]) (xqF (xf_lc (lcx_lcf (own := [("_law_column", 1)]) (cond := fun a4 => (((((R.ok p0).bind fun x8 => (R.ok (PyData.int 1)).bind fun x9 => pyIx x8 x9).bind fun x10 => items x10).bind fun is12 => (filR (fun d14 => ((fun d => R.ok d) d14).bind fun a11 => ((R.ok a4).bind fun x15 => (R.ok a11).bind fun x16 => (pyIn x15 x16).bind asB)) (fun d14 => ((fun d => R.ok d) d14).bind fun a11 => (R.ok a11)) is12).bind fun rs13 => R.ok (PyData.list rs13)).bind fun x18 => (R.ok (PyData.list [])).bind fun x19 => (pyNe x18 x19).bind asB)) (me := fun a4 => (R.ok a4)) sc__law_columns.nd (xi_range1 z_range (ea_cons (ep_ix id_ix (ep_var 0) ep_int) ea_nil)) (fun s H C cl fp => xg_name 1 sc__law_columns.nd) (fun s H C cl fp a4 => xqB (eb_cmp (od_ne hu) (xp_of_xf (xf_lc (lcx_lcf (own := [("_law_head_here", 2)]) (cond := fun a11 => ((R.ok a4).bind fun x15 => (R.ok a11).bind fun x16 => (pyIn x15 x16).bind asB)) (me := fun a11 => (R.ok a11)) sc__law_columns.nd (xi_val (ep_ix id_ix (ep_var 0) ep_int)) (fun s H C cl fp => xg_name 2 sc__law_columns.nd) (fun s H C cl fp a11 => xqB (eb_cmp (od_in hu) (ep_var 1) (ep_var 2))) (fun s H C cl fp a11 => xq (ep_var 2)) (blkOk_by (by rfl))))) (ep_lst ea_nil))) (fun s H C cl fp a4 => xq (ep_var 1)) (blkOk_by (N := ["_law_layout_here", "_law_column", "_law_head_here"]) (sc := defScope s__law_columns) (by decide +kernel)))))) (hb := (fun _ z => nomatch z))))
theorem k__law_taken {P : Program} {w : World} {K : PySem.W.Frag} {mg : Str → Option Value} {base : Heap} {fa : Addr} {fd : FuncData} (F : Fun K "_law_taken" "_law_taken" s__law_taken fa fd) (hb : Binds K fd ["_law_heads", "_law_column"] []) (hm : mg "_law_taken" = some (.ref fa)) (z_tuple : mg "tuple" = none) : CalOk P w K mg base 1 "_law_taken" (spP K mg 2 .nw m_taken_out) :=
  cal_fn (N := ["_law_heads", "_law_column", "_law_head_here", "_law_one"]) F sc__law_taken hb hm rfl fun cdv A outer s H E hr ts hl => match ts, hl with
    | [p0, p1], _ => by
      have hu : (A.deeper (envOfC "_law_taken" (defScope s__law_taken) s.heap.objs.size fa cdv)).units + 66 < cLine := by
        have := hr.un
        omega
      rw [m_taken_out]
      exact (show BS _ E false .nw [] [some p0, some p1, none, none] _ _ _ _ from (bs_retF (g := fun (v15 : D) => v15) (bx := fun (v15 : D) => PyData.none) (vf_p (ρe := [some p0, some p1, none, none]) (xqF (xf_lc (lcx_lc (own := [("_law_head_here", 2)]) (me := fun a2 => ((((R.ok a2).bind fun x3 => items x3).bind fun is5 => (filR (fun d7 => ((fun d => R.ok d) d7).bind fun a4 => ((R.ok a4).bind fun x8 => (R.ok p1).bind fun x9 => (pyNe x8 x9).bind asB)) (fun d7 => ((fun d => R.ok d) d7).bind fun a4 => (R.ok a4)) is5).bind fun rs6 => R.ok (PyData.list rs6)).bind fun x11 => pyTuple [x11])) sc__law_taken.nd (xi_val (ep_var 0)) (fun s H C cl fp => xg_name 2 sc__law_taken.nd) (fun s H C cl fp a2 => xq (ep_callT cd_tuple z_tuple (ea_cons (xp_of_xf (xf_lc (lcx_lcf (own := [("_law_one", 3)]) (cond := fun a4 => ((R.ok a4).bind fun x8 => (R.ok p1).bind fun x9 => (pyNe x8 x9).bind asB)) (me := fun a4 => (R.ok a4)) sc__law_taken.nd (xi_val (ep_var 2)) (fun s H C cl fp => xg_name 3 sc__law_taken.nd) (fun s H C cl fp a4 => xqB (eb_cmp (od_ne hu) (ep_var 3) (ep_var 1))) (fun s H C cl fp a4 => xq (ep_var 3)) (blkOk_by (by rfl))))) ea_nil))) (blkOk_by (N := ["_law_heads", "_law_column", "_law_head_here", "_law_one"]) (sc := defScope s__law_taken) (by decide +kernel)))))) (hb := (fun _ z => nomatch z))))
theorem k__law_is_nest {P : Program} {w : World} {K : PySem.W.Frag} {mg : Str → Option Value} {base : Heap} {fa : Addr} {fd : FuncData} (F : Fun K "_law_is_nest" "_law_is_nest" s__law_is_nest fa fd) (hb : Binds K fd ["_law_heads", "_law_column"] []) (hm : mg "_law_is_nest" = some (.ref fa))  : CalOk P w K mg base 1 "_law_is_nest" (spP K mg 2 .fz m_law_is_nest) :=
  cal_fn (N := ["_law_heads", "_law_column", "_law_some", "_law_head_here", "_law_one", "_law_other", "_law_here"]) F sc__law_is_nest hb hm rfl fun cdv A outer s H E hr ts hl => match ts, hl with
    | [p0, p1], _ => by
      have hu : (A.deeper (envOfC "_law_is_nest" (defScope s__law_is_nest) s.heap.objs.size fa cdv)).units + 66 < cLine := by
        have := hr.un
        omega
      rw [m_law_is_nest]
      exact (show BS _ E false .fz [] [some p0, some p1, none, none, none, none, none] _ _ _ _ from (bs_seq (emb := fun v9 => [some p0, some p1, some v9, none, none, none, none]) (own1 := []) (ss_setLc 2 (lv_p (ρe := [some p0, some p1, none, none, none, none, none]) (lq (lcx_lcf (own := [("_law_head_here", 3)]) (cond := fun a2 => ((R.ok p1).bind fun x6 => (R.ok a2).bind fun x7 => (pyIn x6 x7).bind asB)) (me := fun a2 => (R.ok a2)) sc__law_is_nest.nd (xi_val (ep_var 0)) (fun s H C cl fp => xg_name 3 sc__law_is_nest.nd) (fun s H C cl fp a2 => xqB (eb_cmp (od_in hu) (ep_var 1) (ep_var 3))) (fun s H C cl fp a2 => xq (ep_var 3)) (blkOk_by (N := ["_law_heads", "_law_column", "_law_some", "_law_head_here", "_law_one", "_law_other", "_law_here"]) (sc := defScope s__law_is_nest) (by decide +kernel)))))) (fun v9 => by exact (bs_seqN (emb := fun (j44 : Unit) => [some p0, some p1, some v9, none, none, none, none]) (own1 := []) (fun t b => t) (ss_forO (emb := fun (j12 : Unit) => [some p0, some p1, some v9, none, none, none, none]) (fun b11 => ()) own_cx rfl (vi_p (xqI (xi_val (ep_var 2)))) (xg_name 4 sc__law_is_nest.nd) (fun j12 a13 => (show BS _ _ _ _ [] [some p0, some p1, some v9, none, some a13, none, none] _ _ _ _ from by exact (bs_seqP (emb := fun (j43 : Unit) => [some p0, some p1, some v9, none, some a13, none, none]) (own1 := []) (fun t b => (Oc.rt t b)) (ss_forO (emb := fun (j16 : Unit) => [some p0, some p1, some v9, none, some a13, none, none]) (fun b15 => ()) own_cx rfl (vi_p (xqI (xi_val (ep_var 2)))) (xg_name 5 sc__law_is_nest.nd) (fun j16 a17 => (show BS _ _ _ _ [] [some p0, some p1, some v9, none, some a13, some a17, none] _ _ _ _ from by exact (bs_if (vb_p (ρe := [some p0, some p1, some v9, none, some a13, some a17, none]) (xqB (eb_w (ew_and (eb_cmp (od_ne hu) (xp_of_xf (xf_lc (lcx_lcf (own := [("_law_here", 6)]) (cond := fun a19 => ((R.ok a19).bind fun x23 => (R.ok a17).bind fun x24 => (pyNotIn x23 x24).bind asB)) (me := fun a19 => (R.ok (PyData.int 1))) sc__law_is_nest.nd (xi_val (ep_var 4)) (fun s H C cl fp => xg_name 6 sc__law_is_nest.nd) (fun s H C cl fp a19 => xqB (eb_cmp (od_notin hu) (ep_var 6) (ep_var 5))) (fun s H C cl fp a19 => xq ep_int) (blkOk_by (N := ["_law_heads", "_law_column", "_law_some", "_law_head_here", "_law_one", "_law_other", "_law_here"]) (sc := defScope s__law_is_nest) (by decide +kernel))))) (ep_lst ea_nil)) (ew_and1 (eb_cmp (od_ne hu) (xp_of_xf (xf_lc (lcx_lcf (own := [("_law_here", 6)]) (cond := fun a30 => ((R.ok a30).bind fun x34 => (R.ok a13).bind fun x35 => (pyNotIn x34 x35).bind asB)) (me := fun a30 => (R.ok (PyData.int 1))) sc__law_is_nest.nd (xi_val (ep_var 5)) (fun s H C cl fp => xg_name 6 sc__law_is_nest.nd) (fun s H C cl fp a30 => xqB (eb_cmp (od_notin hu) (ep_var 6) (ep_var 4))) (fun s H C cl fp a30 => xq ep_int) (blkOk_by (N := ["_law_heads", "_law_column", "_law_some", "_law_head_here", "_law_one", "_law_other", "_law_here"]) (sc := defScope s__law_is_nest) (by decide +kernel))))) (ep_lst ea_nil)))))) (.inr rfl)) (fun b41 => (show BS _ _ _ _ [] [some p0, some p1, some v9, none, some a13, some a17, none] _ _ _ _ from by exact (bs_ret (g := fun (v42 : D) => (Oc.rt v42 PyData.none)) (bx := fun (v42 : D) => PyData.none) (vp_p (ρe := [some p0, some p1, some v9, none, some a13, some a17, none]) (xq ep_bool)) (hb := (fun _ z => nomatch z))))) (fun b41 => (show BS _ _ _ _ [] [some p0, some p1, some v9, none, some a13, some a17, none] _ _ _ _ from by exact (bs_end [5] (a := (Oc.nx ()))))) (fun _ => by repeat' (first | exact nev_rt | exact nev_bk | exact nev_ex | refine nev_then fun _ => ?_ | refine nev_bind fun _ => ?_ | refine nev_ite ?_ ?_)))))) (fun j43 => by exact (bs_end [4] (a := (Oc.nx ())))))))) (fun j44 => by exact (bs_ret (g := fun (v45 : D) => v45) (bx := fun (v45 : D) => PyData.none) (vp_p (ρe := [some p0, some p1, some v9, none, none, none, none]) (xq ep_bool)) (hb := (fun _ z => nomatch z))))))))
theorem k__law_are_nests {P : Program} {w : World} {K : PySem.W.Frag} {mg : Str → Option Value} {base : Heap} {fa : Addr} {fd : FuncData} (F : Fun K "_law_are_nests" "_law_are_nests" s__law_are_nests fa fd) (hb : Binds K fd ["_law_layout_here", "_law_thing"] []) (hm : mg "_law_are_nests" = some (.ref fa)) (z_all : mg "all" = none) (z_isinstance : mg "isinstance" = none) (z_list : mg "list" = none) (z_sorted : mg "sorted" = none) (z_tuple : mg "tuple" = none) (c__law_columns : CalOk P w K mg base 1 "_law_columns" (spP K mg 1 .nw m_law_columns)) (c__law_taken : CalOk P w K mg base 1 "_law_taken" (spP K mg 2 .nw m_taken_out)) (c__law_is_nest : CalOk P w K mg base 1 "_law_is_nest" (spP K mg 2 .fz m_law_is_nest)) (c__law_whole : CalOk P w K mg base 1 "_law_whole" (spP K mg 1 .fz m_is_whole)) : CalOk P w K mg base 2 "_law_are_nests" (spP K mg 2 .fz m_law_are_nests) :=
  cal_fn (N := ["_law_layout_here", "_law_thing", "_law_one", "_law_heads", "_law_column"]) F sc__law_are_nests hb hm rfl fun cdv A outer s H E hr ts hl => match ts, hl with
    | [p0, p1], _ => by
      have hu : (A.deeper (envOfC "_law_are_nests" (defScope s__law_are_nests) s.heap.objs.size fa cdv)).units + 66 < cLine := by
        have := hr.un
        omega
      rw [m_law_are_nests]
      exact (show BS _ E false .fz [] [some p0, some p1, none, none, none] _ _ _ _ from (bs_if (vb_p (ρe := [some p0, some p1, none, none, none]) (xqB (eb_w (ew_or (eb_not (eb_val (ep_isi (n := "tuple") z_isinstance z_tuple (ep_var 1)))) (ew_or1 (eb_not (eb_val (ep_callB (cd_all rfl) z_all (ea_cons (xp_of_xf (xf_lc (lcx_lc (own := [("_law_one", 2)]) (me := fun a4 => ((R.ok a4).bind fun x5 => m_is_whole [x5])) sc__law_are_nests.nd (xi_val (ep_var 1)) (fun s H C cl fp => xg_name 2 sc__law_are_nests.nd) (fun s H C cl fp a4 => xq (xp_call c__law_whole hr (by omega) passN (ea_cons (ep_var 2) ea_nil))) (blkOk_by (N := ["_law_layout_here", "_law_thing", "_law_one", "_law_heads", "_law_column"]) (sc := defScope s__law_are_nests) (by decide +kernel))))) ea_nil)))))))) (.inr rfl)) (fun b12 => (show BS _ _ _ _ [] [some p0, some p1, none, none, none] _ _ _ _ from by exact (bs_ret (g := fun (v13 : D) => v13) (bx := fun (v13 : D) => PyData.none) (vp_p (ρe := [some p0, some p1, none, none, none]) (xq ep_bool)) (hb := (fun _ z => nomatch z))))) (fun b12 => (show BS _ _ _ _ [] [some p0, some p1, none, none, none] _ _ _ _ from by exact (bs_if (vb_p (ρe := [some p0, some p1, none, none, none]) (xqB (eb_cmp (od_ne hu) (xp_of_xf (xf_callB (cf_sorted hu) z_sorted (ea_cons (ep_var 1) ea_nil))) (xp_of_xf (xf_call c__law_columns hr (by omega) pass_cx (ea_cons (ep_var 0) ea_nil))))) (.inr rfl)) (fun b19 => (show BS _ _ _ _ [] [some p0, some p1, none, none, none] _ _ _ _ from by exact (bs_ret (g := fun (v20 : D) => v20) (bx := fun (v20 : D) => PyData.none) (vp_p (ρe := [some p0, some p1, none, none, none]) (xq ep_bool)) (hb := (fun _ z => nomatch z))))) (fun b19 => (show BS _ _ _ _ [] [some p0, some p1, none, none, none] _ _ _ _ from by exact (bs_seq (emb := fun v24 => [some p0, some p1, none, some v24, none]) (own1 := []) (ss_set 3 sc__law_are_nests.nd (vp_p (ρe := [some p0, some p1, none, none, none]) (xq (xp_of_xf (xf_callT cf_list z_list (ea_cons (ep_ix id_ix (ep_var 0) ep_int) ea_nil)))))) (fun v24 => by exact (bs_seqN (emb := fun (j37 : (D)) => [some p0, some p1, none, some j37, none]) (own1 := []) (fun t b => t) (ss_forO (emb := fun (j27 : (D)) => [some p0, some p1, none, some j27, none]) (fun b26 => v24) own_cx rfl (vi_p (xqI (xi_val (ep_var 1)))) (xg_name 4 sc__law_are_nests.nd) (fun j27 a28 => (show BS _ _ _ _ [] [some p0, some p1, none, some j27, some a28] _ _ _ _ from by exact (bs_if (vb_p (ρe := [some p0, some p1, none, some j27, some a28]) (xqB (eb_not (eb_val (xp_call c__law_is_nest hr (by omega) pass_cx (ea_cons (ep_var 3) (ea_cons (ep_var 4) ea_nil)))))) (.inr rfl)) (fun b32 => (show BS _ _ _ _ [] [some p0, some p1, none, some j27, some a28] _ _ _ _ from by exact (bs_ret (g := fun (v33 : D) => (Oc.rt v33 PyData.none)) (bx := fun (v33 : D) => PyData.none) (vp_p (ρe := [some p0, some p1, none, some j27, some a28]) (xq ep_bool)) (hb := (fun _ z => nomatch z))))) (fun b32 => (show BS _ _ _ _ [] [some p0, some p1, none, some j27, some a28] _ _ _ _ from by exact (bs_seq (emb := fun v36 => [some p0, some p1, none, some v36, some a28]) (own1 := []) (ss_set 3 sc__law_are_nests.nd (vp_p (ρe := [some p0, some p1, none, some j27, some a28]) (xq (xp_of_xf (xf_call c__law_taken hr (by omega) pass_cx (ea_cons (ep_var 3) (ea_cons (ep_var 4) ea_nil))))))) (fun v36 => by exact (bs_end [4] (a := (Oc.nx v36))))))) (fun _ => by repeat' (first | exact nev_rt | exact nev_bk | exact nev_ex | refine nev_then fun _ => ?_ | refine nev_bind fun _ => ?_ | refine nev_ite ?_ ?_)))))) (fun j37 => by exact (bs_ret (g := fun (v38 : D) => v38) (bx := fun (v38 : D) => PyData.none) (vp_p (ρe := [some p0, some p1, none, some j37, none]) (xq ep_bool)) (hb := (fun _ z => nomatch z))))))))) (by intro _ _ _ _ h; exact nomatch h)))) (by intro _ _ _ _ h; exact nomatch h)))
theorem k__law_first {P : Program} {w : World} {K : PySem.W.Frag} {mg : Str → Option Value} {base : Heap} {fa : Addr} {fd : FuncData} (F : Fun K "_law_first" "_law_first" s__law_first fa fd) (hb : Binds K fd ["_law_heads", "_law_left"] []) (hm : mg "_law_first" = some (.ref fa)) (z_len : mg "len" = none) (c__law_is_nest : CalOk P w K mg base 1 "_law_is_nest" (spP K mg 2 .fz m_law_is_nest)) (c__law_taken : CalOk P w K mg base 1 "_law_taken" (spP K mg 2 .nw m_taken_out)) : CalOk P w K mg base 2 "_law_first" (spP K mg 2 .fz m_law_first) :=
  cal_fn (N := ["_law_heads", "_law_left", "_law_rows", "_law_row", "_law_here", "_law_more", "_law_column"]) F sc__law_first hb hm rfl fun cdv A outer s H E hr ts hl => match ts, hl with
    | [p0, p1], _ => by
      have hu : (A.deeper (envOfC "_law_first" (defScope s__law_first) s.heap.objs.size fa cdv)).units + 66 < cLine := by
        have := hr.un
        omega
      rw [m_law_first]
      exact (show BS _ E false .fz [] [some p0, some p1, none, none, none, none, none] _ _ _ _ from (bs_seq (emb := fun v4 => [some p0, some p1, some v4, none, none, none, none]) (own1 := [2]) (ss_setF 2 sc__law_first.nd (vf_p (ρe := [some p0, some p1, none, none, none, none, none]) (xqF (xf_lst (ea_cons (ep_tup (ea_cons (ep_tup ea_nil) (ea_cons (ep_var 0) ea_nil))) ea_nil))))) (fun v4 => by exact (bs_seqN (emb := fun (j51 : (D)) => [some p0, some p1, some j51, none, none, none, none]) (own1 := [2]) (fun t b => t) (ss_whileO (emb := fun (j5 : (D)) => [some p0, some p1, some j5, none, none, none, none]) v4 (fun (j5 : (D)) b9 => j5) own_cx (fun j5 => (vb_p (ρe := [some p0, some p1, some j5, none, none, none, none]) (xqB (eb_cmp (od_ne hu) (ep_var 2) (ep_lst ea_nil))) (.inr rfl))) (fun j5 b9 => (show BS _ _ _ _ [2] [some p0, some p1, some j5, none, none, none, none] _ _ _ _ from by exact (bs_seq (emb := fun r10 => [some p0, some p1, some r10.1.2, some r10.2.1, some r10.2.2, none, none]) (own1 := [2]) (ss_asgG (vp_j (emb := (fun (s : D) => [some p0, some p1, some s, none, none, none, none])) (m := fun s => ((popD s).bind fun q11 => R.ok (q11.1, q11.2))) j5 (jq (jp_pop0 (get := fun s => s) (put := fun s d => d) 2 ⟨fun _ => rfl, fun _ _ => rfl⟩))) (xg_pair 3 4 sc__law_first.nd)) (fun r10 => by exact (bs_if (vb_p (ρe := hideE [2] [some p0, some p1, some r10.1.2, some r10.2.1, some r10.2.2, none, none]) (xqB (eb_cmp (od_eq hu) (ep_callB cd_len z_len (ea_cons (ep_var 3) ea_nil)) (ep_callB cd_len z_len (ea_cons (ep_var 1) ea_nil)))) (.inl rfl)) (fun b20 => (show BS _ _ _ _ [2] [some p0, some p1, some r10.1.2, some r10.2.1, some r10.2.2, none, none] _ _ _ _ from by exact (bs_freeze 2 (show BS _ _ _ _ [] [some p0, some p1, some r10.1.2, some r10.2.1, some r10.2.2, none, none] _ _ _ _ from by exact (bs_ret (g := fun (v21 : D) => (Oc.rt v21 PyData.none)) (bx := fun (v21 : D) => PyData.none) (vp_p (ρe := [some p0, some p1, some r10.1.2, some r10.2.1, some r10.2.2, none, none]) (xq (ep_var 3))) (hb := (fun _ z => nomatch z))))))) (fun b20 => (show BS _ _ _ _ [2] [some p0, some p1, some r10.1.2, some r10.2.1, some r10.2.2, none, none] _ _ _ _ from by exact (bs_seq (emb := fun v33 => [some p0, some p1, some r10.1.2, some r10.2.1, some r10.2.2, some v33, none]) (own1 := [2]) (ss_setLc 5 (lv_p (ρe := hideE [2] [some p0, some p1, some r10.1.2, some r10.2.1, some r10.2.2, none, none]) (lq (lcx_lcf (own := [("_law_column", 6)]) (cond := fun a23 => (((R.ok a23).bind fun x27 => (R.ok r10.2.1).bind fun x28 => (pyNotIn x27 x28).bind asB).bind fun k32 => if k32 = true then (((R.ok r10.2.2).bind fun x30 => (R.ok a23).bind fun x31 => m_law_is_nest [x30, x31]).bind tru) else R.ok false)) (me := fun a23 => (R.ok a23)) sc__law_first.nd (xi_val (ep_var 1)) (fun s H C cl fp => xg_name 6 sc__law_first.nd) (fun s H C cl fp a23 => xqB (eb_w (ew_and (eb_cmp (od_notin hu) (ep_var 6) (ep_var 3)) (ew_and1 (eb_val (xp_call c__law_is_nest hr (by omega) passN (ea_cons (ep_var 4) (ea_cons (ep_var 6) ea_nil)))))))) (fun s H C cl fp a23 => xq (ep_var 6)) (blkOk_by (N := ["_law_heads", "_law_left", "_law_rows", "_law_row", "_law_here", "_law_more", "_law_column"]) (sc := defScope s__law_first) (by decide +kernel)))) bor_hide)) (fun v33 => by exact (bs_seq (emb := fun j50 => [some p0, some p1, some j50, some r10.2.1, some r10.2.2, some v33, none]) (own1 := [2]) (ss_meth 2 (ts := fun v47 => r10.1.2) (fun v47 r49 => r49) PySem.F.slot_list_extend PySem.F.type_list_extend mt_extendU meth_extend ext_l ext_r ext_ex (vp_p (ρe := hideE [2] [some p0, some p1, some r10.1.2, some r10.2.1, some r10.2.2, some v33, none]) (xq (xp_of_xf (xf_lc (lcx_lc (own := [("_law_column", 6)]) (me := fun a36 => (((R.ok r10.2.1).bind fun x38 => ((R.ok a36).bind fun x37 => R.ok (PyData.tuple [x37])).bind fun x39 => pyAdd x38 x39).bind fun x40 => ((R.ok r10.2.2).bind fun x41 => (R.ok a36).bind fun x42 => m_taken_out [x41, x42]).bind fun x43 => R.ok (PyData.tuple [x40, x43]))) sc__law_first.nd (xi_val (xp_rev (ep_var 5))) (fun s H C cl fp => xg_name 6 sc__law_first.nd) (fun s H C cl fp a36 => xq (ep_tup (ea_cons (ep_bin od_add (ep_var 3) (ep_tup (ea_cons (ep_var 6) ea_nil))) (ea_cons (xp_of_xf (xf_call c__law_taken hr (by omega) passN (ea_cons (ep_var 4) (ea_cons (ep_var 6) ea_nil)))) ea_nil)))) (blkOk_by (N := ["_law_heads", "_law_left", "_law_rows", "_law_row", "_law_here", "_law_more", "_law_column"]) (sc := defScope s__law_first) (by decide +kernel)))))) bor_hide)) (fun j50 => by exact (bs_end [3, 4, 5] (a := (Oc.nx j50))))))))) (fun _ => by repeat' (first | exact nev_rt | exact nev_bk | exact nev_ex | refine nev_then fun _ => ?_ | refine nev_bind fun _ => ?_ | refine nev_ite ?_ ?_)))))))) (fun j51 => by exact (bs_freeze 2 (show BS _ _ _ _ [] [some p0, some p1, some j51, none, none, none, none] _ _ _ _ from by exact (bs_ret (g := fun (v52 : D) => v52) (bx := fun (v52 : D) => PyData.none) (vp_p (ρe := [some p0, some p1, some j51, none, none, none, none]) (xq ep_none)) (hb := (fun _ z => nomatch z))))))))))
theorem k__law_bent {P : Program} {w : World} {K : PySem.W.Frag} {mg : Str → Option Value} {base : Heap} {fa : Addr} {fd : FuncData} (F : Fun K "_law_bent" "_law_bent" s__law_bent fa fd) (hb : Binds K fd ["_law_box_here", "_law_layout_here", "_law_row"] []) (hm : mg "_law_bent" = some (.ref fa)) (z_len : mg "len" = none) (z_list : mg "list" = none) (z_tuple : mg "tuple" = none) (c__law_odd : CalOk P w K mg base 2 "_law_odd" (spB K 1 .fz m_law_odd_2)) (c__law_take : CalOk P w K mg base 1 "_law_take" (spB K 2 .fz m_law_take_2)) : CalOk P w K mg base 3 "_law_bent" (spB K 3 .fz m_law_bent_5) :=
  cal_box (N := ["_law_box_here", "_law_layout_here", "_law_row", "_law_odd_here", "_law_at", "_law_to", "_law_rows", "_law_some", "_law_one"]) F sc__law_bent hb hm rfl fun cdv A outer s H E hr b ts hl => match b, ts, hl with
    | p0, [p1, p2], _ => by
      have hu : (A.deeper (envOfC "_law_bent" (defScope s__law_bent) s.heap.objs.size fa cdv)).units + 66 < cLine := by
        have := hr.un
        omega
      rw [m_law_bent_5]
      exact (show BS _ E true .fz [0] [some p0, some p1, some p2, none, none, none, none, none, none] _ _ _ _ from (bs_seq (emb := fun v3 => [some v3.2, some p1, some p2, some v3.1, none, none, none, none, none]) (own1 := [0]) (ss_set 3 sc__law_bent.nd (vp_j (emb := (fun (s : D) => [some s, some p1, some p2, none, none, none, none, none, none])) (m := fun s => ((m_law_odd_2 s []).bind fun q1 => R.ok (q1.1, q1.2))) p0 (jq (jp_box (get := fun s => s) (put := fun s d => d) 0 ⟨fun _ => rfl, fun _ _ => rfl⟩ c__law_odd hr (by omega) passN ja_nil)))) (fun v3 => by exact (bs_seq (emb := fun v13 => [some v13.2, some p1, some p2, some v3.1, some v13.1, none, none, none, none]) (own1 := [0]) (ss_set 4 sc__law_bent.nd (vp_j (emb := (fun (s : D) => [some s, some p1, some p2, some v3.1, none, none, none, none, none])) (m := fun s => ((((R.ok p2).bind fun x7 => pyLen [x7]).bind fun t6 => R.ok (t6, s)).bind fun pq5 => (m_law_take_2 pq5.2 [pq5.1]).bind fun q8 => R.ok (q8.1, q8.2))) v3.2 (jq (jp_box (get := fun s => s) (put := fun s d => d) 0 ⟨fun _ => rfl, fun _ _ => rfl⟩ c__law_take hr (by omega) passN (ja_cons (jp_of (ρe := fun (s : D) => hideE [0] [some s, some p1, some p2, some v3.1, none, none, none, none, none]) (m := fun s => ((R.ok p2).bind fun x4 => pyLen [x4])) (fun s => xq (ep_callB cd_len z_len (ea_cons (ep_var 2) ea_nil))) (fun s => bor_hide)) ja_nil))))) (fun v13 => by exact (bs_seq (emb := fun v23 => [some v23.2, some p1, some p2, some v3.1, some v13.1, some v23.1, none, none, none]) (own1 := [0]) (ss_set 5 sc__law_bent.nd (vp_j (emb := (fun (s : D) => [some s, some p1, some p2, some v3.1, some v13.1, none, none, none, none])) (m := fun s => ((((R.ok p2).bind fun x17 => pyLen [x17]).bind fun t16 => R.ok (t16, s)).bind fun pq15 => (m_law_take_2 pq15.2 [pq15.1]).bind fun q18 => R.ok (q18.1, q18.2))) v13.2 (jq (jp_box (get := fun s => s) (put := fun s d => d) 0 ⟨fun _ => rfl, fun _ _ => rfl⟩ c__law_take hr (by omega) passN (ja_cons (jp_of (ρe := fun (s : D) => hideE [0] [some s, some p1, some p2, some v3.1, some v13.1, none, none, none, none]) (m := fun s => ((R.ok p2).bind fun x14 => pyLen [x14])) (fun s => xq (ep_callB cd_len z_len (ea_cons (ep_var 2) ea_nil))) (fun s => bor_hide)) ja_nil))))) (fun v23 => by exact (bs_seq (emb := fun v25 => [some v23.2, some p1, some p2, some v3.1, some v13.1, some v23.1, some v25, none, none]) (own1 := [6, 0]) (ss_setF 6 sc__law_bent.nd (vf_p (ρe := hideE [0] [some v23.2, some p1, some p2, some v3.1, some v13.1, some v23.1, none, none, none]) (xqF (xf_callT cf_list z_list (ea_cons (ep_var 2) ea_nil))) borF_hide)) (fun v25 => by exact (bs_seq (emb := fun j38 => [some v23.2, some p1, some p2, some v3.1, some v13.1, some v23.1, some j38, none, none]) (own1 := [6, 0]) (ss_swap 6 (ts := fun v32 => v25) (mi1 := fun v32 => (R.ok v13.1)) (mi2 := fun v32 => (R.ok v23.1)) (fun v32 r37 => r37) (vp_p (ρe := [some v23.2, some p1, some p2, some v3.1, some v13.1, some v23.1, some v25, none, none]) (xp_nl (xq (ep_tup (ea_cons (ep_ix id_ix (ep_var 6) (ep_var 5)) (ea_cons (ep_ix id_ix (ep_var 6) (ep_var 4)) ea_nil))))) (bor_flat nl_nl)) (fun v32 => xq (ep_var 4)) (fun v32 => xq (ep_var 5))) (fun j38 => by exact (bs_freeze 6 (show BS _ _ _ _ [0] [some v23.2, some p1, some p2, some v3.1, some v13.1, some v23.1, some j38, none, none] _ _ _ _ from by exact (bs_seq (emb := fun v72 => [some v23.2, some p1, some p2, some v3.1, some v13.1, some v23.1, some j38, some v72, none]) (own1 := [7, 0]) (ss_setF 7 sc__law_bent.nd (vf_p (ρe := hideE [0] [some v23.2, some p1, some p2, some v3.1, some v13.1, some v23.1, some j38, none, none]) (xqF (xf_lst (ea_cons (ep_callT cd_tuple z_tuple (ea_cons (ep_var 6) ea_nil)) (ea_cons (ep_bin od_add (xp_slice (ep_var 2) xo_none (xo_some (ep_var 4))) (xp_slice (ep_var 2) (xo_some (ep_bin od_add (ep_var 4) ep_int)) xo_none)) (ea_cons (ep_bin od_add (xp_slice (ep_var 2) xo_none (xo_some (ep_bin od_add (ep_var 4) ep_int))) (xp_slice (ep_var 2) (xo_some (ep_var 4)) xo_none)) (ea_cons (xp_rev (ep_var 2)) (ea_cons (xp_of_xf (xf_callT cf_list z_list (ea_cons (ep_var 2) ea_nil))) (ea_cons (ep_var 3) ea_nil)))))))) borF_hide)) (fun v72 => by exact (bs_seq (emb := fun (j117 : (D × D)) => [some j117.1, some p1, some p2, some v3.1, some v13.1, some v23.1, some j38, some j117.2, none]) (own1 := [7, 0]) (ss_for (emb := fun (j96 : (D × D)) => [some j96.1, some p1, some p2, some v3.1, some v13.1, some v23.1, some j38, some j96.2, none]) (fun b95 => (b95.2, v72)) own_cx rfl (vi_j (emb := (fun (s : D) => [some s, some p1, some p2, some v3.1, some v13.1, some v23.1, some j38, some v72, none])) (m := fun s => ((((((R.ok p1).bind fun x81 => (R.ok (PyData.int 0)).bind fun x82 => pyIx x81 x82).bind fun t80 => R.ok (t80, s)).bind fun pq79 => (m_law_take_2 pq79.2 [pq79.1]).bind fun q83 => R.ok (q83.1, q83.2)).bind fun pq77 => ((R.ok v3.1).bind fun t84 => R.ok (t84, pq77.2)).bind fun pq78 => R.ok (PyData.list [pq77.1, pq78.1], pq78.2)).bind fun pq75 => (items pq75.1).bind fun i76 => R.ok (i76, pq75.2))) v23.2 (jqI (ji_val (jp_lst (ja_cons (jp_box (get := fun s => s) (put := fun s d => d) 0 ⟨fun _ => rfl, fun _ _ => rfl⟩ c__law_take hr (by omega) passN (ja_cons (jp_of (ρe := fun (s : D) => hideE [7, 0] [some s, some p1, some p2, some v3.1, some v13.1, some v23.1, some j38, some v72, none]) (m := fun s => ((R.ok p1).bind fun x73 => (R.ok (PyData.int 0)).bind fun x74 => pyIx x73 x74)) (fun s => xq (ep_ix id_ix (ep_var 1) ep_int)) (fun s => bor_hide)) ja_nil)) (ja_cons (jp_of (ρe := fun (s : D) => hideE [7, 0] [some s, some p1, some p2, some v3.1, some v13.1, some v23.1, some j38, some v72, none]) (m := fun s => (R.ok v3.1)) (fun s => xq (ep_var 3)) (fun s => bor_hide)) ja_nil)))))) (xg_name 8 sc__law_bent.nd) (fun j96 a97 => (show BS _ _ _ _ [7, 0] [some j96.1, some p1, some p2, some v3.1, some v13.1, some v23.1, some j38, some j96.2, some a97] _ _ _ _ from by exact (bs_seq (emb := fun j116 => [some j96.1, some p1, some p2, some v3.1, some v13.1, some v23.1, some j38, some j116, some a97]) (own1 := [7, 0]) (ss_meth 7 (ts := fun v113 => j96.2) (fun v113 r115 => r115) PySem.F.slot_list_append PySem.F.type_list_append mt_append meth_append app_l app_r app_ex (vp_p (ρe := hideE [7, 0] [some j96.1, some p1, some p2, some v3.1, some v13.1, some v23.1, some j38, some j96.2, some a97]) (xq (ep_bin od_add (ep_bin od_add (xp_slice (ep_var 2) xo_none (xo_some (ep_var 4))) (ep_tup (ea_cons (ep_var 8) ea_nil))) (xp_slice (ep_var 2) (xo_some (ep_bin od_add (ep_var 4) ep_int)) xo_none))) bor_hide)) (fun j116 => by exact (bs_end [8] (a := (j96.1, j116)))))))) (fun j117 => by exact (bs_freeze 7 (show BS _ _ _ _ [0] [some j117.1, some p1, some p2, some v3.1, some v13.1, some v23.1, some j38, some j117.2, none] _ _ _ _ from by exact (bs_ret (g := fun (v132 : (D × D)) => (v132.1, v132.2)) (bx := fun (v132 : (D × D)) => v132.2) (vp_j (emb := (fun (s : D) => [some s, some p1, some p2, some v3.1, some v13.1, some v23.1, some j38, some j117.2, none])) (m := fun s => (((R.ok j117.2).bind fun t121 => R.ok (t121, s)).bind fun pq118 => (((R.ok (PyData.int 8)).bind fun t123 => R.ok (t123, pq118.2)).bind fun pq122 => (m_law_take_2 pq122.2 [pq122.1]).bind fun q124 => R.ok (q124.1, q124.2)).bind fun q119 => (pyIx pq118.1 q119.1).bind fun z120 => R.ok (z120, q119.2))) j117.1 (jq (jp_ix id_ix (jp_of (ρe := fun (s : D) => hideE [0] [some s, some p1, some p2, some v3.1, some v13.1, some v23.1, some j38, some j117.2, none]) (m := fun s => (R.ok j117.2)) (fun s => xq (ep_var 7)) (fun s => bor_hide)) (jp_box (get := fun s => s) (put := fun s d => d) 0 ⟨fun _ => rfl, fun _ _ => rfl⟩ c__law_take hr (by omega) passN (ja_cons (jp_of (ρe := fun (s : D) => hideE [0] [some s, some p1, some p2, some v3.1, some v13.1, some v23.1, some j38, some j117.2, none]) (m := fun s => (R.ok (PyData.int 8))) (fun s => xq ep_int) (fun s => bor_hide)) ja_nil))))) (hb := (fun _ _ => rfl))))))))))))))))))))))
theorem k_law {P : Program} {w : World} {K : PySem.W.Frag} {mg : Str → Option Value} {base : Heap} {fa : Addr} {fd : FuncData} (F : Fun K "law" "law" s_law fa fd) (hb : Binds K fd ["_law_script"] []) (hm : mg "law" = some (.ref fa)) (z_bool : mg "bool" = none) (z_isinstance : mg "isinstance" = none) (z_len : mg "len" = none) (z_list : mg "list" = none) (z_max : mg "max" = none) (z_min : mg "min" = none) (z_range : mg "range" = none) (z_tuple : mg "tuple" = none) (c__law_box : CalOk P w K mg base 2 "_law_box" (spP K mg 2 .nw m_law_box_2)) (c__law_layout : CalOk P w K mg base 4 "_law_layout" (spB K 3 .fz m_law_layout_2)) (c__law_columns : CalOk P w K mg base 1 "_law_columns" (spP K mg 1 .nw m_law_columns)) (c__law_first : CalOk P w K mg base 2 "_law_first" (spP K mg 2 .fz m_law_first)) (c_first_nests : CalOk P w K mg base 3 "first_nests" (spP K mg 1 .fz m_first_nests)) (c__law_bent : CalOk P w K mg base 3 "_law_bent" (spB K 3 .fz m_law_bent_5)) (c__law_odd : CalOk P w K mg base 2 "_law_odd" (spB K 1 .fz m_law_odd_2)) (c_are_nests : CalOk P w K mg base 3 "are_nests" (spP K mg 2 .fz m_are_nests)) (c__law_take : CalOk P w K mg base 1 "_law_take" (spB K 2 .fz m_law_take_2)) (c__law_are_nests : CalOk P w K mg base 2 "_law_are_nests" (spP K mg 2 .fz m_law_are_nests)) : FnOk P w K mg base (L2N.CX P w) 5 fa fd ["_law_script"] (spP K mg 1 .fz m_law_k41) :=
  fn_fn (N := ["_law_script", "_law_k", "_law_box_here", "_law_layout_here", "_law_left", "_law_due", "_law_found", "_law_drawn", "_law_row", "_law_turn", "_law_thing", "_law_told"]) F sc_law rfl fun cdv A outer s H E hr ts hl => match ts, hl with
    | [p0], _ => by
      have hu : (A.deeper (envOfC "law" (defScope s_law) s.heap.objs.size fa cdv)).units + 66 < cLine := by
        have := hr.un
        omega
      rw [m_law_k41]
      exact (show BS _ E false .fz [] [some p0, none, none, none, none, none, none, none, none, none, none, none] _ _ _ _ from (bs_seqN (emb := fun (j158 : Unit) => [some p0, none, none, none, none, none, none, none, none, none, none, none]) (own1 := []) (fun t b => t) (ss_forO (emb := fun (j8 : Unit) => [some p0, none, none, none, none, none, none, none, none, none, none, none]) (fun b7 => ()) own_cx rfl (vi_p (xqI (xi_range1 z_range (ea_cons (ep_callB (cd_max hu rfl) z_max (ea_cons ep_int (ea_cons (ep_callB (cd_min hu rfl) z_min (ea_cons (ep_callB cd_len z_len (ea_cons (ep_var 0) ea_nil)) (ea_cons ep_int ea_nil))) ea_nil))) ea_nil)))) (xg_name 1 sc_law.nd) (fun j8 a9 => (show BS _ _ _ _ [] [some p0, some a9, none, none, none, none, none, none, none, none, none, none] _ _ _ _ from by exact (bs_seq (emb := fun v12 => [some p0, some a9, some v12, none, none, none, none, none, none, none, none, none]) (own1 := [2]) (ss_setF 2 sc_law.nd (vf_p (ρe := [some p0, some a9, none, none, none, none, none, none, none, none, none, none]) (xqF (xf_call c__law_box hr (by omega) pass_cx (ea_cons (ep_var 0) (ea_cons (ep_var 1) ea_nil)))))) (fun v12 => by exact (bs_seq (emb := fun v23 => [some p0, some a9, some v23.2, some v23.1, none, none, none, none, none, none, none, none]) (own1 := [2]) (ss_set 3 sc_law.nd (vp_j (emb := (fun (s : D) => [some p0, some a9, some s, none, none, none, none, none, none, none, none, none])) (m := fun s => (((R.ok (PyData.int 7)).bind fun t15 => R.ok (t15, s)).bind fun pq13 => ((R.ok (PyData.int 6)).bind fun t16 => R.ok (t16, pq13.2)).bind fun pq14 => (m_law_layout_2 pq14.2 [pq13.1, pq14.1]).bind fun q17 => R.ok (q17.1, q17.2))) v12 (jq (jp_box (get := fun s => s) (put := fun s d => d) 2 ⟨fun _ => rfl, fun _ _ => rfl⟩ c__law_layout hr (by omega) passN (ja_cons (jp_of (ρe := fun (s : D) => hideE [2] [some p0, some a9, some s, none, none, none, none, none, none, none, none, none]) (m := fun s => (R.ok (PyData.int 7))) (fun s => xq ep_int) (fun s => bor_hide)) (ja_cons (jp_of (ρe := fun (s : D) => hideE [2] [some p0, some a9, some s, none, none, none, none, none, none, none, none, none]) (m := fun s => (R.ok (PyData.int 6))) (fun s => xq ep_int) (fun s => bor_hide)) ja_nil)))))) (fun v23 => by exact (bs_seq (emb := fun v25 => [some p0, some a9, some v23.2, some v23.1, some v25, none, none, none, none, none, none, none]) (own1 := [2]) (ss_set 4 sc_law.nd (vp_p (ρe := hideE [2] [some p0, some a9, some v23.2, some v23.1, none, none, none, none, none, none, none, none]) (xq (xp_of_xf (xf_call c__law_columns hr (by omega) pass_cx (ea_cons (ep_var 3) ea_nil)))) bor_hide)) (fun v25 => by exact (bs_seq (emb := fun v31 => [some p0, some a9, some v23.2, some v23.1, some v25, some v31, none, none, none, none, none, none]) (own1 := [2]) (ss_set 5 sc_law.nd (vp_p (ρe := hideE [2] [some p0, some a9, some v23.2, some v23.1, some v25, none, none, none, none, none, none, none]) (xq (xp_call c__law_first hr (by omega) pass_cx (ea_cons (xp_of_xf (xf_callT cf_list z_list (ea_cons (ep_ix id_ix (ep_var 3) ep_int) ea_nil))) (ea_cons (ep_var 4) ea_nil)))) bor_hide)) (fun v31 => by exact (bs_seq (emb := fun v33 => [some p0, some a9, some v23.2, some v23.1, some v25, some v31, some v33, none, none, none, none, none]) (own1 := [2]) (ss_set 6 sc_law.nd (vp_p (ρe := hideE [2] [some p0, some a9, some v23.2, some v23.1, some v25, some v31, none, none, none, none, none, none]) (xq (xp_call c_first_nests hr (by omega) pass_cx (ea_cons (ep_var 3) ea_nil))) bor_hide)) (fun v33 => by exact (bs_if (vb_p (ρe := hideE [2] [some p0, some a9, some v23.2, some v23.1, some v25, some v31, some v33, none, none, none, none, none]) (xqB (eb_w (ew_or (eb_cmp (od_ne hu) (ep_cmp od_is (ep_var 6) ep_none) (ep_cmp od_is (ep_var 5) ep_none)) (ew_or1 (eb_cmp (od_ne hu) (ep_var 6) (ep_var 5)))))) (.inl rfl)) (fun b45 => (show BS _ _ _ _ [2] [some p0, some a9, some v23.2, some v23.1, some v25, some v31, some v33, none, none, none, none, none] _ _ _ _ from by exact (bs_freeze 2 (show BS _ _ _ _ [] [some p0, some a9, some v23.2, some v23.1, some v25, some v31, some v33, none, none, none, none, none] _ _ _ _ from by exact (bs_ret (g := fun (v46 : D) => (Oc.rt v46 PyData.none)) (bx := fun (v46 : D) => PyData.none) (vp_p (ρe := [some p0, some a9, some v23.2, some v23.1, some v25, some v31, some v33, none, none, none, none, none]) (xq ep_bool)) (hb := (fun _ z => nomatch z))))))) (fun b45 => (show BS _ _ _ _ [2] [some p0, some a9, some v23.2, some v23.1, some v25, some v31, some v33, none, none, none, none, none] _ _ _ _ from by exact (bs_seq (emb := fun v48 => [some p0, some a9, some v23.2, some v23.1, some v25, some v31, some v33, some v48, none, none, none, none]) (own1 := [7, 2]) (ss_setF 7 sc_law.nd (vf_p (ρe := hideE [2] [some p0, some a9, some v23.2, some v23.1, some v25, some v31, some v33, none, none, none, none, none]) (xqF (xf_callT cf_list z_list (ea_cons (ep_var 4) ea_nil))) borF_hide)) (fun v48 => by exact (bs_seq (emb := fun v94 => [some p0, some a9, some v94.2.2, some v23.1, some v25, some v31, some v33, some v94.2.1, some v94.1, none, none, none]) (own1 := [7, 2]) (ss_set 8 sc_law.nd (vp_j (emb := (fun (s : (D × D)) => [some p0, some a9, some s.2, some v23.1, some v25, some v31, some v33, some s.1, none, none, none, none])) (m := fun s => ((((((R.ok v25).bind fun x68 => pyLen [x68]).bind fun x69 => pyRange [x69]).bind fun i67 => R.ok (i67, s)).bind fun pq63 => (mapJ (fun d65 s66 => ((fun d => R.ok d) d65).bind fun a53 => ((lstD s66.1).bind fun u72 => (((nl ((R.ok s66.1).bind fun x75 => pyLen [x75])).bind fun t74 => R.ok (t74, s66)).bind fun pq73 => (m_law_take_2 pq73.2.2 [pq73.1]).bind fun q76 => R.ok (q76.1, (pq73.2.1, q76.2))).bind fun pq70 => (popAtD pq70.2.1 pq70.1).bind fun q71 => R.ok (q71.1, (q71.2, pq70.2.2)))) pq63.1 pq63.2).bind fun r64 => R.ok (PyData.list r64.1, r64.2)).bind fun pq62 => (pyTuple [pq62.1]).bind fun z77 => R.ok (z77, pq62.2))) (v48, v23.2) (jq (jp_callT cd_tuple z_tuple (ja_cons (jp_of_jf (jf_lc (jlcx_lc (ow := [("_law_turn", 9)]) (me := fun a53 s => ((lstD s.1).bind fun u57 => (((nl ((R.ok s.1).bind fun x60 => pyLen [x60])).bind fun t59 => R.ok (t59, s)).bind fun pq58 => (m_law_take_2 pq58.2.2 [pq58.1]).bind fun q61 => R.ok (q61.1, (pq58.2.1, q61.2))).bind fun pq55 => (popAtD pq55.2.1 pq55.1).bind fun q56 => R.ok (q56.1, (q56.2, pq55.2.2)))) sc_law.nd ⟨fun _ _ j hj => (match j, hj with | 0, _ => rfl | 1, _ => rfl | 2, hj => absurd (by decide) hj | 3, _ => rfl | 4, _ => rfl | 5, _ => rfl | 6, _ => rfl | 7, hj => absurd (by decide) hj | 8, _ => rfl | 9, _ => rfl | 10, _ => rfl | 11, _ => rfl | _ + 12, _ => rfl), fun _ _ => rfl⟩ (ji_of (m := fun s => (((R.ok v25).bind fun x51 => pyLen [x51]).bind fun x52 => pyRange [x52])) (fun s => xqI (xi_range1 z_range (ea_cons (ep_callB cd_len z_len (ea_cons (ep_var 4) ea_nil)) ea_nil)))) (fun s H C cl fp => xg_name 9 sc_law.nd) (fun s H C cl fp a53 => jq (show JP _ _ (fun (s : (D × D)) => [some p0, some a9, some s.2, some v23.1, some v25, some v31, some v33, some s.1, none, some a53, none, none]) _ _ from (jp_popAt (get := fun s => s.1) (put := fun s d => (d, s.2)) 7 ⟨fun _ => rfl, fun _ _ => rfl⟩ (jp_box (get := fun s => s.2) (put := fun s d => (s.1, d)) 2 ⟨fun _ => rfl, fun _ _ => rfl⟩ c__law_take hr (by omega) passN (ja_cons (jp_of (ρe := fun (s : (D × D)) => [some p0, some a9, some s.2, some v23.1, some v25, some v31, some v33, some s.1, none, some a53, none, none]) (m := fun s => nl ((R.ok s.1).bind fun x54 => pyLen [x54])) (fun s => xp_nl (xq (ep_callB cd_len z_len (ea_cons (ep_var 7) ea_nil)))) (fun s => bor_flat nl_nl)) ja_nil))))) (blkOk_by (N := ["_law_script", "_law_k", "_law_box_here", "_law_layout_here", "_law_left", "_law_due", "_law_found", "_law_drawn", "_law_row", "_law_turn", "_law_thing", "_law_told"]) (sc := defScope s_law) (by decide +kernel))))) ja_nil))))) (fun v94 => by exact (bs_freeze 7 (show BS _ _ _ _ [2] [some p0, some a9, some v94.2.2, some v23.1, some v25, some v31, some v33, some v94.2.1, some v94.1, none, none, none] _ _ _ _ from by exact (bs_seqP (emb := fun (j157 : (D)) => [some p0, some a9, some j157, some v23.1, some v25, some v31, some v33, some v94.2.1, some v94.1, none, none, none]) (own1 := [2]) (fun t b => (Oc.rt t b)) (ss_forO (emb := fun (j142 : (D)) => [some p0, some a9, some j142, some v23.1, some v25, some v31, some v33, some v94.2.1, some v94.1, none, none, none]) (fun b141 => b141.2) own_cx rfl (vi_j (emb := (fun (s : D) => [some p0, some a9, some s, some v23.1, some v25, some v31, some v33, some v94.2.1, some v94.1, none, none, none])) (m := fun s => ((((R.ok v94.1).bind fun t104 => R.ok (t104, s)).bind fun pq99 => (((R.ok v23.1).bind fun t107 => R.ok (t107, pq99.2)).bind fun pq105 => ((R.ok v94.1).bind fun t108 => R.ok (t108, pq105.2)).bind fun pq106 => (m_law_bent_5 pq106.2 [pq105.1, pq106.1]).bind fun q109 => R.ok (q109.1, q109.2)).bind fun pq100 => ((R.ok v31).bind fun t110 => R.ok (t110, pq100.2)).bind fun pq101 => (((R.ok v23.1).bind fun t113 => R.ok (t113, pq101.2)).bind fun pq111 => (((R.ok v31).bind fun x115 => (tru x115).bind fun k116 => if k116 = true then R.ok x115 else (R.ok v94.1)).bind fun t114 => R.ok (t114, pq111.2)).bind fun pq112 => (m_law_bent_5 pq112.2 [pq111.1, pq112.1]).bind fun q117 => R.ok (q117.1, q117.2)).bind fun pq102 => ((m_law_odd_2 pq102.2 []).bind fun q118 => R.ok (q118.1, q118.2)).bind fun pq103 => R.ok (PyData.list [pq99.1, pq100.1, pq101.1, pq102.1, pq103.1], pq103.2)).bind fun pq97 => (items pq97.1).bind fun i98 => R.ok (i98, pq97.2))) v94.2.2 (jqI (ji_val (jp_lst (ja_cons (jp_of (ρe := fun (s : D) => hideE [2] [some p0, some a9, some s, some v23.1, some v25, some v31, some v33, some v94.2.1, some v94.1, none, none, none]) (m := fun s => (R.ok v94.1)) (fun s => xq (ep_var 8)) (fun s => bor_hide)) (ja_cons (jp_box (get := fun s => s) (put := fun s d => d) 2 ⟨fun _ => rfl, fun _ _ => rfl⟩ c__law_bent hr (by omega) passN (ja_cons (jp_of (ρe := fun (s : D) => hideE [2] [some p0, some a9, some s, some v23.1, some v25, some v31, some v33, some v94.2.1, some v94.1, none, none, none]) (m := fun s => (R.ok v23.1)) (fun s => xq (ep_var 3)) (fun s => bor_hide)) (ja_cons (jp_of (ρe := fun (s : D) => hideE [2] [some p0, some a9, some s, some v23.1, some v25, some v31, some v33, some v94.2.1, some v94.1, none, none, none]) (m := fun s => (R.ok v94.1)) (fun s => xq (ep_var 8)) (fun s => bor_hide)) ja_nil))) (ja_cons (jp_of (ρe := fun (s : D) => hideE [2] [some p0, some a9, some s, some v23.1, some v25, some v31, some v33, some v94.2.1, some v94.1, none, none, none]) (m := fun s => (R.ok v31)) (fun s => xq (ep_var 5)) (fun s => bor_hide)) (ja_cons (jp_box (get := fun s => s) (put := fun s d => d) 2 ⟨fun _ => rfl, fun _ _ => rfl⟩ c__law_bent hr (by omega) passN (ja_cons (jp_of (ρe := fun (s : D) => hideE [2] [some p0, some a9, some s, some v23.1, some v25, some v31, some v33, some v94.2.1, some v94.1, none, none, none]) (m := fun s => (R.ok v23.1)) (fun s => xq (ep_var 3)) (fun s => bor_hide)) (ja_cons (jp_of (ρe := fun (s : D) => hideE [2] [some p0, some a9, some s, some v23.1, some v25, some v31, some v33, some v94.2.1, some v94.1, none, none, none]) (m := fun s => ((R.ok v31).bind fun x95 => (tru x95).bind fun k96 => if k96 = true then R.ok x95 else (R.ok v94.1))) (fun s => xq (ep_or (ep_var 5) (ep_one (ep_var 8)))) (fun s => bor_hide)) ja_nil))) (ja_cons (jp_box (get := fun s => s) (put := fun s d => d) 2 ⟨fun _ => rfl, fun _ _ => rfl⟩ c__law_odd hr (by omega) passN ja_nil) ja_nil))))))))) (xg_name 10 sc_law.nd) (fun j142 a143 => (show BS _ _ _ _ [2] [some p0, some a9, some j142, some v23.1, some v25, some v31, some v33, some v94.2.1, some v94.1, none, some a143, none] _ _ _ _ from by exact (bs_seq (emb := fun v146 => [some p0, some a9, some j142, some v23.1, some v25, some v31, some v33, some v94.2.1, some v94.1, none, some a143, some v146]) (own1 := [2]) (ss_set 11 sc_law.nd (vp_p (ρe := hideE [2] [some p0, some a9, some j142, some v23.1, some v25, some v31, some v33, some v94.2.1, some v94.1, none, some a143, none]) (xq (xp_call c_are_nests hr (by omega) pass_cx (ea_cons (ep_var 3) (ea_cons (ep_var 10) ea_nil)))) bor_hide)) (fun v146 => by exact (bs_if (vb_p (ρe := hideE [2] [some p0, some a9, some j142, some v23.1, some v25, some v31, some v33, some v94.2.1, some v94.1, none, some a143, some v146]) (xqB (eb_w (ew_or (eb_not (eb_val (ep_isi (n := "bool") z_isinstance z_bool (ep_var 11)))) (ew_or1 (eb_cmp (od_ne hu) (ep_var 11) (xp_call c__law_are_nests hr (by omega) pass_cx (ea_cons (ep_var 3) (ea_cons (ep_var 10) ea_nil)))))))) (.inl rfl)) (fun b155 => (show BS _ _ _ _ [2] [some p0, some a9, some j142, some v23.1, some v25, some v31, some v33, some v94.2.1, some v94.1, none, some a143, some v146] _ _ _ _ from by exact (bs_freeze 2 (show BS _ _ _ _ [] [some p0, some a9, some j142, some v23.1, some v25, some v31, some v33, some v94.2.1, some v94.1, none, some a143, some v146] _ _ _ _ from by exact (bs_ret (g := fun (v156 : D) => (Oc.rt v156 PyData.none)) (bx := fun (v156 : D) => PyData.none) (vp_p (ρe := [some p0, some a9, some j142, some v23.1, some v25, some v31, some v33, some v94.2.1, some v94.1, none, some a143, some v146]) (xq ep_bool)) (hb := (fun _ z => nomatch z))))))) (fun b155 => (show BS _ _ _ _ [2] [some p0, some a9, some j142, some v23.1, some v25, some v31, some v33, some v94.2.1, some v94.1, none, some a143, some v146] _ _ _ _ from by exact (bs_end [10, 11] (a := (Oc.nx j142))))) (fun _ => by repeat' (first | exact nev_rt | exact nev_bk | exact nev_ex | refine nev_then fun _ => ?_ | refine nev_bind fun _ => ?_ | refine nev_ite ?_ ?_)))))))) (fun j157 => by exact (bs_freeze 2 (show BS _ _ _ _ [] [some p0, some a9, some j157, some v23.1, some v25, some v31, some v33, some v94.2.1, some v94.1, none, none, none] _ _ _ _ from by exact (bs_end [1, 2, 3, 4, 5, 6, 7, 8] (a := (Oc.nx ()))))))))))))))) (fun _ => by repeat' (first | exact nev_rt | exact nev_bk | exact nev_ex | refine nev_then fun _ => ?_ | refine nev_bind fun _ => ?_ | refine nev_ite ?_ ?_)))))))))))))))) (fun j158 => by exact (bs_ret (g := fun (v159 : D) => v159) (bx := fun (v159 : D) => PyData.none) (vp_p (ρe := [some p0, none, none, none, none, none, none, none, none, none, none, none]) (xq ep_bool)) (hb := (fun _ z => nomatch z))))))
end LK41
set_option maxRecDepth 512
/-! the plain layer, 1: what the mirrors answer -/
namespace TP
open PySem PySem.Spec PyProof.Rows L2 TL
/-- it answers, and so -/
def Sat {α : Type} (m : R α) (P : α → Prop) : Prop := ∃ a, m = .ok a ∧ P a
section
variable {α β : Type}
theorem Sat.ok {a : α} {P : α → Prop} (h : P a) : Sat (.ok a) P := ⟨a, rfl, h⟩
theorem Sat.bind {m : R α} {f : α → R β} {P : α → Prop} {Q : β → Prop} (h : Sat m P) (k : ∀ a, P a → Sat (f a) Q) : Sat (m.bind f) Q := by
  obtain ⟨a, e, p⟩ := h
  rw [e]
  exact k a p
theorem Sat.mono {m : R α} {P Q : α → Prop} (h : Sat m P) (k : ∀ a, P a → Q a) : Sat m Q := by
  obtain ⟨a, e, p⟩ := h
  exact ⟨a, e, k a p⟩
theorem Sat.nox {m : R α} {P : α → Prop} (h : Sat m P) : Sat (TL.nox m) P := by
  obtain ⟨a, e, p⟩ := h
  rw [e]
  exact ⟨a, rfl, p⟩
theorem Sat.eq {m : R α} {a : α} (h : Sat m fun x => x = a) : m = .ok a := by
  obtain ⟨_, e, rfl⟩ := h
  exact e
theorem Sat.of {m : R α} {a : α} {P : α → Prop} (e : m = .ok a) (h : P a) : Sat m P := ⟨a, e, h⟩
theorem Sat.ite {c : Prop} [Decidable c] {m n : R α} {P : α → Prop} (h1 : c → Sat m P) (h2 : ¬ c → Sat n P) : Sat (if c then m else n) P := by
  by_cases hc : c
  · rw [if_pos hc]; exact h1 hc
  · rw [if_neg hc]; exact h2 hc
end
/-- as R.ok_bind, by a proof of its own -/
theorem okb {α β : Type} (a : α) (f : α → R β) : R.bind (.ok a) f = f a := id (Eq.refl _)
/-! ### what may be held against one another -/
def fitk (k : Nat) (d : D) : Prop := flat d = true ∧ d.depth ≤ k
theorem fitk.fit {k : Nat} {d : D} (h : fitk k d) (hk : k ≤ 60) : TL.fit d = true := by
  unfold TL.fit
  rw [Bool.and_eq_true]
  exact ⟨h.1, decide_eq_true (Nat.le_trans h.2 hk)⟩
theorem fitk.mono {k l : Nat} {d : D} (h : fitk k d) (hk : k ≤ l) : fitk l d := ⟨h.1, Nat.le_trans h.2 hk⟩
theorem flatAll_of : ∀ {xs : List D}, (∀ x ∈ xs, flat x = true) → flatAll xs = true
  | [], _ => rfl
  | x :: xs, h => by
    rw [flatAll, h x List.mem_cons_self, flatAll_of fun y hy => h y (List.mem_cons_of_mem _ hy)]
    rfl
theorem depthAll_of {k : Nat} : ∀ {xs : List D}, (∀ x ∈ xs, x.depth ≤ k) → PyData.depthAll xs ≤ k
  | [], _ => Nat.zero_le _
  | x :: xs, h => by
    rw [PyData.depthAll]
    exact Nat.max_le.mpr ⟨h x List.mem_cons_self, depthAll_of fun y hy => h y (List.mem_cons_of_mem _ hy)⟩
theorem fitk_int (i : Int) : fitk 0 (.int i) := ⟨rfl, Nat.le_refl _⟩
theorem fitk_none : fitk 0 .none := ⟨rfl, Nat.le_refl _⟩
theorem fitk_list {k : Nat} {xs : List D} (h : ∀ x ∈ xs, fitk k x) : fitk (k + 1) (.list xs) := ⟨flatAll_of fun x hx => (h x hx).1, by
  rw [PyData.depth]
  exact Nat.succ_le_succ (depthAll_of fun x hx => (h x hx).2)⟩
theorem fitk_tuple {k : Nat} {xs : List D} (h : ∀ x ∈ xs, fitk k x) : fitk (k + 1) (.tuple xs) := ⟨flatAll_of fun x hx => (h x hx).1, by
  rw [PyData.depth]
  exact Nat.succ_le_succ (depthAll_of fun x hx => (h x hx).2)⟩
mutual
theorem eqv_refl : ∀ {d : D}, flat d = true → PyData.eqv d d = true
  | .none, _ => rfl
  | .bool b, _ => by cases b <;> rfl
  | .int i, _ => by rw [PyData.eqv]; exact beq_self_eq_true i
  | .str x, _ => by rw [PyData.eqv]; exact beq_self_eq_true x
  | .list xs, h => by rw [PyData.eqv]; exact eqvAll_refl h
  | .tuple xs, h => by rw [PyData.eqv]; exact eqvAll_refl h
  | .dict _, h => nomatch h
theorem eqvAll_refl : ∀ {ds : List D}, flatAll ds = true → PyData.eqvAll ds ds = true
  | [], _ => rfl
  | d :: ds, h => by
    rw [flatAll, Bool.and_eq_true] at h
    rw [PyData.eqvAll, eqv_refl h.1, eqvAll_refl h.2]
    rfl
end
theorem eqv_int (i j : Int) : PyData.eqv (.int i) (.int j) = decide (i = j) := by
  rw [PyData.eqv]
  exact (Bool.beq_eq_decide_eq i j)
theorem pyEq_int (i j : Int) : pyEq (.int i) (.int j) = .ok (.bool (decide (i = j))) := by
  unfold pyEq
  rw [if_pos ⟨(fitk_int i).fit (by decide), (fitk_int j).fit (by decide)⟩, eqv_int]
theorem pyEq_of {x y : D} {k : Nat} (hx : fitk k x) (hy : fitk k y) (hk : k ≤ 60) : pyEq x y = .ok (.bool (PyData.eqv x y)) := by
  unfold pyEq
  rw [if_pos ⟨hx.fit hk, hy.fit hk⟩]
theorem pyNe_of {x y : D} {k : Nat} (hx : fitk k x) (hy : fitk k y) (hk : k ≤ 60) : pyNe x y = .ok (.bool (!PyData.eqv x y)) := by
  unfold pyNe
  rw [if_pos ⟨hx.fit hk, hy.fit hk⟩]
/-- against an empty list, an empty tuple -/
theorem eqv_nil (xs : List D) : PyData.eqv (.list xs) (.list []) = xs.isEmpty := by
  cases xs <;> rfl
theorem fitk_nil : fitk 1 (.list []) := fitk_list fun _ h => nomatch h
/-! ### whole numbers in a row -/
theorem ints_fit (ns : List Int) : ∀ x ∈ ns.map PyData.int, fitk 0 x := fun x hx => by
  obtain ⟨n, _, rfl⟩ := List.mem_map.mp hx
  exact fitk_int n
/-! ### places -/
theorem pix_list {xs : List D} {n : Nat} {d : D} (h : xs[n]? = some d) : pyIx (.list xs) (.int n) = .ok d := by
  simp only [pyIx, atI_nat h]
theorem pix_tuple {xs : List D} {n : Nat} {d : D} (h : xs[n]? = some d) : pyIx (.tuple xs) (.int n) = .ok d := by
  simp only [pyIx, atI_nat h]
theorem ixO_list {xs : List D} {n : Nat} {d : D} (h : xs[n]? = some d) : ixO (.list xs) (.int n) = .ok d := by
  simp only [ixO, atI_nat h]
/-! ### rows of truths -/
theorem bools_map {α : Type} (p : α → Bool) : ∀ xs : List α, bools (xs.map fun x => PyData.bool (p x)) = some (xs.map p)
  | [] => rfl
  | x :: xs => by
    rw [List.map_cons, bools, bools_map p xs]
    rfl
theorem pyAny_map {α : Type} (p : α → Bool) (xs : List α) : pyAny [.list (xs.map fun x => PyData.bool (p x))] = .ok (.bool (xs.any p)) := by
  simp only [pyAny, bools_map]
  rw [List.any_map]
  rfl
theorem pyAll_map {α : Type} (p : α → Bool) (xs : List α) : pyAll [.list (xs.map fun x => PyData.bool (p x))] = .ok (.bool (xs.all p)) := by
  simp only [pyAll, bools_map]
  rw [List.all_map]
  rfl
/-! ### walks -/
section
variable {α β γ J : Type}
theorem mapR_map {f : D → R D} {g : α → D} {k : α → D} : ∀ {xs : List α}, (∀ x ∈ xs, f (g x) = .ok (k x)) → mapR f (xs.map g) = .ok (xs.map k)
  | [], _ => rfl
  | x :: xs, h => by
    rw [List.map_cons, mapR, h x List.mem_cons_self, nox_ok, R.ok_bind, mapR_map fun y hy => h y (List.mem_cons_of_mem _ hy)]
    rfl
theorem filR_map {p : D → R Bool} {f : D → R D} {g : α → D} {q : α → Bool} {k : α → D} : ∀ {xs : List α}, (∀ x ∈ xs, p (g x) = .ok (q x)) → (∀ x ∈ xs, q x = true → f (g x) = .ok (k x)) → filR p f (xs.map g) = .ok ((xs.filter q).map k)
  | [], _, _ => rfl
  | x :: xs, h1, h2 => by
    have ih := filR_map (fun y hy => h1 y (List.mem_cons_of_mem _ hy)) (fun y hy => h2 y (List.mem_cons_of_mem x hy))
    rw [List.map_cons, filR, h1 x List.mem_cons_self, nox_ok, R.ok_bind]
    cases hq : q x with
    | false =>
      rw [if_neg Bool.false_ne_true, ih, List.filter_cons_of_neg (by rw [hq]; exact Bool.false_ne_true)]
    | true =>
      rw [if_pos rfl, h2 x List.mem_cons_self hq, nox_ok, R.ok_bind, ih, List.filter_cons_of_pos hq]
      rfl
theorem foldR_inv {u : D → R β} {mb : J → β → R J} {g : α → D} {h : α → β} {P : Nat → J → Prop} : ∀ {xs : List α} {i : Nat} {j : J}, (∀ x ∈ xs, u (g x) = .ok (h x)) → (∀ k j x, xs[k]? = some x → P (i + k) j → Sat (mb j (h x)) (P (i + k + 1))) → P i j → Sat (foldR u mb (xs.map g) j) (P (i + xs.length))
  | [], i, j, _, _, p => ⟨j, rfl, p⟩
  | x :: xs, i, j, hu, hm, p => by
    rw [List.map_cons, foldR, hu x List.mem_cons_self, nox_ok, R.ok_bind]
    refine Sat.bind (hm 0 j x rfl p) fun j' p' => ?_
    have := foldR_inv (xs := xs) (i := i + 1) (j := j') (P := P) (fun y hy => hu y (List.mem_cons_of_mem _ hy)) (fun k j y hy pj => by
      have := hm (k + 1) j y (by simpa using hy) (by rw [show i + (k + 1) = i + 1 + k by omega]; exact pj)
      rw [show i + (k + 1) = i + 1 + k by omega] at this
      exact this) p'
    rw [List.length_cons, show i + (xs.length + 1) = i + 1 + xs.length by omega]
    exact this
theorem appD_of {xs : List D} {d : D} (h : xs.length < 16777216) : appD (.list xs) d = .ok (.list (xs ++ [d])) := by
  simp only [appD]
  rw [if_pos (by rw [sizeLine_eq]; exact h)]
/-- a walk that looks for the first that is bad -/
theorem foldO_find {u : D → R β} {mb : Unit → β → R (Oc Unit)} {g : α → D} {h : α → β} {bad : α → Bool} {t b : D} : ∀ {xs : List α}, (∀ x ∈ xs, u (g x) = .ok (h x)) → (∀ x ∈ xs, mb () (h x) = .ok (if bad x = true then Oc.rt t b else Oc.nx ())) → foldO u mb (xs.map g) () = .ok (if xs.any bad = true then Oc.rt t b else Oc.nx ())
  | [], _, _ => rfl
  | x :: xs, hu, hm => by
    rw [List.map_cons, foldO, hu x List.mem_cons_self, nox_ok, R.ok_bind, hm x List.mem_cons_self]
    cases hb : bad x with
    | true => simp [hb]
    | false =>
      rw [if_neg Bool.false_ne_true, R.ok_bind, List.any_cons, hb, Bool.false_or]
      exact foldO_find (fun y hy => hu y (List.mem_cons_of_mem _ hy)) fun y hy => hm y (List.mem_cons_of_mem _ hy)
variable {S : Type}
theorem mapJ_inv {f : D → S → R (D × S)} {g : α → D} {I : Nat → S → Prop} {Q : D → Prop} : ∀ {xs : List α} {i : Nat} {s : S}, (∀ k x s, xs[k]? = some x → I (i + k) s → Sat (f (g x) s) fun p => Q p.1 ∧ I (i + k + 1) p.2) → I i s → Sat (mapJ f (xs.map g) s) fun p => p.1.length = xs.length ∧ (∀ d ∈ p.1, Q d) ∧ I (i + xs.length) p.2
  | [], i, s, _, p => ⟨_, rfl, rfl, (fun _ h => nomatch h), p⟩
  | x :: xs, i, s, h, p => by
    rw [List.map_cons, mapJ]
    refine Sat.bind (h 0 x s rfl p) fun r ⟨hq, hi⟩ => ?_
    refine Sat.bind (mapJ_inv (Q := Q) (xs := xs) (i := i + 1) (fun k y s hy pj => ?_) hi) fun r2 ⟨h1, h2, h3⟩ => ?_
    · have := h (k + 1) y s (by simpa using hy) (by rw [show i + (k + 1) = i + 1 + k by omega]; exact pj)
      rw [show i + (k + 1) = i + 1 + k by omega] at this
      exact this
    · refine ⟨_, rfl, by simp [h1], fun d hd => ?_, by rw [List.length_cons, show i + (xs.length + 1) = i + 1 + xs.length by omega]; exact h3⟩
      rcases List.mem_cons.mp hd with e | e
      · rw [e]; exact hq
      · exact h2 d e
theorem filJ_inv {p : D → S → R (Bool × S)} {f : D → S → R (D × S)} {g k : α → D} {I : S → Prop} : ∀ {xs : List α} {s : S}, (∀ x ∈ xs, ∀ s, I s → Sat (p (g x) s) fun r => I r.2) → (∀ x ∈ xs, ∀ s, I s → Sat (f (g x) s) fun r => r.1 = k x ∧ I r.2) → I s → Sat (filJ p f (xs.map g) s) fun r => ∃ ys : List α, ys.Sublist xs ∧ r.1 = ys.map k ∧ I r.2
  | [], s, _, _, i => ⟨_, rfl, [], List.Sublist.refl _, rfl, i⟩
  | x :: xs, s, hp, hf, i => by
    rw [List.map_cons, filJ]
    refine Sat.bind (hp x List.mem_cons_self s i) fun r i1 => ?_
    have hp' := fun y (hy : y ∈ xs) => hp y (List.mem_cons_of_mem _ hy)
    have hf' := fun y (hy : y ∈ xs) => hf y (List.mem_cons_of_mem _ hy)
    refine Sat.ite (fun _ => ?_) fun _ => ?_
    · refine Sat.bind (hf x List.mem_cons_self r.2 i1) fun r2 ⟨e2, i2⟩ => ?_
      refine Sat.bind (filJ_inv hp' hf' i2) fun r3 ⟨ys, h1, h2, h3⟩ => ?_
      exact ⟨_, rfl, x :: ys, h1.cons₂ x, by rw [List.map_cons, ← e2, ← h2], h3⟩
    · exact (filJ_inv hp' hf' i1).mono fun r3 ⟨ys, h1, h2, h3⟩ => ⟨ys, h1.cons x, h2, h3⟩
end
theorem upto0 (n : Nat) : upto 0 n = (List.range n).map fun k : Nat => .int k := by
  unfold upto
  exact List.map_congr_left fun k _ => by rw [Int.zero_add]
theorem pyRange1 (j : Int) (h : 0 ≤ j) (h2 : j ≤ 16777216) : pyRange [.int j] = .ok ((List.range j.toNat).map fun k : Nat => .int k) := by
  simp only [pyRange, upto0]
  rw [if_pos ⟨by omega, h2⟩]
theorem rgL0 (j : Int) (h : 0 ≤ j) (h2 : j ≤ 16777216) : rgL (0, j) = .ok ((List.range j.toNat).map fun k : Nat => .int k) := by
  unfold rgL
  have : rgOk 0 j = true := decide_eq_true ⟨by omega, by omega, by omega, by omega, by omega⟩
  simp only [this, if_true, Int.sub_zero, upto0]
theorem pyMul_of {i j : Int} {a b : Nat} (ha : i.natAbs < 2 ^ a) (hb : j.natAbs < 2 ^ b) (h : a + b ≤ 134217728) : pyMul (.int i) (.int j) = .ok (.int (i * j)) := by
  simp only [pyMul]
  rw [if_pos (mulx_ok ha hb h)]
theorem pyDiv_of {i j : Int} (h : 0 < j) (h2 : j < 1073741824) : pyDiv (.int i) (.int j) = .ok (.int (i / j)) := by
  simp only [pyDiv]
  rw [if_pos ⟨h, h2⟩]
theorem pyMod_of {i j : Int} (h : 0 < j) : pyMod (.int i) (.int j) = .ok (.int (i % j)) := by
  simp only [pyMod]
  rw [if_pos h]
/-! ### sorted, whole numbers -/
theorem alike_int (i j : Int) : PySem.W.alike (.int i) (.int j) = true := by first | rfl | simp [PySem.W.alike]
theorem sortable_ints (ns : List Int) : sortable (ns.map .int) = true := by
  unfold sortable
  simp only [Bool.and_eq_true, Bool.or_eq_true, List.all_eq_true]
  refine ⟨⟨fun d hd e he => ?_, fun d hd => (ints_fit ns d hd).fit (by decide)⟩, .inr fun d hd => ?_⟩
  · obtain ⟨i, _, rfl⟩ := List.mem_map.mp hd
    obtain ⟨j, _, rfl⟩ := List.mem_map.mp he
    exact alike_int i j
  · obtain ⟨i, _, rfl⟩ := List.mem_map.mp hd
    rfl
theorem ints_of {rs : List D} (h : ∀ d ∈ rs, ∃ i : Int, d = .int i) : ∃ ms : List Int, rs = ms.map .int := by
  induction rs with
  | nil => exact ⟨[], rfl⟩
  | cons d ds ih =>
    obtain ⟨i, rfl⟩ := h d List.mem_cons_self
    obtain ⟨ms, e⟩ := ih fun y hy => h y (List.mem_cons_of_mem _ hy)
    exact ⟨i :: ms, by rw [e]; rfl⟩
theorem zip_ll (xs ys : List D) : pyZip [.list xs, .list ys] = .ok (pairs xs ys) := rfl
theorem zip_tt (xs ys : List D) : pyZip [.tuple xs, .tuple ys] = .ok (pairs xs ys) := rfl
theorem zip_lt (xs ys : List D) : pyZip [.list xs, .tuple ys] = .ok (pairs xs ys) := rfl
theorem zip_tl (xs ys : List D) : pyZip [.tuple xs, .list ys] = .ok (pairs xs ys) := rfl
end TP
/-! the plain layer, 2: natural numbers, rows of them; what the mirrors' words answer -/
namespace TP
open PySem PySem.Spec PyProof.Rows L2 TL
def nD (n : Nat) : D := .int (n : Int)
def tN (xs : List Nat) : D := .tuple (xs.map nD)
def lN (xs : List Nat) : D := .list (xs.map nD)
theorem int_lit (n : Nat) : PyData.int (no_index (@OfNat.ofNat Int n _)) = nD (@OfNat.ofNat Nat n _) := id (Eq.refl _)
theorem tN_def (xs : List Nat) : PyData.tuple (xs.map nD) = tN xs := id (Eq.refl _)
theorem map_nD (xs : List Nat) : xs.map nD = (xs.map fun n : Nat => (n : Int)).map PyData.int := by rw [List.map_map]; rfl
/-! ### fit, eqv -/
/-- a row of things that may be held against one another, alike just where they are one -/
structure EqD {α : Type} (k : Nat) (f : α → D) : Prop where
  fit : ∀ a, fitk k (f a)
  eqv : ∀ a b, PyData.eqv (f a) (f b) = true ↔ a = b
theorem EqD.mono {α : Type} {f : α → D} {k l : Nat} (h : EqD k f) (hk : k ≤ l) : EqD l f := ⟨fun a => (h.fit a).mono hk, h.eqv⟩
theorem eqd_nD : EqD 0 nD := ⟨fun a => fitk_int _, fun a b => by
  unfold nD
  rw [eqv_int, decide_eq_true_iff]
  omega⟩
theorem eqvAll_map {α : Type} {f : α → D} (h : ∀ a b, PyData.eqv (f a) (f b) = true ↔ a = b) : ∀ xs ys : List α, PyData.eqvAll (xs.map f) (ys.map f) = true ↔ xs = ys
  | [], [] => by simp [PyData.eqvAll]
  | [], y :: ys => by simp [PyData.eqvAll]
  | x :: xs, [] => by simp [PyData.eqvAll]
  | x :: xs, y :: ys => by
    rw [List.map_cons, List.map_cons, PyData.eqvAll, Bool.and_eq_true, h, eqvAll_map h xs ys, List.cons.injEq]
theorem EqD.tup {α : Type} {f : α → D} {k : Nat} (h : EqD k f) : EqD (k + 1) fun xs : List α => .tuple (xs.map f) := ⟨fun xs => fitk_tuple fun x hx => by
  obtain ⟨a, _, rfl⟩ := List.mem_map.mp hx
  exact h.fit a, fun xs ys => by rw [PyData.eqv]; exact eqvAll_map h.eqv xs ys⟩
theorem EqD.lst {α : Type} {f : α → D} {k : Nat} (h : EqD k f) : EqD (k + 1) fun xs : List α => .list (xs.map f) := ⟨fun xs => fitk_list fun x hx => by
  obtain ⟨a, _, rfl⟩ := List.mem_map.mp hx
  exact h.fit a, fun xs ys => by rw [PyData.eqv]; exact eqvAll_map h.eqv xs ys⟩
theorem eqd_tN : EqD 1 tN := eqd_nD.tup
theorem eqd_lN : EqD 1 lN := eqd_nD.lst
theorem fitk2 {k l : Nat} {x y : D} (h1 : fitk k x) (h2 : fitk l y) (hk : k ≤ 60) (hl : l ≤ 60) : TL.fit x = true ∧ TL.fit y = true := ⟨h1.fit hk, h2.fit hl⟩
section
variable {α : Type} {f : α → D} {k : Nat}
theorem EqD.eq (h : EqD k f) (hk : k ≤ 60) (a b : α) [Decidable (a = b)] : pyEq (f a) (f b) = .ok (.bool (decide (a = b))) := by
  unfold pyEq
  rw [if_pos (fitk2 (h.fit a) (h.fit b) hk hk)]
  congr 2
  rw [Bool.eq_iff_iff, decide_eq_true_iff]
  exact h.eqv a b
theorem EqD.ne (h : EqD k f) (hk : k ≤ 60) (a b : α) [Decidable (a = b)] : pyNe (f a) (f b) = .ok (.bool (decide (a ≠ b))) := by
  unfold pyNe
  rw [if_pos (fitk2 (h.fit a) (h.fit b) hk hk)]
  congr 2
  rw [Bool.eq_iff_iff, decide_eq_true_iff, Bool.not_eq_true', ← Bool.not_eq_true, h.eqv]
theorem EqD.isIn (h : EqD k f) (a : α) (xs : List α) [Decidable (a ∈ xs)] : isIn (f a) (xs.map f) = decide (a ∈ xs) := by
  rw [Bool.eq_iff_iff, decide_eq_true_iff]
  unfold TL.isIn
  rw [List.any_map, List.any_eq_true]
  constructor
  · rintro ⟨x, hx, e⟩
    rw [← (h.eqv x a).mp e]
    exact hx
  · exact fun hx => ⟨a, hx, (h.eqv a a).mpr rfl⟩
theorem EqD.inL (h : EqD k f) (hk : k + 1 ≤ 60) (a : α) (xs : List α) [Decidable (a ∈ xs)] : pyIn (f a) (.list (xs.map f)) = .ok (.bool (decide (a ∈ xs))) := by
  simp only [pyIn]
  rw [if_pos (fitk2 (h.fit a) (h.lst.fit xs) (by omega) hk), h.isIn]
theorem EqD.inT (h : EqD k f) (hk : k + 1 ≤ 60) (a : α) (xs : List α) [Decidable (a ∈ xs)] : pyIn (f a) (.tuple (xs.map f)) = .ok (.bool (decide (a ∈ xs))) := by
  simp only [pyIn]
  rw [if_pos (fitk2 (h.fit a) (h.tup.fit xs) (by omega) hk), h.isIn]
theorem EqD.ninL (h : EqD k f) (hk : k + 1 ≤ 60) (a : α) (xs : List α) [Decidable (a ∈ xs)] : pyNotIn (f a) (.list (xs.map f)) = .ok (.bool (decide (a ∉ xs))) := by
  simp only [pyNotIn]
  rw [if_pos (fitk2 (h.fit a) (h.lst.fit xs) (by omega) hk), h.isIn, decide_not]
theorem EqD.ninT (h : EqD k f) (hk : k + 1 ≤ 60) (a : α) (xs : List α) [Decidable (a ∈ xs)] : pyNotIn (f a) (.tuple (xs.map f)) = .ok (.bool (decide (a ∉ xs))) := by
  simp only [pyNotIn]
  rw [if_pos (fitk2 (h.fit a) (h.tup.fit xs) (by omega) hk), h.isIn, decide_not]
end
/-- held against an empty list, an empty tuple -/
theorem eq_nilL {k : Nat} {xs : List D} (h : ∀ x ∈ xs, fitk k x) (hk : k + 1 ≤ 60) : pyEq (.list xs) (.list []) = .ok (.bool (decide (xs = []))) := by
  rw [pyEq_of (fitk_list h) (fitk_nil.mono (by omega)) hk, eqv_nil]
  cases xs <;> rfl
theorem ne_nilL {k : Nat} {xs : List D} (h : ∀ x ∈ xs, fitk k x) (hk : k + 1 ≤ 60) : pyNe (.list xs) (.list []) = .ok (.bool (decide (xs ≠ []))) := by
  rw [pyNe_of (fitk_list h) (fitk_nil.mono (by omega)) hk, eqv_nil]
  cases xs <;> rfl
theorem fit_map {α : Type} {f : α → D} {k : Nat} (h : EqD k f) (xs : List α) : ∀ x ∈ xs.map f, fitk k x := fun x hx => by
  obtain ⟨a, _, rfl⟩ := List.mem_map.mp hx
  exact h.fit a
/-! ### whole numbers -/
@[simp] theorem eqN (a b : Nat) : pyEq (nD a) (nD b) = .ok (.bool (decide (a = b))) := eqd_nD.eq (by decide) a b
@[simp] theorem neN (a b : Nat) : pyNe (nD a) (nD b) = .ok (.bool (decide (a ≠ b))) := eqd_nD.ne (by decide) a b
@[simp] theorem ltN (a b : Nat) : pyLt (nD a) (nD b) = .ok (.bool (decide (a < b))) := by simp [pyLt, nD]
@[simp] theorem leN (a b : Nat) : pyLe (nD a) (nD b) = .ok (.bool (decide (a ≤ b))) := by simp [pyLe, nD]
@[simp] theorem gtN (a b : Nat) : pyGt (nD a) (nD b) = .ok (.bool (decide (b < a))) := by simp [pyGt, nD]
@[simp] theorem geN (a b : Nat) : pyGe (nD a) (nD b) = .ok (.bool (decide (b ≤ a))) := by simp [pyGe, nD]
@[simp] theorem addN (a b : Nat) : pyAdd (nD a) (nD b) = .ok (nD (a + b)) := by simp [pyAdd, nD]
theorem subN {a b : Nat} (h : b ≤ a) : pySub (nD a) (nD b) = .ok (nD (a - b)) := by simp [pySub, nD]; omega
theorem modN {a b : Nat} (h : 0 < b) : pyMod (nD a) (nD b) = .ok (nD (a % b)) := by
  unfold nD
  rw [pyMod_of (by omega)]
  rfl
@[simp] theorem minN (a b : Nat) : pyMin [nD a, nD b] = .ok (nD (min a b)) := by
  simp only [nD, pyMin]
  congr 2
  split <;> omega
@[simp] theorem maxN (a b : Nat) : pyMax [nD a, nD b] = .ok (nD (max a b)) := by
  simp only [nD, pyMax]
  congr 2
  split <;> omega
@[simp] theorem truN (a : Nat) : tru (nD a) = .ok (decide (a ≠ 0)) := by
  simp only [nD, tru]
  congr 1
  rw [Bool.eq_iff_iff]
  simp
@[simp] theorem truB (b : Bool) : tru (.bool b) = .ok b := rfl
@[simp] theorem asBB (b : Bool) : asB (.bool b) = .ok b := rfl
@[simp] theorem asIntN (n : Nat) : asInt (nD n) = .ok (n : Int) := rfl
@[simp] theorem partN (n : Nat) : partD (nD n) = .ok (some (n : Int)) := rfl
@[simp] theorem noxo {α : Type} (a : α) : nox (.ok a) = .ok a := id (Eq.refl _)
theorem nox_bind {α β : Type} (m : R α) (f : α → R β) : nox (m.bind f) = (nox m).bind fun a => nox (f a) := by cases m <;> rfl
theorem nox_nox {α : Type} (m : R α) : nox (nox m) = nox m := by cases m <;> rfl
theorem nox_no' {α : Type} : nox (.no : R α) = .no := id (Eq.refl _)
theorem bind_as {α β γ : Type} (m : R α) (f : α → R β) (g : β → R γ) : (m.bind f).bind g = m.bind fun a => (f a).bind g := by cases m <;> rfl
@[simp] theorem nlN (n : Nat) : noL (nD n) = true := id (Eq.refl _)
theorem nl_okN (n : Nat) : nl (.ok (nD n)) = .ok (nD n) := id (Eq.refl _)
theorem noLAll_map {α : Type} {f : α → D} (h : ∀ a, noL (f a) = true) : ∀ xs : List α, noLAll (xs.map f) = true
  | [] => rfl
  | x :: xs => by rw [List.map_cons, noLAll, h x, noLAll_map h xs]; rfl
@[simp] theorem nltN (xs : List Nat) : noL (tN xs) = true := by
  unfold tN
  rw [noL]
  exact noLAll_map nlN xs
theorem nl_ok {d : D} (h : noL d = true) : nl (.ok d) = .ok d := by
  unfold nl
  rw [okb, if_pos h]
theorem nl_bool (b : Bool) : nl (.ok (.bool b)) = .ok (.bool b) := id (Eq.refl _)
theorem nl_tN (xs : List Nat) : nl (.ok (tN xs)) = .ok (tN xs) := nl_ok (nltN xs)
theorem nf_ok (xs : List Nat) : nf (.ok (.list (xs.map nD))) = .ok (.list (xs.map nD)) := by
  unfold nf
  rw [okb, if_pos (by rw [itemsFlat]; exact noLAll_map nlN xs)]
@[simp] theorem lstD_ok (xs : List D) : lstD (.list xs) = .ok () := id (Eq.refl _)
/-! ### rows -/
@[simp] theorem items_l (xs : List D) : items (.list xs) = .ok xs := id (Eq.refl _)
@[simp] theorem items_t (xs : List D) : items (.tuple xs) = .ok xs := id (Eq.refl _)
@[simp] theorem items_tN (xs : List Nat) : items (tN xs) = .ok (xs.map nD) := id (Eq.refl _)
@[simp] theorem len_l (xs : List D) : TL.pyLen [.list xs] = .ok (nD xs.length) := id (Eq.refl _)
@[simp] theorem len_t (xs : List D) : TL.pyLen [.tuple xs] = .ok (nD xs.length) := id (Eq.refl _)
@[simp] theorem len_tN (xs : List Nat) : TL.pyLen [tN xs] = .ok (nD xs.length) := by
  unfold tN
  rw [len_t, List.length_map]
@[simp] theorem tuple_l (xs : List D) : pyTuple [.list xs] = .ok (.tuple xs) := id (Eq.refl _)
@[simp] theorem tuple_t (xs : List D) : pyTuple [.tuple xs] = .ok (.tuple xs) := id (Eq.refl _)
@[simp] theorem list_l (xs : List D) : pyList [.list xs] = .ok (.list xs) := id (Eq.refl _)
@[simp] theorem list_t (xs : List D) : pyList [.tuple xs] = .ok (.list xs) := id (Eq.refl _)
@[simp] theorem list_tN (xs : List Nat) : pyList [tN xs] = .ok (.list (xs.map nD)) := id (Eq.refl _)
@[simp] theorem ix0 (a : D) (xs : List D) : pyIx (.tuple (a :: xs)) (nD 0) = .ok a := pix_tuple (n := 0) rfl
@[simp] theorem ix1 (a b : D) (xs : List D) : pyIx (.tuple (a :: b :: xs)) (nD 1) = .ok b := pix_tuple (n := 1) rfl
@[simp] theorem ix2 (a b c : D) (xs : List D) : pyIx (.tuple (a :: b :: c :: xs)) (nD 2) = .ok c := pix_tuple (n := 2) rfl
@[simp] theorem ix0l (a : D) (xs : List D) : pyIx (.list (a :: xs)) (nD 0) = .ok a := pix_list (n := 0) rfl
@[simp] theorem ix1l (a b : D) (xs : List D) : pyIx (.list (a :: b :: xs)) (nD 1) = .ok b := pix_list (n := 1) rfl
theorem ixL {xs : List D} {n : Nat} (h : n < xs.length) : pyIx (.list xs) (nD n) = .ok xs[n] := pix_list (List.getElem?_eq_getElem h)
theorem getD_map {α : Type} {f : α → D} {xs : List α} {n : Nat} (h : n < xs.length) (z : α) : (xs.map f)[n]? = some (f (xs.getD n z)) := by
  rw [List.getElem?_map, List.getElem?_eq_getElem h, List.getD_eq_getElem?_getD, List.getElem?_eq_getElem h]
  rfl
theorem ixTm {α : Type} {f : α → D} {xs : List α} {n : Nat} (z : α) (h : n < xs.length) : pyIx (.tuple (xs.map f)) (nD n) = .ok (f (xs.getD n z)) := pix_tuple (getD_map h z)
theorem ixLm {α : Type} {f : α → D} {xs : List α} {n : Nat} (z : α) (h : n < xs.length) : pyIx (.list (xs.map f)) (nD n) = .ok (f (xs.getD n z)) := pix_list (getD_map h z)
theorem ixtN {xs : List Nat} {n : Nat} (h : n < xs.length) : pyIx (tN xs) (nD n) = .ok (nD (xs.getD n 0)) := ixTm 0 h
theorem ixOm {α : Type} {f : α → D} {xs : List α} {n : Nat} (z : α) (h : n < xs.length) : ixO (.list (xs.map f)) (nD n) = .ok (f (xs.getD n z)) := ixO_list (getD_map h z)
@[simp] theorem inLN (a : Nat) (xs : List Nat) : pyIn (nD a) (.list (xs.map nD)) = .ok (.bool (decide (a ∈ xs))) := eqd_nD.inL (by decide) a xs
@[simp] theorem inTN (a : Nat) (xs : List Nat) : pyIn (nD a) (tN xs) = .ok (.bool (decide (a ∈ xs))) := eqd_nD.inT (by decide) a xs
@[simp] theorem ninLN (a : Nat) (xs : List Nat) : pyNotIn (nD a) (.list (xs.map nD)) = .ok (.bool (decide (a ∉ xs))) := eqd_nD.ninL (by decide) a xs
@[simp] theorem ninTN (a : Nat) (xs : List Nat) : pyNotIn (nD a) (tN xs) = .ok (.bool (decide (a ∉ xs))) := eqd_nD.ninT (by decide) a xs
@[simp] theorem inLT (a : List Nat) (xs : List (List Nat)) : pyIn (tN a) (.list (xs.map tN)) = .ok (.bool (decide (a ∈ xs))) := eqd_tN.inL (by decide) a xs
@[simp] theorem inTT (a : List Nat) (xs : List (List Nat)) : pyIn (tN a) (.tuple (xs.map tN)) = .ok (.bool (decide (a ∈ xs))) := eqd_tN.inT (by decide) a xs
@[simp] theorem ninLT (a : List Nat) (xs : List (List Nat)) : pyNotIn (tN a) (.list (xs.map tN)) = .ok (.bool (decide (a ∉ xs))) := eqd_tN.ninL (by decide) a xs
@[simp] theorem ninTT (a : List Nat) (xs : List (List Nat)) : pyNotIn (tN a) (.tuple (xs.map tN)) = .ok (.bool (decide (a ∉ xs))) := eqd_tN.ninT (by decide) a xs
@[simp] theorem eqT (a b : List Nat) : pyEq (tN a) (tN b) = .ok (.bool (decide (a = b))) := eqd_tN.eq (by decide) a b
@[simp] theorem neT (a b : List Nat) : pyNe (tN a) (tN b) = .ok (.bool (decide (a ≠ b))) := eqd_tN.ne (by decide) a b
@[simp] theorem eqT0 (a : List Nat) : pyEq (tN a) (.tuple []) = .ok (.bool (decide (a = []))) := eqT a []
@[simp] theorem neT0 (a : List Nat) : pyNe (tN a) (.tuple []) = .ok (.bool (decide (a ≠ []))) := neT a []
@[simp] theorem eqL0 (xs : List Nat) : pyEq (.list (xs.map nD)) (.list []) = .ok (.bool (decide (xs = []))) := by
  rw [eq_nilL (fit_map eqd_nD xs) (by decide)]
  simp
@[simp] theorem neL0 (xs : List Nat) : pyNe (.list (xs.map nD)) (.list []) = .ok (.bool (decide (xs ≠ []))) := by
  rw [ne_nilL (fit_map eqd_nD xs) (by decide)]
  simp
@[simp] theorem unp2_t (a b : D) : unp2 (.tuple [a, b]) = .ok (a, b) := id (Eq.refl _)
@[simp] theorem unp3_t (a b c : D) : unp3 (.tuple [a, b, c]) = .ok (a, b, c) := id (Eq.refl _)
theorem range1 {n : Nat} (h : n ≤ 16777216) : pyRange [nD n] = .ok ((List.range n).map nD) := by
  unfold nD
  rw [pyRange1 (n : Int) (by omega) (by omega)]
  rfl
theorem rgl1 {n : Nat} (h : n ≤ 16777216) : rgL (0, (n : Int)) = .ok ((List.range n).map nD) := by
  rw [rgL0 (n : Int) (by omega) (by omega)]
  rfl
theorem addT {xs ys : List D} (h : xs.length + ys.length ≤ 16777216) : pyAdd (.tuple xs) (.tuple ys) = .ok (.tuple (xs ++ ys)) := by
  simp only [pyAdd]
  rw [if_pos (by rw [sizeLine_eq]; exact h)]
theorem addL {xs ys : List D} (h : xs.length + ys.length ≤ 16777216) : pyAdd (.list xs) (.list ys) = .ok (.list (xs ++ ys)) := by
  simp only [pyAdd]
  rw [if_pos (by rw [sizeLine_eq]; exact h)]
/-! ### slices -/
theorem slTo {xs : List D} {n : Nat} : TL.cutD xs none (some (n : Int)) = xs.take n := by
  unfold TL.cutD
  rw [HT.sIx_none, HT.sIx_nat, List.drop_zero, Nat.sub_zero]
  rcases Nat.le_total n xs.length with h | h
  · rw [Nat.min_eq_left h]
  · rw [Nat.min_eq_right h, List.take_length, List.take_of_length_le h]
theorem slFrom {xs : List D} {n : Nat} : TL.cutD xs (some (n : Int)) none = xs.drop n := by
  unfold TL.cutD
  rw [HT.sIx_none, HT.sIx_nat]
  rcases Nat.le_total n xs.length with h | h
  · rw [Nat.min_eq_left h, ← List.length_drop, List.take_length]
  · rw [Nat.min_eq_right h, Nat.sub_self, List.take_zero, List.drop_of_length_le h]
@[simp] theorem sl_to (xs : List D) (n : Nat) : pySl (.tuple xs) none (some (n : Int)) = .ok (.tuple (xs.take n)) := by rw [pySl, slTo]
@[simp] theorem sl_from (xs : List D) (n : Nat) : pySl (.tuple xs) (some (n : Int)) none = .ok (.tuple (xs.drop n)) := by rw [pySl, slFrom]
@[simp] theorem sl_tol (xs : List D) (n : Nat) : pySl (.list xs) none (some (n : Int)) = .ok (.list (xs.take n)) := by rw [pySl, slTo]
@[simp] theorem sl_froml (xs : List D) (n : Nat) : pySl (.list xs) (some (n : Int)) none = .ok (.list (xs.drop n)) := by rw [pySl, slFrom]
@[simp] theorem sl_totN (xs : List Nat) (n : Nat) : pySl (tN xs) none (some (n : Int)) = .ok (tN (xs.take n)) := by
  unfold tN
  rw [sl_to, List.map_take]
@[simp] theorem sl_fromtN (xs : List Nat) (n : Nat) : pySl (tN xs) (some (n : Int)) none = .ok (tN (xs.drop n)) := by
  unfold tN
  rw [sl_from, List.map_drop]
/-! ### sorted -/
def sortN (xs : List Nat) : List Nat := xs.mergeSort fun a b => decide (a ≤ b)
theorem sortN_perm (xs : List Nat) : (sortN xs).Perm xs := List.mergeSort_perm _ _
theorem sortN_mem {n : Nat} {xs : List Nat} : n ∈ sortN xs ↔ n ∈ xs := (sortN_perm xs).mem_iff
theorem sortN_length (xs : List Nat) : (sortN xs).length = xs.length := (sortN_perm xs).length_eq
theorem sortN_le (xs : List Nat) : (sortN xs).Pairwise (· ≤ ·) := by
  have := List.pairwise_mergeSort (le := fun a b : Nat => decide (a ≤ b)) (fun a b c h1 h2 => by simp at *; omega) (fun a b => by simp; omega) xs
  exact this.imp fun h => by simpa using h
theorem sortN_lt {xs : List Nat} (h : xs.Nodup) : (sortN xs).Pairwise (· < ·) := by
  have h1 := sortN_le xs
  have h2 : (sortN xs).Nodup := (sortN_perm xs).nodup_iff.mpr h
  exact (h1.and h2).imp fun h => by omega
@[simp] theorem sortedN (xs : List Nat) : pySorted [.list (xs.map nD)] = .ok (.list ((sortN xs).map nD)) := by
  simp only [pySorted]
  rw [if_pos (by rw [map_nD]; exact sortable_ints _)]
  congr 2
  unfold sortD sortN
  refine (List.map_mergeSort fun a _ b _ => ?_).symm
  have := congrFun (congrFun (PySem.W.dataLe_int fun n : Nat => (n : Int)) a) b
  have h2 : PySem.W.dataLe false (fun d => d) (nD a) (nD b) = PySem.W.dataLe false (fun b : Nat => PyData.int (b : Int)) a b := rfl
  rw [h2, this]
  rw [Bool.eq_iff_iff]
  simp
/-! ### while -/
section
variable {B J : Type}
/-- a while: an invariant, a measure -/
theorem whX_sat {mc : J → R B} {vb : B → Bool} {mb : J → B → R (Oc J)} {out : J → B → J} {I : J → Prop} {μ : J → Nat} {P : Oc J → Prop}
    (hstep : ∀ j, I j → Sat (mc j) fun b => if vb b = true then Sat (mb j b) (fun o => match o with
      | .nx j' => I j' ∧ μ j' < μ j
      | .rt t b => P (.rt t b)
      | .bk j' => P (.nx j')) else P (.nx (out j b))) : ∀ {j : J}, I j → Sat (whX mc vb mb out j) P := by
  have key : ∀ n j, μ j < n → I j → Sat (whO mc vb mb out n j) P := by
    intro n
    induction n with
    | zero => intro j h; omega
    | succ n ih =>
      intro j hj hi
      obtain ⟨b, eb, hb⟩ := hstep j hi
      unfold whO
      rw [eb, okb]
      by_cases hv : vb b = true
      · rw [if_pos hv] at hb ⊢
        obtain ⟨o, eo, ho⟩ := hb
        rw [eo, okb]
        cases o with
        | nx j' => exact ih j' (by have := ho.2; omega) ho.1
        | rt t b => exact ⟨_, rfl, ho⟩
        | bk j' => exact ⟨_, rfl, ho⟩
      · rw [if_neg hv] at hb ⊢
        exact ⟨_, rfl, hb⟩
  intro j hi
  obtain ⟨o, eo, ho⟩ := key (μ j + 1) j (by omega) hi
  exact ⟨o, by rw [whX_eq (n := μ j + 1) (by rw [eo]; exact fun z => nomatch z), eo], ho⟩
end
end TP
namespace TP
open PySem PySem.Spec PyProof.Rows L2 TL
/-! ### pairs -/
def pN (p : Nat × Nat) : D := .tuple [nD p.1, nD p.2]
@[simp] theorem unp2_pN (p : Nat × Nat) : unp2 (pN p) = .ok (nD p.1, nD p.2) := id (Eq.refl _)
@[simp] theorem ix0p (p : Nat × Nat) : pyIx (pN p) (nD 0) = .ok (nD p.1) := ix0 _ _
@[simp] theorem ix1p (p : Nat × Nat) : pyIx (pN p) (nD 1) = .ok (nD p.2) := ix1 _ _ _
theorem eqd_pN : EqD 1 pN := ⟨fun p => fitk_tuple fun x hx => by
  rcases List.mem_cons.mp hx with e | e
  · rw [e]; exact fitk_int _
  · rw [List.mem_singleton.mp e]; exact fitk_int _, fun p q => by
  unfold pN
  simp only [PyData.eqv, PyData.eqvAll, Bool.and_eq_true, Bool.and_true]
  rw [eqd_nD.eqv, eqd_nD.eqv]
  constructor
  · rintro ⟨h1, h2⟩; exact Prod.ext h1 h2
  · rintro rfl; exact ⟨rfl, rfl⟩⟩
@[simp] theorem eqP (a b : Nat × Nat) : pyEq (pN a) (pN b) = .ok (.bool (decide (a = b))) := eqd_pN.eq (by decide) a b
@[simp] theorem nltP (p : Nat × Nat) : noL (pN p) = true := id (Eq.refl _)
theorem nf_okP (xs : List (Nat × Nat)) : nf (.ok (.list (xs.map pN))) = .ok (.list (xs.map pN)) := by
  unfold nf
  rw [okb, if_pos (by rw [itemsFlat]; exact noLAll_map nltP xs)]
theorem nf_okT (xs : List (List Nat)) : nf (.ok (.list (xs.map tN))) = .ok (.list (xs.map tN)) := by
  unfold nf
  rw [okb, if_pos (by rw [itemsFlat]; exact noLAll_map nltN xs)]
theorem nl_okP (p : Nat × Nat) : nl (.ok (pN p)) = .ok (pN p) := nl_ok (nltP p)
@[simp] theorem neL0P (xs : List (Nat × Nat)) : pyNe (.list (xs.map pN)) (.list []) = .ok (.bool (decide (xs ≠ []))) := by
  rw [ne_nilL (fit_map eqd_pN xs) (by decide)]
  simp
@[simp] theorem eqL0P (xs : List (Nat × Nat)) : pyEq (.list (xs.map pN)) (.list []) = .ok (.bool (decide (xs = []))) := by
  rw [eq_nilL (fit_map eqd_pN xs) (by decide)]
  simp
@[simp] theorem neL0T (xs : List (List Nat)) : pyNe (.list (xs.map tN)) (.list []) = .ok (.bool (decide (xs ≠ []))) := by
  rw [ne_nilL (fit_map eqd_tN xs) (by decide)]
  simp
@[simp] theorem eqL0T (xs : List (List Nat)) : pyEq (.list (xs.map tN)) (.list []) = .ok (.bool (decide (xs = []))) := by
  rw [eq_nilL (fit_map eqd_tN xs) (by decide)]
  simp
@[simp] theorem inLP (a : Nat × Nat) (xs : List (Nat × Nat)) : pyIn (pN a) (.list (xs.map pN)) = .ok (.bool (decide (a ∈ xs))) := eqd_pN.inL (by decide) a xs
@[simp] theorem inTP (a : Nat × Nat) (xs : List (Nat × Nat)) : pyIn (pN a) (.tuple (xs.map pN)) = .ok (.bool (decide (a ∈ xs))) := eqd_pN.inT (by decide) a xs
/-! ### truths, None -/
@[simp] theorem any_m {α : Type} (p : α → Bool) (xs : List α) : pyAny [.list (xs.map fun x => PyData.bool (p x))] = .ok (.bool (xs.any p)) := pyAny_map p xs
@[simp] theorem all_m {α : Type} (p : α → Bool) (xs : List α) : pyAll [.list (xs.map fun x => PyData.bool (p x))] = .ok (.bool (xs.all p)) := pyAll_map p xs
@[simp] theorem is_none (d : D) : pyIs d .none = .ok (.bool (isNone d)) := id (Eq.refl _)
@[simp] theorem isnot_none (d : D) : pyIsNot d .none = .ok (.bool (!isNone d)) := id (Eq.refl _)
@[simp] theorem isNone_n : isNone .none = true := id (Eq.refl _)
@[simp] theorem isNone_N (n : Nat) : isNone (nD n) = false := id (Eq.refl _)
@[simp] theorem isNone_T (n : List Nat) : isNone (tN n) = false := id (Eq.refl _)
@[simp] theorem isNone_t (n : List D) : isNone (.tuple n) = false := id (Eq.refl _)
@[simp] theorem isNone_l (n : List D) : isNone (.list n) = false := id (Eq.refl _)
theorem thenO_nx {A J : Type} (j : J) (r : D → D → A) (k : J → R A) : thenO (.ok (.nx j)) r k = k j := id (Eq.refl _)
theorem thenO_rt {A J : Type} (t b : D) (r : D → D → A) (k : J → R A) : thenO (J := J) (.ok (.rt t b)) r k = .ok (r t b) := id (Eq.refl _)
theorem Sat.thenO {A J : Type} {m : R (Oc J)} {r : D → D → A} {k : J → R A} {P : Oc J → Prop} {Q : A → Prop} (h : Sat m P) (h1 : ∀ j, P (.nx j) → Sat (k j) Q) (h2 : ∀ t b, P (.rt t b) → Q (r t b)) (h3 : ∀ j, ¬ P (.bk j)) : Sat (TL.thenO m r k) Q := by
  obtain ⟨o, e, p⟩ := h
  rw [e]
  cases o with
  | nx j => exact h1 j p
  | rt t b => exact ⟨_, rfl, h2 t b p⟩
  | bk j => exact absurd p (h3 j)
/-- a map over a row of encodings, its answers first -/
theorem mapR_m {α : Type} {f : D → R D} {g : α → D} (k : α → D) {xs : List α} (h : ∀ x ∈ xs, f (g x) = .ok (k x)) : mapR f (xs.map g) = .ok (xs.map k) := mapR_map h
theorem filR_m {α : Type} {p : D → R Bool} {f : D → R D} {g : α → D} (q : α → Bool) (k : α → D) {xs : List α} (h1 : ∀ x ∈ xs, p (g x) = .ok (q x)) (h2 : ∀ x ∈ xs, q x = true → f (g x) = .ok (k x)) : filR p f (xs.map g) = .ok ((xs.filter q).map k) := filR_map h1 h2
theorem remD_is {xs : List Nat} {a : Nat} (h : a ∈ xs) : remD (.list (xs.map nD)) (nD a) = .ok (.list ((xs.erase a).map nD)) := by
  have key : ∀ xs : List Nat, a ∈ xs → ∃ j, (xs.map fun n : Nat => (n : Int)).findIdx? (fun n => n == (a : Int)) = some j ∧ ((xs.map fun n : Nat => (n : Int)).eraseIdx j).map PyData.int = (xs.erase a).map nD := by
    intro xs
    induction xs with
    | nil => intro h; cases h
    | cons x xs ih =>
      intro h
      rw [List.map_cons, List.findIdx?_cons]
      by_cases e : x = a
      · subst e
        refine ⟨0, by simp, ?_⟩
        rw [List.erase_cons_head]
        show (xs.map fun n : Nat => (n : Int)).map PyData.int = _
        rw [map_nD]
      · have e2 : ((x : Int) == (a : Int)) = false := by
          rw [beq_eq_false_iff_ne]; omega
        have h2 : a ∈ xs := by
          rcases List.mem_cons.mp h with z | z
          · exact absurd z.symm e
          · exact z
        obtain ⟨j, h3, h4⟩ := ih h2
        refine ⟨j + 1, by rw [e2, h3]; rfl, ?_⟩
        rw [List.eraseIdx_cons_succ, List.map_cons, h4, List.erase_cons_tail (by simpa using e), List.map_cons]
        rfl
  obtain ⟨j, h1, h2⟩ := key xs h
  simp only [remD, map_nD, nums_map, nD, h1]
  rw [← map_nD, h2]
end TP
namespace TP
open PySem PySem.Spec PyProof.Rows L2 TL JT
/-! ### isinstance -/
theorem isD_of {d : D} {n T : String} {b : Bool} (h : tyN d = some n) (k : kitB n T = some b) : isD [T] d = .ok (.bool b) := by
  have : isAny [T] d = some b := by
    unfold isAny isA1
    rw [h]
    show (kitB n T).bind _ = _
    rw [k]
    cases b <;> rfl
  unfold isD
  rw [this]
theorem isD_of2 {d : D} {n T U : String} {b c : Bool} (h : tyN d = some n) (k : kitB n T = some b) (l : kitB n U = some c) : isD [T, U] d = .ok (.bool (b || c)) := by
  have : isAny [T, U] d = some (b || c) := by
    unfold isAny isA1
    rw [h]
    show (kitB n T).bind _ = _
    rw [k]
    cases b with
    | true => rfl
    | false =>
      show isAny [U] d = _
      unfold isAny isA1
      rw [h]
      show (kitB n U).bind _ = _
      rw [l]
      cases c <;> rfl
  unfold isD
  rw [this]
@[simp] theorem is_tuple_none : isD ["tuple"] .none = .ok (.bool false) := isD_of (n := "NoneType") rfl (by decide +kernel)
@[simp] theorem is_tuple_bool (b : Bool) : isD ["tuple"] (.bool b) = .ok (.bool false) := isD_of (n := "bool") rfl (by decide +kernel)
@[simp] theorem is_tuple_int (i : Int) : isD ["tuple"] (.int i) = .ok (.bool false) := isD_of (n := "int") rfl (by decide +kernel)
@[simp] theorem is_tuple_str (s : Str) : isD ["tuple"] (.str s) = .ok (.bool false) := isD_of (n := "str") rfl (by decide +kernel)
@[simp] theorem is_tuple_list (xs : List D) : isD ["tuple"] (.list xs) = .ok (.bool false) := isD_of (n := "list") rfl (by decide +kernel)
@[simp] theorem is_tuple_tuple (xs : List D) : isD ["tuple"] (.tuple xs) = .ok (.bool true) := isD_of (n := "tuple") rfl (by decide +kernel)
@[simp] theorem is_tuple_dict : isD ["tuple"] (.dict []) = .ok (.bool false) := isD_of (n := "dict") rfl (by decide +kernel)
@[simp] theorem is_tuple_N (n : Nat) : isD ["tuple"] (nD n) = .ok (.bool false) := isD_of (n := "int") rfl (by decide +kernel)
@[simp] theorem is_tuple_T (n : List Nat) : isD ["tuple"] (tN n) = .ok (.bool true) := isD_of (n := "tuple") rfl (by decide +kernel)
@[simp] theorem is_tuple_P (n : Nat × Nat) : isD ["tuple"] (pN n) = .ok (.bool true) := isD_of (n := "tuple") rfl (by decide +kernel)
@[simp] theorem is_list_none : isD ["list"] .none = .ok (.bool false) := isD_of (n := "NoneType") rfl (by decide +kernel)
@[simp] theorem is_list_bool (b : Bool) : isD ["list"] (.bool b) = .ok (.bool false) := isD_of (n := "bool") rfl (by decide +kernel)
@[simp] theorem is_list_int (i : Int) : isD ["list"] (.int i) = .ok (.bool false) := isD_of (n := "int") rfl (by decide +kernel)
@[simp] theorem is_list_str (s : Str) : isD ["list"] (.str s) = .ok (.bool false) := isD_of (n := "str") rfl (by decide +kernel)
@[simp] theorem is_list_list (xs : List D) : isD ["list"] (.list xs) = .ok (.bool true) := isD_of (n := "list") rfl (by decide +kernel)
@[simp] theorem is_list_tuple (xs : List D) : isD ["list"] (.tuple xs) = .ok (.bool false) := isD_of (n := "tuple") rfl (by decide +kernel)
@[simp] theorem is_list_dict : isD ["list"] (.dict []) = .ok (.bool false) := isD_of (n := "dict") rfl (by decide +kernel)
@[simp] theorem is_list_N (n : Nat) : isD ["list"] (nD n) = .ok (.bool false) := isD_of (n := "int") rfl (by decide +kernel)
@[simp] theorem is_list_T (n : List Nat) : isD ["list"] (tN n) = .ok (.bool false) := isD_of (n := "tuple") rfl (by decide +kernel)
@[simp] theorem is_list_P (n : Nat × Nat) : isD ["list"] (pN n) = .ok (.bool false) := isD_of (n := "tuple") rfl (by decide +kernel)
@[simp] theorem is_int_none : isD ["int"] .none = .ok (.bool false) := isD_of (n := "NoneType") rfl (by decide +kernel)
@[simp] theorem is_int_bool (b : Bool) : isD ["int"] (.bool b) = .ok (.bool true) := isD_of (n := "bool") rfl (by decide +kernel)
@[simp] theorem is_int_int (i : Int) : isD ["int"] (.int i) = .ok (.bool true) := isD_of (n := "int") rfl (by decide +kernel)
@[simp] theorem is_int_str (s : Str) : isD ["int"] (.str s) = .ok (.bool false) := isD_of (n := "str") rfl (by decide +kernel)
@[simp] theorem is_int_list (xs : List D) : isD ["int"] (.list xs) = .ok (.bool false) := isD_of (n := "list") rfl (by decide +kernel)
@[simp] theorem is_int_tuple (xs : List D) : isD ["int"] (.tuple xs) = .ok (.bool false) := isD_of (n := "tuple") rfl (by decide +kernel)
@[simp] theorem is_int_dict : isD ["int"] (.dict []) = .ok (.bool false) := isD_of (n := "dict") rfl (by decide +kernel)
@[simp] theorem is_int_N (n : Nat) : isD ["int"] (nD n) = .ok (.bool true) := isD_of (n := "int") rfl (by decide +kernel)
@[simp] theorem is_int_T (n : List Nat) : isD ["int"] (tN n) = .ok (.bool false) := isD_of (n := "tuple") rfl (by decide +kernel)
@[simp] theorem is_int_P (n : Nat × Nat) : isD ["int"] (pN n) = .ok (.bool false) := isD_of (n := "tuple") rfl (by decide +kernel)
@[simp] theorem is_bool_none : isD ["bool"] .none = .ok (.bool false) := isD_of (n := "NoneType") rfl (by decide +kernel)
@[simp] theorem is_bool_bool (b : Bool) : isD ["bool"] (.bool b) = .ok (.bool true) := isD_of (n := "bool") rfl (by decide +kernel)
@[simp] theorem is_bool_int (i : Int) : isD ["bool"] (.int i) = .ok (.bool false) := isD_of (n := "int") rfl (by decide +kernel)
@[simp] theorem is_bool_str (s : Str) : isD ["bool"] (.str s) = .ok (.bool false) := isD_of (n := "str") rfl (by decide +kernel)
@[simp] theorem is_bool_list (xs : List D) : isD ["bool"] (.list xs) = .ok (.bool false) := isD_of (n := "list") rfl (by decide +kernel)
@[simp] theorem is_bool_tuple (xs : List D) : isD ["bool"] (.tuple xs) = .ok (.bool false) := isD_of (n := "tuple") rfl (by decide +kernel)
@[simp] theorem is_bool_dict : isD ["bool"] (.dict []) = .ok (.bool false) := isD_of (n := "dict") rfl (by decide +kernel)
@[simp] theorem is_bool_N (n : Nat) : isD ["bool"] (nD n) = .ok (.bool false) := isD_of (n := "int") rfl (by decide +kernel)
@[simp] theorem is_bool_T (n : List Nat) : isD ["bool"] (tN n) = .ok (.bool false) := isD_of (n := "tuple") rfl (by decide +kernel)
@[simp] theorem is_bool_P (n : Nat × Nat) : isD ["bool"] (pN n) = .ok (.bool false) := isD_of (n := "tuple") rfl (by decide +kernel)
@[simp] theorem is_str_none : isD ["str"] .none = .ok (.bool false) := isD_of (n := "NoneType") rfl (by decide +kernel)
@[simp] theorem is_str_bool (b : Bool) : isD ["str"] (.bool b) = .ok (.bool false) := isD_of (n := "bool") rfl (by decide +kernel)
@[simp] theorem is_str_int (i : Int) : isD ["str"] (.int i) = .ok (.bool false) := isD_of (n := "int") rfl (by decide +kernel)
@[simp] theorem is_str_str (s : Str) : isD ["str"] (.str s) = .ok (.bool true) := isD_of (n := "str") rfl (by decide +kernel)
@[simp] theorem is_str_list (xs : List D) : isD ["str"] (.list xs) = .ok (.bool false) := isD_of (n := "list") rfl (by decide +kernel)
@[simp] theorem is_str_tuple (xs : List D) : isD ["str"] (.tuple xs) = .ok (.bool false) := isD_of (n := "tuple") rfl (by decide +kernel)
@[simp] theorem is_str_dict : isD ["str"] (.dict []) = .ok (.bool false) := isD_of (n := "dict") rfl (by decide +kernel)
@[simp] theorem is_str_N (n : Nat) : isD ["str"] (nD n) = .ok (.bool false) := isD_of (n := "int") rfl (by decide +kernel)
@[simp] theorem is_str_T (n : List Nat) : isD ["str"] (tN n) = .ok (.bool false) := isD_of (n := "tuple") rfl (by decide +kernel)
@[simp] theorem is_str_P (n : Nat × Nat) : isD ["str"] (pN n) = .ok (.bool false) := isD_of (n := "tuple") rfl (by decide +kernel)
@[simp] theorem is_seq_none : isD ["tuple", "list"] .none = .ok (.bool false) := isD_of2 (n := "NoneType") (b := false) (c := false) rfl (by decide +kernel) (by decide +kernel)
@[simp] theorem is_seq_bool (b : Bool) : isD ["tuple", "list"] (.bool b) = .ok (.bool false) := isD_of2 (n := "bool") (b := false) (c := false) rfl (by decide +kernel) (by decide +kernel)
@[simp] theorem is_seq_int (i : Int) : isD ["tuple", "list"] (.int i) = .ok (.bool false) := isD_of2 (n := "int") (b := false) (c := false) rfl (by decide +kernel) (by decide +kernel)
@[simp] theorem is_seq_str (s : Str) : isD ["tuple", "list"] (.str s) = .ok (.bool false) := isD_of2 (n := "str") (b := false) (c := false) rfl (by decide +kernel) (by decide +kernel)
@[simp] theorem is_seq_list (xs : List D) : isD ["tuple", "list"] (.list xs) = .ok (.bool true) := isD_of2 (n := "list") (b := false) (c := true) rfl (by decide +kernel) (by decide +kernel)
@[simp] theorem is_seq_tuple (xs : List D) : isD ["tuple", "list"] (.tuple xs) = .ok (.bool true) := isD_of2 (n := "tuple") (b := true) (c := false) rfl (by decide +kernel) (by decide +kernel)
@[simp] theorem is_seq_dict : isD ["tuple", "list"] (.dict []) = .ok (.bool false) := isD_of2 (n := "dict") (b := false) (c := false) rfl (by decide +kernel) (by decide +kernel)
@[simp] theorem is_seq_N (n : Nat) : isD ["tuple", "list"] (nD n) = .ok (.bool false) := isD_of2 (n := "int") (b := false) (c := false) rfl (by decide +kernel) (by decide +kernel)
@[simp] theorem is_seq_T (n : List Nat) : isD ["tuple", "list"] (tN n) = .ok (.bool true) := isD_of2 (n := "tuple") (b := true) (c := false) rfl (by decide +kernel) (by decide +kernel)
@[simp] theorem is_seq_P (n : Nat × Nat) : isD ["tuple", "list"] (pN n) = .ok (.bool true) := isD_of2 (n := "tuple") (b := true) (c := false) rfl (by decide +kernel) (by decide +kernel)
/-- a whole number, if it is one -/
def wholeB : D → Bool
  | .int _ => true
  | _ => false
/-- no dict, or an empty one -/
def NoDict : D → Prop
  | .dict (_ :: _) => False
  | _ => True
theorem whole_is {d : D} (h : NoDict d) : m_is_whole [d] = .ok (.bool (wholeB d)) := by
  rw [m_is_whole]
  cases d with
  | dict es =>
    cases es with
    | nil => simp only [okb, int_lit, tN_def, nox_bind, bind_as, noxo, nox_nox, nox_no', R.bind_ok, eqN, neN, ltN, leN, gtN, geN, addN, minN, maxN, truN, truB, asBB, asIntN, partN, nl_okN, nl_bool, lstD_ok, items_l, items_t, items_tN, len_l, len_t, len_tN, tuple_l, tuple_t, list_l, list_t, list_tN, ix0, ix1, ix2, ix0l, ix1l, inLN, inTN, ninLN, ninTN, inLT, inTT, ninLT, ninTT, eqT, neT, eqT0, neT0, eqL0, neL0, unp2_t, unp3_t, sl_to, sl_from, sl_tol, sl_froml, sl_totN, sl_fromtN, sortedN, decide_eq_true_eq, Bool.false_eq_true, if_true, if_false, List.length_map, List.length_range, nl_tN, nf_ok, unp2_pN, ix0p, ix1p, eqP, nf_okP, nf_okT, nl_okP, neL0P, eqL0P, neL0T, eqL0T, inLP, inTP, any_m, all_m, is_none, isnot_none, isNone_n, isNone_N, isNone_T, isNone_t, isNone_l, thenO_nx, thenO_rt, Bool.not_true, Bool.not_false, is_tuple_none, is_tuple_bool, is_tuple_int, is_tuple_str, is_tuple_list, is_tuple_tuple, is_tuple_dict, is_tuple_N, is_tuple_T, is_tuple_P, is_list_none, is_list_bool, is_list_int, is_list_str, is_list_list, is_list_tuple, is_list_dict, is_list_N, is_list_T, is_list_P, is_int_none, is_int_bool, is_int_int, is_int_str, is_int_list, is_int_tuple, is_int_dict, is_int_N, is_int_T, is_int_P, is_bool_none, is_bool_bool, is_bool_int, is_bool_str, is_bool_list, is_bool_tuple, is_bool_dict, is_bool_N, is_bool_T, is_bool_P, is_str_none, is_str_bool, is_str_int, is_str_str, is_str_list, is_str_tuple, is_str_dict, is_str_N, is_str_T, is_str_P, is_seq_none, is_seq_bool, is_seq_int, is_seq_str, is_seq_list, is_seq_tuple, is_seq_dict, is_seq_N, is_seq_T, is_seq_P, zip_ll, zip_tt, zip_lt, zip_tl]; rfl
    | cons e es => exact h.elim
  | bool b => simp only [okb, int_lit, tN_def, nox_bind, bind_as, noxo, nox_nox, nox_no', R.bind_ok, eqN, neN, ltN, leN, gtN, geN, addN, minN, maxN, truN, truB, asBB, asIntN, partN, nl_okN, nl_bool, lstD_ok, items_l, items_t, items_tN, len_l, len_t, len_tN, tuple_l, tuple_t, list_l, list_t, list_tN, ix0, ix1, ix2, ix0l, ix1l, inLN, inTN, ninLN, ninTN, inLT, inTT, ninLT, ninTT, eqT, neT, eqT0, neT0, eqL0, neL0, unp2_t, unp3_t, sl_to, sl_from, sl_tol, sl_froml, sl_totN, sl_fromtN, sortedN, decide_eq_true_eq, Bool.false_eq_true, if_true, if_false, List.length_map, List.length_range, nl_tN, nf_ok, unp2_pN, ix0p, ix1p, eqP, nf_okP, nf_okT, nl_okP, neL0P, eqL0P, neL0T, eqL0T, inLP, inTP, any_m, all_m, is_none, isnot_none, isNone_n, isNone_N, isNone_T, isNone_t, isNone_l, thenO_nx, thenO_rt, Bool.not_true, Bool.not_false, is_tuple_none, is_tuple_bool, is_tuple_int, is_tuple_str, is_tuple_list, is_tuple_tuple, is_tuple_dict, is_tuple_N, is_tuple_T, is_tuple_P, is_list_none, is_list_bool, is_list_int, is_list_str, is_list_list, is_list_tuple, is_list_dict, is_list_N, is_list_T, is_list_P, is_int_none, is_int_bool, is_int_int, is_int_str, is_int_list, is_int_tuple, is_int_dict, is_int_N, is_int_T, is_int_P, is_bool_none, is_bool_bool, is_bool_int, is_bool_str, is_bool_list, is_bool_tuple, is_bool_dict, is_bool_N, is_bool_T, is_bool_P, is_str_none, is_str_bool, is_str_int, is_str_str, is_str_list, is_str_tuple, is_str_dict, is_str_N, is_str_T, is_str_P, is_seq_none, is_seq_bool, is_seq_int, is_seq_str, is_seq_list, is_seq_tuple, is_seq_dict, is_seq_N, is_seq_T, is_seq_P, zip_ll, zip_tt, zip_lt, zip_tl]; rfl
  | _ => simp only [okb, int_lit, tN_def, nox_bind, bind_as, noxo, nox_nox, nox_no', R.bind_ok, eqN, neN, ltN, leN, gtN, geN, addN, minN, maxN, truN, truB, asBB, asIntN, partN, nl_okN, nl_bool, lstD_ok, items_l, items_t, items_tN, len_l, len_t, len_tN, tuple_l, tuple_t, list_l, list_t, list_tN, ix0, ix1, ix2, ix0l, ix1l, inLN, inTN, ninLN, ninTN, inLT, inTT, ninLT, ninTT, eqT, neT, eqT0, neT0, eqL0, neL0, unp2_t, unp3_t, sl_to, sl_from, sl_tol, sl_froml, sl_totN, sl_fromtN, sortedN, decide_eq_true_eq, Bool.false_eq_true, if_true, if_false, List.length_map, List.length_range, nl_tN, nf_ok, unp2_pN, ix0p, ix1p, eqP, nf_okP, nf_okT, nl_okP, neL0P, eqL0P, neL0T, eqL0T, inLP, inTP, any_m, all_m, is_none, isnot_none, isNone_n, isNone_N, isNone_T, isNone_t, isNone_l, thenO_nx, thenO_rt, Bool.not_true, Bool.not_false, is_tuple_none, is_tuple_bool, is_tuple_int, is_tuple_str, is_tuple_list, is_tuple_tuple, is_tuple_dict, is_tuple_N, is_tuple_T, is_tuple_P, is_list_none, is_list_bool, is_list_int, is_list_str, is_list_list, is_list_tuple, is_list_dict, is_list_N, is_list_T, is_list_P, is_int_none, is_int_bool, is_int_int, is_int_str, is_int_list, is_int_tuple, is_int_dict, is_int_N, is_int_T, is_int_P, is_bool_none, is_bool_bool, is_bool_int, is_bool_str, is_bool_list, is_bool_tuple, is_bool_dict, is_bool_N, is_bool_T, is_bool_P, is_str_none, is_str_bool, is_str_int, is_str_str, is_str_list, is_str_tuple, is_str_dict, is_str_N, is_str_T, is_str_P, is_seq_none, is_seq_bool, is_seq_int, is_seq_str, is_seq_list, is_seq_tuple, is_seq_dict, is_seq_N, is_seq_T, is_seq_P, zip_ll, zip_tt, zip_lt, zip_tl]; rfl
/-- a number below many, if it is one -/
def uptoB (d : D) (n : Nat) : Bool := match d with
  | .int i => decide (0 ≤ i ∧ i < (n : Int))
  | _ => false
theorem upto_is {d : D} (h : NoDict d) (n : Nat) : m_is_upto [d, nD n] = .ok (.bool (uptoB d n)) := by
  rw [m_is_upto]
  simp only [okb, int_lit, tN_def, nox_bind, bind_as, noxo, nox_nox, nox_no', R.bind_ok, eqN, neN, ltN, leN, gtN, geN, addN, minN, maxN, truN, truB, asBB, asIntN, partN, nl_okN, nl_bool, lstD_ok, items_l, items_t, items_tN, len_l, len_t, len_tN, tuple_l, tuple_t, list_l, list_t, list_tN, ix0, ix1, ix2, ix0l, ix1l, inLN, inTN, ninLN, ninTN, inLT, inTT, ninLT, ninTT, eqT, neT, eqT0, neT0, eqL0, neL0, unp2_t, unp3_t, sl_to, sl_from, sl_tol, sl_froml, sl_totN, sl_fromtN, sortedN, decide_eq_true_eq, Bool.false_eq_true, if_true, if_false, List.length_map, List.length_range, nl_tN, nf_ok, unp2_pN, ix0p, ix1p, eqP, nf_okP, nf_okT, nl_okP, neL0P, eqL0P, neL0T, eqL0T, inLP, inTP, any_m, all_m, is_none, isnot_none, isNone_n, isNone_N, isNone_T, isNone_t, isNone_l, thenO_nx, thenO_rt, Bool.not_true, Bool.not_false, is_tuple_none, is_tuple_bool, is_tuple_int, is_tuple_str, is_tuple_list, is_tuple_tuple, is_tuple_dict, is_tuple_N, is_tuple_T, is_tuple_P, is_list_none, is_list_bool, is_list_int, is_list_str, is_list_list, is_list_tuple, is_list_dict, is_list_N, is_list_T, is_list_P, is_int_none, is_int_bool, is_int_int, is_int_str, is_int_list, is_int_tuple, is_int_dict, is_int_N, is_int_T, is_int_P, is_bool_none, is_bool_bool, is_bool_int, is_bool_str, is_bool_list, is_bool_tuple, is_bool_dict, is_bool_N, is_bool_T, is_bool_P, is_str_none, is_str_bool, is_str_int, is_str_str, is_str_list, is_str_tuple, is_str_dict, is_str_N, is_str_T, is_str_P, is_seq_none, is_seq_bool, is_seq_int, is_seq_str, is_seq_list, is_seq_tuple, is_seq_dict, is_seq_N, is_seq_T, is_seq_P, zip_ll, zip_tt, zip_lt, zip_tl, whole_is h]
  cases d with
  | int i =>
    simp only [wholeB, if_true, nD, pyLe, pyLt, okb, asBB, uptoB]
    by_cases h1 : (0 : Int) ≤ i
    · simp [h1]
    · simp [h1]
  | _ => rfl
@[simp] theorem upto_N (a n : Nat) : m_is_upto [nD a, nD n] = .ok (.bool (decide (a < n))) := by
  rw [upto_is (d := nD a) trivial]
  simp [uptoB, nD]
@[simp] theorem whole_N (a : Nat) : m_is_whole [nD a] = .ok (.bool true) := whole_is (d := nD a) trivial
end TP
/-! the plain layer, A: the box, draws, layouts (the first family) -/
namespace TP
open PySem PySem.Spec PyProof.Rows L2 TL JT
def IsBox (s : D) : Prop := ∃ b : Int, s = .list [.int b]
/-- a number drawn below n -/
def Drawn (n : Nat) (p : D × D) : Prop := (∃ k : Nat, k < n ∧ p.1 = nD k) ∧ IsBox p.2
theorem mod_2 (i : Int) : pyMod (.int i) (.int 2) = .ok (.int (i % 2)) := pyMod_of (by decide)
theorem div_2 (i : Int) : pyDiv (.int i) (.int 2) = .ok (.int (i / 2)) := pyDiv_of (by decide) (by decide)
/-! ### the same -/
/-! ### layouts -/
def layD (m : Nat) (hs : List (List Nat)) : D := .tuple [nD m, .tuple (hs.map tN)]
structure LayV (m : Nat) (hs : List (List Nat)) : Prop where
  m1 : 1 ≤ m
  m7 : m ≤ 7
  n1 : 1 ≤ hs.length
  n6 : hs.length ≤ 6
  ne : ∀ h ∈ hs, h ≠ []
  up : ∀ h ∈ hs, h.Pairwise (· < ·)
  lt : ∀ h ∈ hs, ∀ c ∈ h, c < m
theorem rise_len {m : Nat} : ∀ {h : List Nat} {a : Nat}, h.Pairwise (· < ·) → (∀ c ∈ h, c < m) → (∀ c ∈ h, a ≤ c) → a ≤ m → h.length + a ≤ m
  | [], a, _, _, _, ha => by simpa using ha
  | c :: h, a, h1, h2, h3, ha => by
    rw [List.pairwise_cons] at h1
    have hc := h2 c List.mem_cons_self
    have h4 := h3 c List.mem_cons_self
    have := rise_len (a := c + 1) h1.2 (fun d hd => h2 d (List.mem_cons_of_mem _ hd)) (fun d hd => h1.1 d hd) hc
    rw [List.length_cons]
    omega
theorem LayV.len {m : Nat} {hs : List (List Nat)} (v : LayV m hs) {h : List Nat} (hh : h ∈ hs) : h.length ≤ m := by
  have := rise_len (a := 0) (v.up h hh) (v.lt h hh) (fun _ _ => Nat.zero_le _) (Nat.zero_le _)
  omega
theorem erase_map {α β : Type} (f : α → β) : ∀ (l : List α) (k : Nat), (l.map f).eraseIdx k = (l.eraseIdx k).map f
  | [], _ => rfl
  | _ :: _, 0 => rfl
  | x :: l, k + 1 => congrArg (f x :: ·) (erase_map f l k)
theorem perm_erase {α : Type} : ∀ {l : List α} {k : Nat} (h : k < l.length), (l[k] :: l.eraseIdx k).Perm l
  | x :: l, 0, _ => List.Perm.refl _
  | x :: l, k + 1, h => by
    have h' : k < l.length := Nat.lt_of_succ_lt_succ h
    exact (List.Perm.swap x l[k] _).trans ((perm_erase h').cons x)
theorem popAt_is {α : Type} {f : α → D} {l : List α} {k : Nat} (z : α) (h : k < l.length) (h2 : l.length ≤ 16777216) : popAtD (.list (l.map f)) (nD k) = .ok (f (l.getD k z), .list ((l.eraseIdx k).map f)) := by
  have g := getD_map (f := f) h z
  simp only [popAtD, nD, List.length_map]
  rw [if_pos ⟨by omega, by omega⟩, seqIndex_of (by omega) (by omega)]
  simp only [Int.toNat_natCast, g, erase_map]
theorem head_len {m : Nat} {h : List Nat} (h1 : h.Pairwise (· < ·)) (h2 : ∀ c ∈ h, c < m) : h.length ≤ m := by
  have := rise_len (a := 0) h1 h2 (fun _ _ => Nat.zero_le _) (Nat.zero_le _)
  omega
end TP
/-! the plain layer, 3: order; loops of the laws -/
namespace TP
open PySem PySem.Spec PyProof.Rows L2 TL JT
/-- a row of things that may be compared, by their order -/
structure OrD {α : Type} [LT α] (k : Nat) (f : α → D) : Prop where
  eq : EqD k f
  al : ∀ a b, PySem.W.alike (f a) (f b) = true
  lt : ∀ a b, PySem.W.dataLt (f a) (f b) = true ↔ a < b
theorem ord_nD : OrD 0 nD := ⟨eqd_nD, fun a b => alike_int _ _, fun a b => by
  unfold nD
  rw [PySem.W.dataLt_int, decide_eq_true_iff]
  omega⟩
theorem alike_all {α : Type} {f : α → D} (h : ∀ a b, PySem.W.alike (f a) (f b) = true) : ∀ xs ys : List α, PySem.W.alikeAll (xs.map f) (ys.map f) = true
  | [], ys => by cases ys <;> simp [PySem.W.alikeAll]
  | x :: xs, [] => by simp [PySem.W.alikeAll]
  | x :: xs, y :: ys => by
    rw [List.map_cons, List.map_cons, PySem.W.alikeAll, h, alike_all h xs ys]
    rfl
theorem rowLt_map {α : Type} [LT α] {k : Nat} {f : α → D} (h : OrD k f) : ∀ xs ys : List α, PySem.W.rowLt (xs.map f) (ys.map f) = true ↔ xs < ys
  | [], [] => by
    have e : PySem.W.rowLt [] [] = false := lex_irrefl _
    simp [e]
  | [], y :: ys => by
    have e : PySem.W.rowLt [] (f y :: ys.map f) = true := by
      unfold PySem.W.rowLt
      rw [PySem.W.toks_all_cons]
      simp only [PySem.W.keyToksAll]
      rw [lex_diff (O := itemOrd) (by simp)]
      rfl
    simpa using e
  | x :: xs, [] => by
    have e : PySem.W.rowLt (f x :: xs.map f) [] = false := by
      unfold PySem.W.rowLt
      rw [PySem.W.toks_all_cons]
      simp only [PySem.W.keyToksAll]
      rw [lex_diff (O := itemOrd) (by simp)]
      rfl
    simpa using e
  | x :: xs, y :: ys => by
    have e : PySem.W.rowLt (f x :: xs.map f) (f y :: ys.map f) = if PyData.eqv (f x) (f y) = true then PySem.W.rowLt (xs.map f) (ys.map f) else PySem.W.dataLt (f x) (f y) := PySem.W.dataLt_cons (h.al x y) _ _
    rw [List.map_cons, List.map_cons, e, List.cons_lt_cons_iff]
    by_cases c : x = y
    · subst c
      rw [if_pos ((h.eq.eqv x x).mpr rfl), rowLt_map h xs ys]
      have irr : ¬ x < x := fun z => by
        have := (h.lt x x).mpr z
        unfold PySem.W.dataLt at this
        rw [lex_irrefl] at this
        cases this
      simp [irr]
    · rw [if_neg (fun z => c ((h.eq.eqv x y).mp z)), h.lt]
      simp [c]
theorem OrD.tup {α : Type} [LT α] {f : α → D} {k : Nat} (h : OrD k f) : OrD (k + 1) fun xs : List α => .tuple (xs.map f) :=
  ⟨h.eq.tup, fun xs ys => by simp only [PySem.W.alike]; exact alike_all h.al xs ys, fun xs ys => by
    rw [PySem.W.dataLt_tuple]
    exact rowLt_map h xs ys⟩
theorem ord_tN : OrD 1 tN := ord_nD.tup
section
variable {α : Type} [LT α] {f : α → D} {k : Nat}
/-- sorted, of tuples that are not empty -/
def srt (xs : List α) [DecidableRel (α := α) (· < ·)] : List α := xs.mergeSort fun a b => decide (¬ b < a)
theorem OrD.sorted [DecidableRel (α := α) (· < ·)] (h : OrD k f) (hk : k ≤ 60) {xs : List α} (hs : (∀ x ∈ xs, ∃ y ys, f x = .tuple (y :: ys)) ∨ ∀ x ∈ xs, f x ≠ .none ∧ ∀ ys, f x ≠ .tuple ys) : pySorted [.list (xs.map f)] = .ok (.list ((srt xs).map f)) := by
  simp only [pySorted]
  rw [if_pos ?_]
  · congr 2
    unfold sortD srt
    refine (List.map_mergeSort fun a _ b _ => ?_).symm
    show _ = (!PySem.W.dataLt (f b) (f a))
    rw [Bool.eq_iff_iff, decide_eq_true_iff, Bool.not_eq_true', ← Bool.not_eq_true, h.lt]
  · unfold sortable
    simp only [Bool.and_eq_true, Bool.or_eq_true, List.all_eq_true]
    refine ⟨⟨fun d hd e he => ?_, fun d hd => ?_⟩, hs.imp (fun g d hd => ?_) fun g d hd => ?_⟩
    · obtain ⟨a, _, rfl⟩ := List.mem_map.mp hd
      obtain ⟨b, _, rfl⟩ := List.mem_map.mp he
      exact h.al a b
    · obtain ⟨a, _, rfl⟩ := List.mem_map.mp hd
      exact (h.eq.fit a).fit hk
    · obtain ⟨a, ha, rfl⟩ := List.mem_map.mp hd
      obtain ⟨y, ys, e⟩ := g a ha
      rw [e]
    · obtain ⟨a, ha, rfl⟩ := List.mem_map.mp hd
      obtain ⟨g1, g2⟩ := g a ha
      cases e : f a with
      | none => exact absurd e g1
      | tuple ys => exact absurd e (g2 ys)
      | _ => rfl
end
theorem pN_tN (p : Nat × Nat) : pN p = tN [p.1, p.2] := rfl
@[simp] theorem ltT (a b : List Nat) : pyLt (tN a) (tN b) = .ok (.bool (decide (a < b))) := by
  show pyLt (.tuple (a.map nD)) (.tuple (b.map nD)) = _
  simp only [pyLt]
  rw [if_pos ⟨ord_tN.al a b, (eqd_tN.fit a).fit (by decide), (eqd_tN.fit b).fit (by decide)⟩]
  congr 2
  rw [Bool.eq_iff_iff, decide_eq_true_iff]
  exact ord_tN.lt a b
/-! ### the laws' loops -/
/-- each turn is well -/
def Fine (o : Oc Unit) : Prop := o = .nx ()
theorem turns {α β : Type} {u : D → R β} {mb : Unit → β → R (Oc Unit)} {g : α → D} {h : α → β} {xs : List α} (hu : ∀ x ∈ xs, u (g x) = .ok (h x)) (hm : ∀ x ∈ xs, Sat (mb () (h x)) Fine) : Sat (foldO u mb (xs.map g) ()) Fine := by
  induction xs with
  | nil => exact ⟨_, rfl, rfl⟩
  | cons x xs ih =>
    rw [List.map_cons, foldO, hu x List.mem_cons_self, nox_ok, okb]
    obtain ⟨o, e, rfl⟩ := hm x List.mem_cons_self
    rw [e, okb]
    exact ih (fun y hy => hu y (List.mem_cons_of_mem _ hy)) fun y hy => hm y (List.mem_cons_of_mem _ hy)
theorem turnsN {mb : Unit → D → R (Oc Unit)} {n : Nat} (hm : ∀ k, k < n → Sat (mb () (nD k)) Fine) : Sat (foldO (fun d => R.ok d) mb ((List.range n).map nD) ()) Fine :=
  turns (h := nD) (fun _ _ => rfl) fun k hk => hm k (List.mem_range.mp hk)
theorem thenFine {A : Type} {m : R (Oc Unit)} {r : D → D → A} {k : Unit → R A} {Q : A → Prop} (h : Sat m Fine) (h1 : Sat (k ()) Q) : Sat (thenO m r k) Q := by
  obtain ⟨o, e, rfl⟩ := h
  rw [e]
  exact h1
theorem len_scr (ns : List Int) : TL.pyLen [scrD ns] = .ok (nD ns.length) := by
  show R.ok (PyData.int ((ns.map PyData.int).length : Nat)) = _
  rw [List.length_map]
  rfl
/-- a walk that looks for the first that is bad -/
theorem foldO_bad {α β : Type} {u : D → R β} {mb : Unit → β → R (Oc Unit)} {g : α → D} (h : α → β) (bad : α → Bool) (t b : D) {xs : List α} (hu : ∀ x ∈ xs, u (g x) = .ok (h x)) (hm : ∀ x ∈ xs, mb () (h x) = .ok (if bad x = true then Oc.rt t b else Oc.nx ())) : foldO u mb (xs.map g) () = .ok (if xs.any bad = true then Oc.rt t b else Oc.nx ()) := foldO_find hu hm
@[simp] theorem enum_t (xs : List D) : pyEnum [.tuple xs] = .ok (enumD xs) := id (Eq.refl _)
@[simp] theorem enum_l (xs : List D) : pyEnum [.list xs] = .ok (enumD xs) := id (Eq.refl _)
theorem enumD_map {α : Type} (f : α → D) (z : α) (xs : List α) : enumD (xs.map f) = (List.range xs.length).map fun k => .tuple [nD k, f (xs.getD k z)] := by
  apply List.ext_getElem
  · simp [enumD_len]
  · intro i h1 h2
    have hi : i < xs.length := by simpa [enumD_len] using h1
    unfold enumD
    simp only [List.getElem_zipWith, List.getElem_range, List.getElem_map, List.length_map]
    rw [List.getD_eq_getElem?_getD, List.getElem?_eq_getElem hi]
    rfl
theorem thenO_okite {A J : Type} (c : Prop) [Decidable c] (x y : Oc J) (r : D → D → A) (k : J → R A) : thenO (.ok (if c then x else y)) r k = if c then thenO (.ok x) r k else thenO (.ok y) r k := by split <;> rfl
@[simp] theorem ix0Lm {α : Type} (f : α → D) (x : α) (xs : List α) : pyIx (.list ((x :: xs).map f)) (nD 0) = .ok (f x) := ix0l _ _
@[simp] theorem ix0Tm {α : Type} (f : α → D) (x : α) (xs : List α) : pyIx (.tuple ((x :: xs).map f)) (nD 0) = .ok (f x) := ix0 _ _
@[simp] theorem neg1 : pyNeg (nD 1) = .ok (.int (-1)) := id (Eq.refl _)
theorem atI_last {xs : List D} {d : D} : atI (xs ++ [d]) (-1) = some d := by
  unfold atI ixN
  have e : (-1 + ((xs.length : Int) + 1)).toNat = xs.length := by omega
  simp only [List.length_append, List.length_cons, List.length_nil]
  rw [if_neg (by decide), if_pos (by omega)]
  show (xs ++ [d])[((-1 : Int) + ((xs.length + (0 + 1) : Nat) : Int)).toNat]? = some d
  rw [show ((-1 : Int) + ((xs.length + (0 + 1) : Nat) : Int)).toNat = xs.length by omega]
  simp
@[simp] theorem ix_last (xs : List D) (d : D) : pyIx (.list (xs ++ [d])) (.int (-1)) = .ok d := by simp only [pyIx, atI_last]
@[simp] theorem ix_lastT (xs : List D) (d : D) : pyIx (.tuple (xs ++ [d])) (.int (-1)) = .ok d := by simp only [pyIx, atI_last]
end TP
namespace TP
open PySem PySem.Spec PyProof.Rows L2 TL JT
/-! ### things of whatever kind -/
theorem pick_sat {xs : List D} {k : Nat} {P : D → Prop} (h : ∀ x ∈ xs, P x) (hk : k < xs.length) : Sat (pyIx (.list xs) (nD k)) P := ⟨_, ixL hk, h _ (List.getElem_mem hk)⟩
theorem pick_nox {xs : List D} {k : Nat} {P : D → Prop} (h : ∀ x ∈ xs, P x) (hk : k < xs.length) : Sat (nox (pyIx (.list xs) (nD k))) P := (pick_sat h hk).nox
/-- no dict, nor within a tuple -/
def Thing (d : D) : Prop := NoDict d ∧ match d with
  | .tuple xs => ∀ x ∈ xs, NoDict x
  | _ => True
theorem thing_T (o : List Nat) : Thing (tN o) := ⟨trivial, fun x hx => by
  obtain ⟨n, _, rfl⟩ := List.mem_map.mp hx
  exact trivial⟩
def natOf : D → Option Nat
  | .int i => if 0 ≤ i then some i.toNat else none
  | _ => none
def natsOf : List D → Option (List Nat)
  | [] => some []
  | x :: xs => match natOf x, natsOf xs with
    | some n, some ns => some (n :: ns)
    | _, _ => none
theorem natOf_N (n : Nat) : natOf (nD n) = some n := by simp [natOf, nD]
theorem natOf_some {d : D} {n : Nat} (h : natOf d = some n) : d = nD n := by
  cases d with
  | int i =>
    simp only [natOf] at h
    by_cases hi : 0 ≤ i
    · rw [if_pos hi] at h
      injection h with h
      unfold nD
      congr 1
      omega
    · rw [if_neg hi] at h
      cases h
  | _ => simp [natOf] at h
theorem natsOf_map (ns : List Nat) : natsOf (ns.map nD) = some ns := by
  induction ns with
  | nil => rfl
  | cons n ns ih => rw [List.map_cons, natsOf, natOf_N, ih]
theorem natsOf_some : ∀ {xs : List D} {ns : List Nat}, natsOf xs = some ns → xs = ns.map nD
  | [], ns, h => by cases h; rfl
  | x :: xs, ns, h => by
    rw [natsOf] at h
    cases hx : natOf x with
    | none => rw [hx] at h; cases h
    | some n =>
      cases hs : natsOf xs with
      | none => rw [hx, hs] at h; cases h
      | some ms =>
        rw [hx, hs] at h
        cases h
        rw [natOf_some hx, natsOf_some hs]
        rfl
theorem upto_some {d : D} {n : Nat} (h : uptoB d n = true) : ∃ k, d = nD k ∧ k < n := by
  cases d with
  | int i =>
    have := of_decide_eq_true h
    exact ⟨i.toNat, by unfold nD; congr 1; omega, by omega⟩
  | _ => cases h
theorem upto_all : ∀ {xs : List D} {n : Nat}, xs.all (fun x => uptoB x n) = true → ∃ o : List Nat, xs = o.map nD ∧ ∀ c ∈ o, c < n
  | [], _, _ => ⟨[], rfl, fun _ h => nomatch h⟩
  | x :: xs, n, h => by
    rw [List.all_cons, Bool.and_eq_true] at h
    obtain ⟨k, rfl, hk⟩ := upto_some h.1
    obtain ⟨o, rfl, ho⟩ := upto_all h.2
    exact ⟨k :: o, rfl, fun c hc => (List.mem_cons.mp hc).elim (fun e => e ▸ hk) (ho c)⟩
theorem map_upto {xs : List D} (h : ∀ x ∈ xs, NoDict x) (n : Nat) : mapR (fun x => m_is_upto [x, nD n]) xs = .ok (xs.map fun x => PyData.bool (uptoB x n)) := by
  have := mapR_m (f := fun x => m_is_upto [x, nD n]) (g := fun x : D => x) (fun x => PyData.bool (uptoB x n)) (xs := xs) fun x hx => upto_is (h x hx) n
  rwa [List.map_id'] at this
theorem map_whole {xs : List D} (h : ∀ x ∈ xs, NoDict x) : mapR (fun x => m_is_whole [x]) xs = .ok (xs.map fun x => PyData.bool (wholeB x)) := by
  have := mapR_m (f := fun x => m_is_whole [x]) (g := fun x : D => x) (fun x => PyData.bool (wholeB x)) (xs := xs) fun x hx => whole_is (h x hx)
  rwa [List.map_id'] at this
theorem whole_all : ∀ {xs : List D}, xs.all wholeB = true → ∃ is : List Int, xs = is.map .int
  | [], _ => ⟨[], rfl⟩
  | x :: xs, h => by
    rw [List.all_cons, Bool.and_eq_true] at h
    obtain ⟨is, rfl⟩ := whole_all h.2
    cases x with
    | int i => exact ⟨i :: is, rfl⟩
    | _ => exact absurd h.1 (by simp [wholeB])
@[simp] theorem sortedtN (xs : List Nat) : pySorted [tN xs] = .ok (.list ((sortN xs).map nD)) := sortedN xs
@[simp] theorem eqL (a b : List Nat) : pyEq (.list (a.map nD)) (.list (b.map nD)) = .ok (.bool (decide (a = b))) := eqd_lN.eq (by decide) a b
@[simp] theorem neL (a b : List Nat) : pyNe (.list (a.map nD)) (.list (b.map nD)) = .ok (.bool (decide (a ≠ b))) := eqd_lN.ne (by decide) a b
@[simp] theorem rev_tN (xs : List Nat) : pyRev (tN xs) = .ok (tN xs.reverse) := by
  show R.ok (PyData.tuple (xs.map nD).reverse) = _
  rw [← List.map_reverse]
  rfl
def optT : Option (List Nat) → D
  | some l => tN l
  | none => .none
@[simp] theorem isNone_optT (o : Option (List Nat)) : isNone (optT o) = o.isNone := by cases o <;> rfl
end TP
local macro_rules
  | `(tactic| simp! only $[$l:location]?) => `(tactic| simp only [TP.okb, TP.int_lit, TP.tN_def, TP.nox_bind, TP.bind_as, TP.noxo, TP.nox_nox, TP.nox_no', TL.R.bind_ok, TP.eqN, TP.neN, TP.ltN, TP.leN, TP.gtN, TP.geN, TP.addN, TP.minN, TP.maxN, TP.truN, TP.truB, TP.asBB, TP.asIntN, TP.partN, TP.nl_okN, TP.nl_bool, TP.lstD_ok, TP.items_l, TP.items_t, TP.items_tN, TP.len_l, TP.len_t, TP.len_tN, TP.tuple_l, TP.tuple_t, TP.list_l, TP.list_t, TP.list_tN, TP.ix0, TP.ix1, TP.ix2, TP.ix0l, TP.ix1l, TP.inLN, TP.inTN, TP.ninLN, TP.ninTN, TP.inLT, TP.inTT, TP.ninLT, TP.ninTT, TP.eqT, TP.neT, TP.eqT0, TP.neT0, TP.eqL0, TP.neL0, TP.unp2_t, TP.unp3_t, TP.sl_to, TP.sl_from, TP.sl_tol, TP.sl_froml, TP.sl_totN, TP.sl_fromtN, TP.sortedN, decide_eq_true_eq, Bool.false_eq_true, if_true, if_false, List.length_map, List.length_range, TP.nl_tN, TP.nf_ok, TP.unp2_pN, TP.ix0p, TP.ix1p, TP.eqP, TP.nf_okP, TP.nf_okT, TP.nl_okP, TP.neL0P, TP.eqL0P, TP.neL0T, TP.eqL0T, TP.inLP, TP.inTP, TP.any_m, TP.all_m, TP.is_none, TP.isnot_none, TP.isNone_n, TP.isNone_N, TP.isNone_T, TP.isNone_t, TP.isNone_l, TP.thenO_nx, TP.thenO_rt, Bool.not_true, Bool.not_false, TP.is_tuple_none, TP.is_tuple_bool, TP.is_tuple_int, TP.is_tuple_str, TP.is_tuple_list, TP.is_tuple_tuple, TP.is_tuple_dict, TP.is_tuple_N, TP.is_tuple_T, TP.is_tuple_P, TP.is_list_none, TP.is_list_bool, TP.is_list_int, TP.is_list_str, TP.is_list_list, TP.is_list_tuple, TP.is_list_dict, TP.is_list_N, TP.is_list_T, TP.is_list_P, TP.is_int_none, TP.is_int_bool, TP.is_int_int, TP.is_int_str, TP.is_int_list, TP.is_int_tuple, TP.is_int_dict, TP.is_int_N, TP.is_int_T, TP.is_int_P, TP.is_bool_none, TP.is_bool_bool, TP.is_bool_int, TP.is_bool_str, TP.is_bool_list, TP.is_bool_tuple, TP.is_bool_dict, TP.is_bool_N, TP.is_bool_T, TP.is_bool_P, TP.is_str_none, TP.is_str_bool, TP.is_str_int, TP.is_str_str, TP.is_str_list, TP.is_str_tuple, TP.is_str_dict, TP.is_str_N, TP.is_str_T, TP.is_str_P, TP.is_seq_none, TP.is_seq_bool, TP.is_seq_int, TP.is_seq_str, TP.is_seq_list, TP.is_seq_tuple, TP.is_seq_dict, TP.is_seq_N, TP.is_seq_T, TP.is_seq_P, TP.zip_ll, TP.zip_tt, TP.zip_lt, TP.zip_tl, TP.upto_N, TP.whole_N, TP.enum_t, TP.enum_l, TP.ix0Lm, TP.ix0Tm, TP.neg1, TP.ix_last, TP.ix_lastT, TP.sortedtN, TP.eqL, TP.neL, TP.rev_tN, TP.isNone_optT] $[$l:location]?)
  | `(tactic| simp! only [$xs,*] $[$l:location]?) => `(tactic| simp only [TP.okb, TP.int_lit, TP.tN_def, TP.nox_bind, TP.bind_as, TP.noxo, TP.nox_nox, TP.nox_no', TL.R.bind_ok, TP.eqN, TP.neN, TP.ltN, TP.leN, TP.gtN, TP.geN, TP.addN, TP.minN, TP.maxN, TP.truN, TP.truB, TP.asBB, TP.asIntN, TP.partN, TP.nl_okN, TP.nl_bool, TP.lstD_ok, TP.items_l, TP.items_t, TP.items_tN, TP.len_l, TP.len_t, TP.len_tN, TP.tuple_l, TP.tuple_t, TP.list_l, TP.list_t, TP.list_tN, TP.ix0, TP.ix1, TP.ix2, TP.ix0l, TP.ix1l, TP.inLN, TP.inTN, TP.ninLN, TP.ninTN, TP.inLT, TP.inTT, TP.ninLT, TP.ninTT, TP.eqT, TP.neT, TP.eqT0, TP.neT0, TP.eqL0, TP.neL0, TP.unp2_t, TP.unp3_t, TP.sl_to, TP.sl_from, TP.sl_tol, TP.sl_froml, TP.sl_totN, TP.sl_fromtN, TP.sortedN, decide_eq_true_eq, Bool.false_eq_true, if_true, if_false, List.length_map, List.length_range, TP.nl_tN, TP.nf_ok, TP.unp2_pN, TP.ix0p, TP.ix1p, TP.eqP, TP.nf_okP, TP.nf_okT, TP.nl_okP, TP.neL0P, TP.eqL0P, TP.neL0T, TP.eqL0T, TP.inLP, TP.inTP, TP.any_m, TP.all_m, TP.is_none, TP.isnot_none, TP.isNone_n, TP.isNone_N, TP.isNone_T, TP.isNone_t, TP.isNone_l, TP.thenO_nx, TP.thenO_rt, Bool.not_true, Bool.not_false, TP.is_tuple_none, TP.is_tuple_bool, TP.is_tuple_int, TP.is_tuple_str, TP.is_tuple_list, TP.is_tuple_tuple, TP.is_tuple_dict, TP.is_tuple_N, TP.is_tuple_T, TP.is_tuple_P, TP.is_list_none, TP.is_list_bool, TP.is_list_int, TP.is_list_str, TP.is_list_list, TP.is_list_tuple, TP.is_list_dict, TP.is_list_N, TP.is_list_T, TP.is_list_P, TP.is_int_none, TP.is_int_bool, TP.is_int_int, TP.is_int_str, TP.is_int_list, TP.is_int_tuple, TP.is_int_dict, TP.is_int_N, TP.is_int_T, TP.is_int_P, TP.is_bool_none, TP.is_bool_bool, TP.is_bool_int, TP.is_bool_str, TP.is_bool_list, TP.is_bool_tuple, TP.is_bool_dict, TP.is_bool_N, TP.is_bool_T, TP.is_bool_P, TP.is_str_none, TP.is_str_bool, TP.is_str_int, TP.is_str_str, TP.is_str_list, TP.is_str_tuple, TP.is_str_dict, TP.is_str_N, TP.is_str_T, TP.is_str_P, TP.is_seq_none, TP.is_seq_bool, TP.is_seq_int, TP.is_seq_str, TP.is_seq_list, TP.is_seq_tuple, TP.is_seq_dict, TP.is_seq_N, TP.is_seq_T, TP.is_seq_P, TP.zip_ll, TP.zip_tt, TP.zip_lt, TP.zip_tl, TP.upto_N, TP.whole_N, TP.enum_t, TP.enum_l, TP.ix0Lm, TP.ix0Tm, TP.neg1, TP.ix_last, TP.ix_lastT, TP.sortedtN, TP.eqL, TP.neL, TP.rev_tN, TP.isNone_optT, $xs,*] $[$l:location]?)
/-! the plain layer: heads, loops, orders -/
namespace TP
open PySem PySem.Spec PyProof.Rows L2 TL JT
def hd (hs : List (List Nat)) (i : Nat) : List Nat := hs.getD i []
/-- heads of bounded size -/
structure Sm (hs : List (List Nat)) : Prop where
  n : hs.length ≤ 64
  h : ∀ h ∈ hs, h.length ≤ 64
theorem hd_mem {hs : List (List Nat)} {i : Nat} (h : i < hs.length) : hd hs i ∈ hs := by
  unfold hd
  rw [List.getD_eq_getElem?_getD, List.getElem?_eq_getElem h]
  exact List.getElem_mem _
theorem Sm.hd {hs : List (List Nat)} (s : Sm hs) (i : Nat) : (hd hs i).length ≤ 64 := by
  by_cases h : i < hs.length
  · exact s.h _ (hd_mem h)
  · unfold TP.hd
    rw [List.getD_eq_getElem?_getD, List.getElem?_eq_none (by omega)]
    exact Nat.zero_le _
theorem ixHd {hs : List (List Nat)} {i : Nat} (h : i < hs.length) : pyIx (.tuple (hs.map tN)) (nD i) = .ok (tN (hd hs i)) := ixTm [] h
theorem thenSat {A J : Type} {m : R (Oc J)} {r : D → D → A} {k : J → R A} {P : Oc J → Prop} {Q : A → Prop} (h : Sat m P) (h1 : ∀ j, P (.nx j) → Sat (k j) Q) (h2 : ∀ t b, P (.rt t b) → Q (r t b)) (h3 : ∀ j, ¬ P (.bk j)) : Sat (thenO m r k) Q := by
  obtain ⟨o, rfl, ho⟩ := h
  cases o with
  | nx j => exact h1 j ho
  | rt t b => exact ⟨_, rfl, h2 t b ho⟩
  | bk j => exact absurd ho (h3 j)
theorem eqd_int : EqD 0 PyData.int := ⟨fun a => fitk_int a, fun a b => by rw [eqv_int]; simp⟩
theorem natsOf_neg : ∀ {is : List Int}, natsOf (is.map PyData.int) = none → ∃ i ∈ is, i < 0
  | [], h => nomatch h
  | i :: is, h => by
    by_cases hi : i < 0
    · exact ⟨i, List.mem_cons_self, hi⟩
    · rw [List.map_cons, natsOf] at h
      have e : natOf (.int i) = some i.toNat := by simp only [natOf]; rw [if_pos (by omega)]
      cases h2 : natsOf (is.map PyData.int) with
      | none =>
        obtain ⟨j, hj, hj2⟩ := natsOf_neg h2
        exact ⟨j, List.mem_cons_of_mem _ hj, hj2⟩
      | some o => rw [e, h2] at h; cases h
/-- things, one after another; the state holds its own -/
theorem foldO_things {J : Type} {mb : J → D → R (Oc J)} {I : J → Prop} {P : D → Prop} : ∀ {xs : List D} {j : J}, (∀ x ∈ xs, P x) → (∀ j x, I j → P x → Sat (mb j x) fun o => ∃ j', o = Oc.nx j' ∧ I j') → I j → Sat (foldO (fun d => R.ok d) mb xs j) fun o => ∃ j', o = Oc.nx j' ∧ I j'
  | [], j, _, _, hi => ⟨_, rfl, j, rfl, hi⟩
  | x :: xs, j, hp, hm, hi => by
    rw [foldO, nox_ok, okb]
    obtain ⟨_, e, j', rfl, hi'⟩ := hm j x hi (hp x List.mem_cons_self)
    rw [e, okb]
    exact foldO_things (fun y hy => hp y (List.mem_cons_of_mem _ hy)) hm hi'
theorem thenThings {A J : Type} {m : R (Oc J)} {r : D → D → A} {k : J → R A} {I : J → Prop} {Q : A → Prop} (h : Sat m fun o => ∃ j', o = Oc.nx j' ∧ I j') (h1 : ∀ j, I j → Sat (k j) Q) : Sat (thenO m r k) Q :=
  thenSat h (fun j ⟨_, e, i⟩ => by cases e; exact h1 _ i) (fun _ _ ⟨_, e, _⟩ => nomatch e) (fun _ ⟨_, e, _⟩ => nomatch e)
theorem fit_optT (o : Option (List Nat)) : fitk 1 (optT o) := by
  cases o with
  | none => exact fitk_none.mono (by decide)
  | some l => exact eqd_tN.fit l
@[simp] theorem popD_last (xs : List D) (d : D) : popD (.list (xs ++ [d])) = .ok (d, .list xs) := by
  simp only [popD]
  rw [show (xs ++ [d]).length - 1 = xs.length by simp, List.getElem?_append_right (Nat.le_refl _)]
  simp
theorem enumD_hs (hs : List (List Nat)) : enumD (hs.map tN) = (List.range hs.length).map fun k => .tuple [nD k, tN (hd hs k)] := enumD_map tN [] hs
theorem lay0 (m : Nat) (hs : List (List Nat)) : pyIx (layD m hs) (nD 0) = .ok (nD m) := ix0 _ _
theorem lay1 (m : Nat) (hs : List (List Nat)) : pyIx (layD m hs) (nD 1) = .ok (.tuple (hs.map tN)) := ix1 _ _ _
theorem index_is {o : List Nat} {c : Nat} (h : c ∈ o) : pyIndex (tN o) (nD c) = .ok (nD (o.idxOf c)) := by
  simp only [tN, pyIndex]
  rw [if_pos ⟨(eqd_nD.fit c).fit (by decide), (eqd_tN.fit o).fit (by decide)⟩]
  have : TL.placeOf (o.map nD) (nD c) = some (o.idxOf c) := by
    unfold TL.placeOf
    rw [List.findIdx?_map]
    have e : ((fun z => PyData.eqv z (nD c)) ∘ nD) = fun z => z == c := by
      funext z
      show PyData.eqv (nD z) (nD c) = (z == c)
      rw [Bool.eq_iff_iff, eqd_nD.eqv, beq_iff_eq]
    rw [e]
    have h2 : o.idxOf c < o.length := List.idxOf_lt_length_of_mem h
    rw [List.findIdx?_eq_some_iff_findIdx_eq]
    exact ⟨h2, rfl⟩
  rw [this]
  rfl
@[simp] theorem sqOk_T (xs : List D) : sqOk (.tuple xs) = .ok () := id (Eq.refl _)
@[simp] theorem sqOk_tN (xs : List Nat) : sqOk (tN xs) = .ok () := id (Eq.refl _)
end TP
/-! the plain layer: layouts looked at -/
namespace TP
open PySem PySem.Spec PyProof.Rows L2 TL JT
/-! ### is it a layout -/
@[simp] theorem sl_m1 (xs : List D) : pySl (.tuple xs) none (some (-1)) = .ok (.tuple xs.dropLast) := by
  rw [pySl]
  unfold TL.cutD
  rw [HT.sIx_none, List.drop_zero, Nat.sub_zero, List.dropLast_eq_take]
  congr 3
  unfold HT.sIx
  simp only []
  rw [if_pos (by decide)]
  omega
@[simp] theorem sl_m1N (xs : List Nat) : pySl (tN xs) none (some (-1)) = .ok (tN xs.dropLast) := by
  unfold tN
  rw [sl_m1, List.map_dropLast]
@[simp] theorem zipNN (xs ys : List Nat) : pyZip [tN xs, tN ys] = .ok ((xs.zip ys).map pN) := by
  show R.ok (pairs (xs.map nD) (ys.map nD)) = _
  unfold pairs
  rw [List.zipWith_map, List.zip, List.map_zipWith]
  rfl
end TP
/-! the plain layer: boxes and layouts of the second kind -/
namespace TP
open PySem PySem.Spec PyProof.Rows L2 TL JT
open Builtin.Int (intBits)
theorem take2_is (b : Int) (n : Nat) (h : 0 < n) (h2 : n < 1073741824) : m_law_take_2 (.list [.int b]) [nD n] = .ok (.int (b % n), .list [.int (b / n)]) := by
  rw [m_law_take_2]
  have e1 : pyIx (.list [.int b]) (nD 0) = .ok (.int b) := ix0l _ _
  have e2 : pyDivmod [.int b, nD n] = .ok (.tuple [.int (b / n), .int (b % n)]) := by
    unfold nD
    simp only [pyDivmod]
    rw [if_pos ⟨by omega, by omega⟩]
  have e3 : nl (.ok (.tuple [.int (b / n), .int (b % n)])) = .ok (.tuple [.int (b / n), .int (b % n)]) := nl_ok rfl
  have e4 : setD (.list [.int b]) (nD 0) (.int (b / n)) = .ok (.list [.int (b / n)]) := rfl
  simp! only [e1, e2, e3, e4]
theorem take2_sat {s : D} {n : Nat} (hb : IsBox s) (h : 0 < n) (h2 : n < 1073741824) : Sat (m_law_take_2 s [nD n]) (Drawn n) := by
  obtain ⟨b, rfl⟩ := hb
  rw [take2_is b n h h2]
  refine ⟨_, rfl, ⟨(b % n).toNat, ?_, ?_⟩, _, rfl⟩
  · have := Int.emod_lt_of_pos b (show (0 : Int) < n by omega)
    have := Int.emod_nonneg b (show (n : Int) ≠ 0 by omega)
    omega
  · have := Int.emod_nonneg b (show (n : Int) ≠ 0 by omega)
    show PyData.int (b % n) = .int _
    rw [Int.toNat_of_nonneg this]
theorem take2_nox {s : D} {n : Nat} (hb : IsBox s) (h : 0 < n) (h2 : n < 1073741824) : Sat (nox (m_law_take_2 s [nD n])) (Drawn n) := (take2_sat hb h h2).nox
/-- a cell of a small script -/
theorem cell_small (ns : List Int) (k : Nat) (hk : k ≤ 1000) (hs : Small ns) : ∃ c : Int, m_law_cell [scrD ns, nD k] = .ok (.int c) ∧ c.natAbs < 2 ^ 1048576 := by
  rw [m_law_cell]
  have e : TL.pyLen [scrD ns] = .ok (nD ns.length) := by
    show R.ok (PyData.int ((ns.map PyData.int).length : Nat)) = _
    rw [List.length_map]
    rfl
  simp! only [e]
  by_cases hl : k < ns.length
  · rw [if_pos hl]
    have h2 : (ns.map PyData.int)[k]? = some (.int ns[k]) := by rw [List.getElem?_map, List.getElem?_eq_getElem hl]; rfl
    refine ⟨ns[k], ?_, intBits_le_iff.mp (hs _ (List.getElem_mem hl))⟩
    show pyIx (.dict [(.none, .list (ns.map .int))]) (.int k) = _
    simp only [pyIx, atI_nat h2]
  · rw [if_neg hl]
    refine ⟨6151 * (k : Int) + 29, ?_, ?_⟩
    · unfold nD
      rw [pyMul_of (a := 13) (b := 10) (by decide) (by rw [Int.natAbs_natCast]; omega) (by decide)]
      rfl
    · have h1 : (6151 * (k : Int) + 29).natAbs < 2 ^ 24 := by omega
      exact Nat.lt_of_lt_of_le h1 (Nat.pow_le_pow_right (by decide) (by decide))
theorem bit_add {i j : Int} {a : Nat} (h1 : i.natAbs < 2 ^ a) (h2 : j.natAbs < 2 ^ a) : (i + j).natAbs < 2 ^ (a + 1) := by
  rw [Nat.pow_succ]
  omega
theorem bit_mul {i j : Int} {a b : Nat} (h1 : i.natAbs < 2 ^ a) (h2 : j.natAbs < 2 ^ b) : (i * j).natAbs < 2 ^ (a + b) := by
  rw [Int.natAbs_mul, Nat.pow_add]
  exact Nat.mul_lt_mul'' h1 h2
theorem bit_le {i : Int} {a b : Nat} (h : i.natAbs < 2 ^ a) (hab : a ≤ b) : i.natAbs < 2 ^ b := Nat.lt_of_lt_of_le h (Nat.pow_le_pow_right (by decide) hab)
theorem mix_is {c : Int} {k : Nat} (hc : c.natAbs < 2 ^ 1048576) (hk : k ≤ 1000) : ∃ r : Int, m_law_mix [.int c, nD k] = .ok (.int r) ∧ r.natAbs < 2 ^ 31 := by
  rw [m_law_mix]
  have hk' : ((k : Nat) : Int).natAbs < 2 ^ 10 := by omega
  have b1 : (c + 1).natAbs < 2 ^ 1048577 := bit_add hc (bit_le (a := 1) (by decide) (by decide))
  have b2 : ((c + 1) * 40692).natAbs < 2 ^ (1048577 + 16) := bit_mul b1 (by decide)
  have b3 : (104729 * (k : Int)).natAbs < 2 ^ (17 + 10) := bit_mul (by decide) hk'
  have b4 : ((c + 1) * 40692 + 104729 * (k : Int)).natAbs < 2 ^ (1048577 + 16 + 1) := bit_add b2 (bit_le b3 (by decide))
  unfold nD
  have e1 : ∀ i j : Int, pyAdd (.int i) (.int j) = .ok (.int (i + j)) := fun _ _ => rfl
  simp only [okb, e1]
  rw [pyMul_of (i := c + 1) (j := 40692) b1 (b := 16) (by decide) (by decide), okb, pyMul_of (i := 104729) (j := (k : Int)) (a := 17) (by decide) hk' (by decide), okb, e1, okb, pyMul_of b4 b4 (by decide), okb, pyMod_of (by decide), okb, e1, okb, e1, okb]
  generalize hn : ((c + 1) * 40692 + 104729 * (k : Int)) * ((c + 1) * 40692 + 104729 * (k : Int)) % 2147483399 = n
  have h1 : 0 ≤ n := by rw [← hn]; exact Int.emod_nonneg _ (by decide)
  have h2 : n < 2147483399 := by rw [← hn]; exact Int.emod_lt_of_pos _ (by decide)
  rw [pyMul_of (i := n + (k : Int)) (j := n + (k : Int) + 31) (a := 33) (b := 33) (by omega) (by omega) (by decide), okb, pyMod_of (by decide), okb]
  refine ⟨_, rfl, ?_⟩
  have h3 := Int.emod_nonneg ((n + (k : Int)) * (n + (k : Int) + 31)) (show (2147483563 : Int) ≠ 0 by decide)
  have h4 := Int.emod_lt_of_pos ((n + (k : Int)) * (n + (k : Int) + 31)) (show (0 : Int) < 2147483563 by decide)
  generalize ((n + (k : Int)) * (n + (k : Int) + 31)) % 2147483563 = r at h3 h4 ⊢
  omega
theorem box2_is (ns : List Int) (k : Nat) (hk : k ≤ 1000) (hs : Small ns) : Sat (m_law_box_2 [scrD ns, nD k]) IsBox := by
  obtain ⟨c, ec, hc⟩ := cell_small ns k hk hs
  rw [m_law_box_2]
  have m2 : pyMod (.int c) (nD 2) = .ok (.int (c % 2)) := mod_2 c
  have d2 : pyDiv (.int c) (nD 2) = .ok (.int (c / 2)) := div_2 c
  have q2 : pyEq (.int (c % 2)) (nD 0) = .ok (.bool (decide (c % 2 = 0))) := pyEq_int _ _
  simp! only [ec, m2, d2, q2, range1 (show 24 ≤ 16777216 by decide)]
  refine Sat.ite (fun _ => ⟨_, rfl, _, rfl⟩) fun _ => ?_
  refine Sat.bind (foldR_inv (i := 0) (h := fun j : Nat => nD j) (P := fun i j => ∃ a : Int, j = .int a ∧ a.natAbs < 2 ^ (64 * i + 1)) (fun _ _ => rfl) (fun i j x hx hp => ?_) ⟨0, rfl, by decide⟩) fun j ⟨a, e, _⟩ => ?_
  · obtain ⟨a, rfl, h1⟩ := hp
    have hx24 : i < 24 ∧ x < 24 := by
      obtain ⟨q1, q2⟩ := List.getElem?_eq_some_iff.mp hx
      simp only [List.length_range] at q1
      rw [List.getElem_range] at q2
      exact ⟨by omega, by omega⟩
    obtain ⟨r, er, hr⟩ := mix_is (k := x) hc (by omega)
    have e2 : pyMul (.int a) (nD 2147483647) = .ok (.int (a * 2147483647)) := pyMul_of (a := 64 * (0 + i) + 1) (b := 32) h1 (by decide) (by omega)
    have b1 : (a * 2147483647).natAbs < 2 ^ (64 * (0 + i) + 1 + 32) := bit_mul h1 (by decide)
    have b2 : (a * 2147483647 + r).natAbs < 2 ^ (64 * (0 + i) + 1 + 32 + 1) := bit_add b1 (bit_le hr (by omega))
    simp! only [e2, er]
    exact ⟨_, rfl, _, rfl, bit_le b2 (by omega)⟩
  · rw [e]
    exact ⟨_, rfl, _, rfl⟩
/-! ### layouts -/
def HV (m : Nat) (h : List Nat) : Prop := h ≠ [] ∧ h.Pairwise (· < ·) ∧ ∀ c ∈ h, c < m
def HVs (m : Nat) (d : D) (n : Nat) : Prop := ∃ hs : List (List Nat), d = .list (hs.map tN) ∧ hs.length = n ∧ ∀ h ∈ hs, HV m h
theorem filJ_invQ {α S : Type} {p : D → S → R (Bool × S)} {f : D → S → R (D × S)} {g k : α → D} {I : S → Prop} {Q : α → Prop} : ∀ {xs : List α} {s : S}, (∀ x ∈ xs, ∀ s, I s → Sat (p (g x) s) fun r => (r.1 = true → Q x) ∧ I r.2) → (∀ x ∈ xs, ∀ s, I s → Sat (f (g x) s) fun r => r.1 = k x ∧ I r.2) → I s → Sat (filJ p f (xs.map g) s) fun r => ∃ ys : List α, ys.Sublist xs ∧ (∀ y ∈ ys, Q y) ∧ r.1 = ys.map k ∧ I r.2
  | [], s, _, _, i => ⟨_, rfl, [], List.Sublist.refl _, fun _ h => (nomatch h), rfl, i⟩
  | x :: xs, s, hp, hf, i => by
    rw [List.map_cons, filJ]
    refine Sat.bind (hp x List.mem_cons_self s i) fun r ⟨hq, i1⟩ => ?_
    have hp' := fun y (hy : y ∈ xs) => hp y (List.mem_cons_of_mem _ hy)
    have hf' := fun y (hy : y ∈ xs) => hf y (List.mem_cons_of_mem _ hy)
    refine Sat.ite (fun hr => ?_) fun _ => ?_
    · refine Sat.bind (hf x List.mem_cons_self r.2 i1) fun r2 ⟨e2, i2⟩ => ?_
      refine Sat.bind (filJ_invQ hp' hf' i2) fun r3 ⟨ys, h1, h0, h2, h3⟩ => ?_
      refine ⟨_, rfl, x :: ys, h1.cons₂ x, fun y hy => ?_, by rw [List.map_cons, ← e2, ← h2], h3⟩
      rcases List.mem_cons.mp hy with e | e
      · rw [e]; exact hq hr
      · exact h0 y e
    · exact (filJ_invQ hp' hf' i1).mono fun r3 ⟨ys, h1, h0, h2, h3⟩ => ⟨ys, h1.cons x, h0, h2, h3⟩
theorem head2_sat {s : D} {m : Nat} (hb : IsBox s) (h1 : 1 ≤ m) (h7 : m ≤ 64) : Sat (m_law_head s [nD m]) fun p => (∃ h, p.1 = tN h ∧ HV m h) ∧ IsBox p.2 := by
  rw [m_law_head]
  simp! only [range1 (show m ≤ 16777216 by omega)]
  refine Sat.bind (filJ_inv (I := IsBox) (k := nD) (fun x _ s hs => Sat.bind (take2_sat hs (show 0 < 3 by decide) (by decide)) fun p ⟨⟨k, hk, e⟩, hb⟩ => by
    rw [e]
    simp! only
    exact ⟨_, rfl, hb⟩) (fun x _ s hs => ⟨_, rfl, rfl, hs⟩) hb).nox ?_
  rintro ⟨_, s1⟩ ⟨ys, sub, rfl, b1⟩
  have hv : ys ≠ [] → HV m ys := fun h => ⟨h, List.pairwise_lt_range.sublist sub, fun c hc => List.mem_range.mp (sub.subset hc)⟩
  simp! only
  by_cases he : ys = []
  · rw [if_pos he]
    simp! only
    refine Sat.bind (take2_nox b1 (by omega) (by omega)) ?_
    rintro ⟨_, s2⟩ ⟨⟨k, hk, rfl⟩, b2⟩
    simp! only
    exact ⟨_, rfl, ⟨[k], rfl, by simp, by simp, fun c hc => by rw [List.mem_singleton.mp hc]; exact hk⟩, b2⟩
  · rw [if_neg he]
    simp! only
    exact ⟨_, rfl, ⟨ys, rfl, hv he⟩, b1⟩
theorem pyInt_b (b : Bool) : TL.pyInt [.bool b] = .ok (nD (if b then 1 else 0)) := by cases b <;> rfl
theorem grown_sat {s : D} {m n : Nat} (hb : IsBox s) (h1 : 1 ≤ m) (h7 : m ≤ 64) (n1 : 1 ≤ n) (n6 : n ≤ 64) : Sat (m_law_grown s [nD m, nD n]) fun p => HVs m p.1 n ∧ IsBox p.2 := by
  rw [m_law_grown]
  simp! only [subN n1, range1 (show n - 1 ≤ 16777216 by omega), range1 (show m ≤ 16777216 by omega)]
  refine Sat.bind (head2_sat hb h1 h7).nox ?_
  rintro ⟨_, s1⟩ ⟨⟨h0, rfl, v0⟩, b1⟩
  refine Sat.bind (P := fun j : D × D => IsBox j.1 ∧ HVs m j.2 n) ?_ fun j ⟨bj, vj⟩ => ⟨_, rfl, vj, bj⟩
  refine (foldR_inv (i := 0) (h := nD) (P := fun i (j : D × D) => IsBox j.1 ∧ HVs m j.2 (i + 1)) (fun _ _ => rfl) (fun i j x hx hp => ?_) ⟨b1, [h0], rfl, rfl, by simpa using v0⟩).mono fun j hj => by
    rw [Nat.zero_add, List.length_range, show n - 1 + 1 = n by omega] at hj
    exact hj
  have hi : i < n - 1 := by
    have := (List.getElem?_eq_some_iff.mp hx).1
    rwa [List.length_range] at this
  rw [Nat.zero_add] at hp ⊢
  obtain ⟨jb, jd⟩ := j
  obtain ⟨bj, hs, rfl, lj, vj⟩ := hp
  simp! only
  refine Sat.bind (take2_nox bj (by omega) (by omega)) ?_
  rintro ⟨_, s2⟩ ⟨⟨w, hw, rfl⟩, b2⟩
  simp! only [subN (show 1 ≤ hs.length by omega)]
  refine Sat.bind (take2_nox b2 (show 0 < hs.length by omega) (by omega)) ?_
  rintro ⟨_, s3⟩ ⟨⟨k, hk, rfl⟩, b3⟩
  simp! only [pyInt_b]
  refine Sat.bind (pick_nox (P := fun d => ∃ q, q < hs.length ∧ d = nD q) ?_ (by split <;> simp)) ?_
  · simp only [List.forall_mem_cons, List.not_mem_nil, false_imp_iff, implies_true, and_true]
    exact ⟨⟨_, by omega, rfl⟩, k, hk, rfl⟩
  rintro _ ⟨q, hq, rfl⟩
  rw [ixOm [] hq]
  simp! only
  have hbm : hs.getD q [] ∈ hs := by
    rw [List.getD_eq_getElem?_getD, List.getElem?_eq_getElem hq]
    exact List.getElem_mem _
  generalize hs.getD q [] = base at hbm
  have vb := vj base hbm
  refine Sat.bind (filJ_inv (I := IsBox) (k := nD) (fun x _ s hs => Sat.bind (take2_sat hs (show 0 < 3 by decide) (by decide)) fun p ⟨⟨k, hk, e⟩, hb⟩ => by
    rw [e]
    simp! only
    exact ⟨_, rfl, hb⟩) (fun x _ s hs => ⟨_, rfl, rfl, hs⟩) b3).nox ?_
  rintro ⟨_, s4⟩ ⟨kept, sub1, rfl, b4⟩
  rw [filR_m (fun c => decide (hs.filter (fun h => decide (c ∈ h)) ≠ [])) nD (fun c _ => by
    rw [filR_m (fun h => decide (c ∈ h)) tN (fun h _ => by simp! only) (fun _ _ _ => rfl)]
    simp! only) (fun _ _ _ => rfl)]
  simp! only
  generalize hmet : (List.range m).filter (fun c => decide (hs.filter (fun h => decide (c ∈ h)) ≠ [])) = met
  have inmet : ∀ c ∈ base, c ∈ met := fun c hc => by
    rw [← hmet, List.mem_filter, List.mem_range, decide_eq_true_iff]
    refine ⟨vb.2.2 c hc, fun z => ?_⟩
    rw [List.filter_eq_nil_iff] at z
    exact z base hbm (decide_eq_true hc)
  refine Sat.bind (filJ_invQ (I := IsBox) (k := nD) (Q := fun c => c ∉ met) (fun x _ s hs => by
    simp! only
    refine Sat.ite (fun hx => ?_) fun _ => ⟨_, rfl, (fun z => nomatch z), hs⟩
    refine Sat.bind (take2_sat hs (show 0 < 2 by decide) (by decide)) fun p ⟨⟨k, hk, e⟩, hb⟩ => ?_
    rw [e]
    simp! only
    exact ⟨_, rfl, fun _ => hx, hb⟩) (fun x _ s hs => ⟨_, rfl, rfl, hs⟩) b4).nox ?_
  rintro ⟨_, s5⟩ ⟨fresh, sub2, hfr, rfl, b5⟩
  have kl : kept.length ≤ 64 := by
    have := sub1.length_le
    have := head_len vb.2.1 vb.2.2
    omega
  have fl : fresh.length ≤ 64 := by
    have := sub2.length_le
    simp at this
    omega
  have ea : pyAdd (.list (kept.map nD)) (.list (fresh.map nD)) = .ok (.list ((kept ++ fresh).map nD)) := by
    rw [addL (by simp; omega), List.map_append]
  have hnd : (kept ++ fresh).Nodup := by
    rw [List.nodup_append]
    refine ⟨(vb.2.1.sublist sub1).imp fun h => Nat.ne_of_lt h, (List.nodup_range.sublist sub2), fun a ha b hb e => ?_⟩
    subst e
    exact hfr a hb (inmet a (sub1.subset ha))
  have hlt : ∀ c ∈ kept ++ fresh, c < m := fun c hc => by
    rcases List.mem_append.mp hc with h | h
    · exact vb.2.2 c (sub1.subset h)
    · exact List.mem_range.mp (sub2.subset h)
  simp! only [ea]
  have fin : ∀ (h : List Nat) (s : D), HV m h → IsBox s → Sat ((appD (.list (hs.map tN)) (tN h)).bind fun j275 => R.ok (s, j275)) fun j : D × D => IsBox j.1 ∧ HVs m j.2 (i + 1 + 1) := fun h s vh bs => by
    rw [appD_of (by simp; omega), okb]
    refine ⟨_, rfl, bs, hs ++ [h], by simp, by simp [lj], fun g hg => ?_⟩
    rcases List.mem_append.mp hg with e | e
    · exact vj g e
    · rw [List.mem_singleton.mp e]; exact vh
  by_cases he : sortN (kept ++ fresh) = []
  · rw [if_pos he]
    have hb0 : 0 < base.length := List.length_pos_iff.mpr vb.1
    have := head_len vb.2.1 vb.2.2
    simp! only
    refine Sat.bind (take2_nox b5 hb0 (by omega)) ?_
    rintro ⟨_, s6⟩ ⟨⟨p, hp, rfl⟩, b6⟩
    simp! only [ixtN hp]
    have hin : base.getD p 0 ∈ base := by
      rw [List.getD_eq_getElem?_getD, List.getElem?_eq_getElem hp]
      exact List.getElem_mem _
    exact fin [base.getD p 0] s6 ⟨by simp, by simp, fun c hc => by rw [List.mem_singleton.mp hc]; exact vb.2.2 _ hin⟩ b6
  · rw [if_neg he]
    simp! only
    exact fin (sortN (kept ++ fresh)) s5 ⟨he, sortN_lt hnd, fun c hc => hlt c (sortN_mem.mp hc)⟩ b5
theorem barred_sat {s : D} {m : Nat} (hb : IsBox s) (h3 : 3 ≤ m) (h7 : m ≤ 64) : Sat (m_law_barred s [nD m]) fun p => (∃ n, 3 ≤ n ∧ n ≤ 6 ∧ HVs m p.1 n) ∧ IsBox p.2 := by
  rw [m_law_barred]
  simp! only
  refine Sat.bind (P := fun p : Bool × D => (p.1 = false → 4 ≤ m) ∧ IsBox p.2) ?_ ?_
  · by_cases h : m = 3
    · rw [if_pos h]
      exact ⟨_, rfl, (fun z => nomatch z), hb⟩
    · rw [if_neg h, nox_bind]
      refine Sat.bind (take2_nox hb (by decide) (by decide)) ?_
      rintro ⟨_, s1⟩ ⟨⟨k, hk, rfl⟩, b1⟩
      simp! only
      exact ⟨_, rfl, (fun _ => by omega), b1⟩
  rintro ⟨b, s1⟩ ⟨h4, b1⟩
  refine Sat.ite (fun _ => ?_) fun hbf => ?_
  · have hv : 3 ≤ min 6 m ∧ min 6 m ≤ 6 ∧ min 6 m ≤ m := by omega
    generalize min 6 m = v at hv ⊢
    simp! only [subN (show 2 ≤ v by omega)]
    refine Sat.bind (take2_nox b1 (by omega) (by omega)) ?_
    rintro ⟨_, s4⟩ ⟨⟨k4, hk4, rfl⟩, b4⟩
    simp! only
    have hz : 3 ≤ 3 + k4 ∧ 3 + k4 ≤ 6 ∧ 3 + k4 ≤ m := by omega
    generalize 3 + k4 = z at hz ⊢
    simp! only [range1 (show z ≤ 16777216 by omega)]
    rw [mapR_map (k := fun o : Nat => tN ((List.range z).filter fun k => decide (k ≠ o))) (fun o _ => by
      rw [filR_map (q := fun k : Nat => decide (k ≠ o)) (k := nD) (fun k _ => by simp! only) (fun k _ _ => rfl)]
      simp! only)]
    refine ⟨_, rfl, ⟨z, hz.1, hz.2.1, (List.range z).map fun o => (List.range z).filter fun k => decide (k ≠ o), by rw [List.map_map]; rfl, by simp, fun h hh => ?_⟩, b4⟩
    obtain ⟨o, ho, rfl⟩ := List.mem_map.mp hh
    refine ⟨fun e => ?_, List.Pairwise.filter _ List.pairwise_lt_range, fun c hc => ?_⟩
    · have h1 : (if o = 0 then 1 else 0) ∈ (List.range z).filter fun k => decide (k ≠ o) := by
        rw [List.mem_filter, List.mem_range]
        split
        · exact ⟨by omega, decide_eq_true (by omega)⟩
        · exact ⟨by omega, decide_eq_true (by omega)⟩
      rw [e] at h1
      cases h1
    · have := List.mem_range.mp (List.mem_filter.mp hc).1
      omega
  · have hm4 := h4 (by simpa using hbf)
    have hv : 4 ≤ min 6 m ∧ min 6 m ≤ 6 ∧ min 6 m ≤ m := by omega
    generalize min 6 m = v at hv ⊢
    simp! only [subN (show 3 ≤ v by omega)]
    refine Sat.bind (take2_nox b1 (by omega) (by omega)) ?_
    rintro ⟨_, s4⟩ ⟨⟨k4, hk4, rfl⟩, b4⟩
    simp! only
    have hz : 4 ≤ 4 + k4 ∧ 4 + k4 ≤ 6 ∧ 4 + k4 ≤ m := by omega
    generalize 4 + k4 = z at hz ⊢
    simp! only [range1 (show z ≤ 16777216 by omega)]
    rw [mapR_map (k := fun k : Nat => tN (sortN [k, (k + 1) % z])) (fun k _ => by
      have e := sortedN [k, (k + 1) % z]
      simp only [List.map_cons, List.map_nil] at e
      simp! only [modN (show 0 < z by omega), e])]
    refine ⟨_, rfl, ⟨z, by omega, hz.2.1, (List.range z).map fun k => sortN [k, (k + 1) % z], by rw [List.map_map]; rfl, by simp, fun h hh => ?_⟩, b4⟩
    obtain ⟨k, hk, rfl⟩ := List.mem_map.mp hh
    have hk := List.mem_range.mp hk
    refine ⟨fun e => ?_, sortN_lt ?_, fun c hc => ?_⟩
    · have := sortN_length [k, (k + 1) % z]
      rw [e] at this
      cases this
    · have : (k + 1) % z ≠ k := by
        rcases Nat.lt_or_ge (k + 1) z with h | h
        · rw [Nat.mod_eq_of_lt h]; omega
        · rw [show k + 1 = z by omega, Nat.mod_self]; omega
      simp only [List.nodup_cons, List.mem_singleton, List.not_mem_nil, not_false_eq_true, List.nodup_nil, and_true]
      exact fun e => this e.symm
    · have := Nat.mod_lt (k + 1) (show 0 < z by omega)
      rcases List.mem_cons.mp (sortN_mem.mp hc) with e | e
      · omega
      · rw [List.mem_singleton.mp e]; omega
/-- an order drawn: each number once (the second kind of box) -/
theorem order2_drawn {s : D} {n : Nat} (hn : n ≤ 1000) (hb : IsBox s) :
    Sat (mapJ (fun d s => (lstD s.1).bind fun u => (nl (TL.pyLen [s.1])).bind fun a => (m_law_take_2 s.2 [a]).bind fun a => (popAtD s.1 a.1).bind fun q => R.ok (q.1, q.2, a.2)) ((List.range n).map nD) (PyData.list ((List.range n).map nD), s)) fun r => (∃ o : List Nat, o.Perm (List.range n) ∧ r.1 = o.map nD) ∧ IsBox r.2.2 := by
  have key : ∀ (k : Nat) (l : List Nat) (s : D) (xs : List D), xs.length = k → l.length = k → k ≤ 1000 → IsBox s → Sat (mapJ (fun (d : D) (s : D × D) => (lstD s.1).bind fun u => (nl (TL.pyLen [s.1])).bind fun a => (m_law_take_2 s.2 [a]).bind fun a => (popAtD s.1 a.1).bind fun q => R.ok (q.1, q.2, a.2)) xs (PyData.list (l.map nD), s)) fun r => (∃ o : List Nat, o.Perm l ∧ r.1 = o.map nD) ∧ IsBox r.2.2 := by
    intro k
    induction k with
    | zero =>
      intro l s xs hx hl _ hb
      rw [List.length_eq_zero_iff.mp hx, List.length_eq_zero_iff.mp hl]
      exact ⟨_, rfl, ⟨[], List.Perm.refl _, rfl⟩, hb⟩
    | succ k ih =>
      intro l s xs hx hl hk hb
      cases xs with
      | nil => cases hx
      | cons x xs =>
        rw [mapJ]
        simp! only
        refine Sat.bind (take2_sat hb (by omega) (by omega)) fun p ⟨⟨j, hj, e⟩, hb2⟩ => ?_
        rw [e, popAt_is 0 hj (by omega)]
        simp only [okb]
        refine Sat.bind (ih (l.eraseIdx j) p.2 xs (by simpa using hx) (by rw [List.length_eraseIdx, if_pos hj]; omega) (by omega) hb2) fun r ⟨⟨o, ho, e2⟩, hb3⟩ => ?_
        refine ⟨_, rfl, ⟨l.getD j 0 :: o, ?_, by rw [e2]; rfl⟩, hb3⟩
        have e3 : l.getD j 0 = l[j] := by rw [List.getD_eq_getElem?_getD, List.getElem?_eq_getElem hj]; rfl
        rw [e3]
        exact (ho.cons _).trans (perm_erase hj)
  exact key n (List.range n) s _ (by simp) (by simp) hn hb
theorem named2_sat {s : D} {m n : Nat} {d : D} (hb : IsBox s) (hm : m ≤ 64) (hn : n ≤ 64) (hd : HVs m d n) : Sat (m_law_named_2 s [nD m, d]) fun p => (∃ hs : List (List Nat), p.1 = .tuple (hs.map tN) ∧ hs.length = n ∧ ∀ h ∈ hs, HV m h) ∧ IsBox p.2 := by
  obtain ⟨hs, rfl, hl, hv⟩ := hd
  rw [m_law_named_2]
  simp! only [rgl1 (show m ≤ 16777216 by omega), range1 (show m ≤ 16777216 by omega)]
  refine Sat.bind (order2_drawn (by omega) hb).nox ?_
  rintro ⟨_, l0, s1⟩ ⟨⟨o, po, rfl⟩, b1⟩
  have ol : o.length = m := by simpa using po.length_eq
  have ond : o.Nodup := po.nodup_iff.mpr List.nodup_range
  have oin : ∀ c, c < m → o.getD c 0 < m ∧ ∀ e, e < m → o.getD c 0 = o.getD e 0 → c = e := fun c hc => by
    have hc' : c < o.length := by omega
    have g : o.getD c 0 = o[c] := by rw [List.getD_eq_getElem?_getD, List.getElem?_eq_getElem hc']; rfl
    refine ⟨by rw [g]; exact List.mem_range.mp (po.mem_iff.mp (List.getElem_mem hc')), fun e he h => ?_⟩
    have he' : e < o.length := by omega
    have g2 : o.getD e 0 = o[e] := by rw [List.getD_eq_getElem?_getD, List.getElem?_eq_getElem he']; rfl
    rw [g, g2] at h
    rw [← ond.idxOf_getElem c hc', ← ond.idxOf_getElem e he', h]
  simp! only
  rw [mapR_m (fun h => tN (sortN (h.map fun c => o.getD c 0))) (fun h hh => by
    simp! only
    rw [mapR_m (fun c => nD (o.getD c 0)) (fun c hc => ixLm 0 (by rw [ol]; exact (hv h hh).2.2 c hc))]
    rw [show h.map (fun c => nD (o.getD c 0)) = (h.map fun c => o.getD c 0).map nD from by rw [List.map_map]; rfl]
    simp! only)]
  simp! only
  have hv2 : ∀ h ∈ hs.map fun h => sortN (h.map fun c => o.getD c 0), HV m h := fun h hh => by
    obtain ⟨g, hg, rfl⟩ := List.mem_map.mp hh
    obtain ⟨g1, g2, g3⟩ := hv g hg
    refine ⟨fun z => ?_, sortN_lt ?_, fun c hc => ?_⟩
    · have := congrArg List.length z
      rw [sortN_length, List.length_map] at this
      exact g1 (List.length_eq_zero_iff.mp this)
    · unfold List.Nodup
      rw [List.pairwise_map]
      exact (List.Pairwise.and_mem.mp g2).imp fun ⟨ha, hb, h⟩ e => by
        have := (oin _ (g3 _ ha)).2 _ (g3 _ hb) e
        omega
    · obtain ⟨x, hx, rfl⟩ := List.mem_map.mp (sortN_mem.mp hc)
      exact (oin x (g3 x hx)).1
  have em : hs.map (fun h => tN (sortN (h.map fun c => o.getD c 0))) = (hs.map fun h => sortN (h.map fun c => o.getD c 0)).map tN := by rw [List.map_map]; rfl
  rw [em]
  have hl2 : (hs.map fun h => sortN (h.map fun c => o.getD c 0)).length = n := by rw [List.length_map, hl]
  generalize (hs.map fun h => sortN (h.map fun c => o.getD c 0)) = gs at hv2 hl2
  refine thenSat (P := fun o => ∃ (s : D) (fs : List (List Nat)), o = Oc.nx (s, PyData.list [], PyData.list (fs.map tN)) ∧ IsBox s ∧ fs.length = n ∧ ∀ h ∈ fs, HV m h) ?_ ?_ (fun t b ⟨_, _, z, _⟩ => nomatch z) (fun j ⟨_, _, z, _⟩ => nomatch z)
  rotate_left
  · rintro j ⟨s', fs, e, b', l', v'⟩
    cases e
    simp! only
    exact ⟨_, rfl, ⟨fs, rfl, l', v'⟩, b'⟩
  · refine whX_sat (I := fun j => ∃ (s' : D) (gs fs : List (List Nat)), j = (s', .list (gs.map tN), .list (fs.map tN)) ∧ IsBox s' ∧ gs.length + fs.length = n ∧ (∀ h ∈ gs, HV m h) ∧ ∀ h ∈ fs, HV m h) (μ := fun j => match j with
      | (_, PyData.list xs, _) => xs.length
      | _ => 0) ?_ ⟨s1, gs, [], rfl, b1, by simpa using hl2, hv2, fun _ h => nomatch h⟩
    rintro _ ⟨s', gs, fs, rfl, b', l', v1, v2⟩
    simp! only
    refine ⟨_, rfl, ?_⟩
    show if decide (gs ≠ []) = true then _ else _
    by_cases hw : gs = []
    · subst hw
      have : decide (([] : List (List Nat)) ≠ []) = false := by decide
      rw [this, if_neg Bool.false_ne_true]
      exact ⟨s', fs, rfl, b', by simpa using l', v2⟩
    · rw [if_pos (decide_eq_true hw)]
      have hgl : 0 < gs.length := List.length_pos_iff.mpr hw
      refine Sat.bind (take2_nox b' hgl (by omega)) ?_
      rintro ⟨_, s2⟩ ⟨⟨k, hk, rfl⟩, b2⟩
      rw [popAt_is [] hk (by omega)]
      simp! only
      rw [appD_of (by simp; omega)]
      simp! only
      have hin : gs.getD k [] ∈ gs := by
        rw [List.getD_eq_getElem?_getD, List.getElem?_eq_getElem hk]
        exact List.getElem_mem _
      refine ⟨_, rfl, ⟨s2, gs.eraseIdx k, fs ++ [gs.getD k []], by rw [List.map_append]; rfl, b2, ?_, fun h hh => v1 h (List.mem_of_mem_eraseIdx hh), fun h hh => ?_⟩, ?_⟩
      · rw [List.length_eraseIdx, if_pos hk, List.length_append]
        simp
        omega
      · rcases List.mem_append.mp hh with e | e
        · exact v2 h e
        · rw [List.mem_singleton.mp e]; exact v1 _ hin
      · show ((gs.eraseIdx k).map tN).length < gs.length
        rw [List.length_map, List.length_eraseIdx, if_pos hk]
        omega
theorem all_tN {Q : List Nat → Prop} : ∀ {ds : List D}, (∀ d ∈ ds, ∃ h, d = tN h ∧ Q h) → ∃ es : List (List Nat), ds = es.map tN ∧ ∀ h ∈ es, Q h
  | [], _ => ⟨[], rfl, fun _ h => nomatch h⟩
  | d :: ds, dq => by
    obtain ⟨h, rfl, hv⟩ := dq d List.mem_cons_self
    obtain ⟨es, rfl, ev⟩ := all_tN fun x hx => dq x (List.mem_cons_of_mem _ hx)
    exact ⟨h :: es, rfl, by simpa using ⟨hv, ev⟩⟩
/-- a layout drawn, the second kind -/
theorem layout2_is {s : D} {a b : Nat} (hb : IsBox s) (a1 : 1 ≤ a) (a7 : a ≤ 7) (b1 : 1 ≤ b) (b6 : b ≤ 6) : Sat (m_law_layout_2 s [nD a, nD b]) fun p => (∃ m hs, p.1 = layD m hs ∧ LayV m hs ∧ m ≤ a) ∧ IsBox p.2 := by
  rw [m_law_layout_2]
  simp! only
  refine Sat.bind (take2_nox hb (by omega) (by omega)) ?_
  rintro ⟨_, s1⟩ ⟨⟨k1, hk1, rfl⟩, bx1⟩
  simp! only
  refine Sat.bind (take2_nox bx1 (by omega) (by omega)) ?_
  rintro ⟨_, s2⟩ ⟨⟨k2, hk2, rfl⟩, bx2⟩
  simp! only
  refine Sat.bind (take2_nox bx2 (by omega) (by omega)) ?_
  rintro ⟨_, s3⟩ ⟨⟨way, hk3, rfl⟩, bx3⟩
  simp! only
  have hm1 : 1 ≤ 1 + k1 ∧ 1 + k1 ≤ a := by omega
  generalize 1 + k1 = m at hm1 ⊢
  have hn1 : 1 ≤ 1 + k2 ∧ 1 + k2 ≤ 6 := by omega
  generalize 1 + k2 = n at hn1 ⊢
  have fin : ∀ {d s : D} {n : Nat}, IsBox s → 1 ≤ n → n ≤ 6 → HVs m d n → Sat ((nox (m_law_named_2 s [nD m, d])).bind fun a => R.ok (PyData.tuple [nD m, a.1], a.2)) fun p : D × D => (∃ m hs, p.1 = layD m hs ∧ LayV m hs ∧ m ≤ a) ∧ IsBox p.2 := fun hs h1 h6 hv => by
    refine Sat.bind (named2_sat hs (by omega) (by omega) hv).nox ?_
    rintro ⟨_, s'⟩ ⟨⟨gs, rfl, gl, gv⟩, bs⟩
    exact ⟨_, rfl, ⟨m, gs, rfl, ⟨hm1.1, by omega, by omega, by omega, fun h hh => (gv h hh).1, fun h hh => (gv h hh).2.1, fun h hh => (gv h hh).2.2⟩, hm1.2⟩, bs⟩
  refine Sat.bind (P := fun b => b = true → 2 < m) (Sat.ite (fun _ => ⟨_, rfl, fun h => of_decide_eq_true h⟩) fun _ => ⟨_, rfl, fun h => nomatch h⟩) fun b45 h45 => Sat.ite (fun hb45 => ?_) fun _ => ?_
  · have hm2 := h45 hb45
    refine Sat.bind (barred_sat bx3 (by omega) (by omega)).nox ?_
    rintro ⟨_, s4⟩ ⟨⟨z, z3, z6, gs, rfl, gl, gv⟩, bx4⟩
    have e1 : pySub (nD b) (nD gs.length) = .ok (.int ((b : Int) - (gs.length : Int))) := rfl
    have e2 : TL.pyMax [nD 0, .int ((b : Int) - (gs.length : Int))] = .ok (nD (b - gs.length)) := by
      simp only [nD, TL.pyMax]
      congr 2
      split <;> omega
    simp! only [e1, e2]
    refine Sat.bind (take2_nox bx4 (by omega) (by omega)) ?_
    rintro ⟨_, s5⟩ ⟨⟨k5, hk5, rfl⟩, bx5⟩
    simp! only [range1 (show k5 ≤ 16777216 by omega)]
    refine Sat.bind (mapJ_inv (g := nD) (I := fun _ s => IsBox s) (Q := fun d => ∃ h, d = tN h ∧ HV m h) (i := 0) (fun k x s _ hs => Sat.bind (head2_sat hs hm1.1 (by omega)) fun p hp => ⟨_, rfl, hp⟩) bx5).nox ?_
    rintro ⟨ds, s6⟩ ⟨dl, dq, bx6⟩
    obtain ⟨es, rfl, ev⟩ := all_tN dq
    have dl' : es.length = k5 := by simpa using dl
    rw [addL (by simp; omega), ← List.map_append]
    have e3 : pySl (.list ((gs ++ es).map tN)) none (some ((6 : Nat) : Int)) = .ok (.list (((gs ++ es).take 6).map tN)) := by rw [sl_tol, List.map_take]
    simp! only [e3]
    have hlen : 1 ≤ ((gs ++ es).take 6).length ∧ ((gs ++ es).take 6).length ≤ 6 := by
      rw [List.length_take, List.length_append]
      omega
    refine fin bx6 hlen.1 hlen.2 ⟨_, rfl, rfl, fun h hh => ?_⟩
    rcases List.mem_append.mp (List.mem_of_mem_take hh) with e | e
    · exact gv h e
    · exact ev h e
  refine Sat.ite (fun _ => ?_) fun _ => ?_
  · rw [range1 (show n ≤ 16777216 by omega)]
    simp! only
    refine Sat.bind (mapJ_inv (g := nD) (I := fun _ s => IsBox s) (Q := fun d => ∃ h, d = tN h ∧ HV m h) (i := 0) (fun k x s _ hs => Sat.bind (head2_sat hs hm1.1 (by omega)) fun p hp => ⟨_, rfl, hp⟩) bx3).nox ?_
    rintro ⟨ds, s6⟩ ⟨dl, dq, bx6⟩
    obtain ⟨es, rfl, ev⟩ := all_tN dq
    have dl' : es.length = n := by simpa using dl
    exact fin bx6 hn1.1 hn1.2 ⟨es, rfl, dl', ev⟩
  · refine Sat.bind (grown_sat bx3 hm1.1 (by omega) hn1.1 (by omega)).nox ?_
    rintro ⟨d, s6⟩ ⟨dv, bx6⟩
    exact fin bx6 hn1.1 hn1.2 dv
end TP
/-! pairs of numbers, what hangs together by them, classes, forests (plain Lean) -/
namespace TQ
abbrev Pr := Nat × Nat
inductive Hang (E : List Pr) (a : Nat) : Nat → Prop where
  | refl : Hang E a a
  | fwd {b c : Nat} : Hang E a b → (b, c) ∈ E → Hang E a c
  | bwd {b c : Nat} : Hang E a b → (c, b) ∈ E → Hang E a c
theorem Hang.trans {E : List Pr} {a b c : Nat} (h : Hang E a b) (k : Hang E b c) : Hang E a c := by
  induction k with
  | refl => exact h
  | fwd _ m ih => exact ih.fwd m
  | bwd _ m ih => exact ih.bwd m
theorem Hang.symm {E : List Pr} {a b : Nat} (h : Hang E a b) : Hang E b a := by
  induction h with
  | refl => exact .refl
  | fwd _ m ih => exact (Hang.bwd .refl m).trans ih
  | bwd _ m ih => exact (Hang.fwd .refl m).trans ih
theorem Hang.mono {E F : List Pr} {a b : Nat} (s : ∀ e ∈ E, e ∈ F) (h : Hang E a b) : Hang F a b := by
  induction h with
  | refl => exact .refl
  | fwd _ m ih => exact ih.fwd (s _ m)
  | bwd _ m ih => exact ih.bwd (s _ m)
theorem Hang.edge {E : List Pr} {a b : Nat} (h : (a, b) ∈ E) : Hang E a b := .fwd .refl h
/-- each pair of E hangs together in F: E's hanging is F's -/
theorem Hang.sub {E F : List Pr} {a b : Nat} (s : ∀ e ∈ E, Hang F e.1 e.2) (h : Hang E a b) : Hang F a b := by
  induction h with
  | refl => exact .refl
  | fwd _ m ih => exact ih.trans (s _ m)
  | bwd _ m ih => exact ih.trans (s _ m).symm
theorem hang_cons {E : List Pr} {a b x y : Nat} : Hang ((a, b) :: E) x y ↔ Hang E x y ∨ (Hang E x a ∧ Hang E b y) ∨ (Hang E x b ∧ Hang E a y) := by
  have up : ∀ {u v : Nat}, Hang E u v → Hang ((a, b) :: E) u v := fun h => h.mono fun _ m => List.mem_cons_of_mem _ m
  constructor
  · intro h
    induction h with
    | refl => exact .inl .refl
    | @fwd u v h m ih =>
      rcases List.mem_cons.mp m with e | m
      · cases e
        rcases ih with i | ⟨i, _⟩ | ⟨i, _⟩
        · exact .inr (.inl ⟨i, .refl⟩)
        · exact .inr (.inl ⟨i, .refl⟩)
        · exact .inl i
      · rcases ih with i | ⟨i, j⟩ | ⟨i, j⟩
        · exact .inl (i.fwd m)
        · exact .inr (.inl ⟨i, j.fwd m⟩)
        · exact .inr (.inr ⟨i, j.fwd m⟩)
    | @bwd u v h m ih =>
      rcases List.mem_cons.mp m with e | m
      · cases e
        rcases ih with i | ⟨i, _⟩ | ⟨i, _⟩
        · exact .inr (.inr ⟨i, .refl⟩)
        · exact .inl i
        · exact .inr (.inr ⟨i, .refl⟩)
      · rcases ih with i | ⟨i, j⟩ | ⟨i, j⟩
        · exact .inl (i.bwd m)
        · exact .inr (.inl ⟨i, j.bwd m⟩)
        · exact .inr (.inr ⟨i, j.bwd m⟩)
  · have e : Hang ((a, b) :: E) a b := .edge List.mem_cons_self
    rintro (h | ⟨h, k⟩ | ⟨h, k⟩)
    · exact up h
    · exact ((up h).trans e).trans (up k)
    · exact ((up h).trans e.symm).trans (up k)
open Classical in
/-- into how many classes the numbers of a row fall -/
noncomputable def cls (E : List Pr) : List Nat → Nat
  | [] => 0
  | v :: vs => cls E vs + if ∃ u ∈ vs, Hang E u v then 0 else 1
theorem cls_congr {E F : List Pr} (h : ∀ a b, Hang E a b ↔ Hang F a b) : ∀ V, cls E V = cls F V
  | [] => rfl
  | v :: vs => by
    unfold cls
    rw [cls_congr h vs]
    have : (∃ u ∈ vs, Hang E u v) ↔ ∃ u ∈ vs, Hang F u v := ⟨fun ⟨u, m, k⟩ => ⟨u, m, (h _ _).mp k⟩, fun ⟨u, m, k⟩ => ⟨u, m, (h _ _).mpr k⟩⟩
    by_cases q : ∃ u ∈ vs, Hang E u v
    · rw [if_pos q, if_pos (this.mp q)]
    · rw [if_neg q, if_neg fun z => q (this.mpr z)]
open Classical in
theorem cls_add {E : List Pr} {a b : Nat} (hab : ¬ Hang E a b) : ∀ V, cls E V = cls ((a, b) :: E) V + if (∃ u ∈ V, Hang E u a) ∧ ∃ u ∈ V, Hang E u b then 1 else 0
  | [] => by simp [cls]
  | v :: vs => by
    have ih := cls_add hab vs
    unfold cls
    have e : (∃ u ∈ vs, Hang ((a, b) :: E) u v) ↔ (∃ u ∈ vs, Hang E u v) ∨ ((∃ u ∈ vs, Hang E u a) ∧ Hang E b v) ∨ ((∃ u ∈ vs, Hang E u b) ∧ Hang E a v) := by
      constructor
      · rintro ⟨u, m, h⟩
        rcases hang_cons.mp h with h | ⟨h, k⟩ | ⟨h, k⟩
        · exact .inl ⟨u, m, h⟩
        · exact .inr (.inl ⟨⟨u, m, h⟩, k⟩)
        · exact .inr (.inr ⟨⟨u, m, h⟩, k⟩)
      · rintro (⟨u, m, h⟩ | ⟨⟨u, m, h⟩, k⟩ | ⟨⟨u, m, h⟩, k⟩)
        · exact ⟨u, m, hang_cons.mpr (.inl h)⟩
        · exact ⟨u, m, hang_cons.mpr (.inr (.inl ⟨h, k⟩))⟩
        · exact ⟨u, m, hang_cons.mpr (.inr (.inr ⟨h, k⟩))⟩
    have c : ∀ x, (∃ u ∈ v :: vs, Hang E u x) ↔ Hang E v x ∨ ∃ u ∈ vs, Hang E u x := fun x => by
      simp
    rw [ih]
    simp only [e, c]
    by_cases h1 : Hang E v a
    · have h2 : ¬ Hang E v b := fun h => hab (h1.symm.trans h)
      have h3 : ¬ Hang E b v := fun h => h2 h.symm
      have k1 : (∃ u ∈ vs, Hang E u v) ↔ ∃ u ∈ vs, Hang E u a := ⟨fun ⟨u, m, h⟩ => ⟨u, m, h.trans h1⟩, fun ⟨u, m, h⟩ => ⟨u, m, h.trans h1.symm⟩⟩
      have k2 : Hang E a v := h1.symm
      simp only [h1, h2, h3, k1, k2, true_or, false_or, and_false, and_true, true_and]
      by_cases p : ∃ u ∈ vs, Hang E u a <;> by_cases q : ∃ u ∈ vs, Hang E u b <;> simp [p, q] <;> omega
    · have g1 : ¬ Hang E a v := fun h => h1 h.symm
      by_cases h2 : Hang E v b
      · have k1 : (∃ u ∈ vs, Hang E u v) ↔ ∃ u ∈ vs, Hang E u b := ⟨fun ⟨u, m, h⟩ => ⟨u, m, h.trans h2⟩, fun ⟨u, m, h⟩ => ⟨u, m, h.trans h2.symm⟩⟩
        have k2 : Hang E b v := h2.symm
        simp only [h1, h2, g1, k1, k2, true_or, false_or, and_false, and_true, true_and, or_false]
        by_cases p : ∃ u ∈ vs, Hang E u a <;> by_cases q : ∃ u ∈ vs, Hang E u b <;> simp [p, q] <;> omega
      · have g2 : ¬ Hang E b v := fun h => h2 h.symm
        simp only [h1, h2, g1, g2, false_or, and_false, or_false]
        by_cases p : ∃ u ∈ vs, Hang E u a <;> by_cases q : ∃ u ∈ vs, Hang E u b <;> by_cases r : ∃ u ∈ vs, Hang E u v <;> simp [p, q, r] <;> omega
theorem hang_same {E : List Pr} {a b x y : Nat} (h : Hang E a b) : Hang ((a, b) :: E) x y ↔ Hang E x y :=
  ⟨fun k => k.sub fun e m => by
    rcases List.mem_cons.mp m with z | m
    · cases z; exact h
    · exact .edge m, fun k => k.mono fun _ m => List.mem_cons_of_mem _ m⟩
/-- within a row -/
def InV (V : List Nat) (E : List Pr) : Prop := ∀ e ∈ E, e.1 ∈ V ∧ e.2 ∈ V
theorem cls_join {E : List Pr} {V : List Nat} {a b : Nat} (hab : ¬ Hang E a b) (ha : a ∈ V) (hb : b ∈ V) : cls E V = cls ((a, b) :: E) V + 1 := by
  rw [cls_add hab V, if_pos ⟨⟨a, ha, .refl⟩, ⟨b, hb, .refl⟩⟩]
theorem cls_nil : ∀ {V : List Nat}, V.Nodup → cls [] V = V.length
  | [], _ => rfl
  | v :: vs, h => by
    rw [List.nodup_cons] at h
    unfold cls
    rw [cls_nil h.2, if_neg, List.length_cons]
    rintro ⟨u, m, k⟩
    have : u = v := by
      cases k with
      | refl => rfl
      | fwd _ m => cases m
      | bwd _ m => cases m
    exact h.1 (this ▸ m)
theorem cls_pos {E : List Pr} : ∀ {V : List Nat}, V ≠ [] → 1 ≤ cls E V
  | [v], _ => by unfold cls; simp [cls]
  | v :: w :: vs, _ => by
    have := cls_pos (E := E) (V := w :: vs) (by simp)
    unfold cls
    omega
theorem cls_one {E : List Pr} : ∀ {V : List Nat}, (∀ u ∈ V, ∀ v ∈ V, Hang E u v) → cls E V ≤ 1
  | [], _ => Nat.zero_le _
  | [v], _ => by unfold cls; simp [cls]
  | v :: w :: vs, h => by
    have := cls_one (E := E) (V := w :: vs) fun u hu x hx => h u (List.mem_cons_of_mem _ hu) x (List.mem_cons_of_mem _ hx)
    unfold cls
    rw [if_pos ⟨w, List.mem_cons_self, h w (by simp) v (by simp)⟩]
    omega
theorem cls_all {E : List Pr} : ∀ {V : List Nat}, cls E V ≤ 1 → ∀ u ∈ V, ∀ v ∈ V, Hang E u v
  | [], _, _, h, _, _ => nomatch h
  | v :: vs, h, x, hx, y, hy => by
    unfold cls at h
    by_cases q : ∃ u ∈ vs, Hang E u v
    · rw [if_pos q] at h
      have ih := cls_all (V := vs) (by omega)
      obtain ⟨u, m, k⟩ := q
      have key : ∀ z ∈ v :: vs, Hang E u z := fun z hz => by
        rcases List.mem_cons.mp hz with e | hz
        · rw [e]; exact k
        · exact ih u m z hz
      exact (key x hx).symm.trans (key y hy)
    · rw [if_neg q] at h
      have e : vs = [] := by
        cases vs with
        | nil => rfl
        | cons w ws =>
          have := cls_pos (E := E) (V := w :: ws) (by simp)
          omega
      subst e
      rw [List.mem_singleton.mp hx, List.mem_singleton.mp hy]
      exact .refl
/-- each pair ties what did not hang together by those behind it -/
def Forest : List Pr → Prop
  | [] => True
  | e :: E => ¬ Hang E e.1 e.2 ∧ Forest E
theorem cls_forest {V : List Nat} (hV : V.Nodup) : ∀ {E : List Pr}, InV V E → V.length ≤ cls E V + E.length ∧ (cls E V + E.length = V.length ↔ Forest E)
  | [], _ => by rw [cls_nil hV]; simp [Forest]
  | (a, b) :: E, h => by
    have hE : InV V E := fun e m => h e (List.mem_cons_of_mem _ m)
    obtain ⟨ha, hb⟩ := h (a, b) List.mem_cons_self
    obtain ⟨h1, h2⟩ := cls_forest hV hE
    by_cases q : Hang E a b
    · have e : cls ((a, b) :: E) V = cls E V := cls_congr (fun x y => hang_same q) V
      rw [e, List.length_cons]
      refine ⟨by omega, ⟨fun z => by omega, fun z => absurd q z.1⟩⟩
    · have e := cls_join q ha hb
      rw [List.length_cons]
      refine ⟨by omega, ⟨fun z => ⟨q, h2.mp (by omega)⟩, fun z => ?_⟩⟩
      have := h2.mpr z.2
      omega
theorem hang_perm {E F : List Pr} (p : ∀ e, e ∈ E ↔ e ∈ F) (a b : Nat) : Hang E a b ↔ Hang F a b := ⟨fun h => h.mono fun e => (p e).mp, fun h => h.mono fun e => (p e).mpr⟩
theorem Forest.perm {V : List Nat} (hV : V.Nodup) {E F : List Pr} (hE : InV V E) (p : E.Perm F) (h : Forest E) : Forest F := by
  have hF : InV V F := fun e m => hE e (p.mem_iff.mpr m)
  rw [← (cls_forest hV hF).2, ← cls_congr (hang_perm fun e => p.mem_iff) V, ← p.length_eq]
  exact (cls_forest hV hE).2.mpr h
theorem Forest.sublist {E F : List Pr} (s : E.Sublist F) (h : Forest F) : Forest E := by
  induction s with
  | slnil => trivial
  | cons _ _ ih => exact ih h.2
  | cons_cons a s ih => exact ⟨fun k => h.1 (k.mono fun e m => s.subset m), ih h.2⟩
/-- a forest of one pair less than the row has is one piece -/
theorem tree_forest {V : List Nat} (hV : V.Nodup) {E : List Pr} (hE : InV V E) (hne : V ≠ []) (hl : E.length + 1 = V.length) : Forest E ↔ ∀ u ∈ V, ∀ v ∈ V, Hang E u v := by
  obtain ⟨h1, h2⟩ := cls_forest hV hE
  have h3 := cls_pos (E := E) hne
  constructor
  · intro h
    have := h2.mpr h
    exact cls_all (by omega)
  · intro h
    have := cls_one h
    exact h2.mp (by omega)
end TQ
/-! the heaviest first: pairs picked by falling weight weigh as much as any (plain Lean) -/
namespace TQ
open Classical in
/-- those of a row that tie, one behind the other -/
noncomputable def kp (C : List Pr) : List Pr → List Pr
  | [] => []
  | e :: L => if Hang C e.1 e.2 then kp C L else e :: kp (e :: C) L
theorem InV.app {V : List Nat} {E F : List Pr} (h : InV V E) (k : InV V F) : InV V (E ++ F) := fun e m => by
  rcases List.mem_append.mp m with m | m
  · exact h e m
  · exact k e m
theorem InV.mono {V : List Nat} {E F : List Pr} (h : InV V F) (s : ∀ e ∈ E, e ∈ F) : InV V E := fun e m => h e (s e m)
section
variable {V : List Nat} (hV : V.Nodup)
include hV
omit hV in
omit hV in
omit hV in
omit hV in
omit hV in
end
end TQ
/-! weights of trees of heads: no tree weighs more than is due, join trees are those that weigh so much (plain Lean) -/
namespace TQ
def hd (hs : List (List Nat)) (i : Nat) : List Nat := hs.getD i []
/-- the heads that have a column -/
def hv (hs : List (List Nat)) (c : Nat) : List Nat := (List.range hs.length).filter fun i => decide (c ∈ hd hs i)
/-- the pairs of which both heads have a column -/
def onC (hs : List (List Nat)) (c : Nat) (E : List Pr) : List Pr := E.filter fun e => decide (c ∈ hd hs e.1) && decide (c ∈ hd hs e.2)
/-- how many columns both heads of a pair have -/
def wt (m : Nat) (hs : List (List Nat)) (e : Pr) : Nat := ((List.range m).filter fun c => decide (c ∈ hd hs e.1) && decide (c ∈ hd hs e.2)).length
def due (m : Nat) (hs : List (List Nat)) : Nat := ((List.range m).map fun c => (hv hs c).length - 1).sum
def Joins (m : Nat) (hs : List (List Nat)) (E : List Pr) : Prop := ∀ c < m, ∀ u ∈ hv hs c, ∀ v ∈ hv hs c, Hang (onC hs c E) u v
theorem mem_hv {hs : List (List Nat)} {c i : Nat} : i ∈ hv hs c ↔ i < hs.length ∧ c ∈ hd hs i := by
  simp [hv]
theorem hv_nodup {hs : List (List Nat)} {c : Nat} : (hv hs c).Nodup := List.nodup_range.filter _
/-- all pairs of numbers below n -/
def prs (n : Nat) : List Pr := (List.range n).flatMap fun i => ((List.range n).filter fun j => decide (i < j)).map fun j => (i, j)
theorem mem_prs {n : Nat} {e : Pr} : e ∈ prs n ↔ e.1 < e.2 ∧ e.2 < n := by
  obtain ⟨i, j⟩ := e
  simp only [prs, List.mem_flatMap, List.mem_map, List.mem_filter, List.mem_range, decide_eq_true_iff, Prod.mk.injEq]
  constructor
  · rintro ⟨a, _, b, ⟨h1, h2⟩, rfl, rfl⟩
    exact ⟨h2, h1⟩
  · rintro ⟨h1, h2⟩
    exact ⟨i, by omega, j, ⟨h2, h1⟩, rfl, rfl⟩
theorem prs_in {n : Nat} : InV (List.range n) (prs n) := fun e m => by
  obtain ⟨h1, h2⟩ := mem_prs.mp m
  exact ⟨List.mem_range.mpr (by omega), List.mem_range.mpr h2⟩
/-- a join tree -/
structure JoinT (m : Nat) (hs : List (List Nat)) (E : List Pr) : Prop where
  inn : ∀ e ∈ E, e ∈ prs hs.length
  frst : Forest E
  len : E.length + 1 = hs.length
  joins : Joins m hs E
/-- the greatest weight with some pairs -/
noncomputable def best (m : Nat) (hs : List (List Nat)) (H C : List Pr) : Nat := (C.map (wt m hs)).sum + ((kp C H).map (wt m hs)).sum
theorem onC_perm {hs : List (List Nat)} {c : Nat} {E F : List Pr} (p : ∀ e, e ∈ E ↔ e ∈ F) (a b : Nat) : Hang (onC hs c E) a b ↔ Hang (onC hs c F) a b :=
  hang_perm (fun e => by simp only [onC, List.mem_filter, p e]) a b
theorem JoinT.perm {m : Nat} {hs : List (List Nat)} {E F : List Pr} (h : JoinT m hs E) (p : E.Perm F) : JoinT m hs F where
  inn e q := h.inn e (p.mem_iff.mpr q)
  frst := h.frst.perm List.nodup_range (fun e q => prs_in e (h.inn e q)) p
  len := by rw [← p.length_eq]; exact h.len
  joins c hc u hu v hv := (onC_perm (fun e => p.mem_iff) u v).mp (h.joins c hc u hu v hv)
theorem Forest.nodup : ∀ {E : List Pr}, Forest E → E.Nodup
  | [], _ => List.nodup_nil
  | e :: E, h => List.nodup_cons.mpr ⟨fun m => h.1 (.edge m), Forest.nodup h.2⟩
section
variable {m : Nat} {hs : List (List Nat)} {H : List Pr} (hH : ∀ e, e ∈ H ↔ e ∈ prs hs.length) (sH : H.Pairwise fun a b => wt m hs b ≤ wt m hs a)
include hH sH
end
end TQ
/-! all lots of so many in order, and the first join tree pair by pair (plain Lean) -/
namespace TQ
def combos {α} : Nat → List α → List (List α)
  | 0, _ => [[]]
  | _ + 1, [] => []
  | k + 1, x :: L => (combos k L).map (x :: ·) ++ combos (k + 1) L
/-- what goes on from rows: each with what is left behind its last -/
def exts {α} : List α → List (α × List α)
  | [] => []
  | x :: L => (x, L) :: exts L
def stepC {α} (rows : List (List α × List α)) : List (List α × List α) := rows.flatMap fun q => (exts q.2).map fun x => (q.1 ++ [x.1], x.2)
def iterC {α} : Nat → List (List α × List α) → List (List α × List α)
  | 0, rows => rows
  | k + 1, rows => iterC k (stepC rows)
open Classical in
/-- pair by pair in order, taken where some join tree has all taken -/
noncomputable def pick (m : Nat) (hs : List (List Nat)) (H : List Pr) (C : List Pr) : List Pr → List Pr
  | [] => C
  | e :: L => if ¬ Hang C e.1 e.2 ∧ best m hs H (C ++ [e]) = due m hs then pick m hs H (C ++ [e]) L else pick m hs H C L
section
variable {m : Nat} {hs : List (List Nat)} {H : List Pr} (hH : ∀ e, e ∈ H ↔ e ∈ prs hs.length) (sH : H.Pairwise fun a b => wt m hs b ≤ wt m hs a)
include hH sH
open Classical in
open Classical in
end
end TQ
/-! ears: whichever go, the same is left (plain Lean) -/
namespace TQ
variable {hs : List (List Nat)}
/-- a column of a head that some other one of those left has -/
def Tr (hs : List (List Nat)) (L : List Nat) (i c : Nat) : Prop := c ∈ hd hs i ∧ ∃ o ∈ L, o ≠ i ∧ c ∈ hd hs o
def Holds (hs : List (List Nat)) (L : List Nat) (e h : Nat) : Prop := e ≠ h ∧ ∀ c, Tr hs L e c → c ∈ hd hs h
/-- ears go one by one -/
inductive Run (hs : List (List Nat)) : List Nat → List Nat → Prop where
  | refl (A : List Nat) : Run hs A A
  | step {A B : List Nat} {e h : Nat} : e ∈ A → h ∈ A → Holds hs A e h → Run hs (A.erase e) B → Run hs A B
theorem Run.trans {A B C : List Nat} (h : Run hs A B) (k : Run hs B C) : Run hs A C := by
  induction h with
  | refl => exact k
  | step a b c _ ih => exact .step a b c (ih k)
theorem Run.sub {A B : List Nat} (h : Run hs A B) : B.Sublist A := by
  induction h with
  | refl A => exact List.Sublist.refl A
  | step a b c _ ih => exact ih.trans List.erase_sublist
theorem Run.ne {A B : List Nat} (h : Run hs A B) (hA : A ≠ []) : B ≠ [] := by
  induction h with
  | refl A => exact hA
  | @step A B e h a b c _ ih =>
    refine ih fun z => ?_
    have : h ∈ A.erase e := (List.mem_erase_of_ne (fun w => c.1 w.symm)).mpr b
    rw [z] at this
    cases this
/-- the trace of one lies in the other's -/
def Le (hs : List (List Nat)) (X : Nat → Prop) (i j : Nat) : Prop := ∀ c, X c → c ∈ hd hs i → c ∈ hd hs j
theorem Le.trans {X : Nat → Prop} {i j k : Nat} (h : Le hs X i j) (g : Le hs X j k) : Le hs X i k := fun c x m => g c x (h c x m)
theorem Le.rfl {X : Nat → Prop} {i : Nat} : Le hs X i i := fun _ _ m => m
end TQ
/-! join trees and ears: there is a join tree just where ears leave one (plain Lean) -/
namespace TQ
variable {hs : List (List Nat)}
inductive Steps (hs : List (List Nat)) : List Nat → List Pr → List Nat → Prop where
  | nil (A : List Nat) : Steps hs A [] A
  | cons {A B : List Nat} {S : List Pr} {e h : Nat} : e ∈ A → h ∈ A → Holds hs A e h → Steps hs (A.erase e) S B → Steps hs A ((e, h) :: S) B
theorem Steps.run {A B : List Nat} {S : List Pr} (s : Steps hs A S B) : Run hs A B := by
  induction s with
  | nil A => exact .refl A
  | cons a b c _ ih => exact .step a b c ih
theorem Steps.len {A B : List Nat} {S : List Pr} (s : Steps hs A S B) : S.length + B.length = A.length := by
  induction s with
  | nil A => simp
  | cons a b c _ ih =>
    rw [List.length_erase_of_mem a] at ih
    have := List.length_pos_of_mem a
    rw [List.length_cons]
    omega
theorem hang_out {E : List Pr} {e b : Nat} (h : ∀ p ∈ E, p.1 ≠ e ∧ p.2 ≠ e) (k : Hang E e b) : b = e := by
  induction k with
  | refl => rfl
  | fwd _ m ih => exact absurd ih (h _ m).1
  | bwd _ m ih => exact absurd ih (h _ m).2
theorem sub_lenN {C T : List Nat} (hC : C.Nodup) (h : ∀ e ∈ C, e ∈ T) : C.length ≤ T.length := by
  induction C generalizing T with
  | nil => exact Nat.zero_le _
  | cons a C ih =>
    rw [List.nodup_cons] at hC
    have ha := h a List.mem_cons_self
    have := ih (T := T.erase a) hC.2 fun e m => by
      have ne : e ≠ a := fun z => hC.1 (z ▸ m)
      exact (List.mem_erase_of_ne ne).mpr (h e (List.mem_cons_of_mem _ m))
    rw [List.length_erase_of_mem ha] at this
    have hp : 0 < T.length := List.length_pos_of_mem ha
    rw [List.length_cons]
    omega
/-- the lesser number first -/
def nrm (p : Pr) : Pr := (min p.1 p.2, max p.1 p.2)
theorem nrm_or (p : Pr) : nrm p = p ∨ nrm p = (p.2, p.1) := by
  obtain ⟨a, b⟩ := p
  unfold nrm
  rcases Nat.le_total a b with h | h
  · left; simp only [Nat.min_eq_left h, Nat.max_eq_right h]
  · right; simp only [Nat.min_eq_right h, Nat.max_eq_left h]
theorem hang_nrm {E : List Pr} {a b : Nat} : Hang (E.map nrm) a b ↔ Hang E a b := by
  constructor
  · refine fun h => h.sub fun p m => ?_
    obtain ⟨q, hq, rfl⟩ := List.mem_map.mp m
    rcases nrm_or q with z | z
    · rw [z]; exact .edge hq
    · rw [z]; exact (Hang.edge hq).symm
  · refine fun h => h.sub fun q hq => ?_
    have m : nrm q ∈ E.map nrm := List.mem_map.mpr ⟨q, hq, rfl⟩
    rcases nrm_or q with z | z
    · rw [z] at m; exact .edge m
    · rw [z] at m; exact (Hang.edge m).symm
theorem forest_nrm : ∀ {E : List Pr}, Forest (E.map nrm) ↔ Forest E
  | [] => Iff.rfl
  | p :: E => by
    show (¬ Hang (E.map nrm) (nrm p).1 (nrm p).2 ∧ Forest (E.map nrm)) ↔ _
    rw [forest_nrm, hang_nrm]
    refine and_congr_left fun _ => not_congr ?_
    rcases nrm_or p with z | z
    · rw [z]
    · rw [z]; exact ⟨fun h => h.symm, fun h => h.symm⟩
end TQ
/-! the plain layer: what hangs together, trees looked at -/
namespace TP
open PySem PySem.Spec PyProof.Rows L2 TL JT
open TQ (Pr Hang InV Forest prs combos JoinT onC hv wt due best pick kp)
/-- the pairs within a row -/
def wi (S : List Nat) (E : List Pr) : List Pr := E.filter fun e => decide (e.1 ∈ S) && decide (e.2 ∈ S)
theorem mem_wi {S : List Nat} {E : List Pr} {e : Pr} : e ∈ wi S E ↔ e ∈ E ∧ e.1 ∈ S ∧ e.2 ∈ S := by
  unfold wi
  rw [List.mem_filter]
  simp
theorem wi_in {S : List Nat} {E : List Pr} {a x : Nat} (ha : a ∈ S) (h : Hang (wi S E) a x) : x ∈ S := by
  induction h with
  | refl => exact ha
  | fwd _ h _ => exact (mem_wi.mp h).2.2
  | bwd _ h _ => exact (mem_wi.mp h).2.1
/-- a walk whose state is known, step by step -/
theorem foldR_stI {α β γ J : Type} {u : D → R β} {mb : J → β → R J} {g : α → D} (h : α → β) (e : γ → J) (st : γ → α → γ) (I : γ → List α → Prop) : ∀ {xs : List α} {s : γ}, (∀ x ∈ xs, u (g x) = .ok (h x)) → (∀ s, ∀ x ∈ xs, ∀ ys, I s (x :: ys) → mb (e s) (h x) = .ok (e (st s x)) ∧ I (st s x) ys) → I s xs → foldR u mb (xs.map g) (e s) = .ok (e (xs.foldl st s))
  | [], s, _, _, _ => rfl
  | x :: xs, s, hu, hm, hi => by
    obtain ⟨h1, h2⟩ := hm s x List.mem_cons_self xs hi
    rw [List.map_cons, foldR, hu x List.mem_cons_self, nox_ok, okb, h1, okb]
    exact foldR_stI h e st I (fun y hy => hu y (List.mem_cons_of_mem _ hy)) (fun s y hy => hm s y (List.mem_cons_of_mem _ hy)) h2
def stpC (S : List Nat) (p : Nat) (q : List Nat × List Nat) (e : Pr) : List Nat × List Nat :=
  if p = e.1 ∨ p = e.2 then (if e.1 + e.2 - p ∈ S ∧ e.1 + e.2 - p ∉ q.1 then (q.1 ++ [e.1 + e.2 - p], q.2 ++ [e.1 + e.2 - p]) else q) else q
theorem stpC_inv {S : List Nat} {p : Nat} : ∀ {E : List Pr} {f w : List Nat}, f.Nodup → ∃ mo, E.foldl (stpC S p) (f, w) = (f ++ mo, w ++ mo) ∧ (f ++ mo).Nodup ∧ (∀ x ∈ mo, x ∈ S ∧ ((p, x) ∈ E ∨ (x, p) ∈ E)) ∧ ∀ x ∈ S, ((p, x) ∈ E ∨ (x, p) ∈ E) → x ∈ f ++ mo
  | [], f, w, nd => ⟨[], by simp, by simpa using nd, by simp, by simp⟩
  | e :: E, f, w, nd => by
    obtain ⟨a, b⟩ := e
    rw [List.foldl_cons]
    by_cases hp : p = a ∨ p = b
    · obtain ⟨t, ht, h1, h2⟩ : ∃ t, a + b - p = t ∧ ((p, t) = (a, b) ∨ (t, p) = (a, b)) ∧ ∀ x, (p, x) = (a, b) ∨ (x, p) = (a, b) → x = t := by
        refine ⟨_, rfl, ?_, ?_⟩
        · rcases hp with rfl | rfl
          · left; simp
          · right; simp
        · rintro x (z | z) <;> (simp only [Prod.mk.injEq] at z; omega)
      by_cases hc : t ∈ S ∧ t ∉ f
      · have es : stpC S p (f, w) (a, b) = (f ++ [t], w ++ [t]) := by
          unfold stpC
          simp only [ht]
          rw [if_pos hp, if_pos hc]
        rw [es]
        obtain ⟨mo, h3, h4, h5, h6⟩ := stpC_inv (S := S) (p := p) (E := E) (f := f ++ [t]) (w := w ++ [t]) (by
          rw [List.nodup_append]
          exact ⟨nd, by simp, fun x hx y hy e => hc.2 (by rw [List.mem_singleton.mp hy] at e; rw [← e]; exact hx)⟩)
        refine ⟨t :: mo, by rw [h3]; simp, by simpa using h4, fun x hx => ?_, fun x hx hm => ?_⟩
        · rcases List.mem_cons.mp hx with rfl | hx
          · exact ⟨hc.1, h1.imp (fun z => by rw [z]; exact List.mem_cons_self) fun z => by rw [z]; exact List.mem_cons_self⟩
          · exact ⟨(h5 x hx).1, (h5 x hx).2.imp (List.mem_cons_of_mem _) (List.mem_cons_of_mem _)⟩
        · rw [List.mem_cons, List.mem_cons] at hm
          by_cases z : (p, x) = (a, b) ∨ (x, p) = (a, b)
          · rw [h2 x z]; simp
          · have := h6 x hx (by rcases hm with (m | m) | (m | m)
                                · exact absurd (.inl m) z
                                · exact .inl m
                                · exact absurd (.inr m) z
                                · exact .inr m)
            simpa using this
      · have es : stpC S p (f, w) (a, b) = (f, w) := by
          unfold stpC
          simp only [ht]
          rw [if_pos hp, if_neg hc]
        rw [es]
        obtain ⟨mo, h3, h4, h5, h6⟩ := stpC_inv (S := S) (p := p) (E := E) (f := f) (w := w) nd
        refine ⟨mo, h3, h4, fun x hx => ⟨(h5 x hx).1, (h5 x hx).2.imp (List.mem_cons_of_mem _) (List.mem_cons_of_mem _)⟩, fun x hx hm => ?_⟩
        rw [List.mem_cons, List.mem_cons] at hm
        by_cases z : (p, x) = (a, b) ∨ (x, p) = (a, b)
        · rw [h2 x z] at hx ⊢
          refine List.mem_append_left _ (Classical.byContradiction fun q => hc ⟨hx, q⟩)
        · exact h6 x hx (by rcases hm with (m | m) | (m | m)
                            · exact absurd (.inl m) z
                            · exact .inl m
                            · exact absurd (.inr m) z
                            · exact .inr m)
    · have es : stpC S p (f, w) (a, b) = (f, w) := by
        unfold stpC
        rw [if_neg hp]
      rw [es]
      obtain ⟨mo, h3, h4, h5, h6⟩ := stpC_inv (S := S) (p := p) (E := E) (f := f) (w := w) nd
      refine ⟨mo, h3, h4, fun x hx => ⟨(h5 x hx).1, (h5 x hx).2.imp (List.mem_cons_of_mem _) (List.mem_cons_of_mem _)⟩, fun x hx hm => ?_⟩
      rw [List.mem_cons, List.mem_cons] at hm
      refine h6 x hx ?_
      rcases hm with (m | m) | (m | m)
      · simp only [Prod.mk.injEq] at m; exact absurd (.inl m.1) hp
      · exact .inl m
      · simp only [Prod.mk.injEq] at m; exact absurd (.inr m.2) hp
      · exact .inr m
theorem stpC_len {S : List Nat} {p : Nat} (q : List Nat × List Nat) (e : Pr) : (stpC S p q e).1.length ≤ q.1.length + 1 ∧ (stpC S p q e).2.length ≤ q.2.length + 1 := by
  unfold stpC
  split
  · split <;> simp
  · simp
theorem inPr (p a b : Nat) : pyIn (nD p) (.tuple [nD a, nD b]) = .ok (.bool (decide (p = a ∨ p = b))) := by
  have := inTN p [a, b]
  simpa [tN] using this
section
variable {E : List Pr} {S : List Nat}
theorem come2_is {pd : D} (hp : items pd = .ok (E.map pN)) (hE : E.length ≤ 1000) (nS : S.Nodup) (hS : S.length ≤ 64) {a : Nat} (ha : a ∈ S) : ∃ f : List Nat, m_come_to_2 [pd, .list (S.map nD), nD a] = .ok (.list (f.map nD)) ∧ f.Nodup ∧ ∀ x, x ∈ f ↔ Hang (wi S E) a x := by
  have key : Sat (m_come_to_2 [pd, .list (S.map nD), nD a]) fun d => ∃ f : List Nat, d = .list (f.map nD) ∧ f.Nodup ∧ ∀ x, x ∈ f ↔ Hang (wi S E) a x := by
    rw [m_come_to_2]
    simp only [R.ok_bind, R.bind_assoc]
    have cnt : ∀ {o : List Nat}, o.Nodup → (∀ x ∈ o, x ∈ S) → o.length ≤ S.length := fun {o} nd h => nd.length_le_of_subset h
    refine thenSat (P := fun o => ∃ f : List Nat, o = Oc.nx (.list (f.map nD), PyData.list []) ∧ f.Nodup ∧ ∀ x, x ∈ f ↔ Hang (wi S E) a x) ?_ ?_ (fun t b ⟨_, z, _⟩ => nomatch z) (fun j ⟨_, z, _⟩ => nomatch z)
    rotate_left
    · rintro j ⟨f, e, nd, hf⟩
      cases e
      exact ⟨_, rfl, f, rfl, nd, hf⟩
    refine whX_sat (I := fun j => ∃ f w : List Nat, j = (.list (f.map nD), .list (w.map nD)) ∧ f.Nodup ∧ w.Nodup ∧ (∀ x ∈ w, x ∈ f) ∧ (∀ x ∈ f, Hang (wi S E) a x) ∧ a ∈ f ∧ ∀ x ∈ f, x ∉ w → ∀ k ∈ S, ((x, k) ∈ E ∨ (k, x) ∈ E) → k ∈ f) (μ := fun j => match j with
      | (PyData.list f, PyData.list w) => 2 * (S.length - f.length) + w.length
      | _ => 0) ?_ ⟨[a], [a], rfl, by simp, by simp, by simp, fun x hx => by rw [List.mem_singleton.mp hx]; exact .refl, by simp, fun x h1 h2 => absurd h1 h2⟩
    rintro _ ⟨f, w, rfl, nf', nw, hwf, hc, haf, hcl⟩
    have hlt : ∀ x ∈ f, x ∈ S := fun x hx => wi_in ha (hc x hx)
    simp! only
    refine ⟨_, rfl, ?_⟩
    show if decide (w ≠ []) = true then _ else _
    by_cases hw : w = []
    · subst hw
      have : decide (([] : List Nat) ≠ []) = false := by decide
      rw [this, if_neg Bool.false_ne_true]
      refine ⟨f, rfl, nf', fun x => ⟨hc x, fun h => ?_⟩⟩
      induction h with
      | refl => exact haf
      | fwd h m ih => exact hcl _ ih (by simp) _ (mem_wi.mp m).2.2 (.inl (mem_wi.mp m).1)
      | bwd h m ih => exact hcl _ ih (by simp) _ (mem_wi.mp m).2.1 (.inr (mem_wi.mp m).1)
    · rw [if_pos (decide_eq_true hw)]
      obtain ⟨w', p, rfl⟩ : ∃ w' p, w = w' ++ [p] := ⟨w.dropLast, w.getLast hw, (List.dropLast_concat_getLast hw).symm⟩
      have hpf : p ∈ f := hwf p (by simp)
      have hpS := hlt p hpf
      have hfl := cnt nf' hlt
      have hwl := cnt nw fun x hx => hlt x (hwf x hx)
      rw [List.map_append, List.map_singleton, popD_last]
      simp! only [hp]
      rw [show (PyData.list (f.map nD), PyData.list (w'.map nD)) = (fun q : List Nat × List Nat => (PyData.list (q.1.map nD), PyData.list (q.2.map nD))) (f, w') from rfl]
      rw [foldR_stI (fun e : Pr => (nD e.1, nD e.2)) (fun q : List Nat × List Nat => (PyData.list (q.1.map nD), PyData.list (q.2.map nD))) (stpC S p) (fun q ys => q.1.length + ys.length ≤ 10000 ∧ q.2.length + ys.length ≤ 10000) (fun x _ => rfl) ?_ ?_]
      rotate_left
      · intro q e _ ys hq
        rw [List.length_cons] at hq
        have hl := stpC_len (S := S) (p := p) q e
        refine ⟨?_, by omega, by omega⟩
        simp! only [inPr]
        by_cases h1 : p = e.1 ∨ p = e.2
        · by_cases h2 : e.1 + e.2 - p ∈ S
          · by_cases h3 : e.1 + e.2 - p ∈ q.1
            · have es : stpC S p q e = q := by
                unfold stpC
                rw [if_pos h1, if_neg (fun z => z.2 h3)]
              rw [es, if_pos h1, subN (by omega)]
              simp! only [h2, h3, decide_true, not_true, decide_false]
            · have es : stpC S p q e = (q.1 ++ [e.1 + e.2 - p], q.2 ++ [e.1 + e.2 - p]) := by
                unfold stpC
                rw [if_pos h1, if_pos ⟨h2, h3⟩]
              rw [es, if_pos h1, subN (by omega)]
              simp! only [h2, h3, decide_true, not_false_eq_true]
              rw [appD_of (by simp; omega), okb, appD_of (by simp; omega), okb]
              simp
          · have es : stpC S p q e = q := by
              unfold stpC
              rw [if_pos h1, if_neg (fun z => h2 z.1)]
            rw [es, if_pos h1, subN (by omega)]
            simp! only [h2, decide_false]
        · have es : stpC S p q e = q := by
            unfold stpC
            rw [if_neg h1]
          rw [es, if_neg h1]
          rfl
      · simp only [List.length_append, List.length_singleton] at hwl
        exact ⟨by simp only []; omega, by simp only []; omega⟩
      obtain ⟨mo, h3, h4, h5, h6⟩ := stpC_inv (S := S) (p := p) (E := E) (f := f) (w := w') nf'
      rw [h3]
      rw [List.nodup_append] at nw
      have hfm : ∀ x ∈ f ++ mo, Hang (wi S E) a x := fun x hx => by
        rcases List.mem_append.mp hx with h | h
        · exact hc x h
        · obtain ⟨h7, h8⟩ := h5 x h
          rcases h8 with h8 | h8
          · exact (hc p hpf).fwd (mem_wi.mpr ⟨h8, hpS, h7⟩)
          · exact (hc p hpf).bwd (mem_wi.mpr ⟨h8, h7, hpS⟩)
      have ndm := List.nodup_append.mp h4
      refine ⟨_, rfl, ⟨f ++ mo, w' ++ mo, rfl, h4, ?_, fun x hx => ?_, hfm, List.mem_append_left _ haf, fun x hx hxw k hk hr => ?_⟩, ?_⟩
      · rw [List.nodup_append]
        exact ⟨nw.1, ndm.2.1, fun x hx y hy e => ndm.2.2 x (hwf x (List.mem_append_left _ hx)) y hy e⟩
      · rcases List.mem_append.mp hx with h | h
        · exact List.mem_append_left _ (hwf x (List.mem_append_left _ h))
        · exact List.mem_append_right _ h
      · by_cases hxp : x = p
        · rw [hxp] at hr
          exact h6 k hk hr
        · rcases List.mem_append.mp hx with h | h
          · exact List.mem_append_left _ (hcl x h (by
              simp only [List.mem_append, List.mem_singleton, not_or]
              exact ⟨fun z => hxw (List.mem_append_left _ z), hxp⟩) k hk hr)
          · exact absurd (List.mem_append_right _ h) hxw
      · have := cnt h4 fun x hx => wi_in ha (hfm x hx)
        show 2 * (S.length - ((f ++ mo).map nD).length) + ((w' ++ mo).map nD).length < 2 * (S.length - f.length) + (w' ++ [p]).length
        simp only [List.length_map, List.length_append, List.length_singleton] at this ⊢
        omega
  obtain ⟨_, e, f, rfl, h⟩ := key
  exact ⟨f, e, h⟩
open Classical in
/-- hangs together -/
noncomputable def hangB (S : List Nat) (E : List Pr) : Bool := decide (∀ u ∈ S, ∀ v ∈ S, Hang (wi S E) u v)
open Classical in
theorem hangB_iff : hangB S E = true ↔ ∀ u ∈ S, ∀ v ∈ S, Hang (wi S E) u v := by
  unfold hangB
  exact decide_eq_true_iff
theorem hangB_len {a : Nat} (nS : S.Nodup) (ha : a ∈ S) {f : List Nat} (nf' : f.Nodup) (hf : ∀ x, x ∈ f ↔ Hang (wi S E) a x) : decide (f.length = S.length) = hangB S E := by
  have sub : ∀ x ∈ f, x ∈ S := fun x hx => wi_in ha ((hf x).mp hx)
  rw [Bool.eq_iff_iff, decide_eq_true_iff, hangB_iff]
  constructor
  · intro e
    have : ∀ x ∈ S, x ∈ f := fun x hx => by
      refine Classical.byContradiction fun q => ?_
      have := (List.nodup_cons.mpr ⟨q, nf'⟩).length_le_of_subset (l₂ := S) fun y hy => by
        rcases List.mem_cons.mp hy with rfl | hy
        · exact hx
        · exact sub y hy
      rw [List.length_cons] at this
      omega
    exact fun u hu v hv => ((hf u).mp (this u hu)).symm.trans ((hf v).mp (this v hv))
  · intro h
    have h1 := nf'.length_le_of_subset sub
    have h2 := nS.length_le_of_subset (l₂ := f) fun x hx => (hf x).mpr (h a ha x hx)
    omega
theorem hang_is {pd : D} (hp : items pd = .ok (E.map pN)) (hE : E.length ≤ 1000) (nS : S.Nodup) (hS : S.length ≤ 64) (h0 : S ≠ []) : m_hang_together [pd, .list (S.map nD)] = .ok (.bool (hangB S E)) := by
  obtain ⟨a, S', rfl⟩ : ∃ a S', S = a :: S' := by
    cases S with
    | nil => exact absurd rfl h0
    | cons a S' => exact ⟨a, S', rfl⟩
  obtain ⟨f, e, nf', hf⟩ := come2_is hp hE nS hS (a := a) List.mem_cons_self
  rw [m_hang_together]
  simp! only [e]
  rw [hangB_len nS List.mem_cons_self nf' hf]
/-! ### as the laws look -/
def hgS (S F : List Nat) (e : Pr) : List Nat := if (e.1 ∈ F ↔ e.2 ∉ F) ∧ e.1 ∈ S ∧ e.2 ∈ S then F ++ [if e.1 ∈ F then e.2 else e.1] else F
theorem hgS_len (F : List Nat) (e : Pr) : F.length ≤ (hgS S F e).length ∧ ((hgS S F e).length = F.length → hgS S F e = F ∧ ¬ ((e.1 ∈ F ↔ e.2 ∉ F) ∧ e.1 ∈ S ∧ e.2 ∈ S)) := by
  unfold hgS
  split
  · rename_i h
    exact ⟨by simp, fun z => by simp at z⟩
  · rename_i h
    exact ⟨Nat.le_refl _, fun _ => ⟨rfl, h⟩⟩
theorem hgR_len : ∀ (E : List Pr) (F : List Nat), F.length ≤ (E.foldl (hgS S) F).length ∧ ((E.foldl (hgS S) F).length = F.length → E.foldl (hgS S) F = F ∧ ∀ e ∈ E, ¬ ((e.1 ∈ F ↔ e.2 ∉ F) ∧ e.1 ∈ S ∧ e.2 ∈ S))
  | [], F => ⟨Nat.le_refl _, fun _ => ⟨rfl, fun _ h => nomatch h⟩⟩
  | e :: E, F => by
    rw [List.foldl_cons]
    obtain ⟨h1, h2⟩ := hgS_len (S := S) F e
    obtain ⟨h3, h4⟩ := hgR_len E (hgS S F e)
    refine ⟨by omega, fun z => ?_⟩
    obtain ⟨h5, h6⟩ := h2 (by omega)
    rw [h5] at h4 z ⊢
    obtain ⟨h7, h8⟩ := h4 z
    refine ⟨h7, fun d hd => ?_⟩
    rcases List.mem_cons.mp hd with rfl | hd
    · exact h6
    · exact h8 d hd
/-- found so far -/
def HGood (S : List Nat) (E : List Pr) (a : Nat) (F : List Nat) : Prop := F.Nodup ∧ (∀ x ∈ F, Hang (wi S E) a x) ∧ a ∈ F
theorem hgS_good {a : Nat} {F : List Nat} (h : HGood S E a F) {e : Pr} (he : e ∈ E) : HGood S E a (hgS S F e) := by
  unfold hgS
  split
  · rename_i c
    obtain ⟨h1, h2, h3⟩ := h
    obtain ⟨c1, c2, c3⟩ := c
    have hm : (e.1, e.2) ∈ wi S E := mem_wi.mpr ⟨he, c2, c3⟩
    by_cases q : e.1 ∈ F
    · rw [if_pos q]
      have q2 := c1.mp q
      refine ⟨?_, fun x hx => ?_, List.mem_append_left _ h3⟩
      · rw [List.nodup_append]
        exact ⟨h1, by simp, fun x hx y hy z => q2 (by rw [List.mem_singleton.mp hy] at z; rw [← z]; exact hx)⟩
      · rcases List.mem_append.mp hx with hx | hx
        · exact h2 x hx
        · rw [List.mem_singleton.mp hx]
          exact (h2 _ q).fwd hm
    · rw [if_neg q]
      have q2 : e.2 ∈ F := Classical.byContradiction fun z => q (c1.mpr z)
      refine ⟨?_, fun x hx => ?_, List.mem_append_left _ h3⟩
      · rw [List.nodup_append]
        exact ⟨h1, by simp, fun x hx y hy z => q (by rw [List.mem_singleton.mp hy] at z; rw [← z]; exact hx)⟩
      · rcases List.mem_append.mp hx with hx | hx
        · exact h2 x hx
        · rw [List.mem_singleton.mp hx]
          exact (h2 _ q2).bwd hm
  · exact h
theorem hgR_good {a : Nat} : ∀ {D : List Pr} {F : List Nat}, (∀ e ∈ D, e ∈ E) → HGood S E a F → HGood S E a (D.foldl (hgS S) F)
  | [], F, _, h => h
  | e :: D, F, hs, h => hgR_good (D := D) (fun d hd => hs d (List.mem_cons_of_mem _ hd)) (hgS_good h (hs e List.mem_cons_self))
def hgN (S : List Nat) (E : List Pr) (F : List Nat) (_ : Nat) : List Nat := E.foldl (hgS S) F
theorem hgN_inv {a : Nat} : ∀ n, HGood S E a ((List.range n).foldl (hgN S E) [a]) ∧ (n + 1 ≤ ((List.range n).foldl (hgN S E) [a]).length ∨ ∀ e ∈ E, ¬ ((e.1 ∈ (List.range n).foldl (hgN S E) [a] ↔ e.2 ∉ (List.range n).foldl (hgN S E) [a]) ∧ e.1 ∈ S ∧ e.2 ∈ S))
  | 0 => ⟨⟨by simp, fun x hx => by
      have : x = a := by simpa using hx
      rw [this]; exact .refl, by simp⟩, .inl (by simp)⟩
  | n + 1 => by
    obtain ⟨h1, h2⟩ := hgN_inv (a := a) n
    rw [List.range_succ, List.foldl_append, List.foldl_cons, List.foldl_nil]
    generalize (List.range n).foldl (hgN S E) [a] = F at h1 h2
    unfold hgN
    refine ⟨hgR_good (fun _ h => h) h1, ?_⟩
    obtain ⟨h3, h4⟩ := hgR_len (S := S) E F
    by_cases q : (E.foldl (hgS S) F).length = F.length
    · obtain ⟨h5, h6⟩ := h4 q
      rw [h5]
      exact .inr h6
    · rcases h2 with h2 | h2
      · exact .inl (by omega)
      · refine absurd ?_ q
        have : ∀ D : List Pr, (∀ d ∈ D, d ∈ E) → D.foldl (hgS S) F = F := by
          intro D
          induction D with
          | nil => exact fun _ => rfl
          | cons d D ih =>
            intro hD
            rw [List.foldl_cons]
            have : hgS S F d = F := by
              unfold hgS
              rw [if_neg (h2 d (hD d List.mem_cons_self))]
            rw [this]
            exact ih fun e he => hD e (List.mem_cons_of_mem _ he)
        rw [this E fun _ h => h]
theorem hgN_mem {a : Nat} (ha : a ∈ S) (nS : S.Nodup) : ((List.range S.length).foldl (hgN S E) [a]).Nodup ∧ ∀ x, x ∈ (List.range S.length).foldl (hgN S E) [a] ↔ Hang (wi S E) a x := by
  obtain ⟨⟨h1, h2, h3⟩, h4⟩ := hgN_inv (S := S) (E := E) (a := a) S.length
  generalize (List.range S.length).foldl (hgN S E) [a] = F at h1 h2 h3 h4
  have hl := h1.length_le_of_subset (l₂ := S) fun x hx => wi_in ha (h2 x hx)
  refine ⟨h1, fun x => ⟨h2 x, fun h => ?_⟩⟩
  have h5 := h4.resolve_left (by omega)
  induction h with
  | refl => exact h3
  | fwd h m ih =>
    obtain ⟨m1, m2, m3⟩ := mem_wi.mp m
    refine Classical.byContradiction fun q => h5 _ m1 ⟨⟨fun _ => q, fun _ => ih⟩, m2, m3⟩
  | bwd h m ih =>
    obtain ⟨m1, m2, m3⟩ := mem_wi.mp m
    refine Classical.byContradiction fun q => h5 _ m1 ⟨⟨fun z => absurd z q, fun z => absurd ih z⟩, m2, m3⟩
theorem neB (a b : Bool) : pyNe (.bool a) (.bool b) = .ok (.bool (a != b)) := by cases a <;> cases b <;> rfl
theorem law_hang_is {pd : D} (hp : items pd = .ok (E.map pN)) (nS : S.Nodup) (hS : S.length ≤ 64) : m_law_hang [pd, .list (S.map nD)] = .ok (.bool (hangB S E)) := by
  rw [m_law_hang]
  cases S with
  | nil =>
    simp! only [List.map_nil]
    have : hangB [] E = true := hangB_iff.mpr fun u hu => nomatch hu
    rw [this]
    rfl
  | cons a S' =>
    have ha : a ∈ a :: S' := List.mem_cons_self
    generalize hSS : a :: S' = S at *
    have h0 : S ≠ [] := by rw [← hSS]; simp
    have ht : S.take 1 = [a] := by rw [← hSS]; rfl
    simp! only [h0, decide_false, range1 (show S.length ≤ 16777216 by omega), ← List.map_take, ht, hp]
    rw [show PyData.list ([a].map nD) = (fun F : List Nat => PyData.list (F.map nD)) [a] from rfl]
    rw [foldR_stI (fun d : Nat => nD d) (fun F : List Nat => PyData.list (F.map nD)) (hgN S E) (fun F _ => HGood S E a F) (fun x _ => rfl) ?_ ⟨by simp, fun x hx => by
      rw [List.mem_singleton.mp hx]; exact .refl, by simp⟩]
    · obtain ⟨h1, h2⟩ := hgN_mem (E := E) ha nS
      simp! only
      rw [hangB_len nS ha h1 h2]
    · intro F k _ ys hF
      refine ⟨?_, hgR_good (fun _ h => h) hF⟩
      unfold hgN
      refine foldR_stI (fun e : Pr => (nD e.1, nD e.2)) (fun F : List Nat => PyData.list (F.map nD)) (hgS S) (fun F _ => HGood S E a F) (fun x _ => rfl) (fun F e he ys hF => ⟨?_, hgS_good hF he⟩) hF
      have hl := hF.1.length_le_of_subset (l₂ := S) fun x hx => wi_in ha (hF.2.1 x hx)
      simp! only [neB]
      by_cases h1 : e.1 ∈ F <;> by_cases h2 : e.2 ∈ F <;> by_cases h3 : e.1 ∈ S <;> by_cases h4 : e.2 ∈ S <;> simp! only [h1, h2, h3, h4, decide_true, decide_false, bne_self_eq_false, Bool.true_bne, Bool.false_bne, hgS, not_true, not_false_eq_true, iff_true, true_iff, iff_false, false_iff, and_true, and_false, true_and, false_and, and_self, pyInt_b]
      all_goals (first | rfl | skip)
      · have := addL (xs := F.map nD) (ys := [nD e.2]) (by simp; omega)
        rw [this]
        simp
      · have := addL (xs := F.map nD) (ys := [nD e.1]) (by simp; omega)
        rw [this]
        simp
end
/-! ### the heads of columns -/
theorem having2_is (hs : List (List Nat)) (c : Nat) : m_having [.tuple (hs.map tN), nD c] = .ok (tN (hv hs c)) := by
  rw [m_having]
  simp! only [enumD_hs]
  rw [filR_m (fun k => decide (c ∈ hd hs k)) nD (fun k _ => by simp! only) (fun k _ _ => by simp! only)]
  rfl
theorem heads_with_is (m : Nat) (hs : List (List Nat)) (c : Nat) : m_heads_with [layD m hs, nD c] = .ok (.list ((hv hs c).map nD)) := by
  rw [m_heads_with]
  simp! only [lay1, having2_is]
theorem hv_len (hs : List (List Nat)) (c : Nat) : (hv hs c).length ≤ hs.length := by
  have := List.length_filter_le (fun i => decide (c ∈ TQ.hd hs i)) (List.range hs.length)
  simpa [hv] using this
noncomputable def joinsB (m : Nat) (hs : List (List Nat)) (E : List Pr) : Bool := (List.range m).all fun c => hangB (hv hs c) E
theorem hangB_nil (E : List Pr) : hangB [] E = true := hangB_iff.mpr fun u hu => nomatch hu
section
variable {m : Nat} {hs : List (List Nat)} {E : List Pr} (hm : m ≤ 64) (hn : hs.length ≤ 64)
include hm hn
theorem is_joining_is {pd : D} (hp : items pd = .ok (E.map pN)) (hE : E.length ≤ 1000) : m_is_joining [layD m hs, pd] = .ok (.bool (joinsB m hs E)) := by
  rw [m_is_joining]
  simp! only [lay0, range1 (show m ≤ 16777216 by omega)]
  rw [foldO_bad (fun c => nD c) (fun c => !hangB (hv hs c) E) (.bool false) .none (fun c _ => rfl) (fun c _ => ?_)]
  · unfold joinsB
    rw [thenO_okite]
    cases h : (List.range m).any fun c => !hangB (hv hs c) E with
    | true =>
      have : (List.range m).all (fun c => hangB (hv hs c) E) = false := by
        rw [List.all_eq_not_any_not, h]; rfl
      rw [this]
      rfl
    | false =>
      have : (List.range m).all (fun c => hangB (hv hs c) E) = true := by
        rw [List.all_eq_not_any_not, h]; rfl
      rw [this]
      rfl
  · have hl := hv_len hs c
    simp! only [heads_with_is]
    by_cases h0 : hv hs c = []
    · simp! only [h0, ne_eq, not_true, decide_false, hangB_nil]
    · simp! only [h0, ne_eq, not_false_eq_true, decide_true, hang_is hp hE TQ.hv_nodup (show (hv hs c).length ≤ 64 by omega) h0]
      cases hangB (hv hs c) E <;> rfl
theorem law_joins_is {pd : D} (hp : items pd = .ok (E.map pN)) : m_law_joins [layD m hs, pd] = .ok (.bool (joinsB m hs E)) := by
  rw [m_law_joins]
  simp! only [lay0, lay1, range1 (show m ≤ 16777216 by omega), enumD_hs]
  rw [foldO_bad (fun c => nD c) (fun c => !hangB (hv hs c) E) (.bool false) .none (fun c _ => rfl) (fun c _ => ?_)]
  · unfold joinsB
    rw [thenO_okite]
    cases h : (List.range m).any fun c => !hangB (hv hs c) E with
    | true =>
      have : (List.range m).all (fun c => hangB (hv hs c) E) = false := by
        rw [List.all_eq_not_any_not, h]; rfl
      rw [this]
      rfl
    | false =>
      have : (List.range m).all (fun c => hangB (hv hs c) E) = true := by
        rw [List.all_eq_not_any_not, h]; rfl
      rw [this]
      rfl
  · have hl := hv_len hs c
    rw [filR_m (fun k => decide (c ∈ hd hs k)) nD (fun k _ => by simp! only) (fun k _ _ => by simp! only), okb]
    rw [show (List.range hs.length).filter (fun k => decide (c ∈ hd hs k)) = hv hs c from rfl, law_hang_is hp TQ.hv_nodup (show (hv hs c).length ≤ 64 by omega)]
    cases hangB (hv hs c) E <;> rfl
end
/-! ### trees -/
def lx (a b : Pr) : Prop := a.1 < b.1 ∨ (a.1 = b.1 ∧ a.2 < b.2)
instance (a b : Pr) : Decidable (lx a b) := inferInstanceAs (Decidable (_ ∨ _))
theorem lx_trans {a b c : Pr} (h : lx a b) (k : lx b c) : lx a c := by
  unfold lx at *
  omega
theorem ltP (a b : Pr) : pyLt (pN a) (pN b) = .ok (.bool (decide (lx a b))) := by
  rw [pN_tN, pN_tN, ltT]
  congr 2
  rw [Bool.eq_iff_iff, decide_eq_true_iff, decide_eq_true_iff]
  unfold lx
  rw [List.cons_lt_cons_iff, List.cons_lt_cons_iff]
  simp
theorem adj_zip {α : Type} {R : α → α → Prop} [DecidableRel R] (tr : ∀ a b c, R a b → R b c → R a c) : ∀ xs : List α, ((xs.zip (xs.drop 1)).all fun p => decide (R p.1 p.2)) = decide (xs.Pairwise R)
  | [] => rfl
  | [a] => by simp
  | a :: b :: t => by
    have ih := adj_zip (R := R) tr (b :: t)
    rw [List.drop_one, List.tail_cons, List.zip_cons_cons, List.all_cons]
    rw [List.drop_one, List.tail_cons] at ih
    rw [ih, Bool.eq_iff_iff, Bool.and_eq_true, decide_eq_true_iff, decide_eq_true_iff, decide_eq_true_iff, List.pairwise_cons (a := a)]
    refine ⟨fun ⟨h1, h2⟩ => ⟨fun c hc => ?_, h2⟩, fun ⟨h1, h2⟩ => ⟨h1 b List.mem_cons_self, h2⟩⟩
    rcases List.mem_cons.mp hc with e | e
    · rw [e]; exact h1
    · exact tr _ _ _ h1 ((List.pairwise_cons.mp h2).1 c e)
def okP (n : Nat) (e : Pr) : Bool := decide (e.1 < n) && decide (e.2 < n) && decide (e.1 < e.2)
noncomputable def treeP (n : Nat) (T : List Pr) : Bool := decide (T.length + 1 = n) && T.all (okP n) && decide (T.Pairwise lx) && hangB (List.range n) T
section
variable {m : Nat} {hs : List (List Nat)}
theorem is_pair_P (e : Pr) : m_is_pair [layD m hs, pN e] = .ok (.bool (okP hs.length e)) := by
  rw [m_is_pair]
  have e1 : TL.pyLen [pN e] = .ok (nD 2) := rfl
  have e2 : items (pN e) = .ok ([e.1, e.2].map nD) := rfl
  simp! only [e1, e2, lay1]
  rw [mapR_m (fun x => PyData.bool (decide (x < hs.length))) (fun x _ => by simp! only)]
  simp! only [ne_eq, not_true, decide_false, List.all_cons, List.all_nil, Bool.and_true]
  unfold okP
  cases decide (e.1 < hs.length) <;> cases decide (e.2 < hs.length) <;> rfl
theorem is_tree_P (h1 : 1 ≤ hs.length) (hn : hs.length ≤ 64) (T : List Pr) : m_is_tree [layD m hs, .tuple (T.map pN)] = .ok (.bool (treeP hs.length T)) := by
  rw [m_is_tree]
  simp! only [lay1, subN h1]
  unfold treeP
  by_cases hl : T.length + 1 = hs.length
  · have hl' : T.length = hs.length - 1 := by omega
    rw [decide_eq_true hl, Bool.true_and]
    simp! only [hl', ne_eq, not_true, decide_true, decide_false, Bool.true_and]
    rw [mapR_m (fun e => PyData.bool (okP hs.length e)) (fun e _ => is_pair_P e)]
    simp! only
    cases ha : T.all (okP hs.length) with
    | false => simp! only [Bool.false_and]
    | true =>
      simp! only [Bool.true_and]
      have ez : pairs (T.map pN) ((T.map pN).drop 1) = (T.zip (T.drop 1)).map fun p => PyData.tuple [pN p.1, pN p.2] := by
        unfold pairs
        rw [← List.map_drop, List.zipWith_map, List.zip, List.map_zipWith]
      rw [ez, mapR_m (fun p => PyData.bool (decide (lx p.1 p.2))) (fun p _ => by simp! only [ltP])]
      have ea : ((T.zip (T.drop 1)).all fun p => decide (lx p.1 p.2)) = decide (T.Pairwise lx) := adj_zip (R := lx) (fun a b c => lx_trans) T
      simp! only [ea]
      by_cases hpw : T.Pairwise lx
      · simp! only [hpw, decide_true, Bool.true_and, rgl1 (show hs.length ≤ 16777216 by omega)]
        exact hang_is (E := T) (items_t _) (by omega) List.nodup_range (by simpa using hn) (fun z => by have := congrArg List.length z; simp only [List.length_range, List.length_nil] at this; omega)
      · simp! only [hpw, decide_false, Bool.false_and]
  · have hl' : ¬ T.length = hs.length - 1 := by omega
    simp! only [hl, hl', ne_eq, not_false_eq_true, decide_true, decide_false, Bool.false_and]
theorem is_join_tree_P (h1 : 1 ≤ hs.length) (hm : m ≤ 64) (hn : hs.length ≤ 64) (T : List Pr) : m_is_join_tree [layD m hs, .tuple (T.map pN)] = .ok (.bool (treeP hs.length T && joinsB m hs T)) := by
  rw [m_is_join_tree]
  simp! only [is_tree_P h1 hn]
  cases ht : treeP hs.length T with
  | false => simp! only [Bool.false_and]
  | true =>
    have hl : T.length + 1 = hs.length := by
      unfold treeP at ht
      simp only [Bool.and_eq_true, decide_eq_true_eq] at ht
      exact ht.1.1.1
    simp! only [Bool.true_and]
    exact is_joining_is hm hn (items_t _) (by omega)
end
end TP
/-! the plain layer: all trees, weights, the first join tree -/
namespace TP
open PySem PySem.Spec PyProof.Rows L2 TL JT
open TQ (Pr Hang InV Forest prs combos JoinT onC hv wt due best pick kp iterC stepC exts)
theorem range2 {a b : Nat} (ha : a ≤ 16777216) (hb : b ≤ 16777216) : pyRange [nD a, nD b] = .ok ((List.range' a (b - a)).map nD) := by
  unfold nD
  simp only [pyRange]
  rw [if_pos ⟨by omega, by omega, by omega, by omega⟩]
  unfold upto
  rw [List.range'_eq_map_range, List.map_map]
  congr 1
  have : ((b : Int) - (a : Int)).toNat = b - a := by omega
  rw [this]
  exact List.map_congr_left fun k _ => by simp
def tP (T : List Pr) : D := .tuple (T.map pN)
theorem eqd_tP : EqD 2 tP := eqd_pN.tup
section
variable {m : Nat} {hs : List (List Nat)}
end
/-! ### all lots of so many -/
section
variable (P : List Pr)
/-- rows of bounded size -/
def RowsOk (rows : List (List Pr × Nat)) (k : Nat) : Prop := (∀ q ∈ rows, q.1.length + k ≤ 100 ∧ q.2 ≤ P.length) ∧ rows.length * 15 ^ k ≤ 1000000
theorem RowsOk.len {rows : List (List Pr × Nat)} {k : Nat} (h : RowsOk P rows k) : rows.length ≤ 1000000 := by
  have := h.2
  have h1 : 1 ≤ 15 ^ k := Nat.one_le_pow _ _ (by decide)
  calc rows.length = rows.length * 1 := by omega
    _ ≤ rows.length * 15 ^ k := Nat.mul_le_mul_left _ h1
    _ ≤ 1000000 := this
variable (hP : P.length ≤ 15)
include hP
end
end TP
/-! the plain layer: weights, the first join tree -/
namespace TP
open PySem PySem.Spec PyProof.Rows L2 TL JT
open TQ (Pr Hang InV Forest prs combos JoinT onC hv wt due best pick kp iterC stepC exts)
theorem wi_all {n : Nat} {E : List Pr} (h : InV (List.range n) E) : wi (List.range n) E = E := by
  unfold wi
  rw [List.filter_eq_self]
  intro e he
  obtain ⟨h1, h2⟩ := h e he
  simp [h1, h2] at *
  try exact ⟨h1, h2⟩
/-- by falling weight, then by their order -/
def hx (m : Nat) (hs : List (List Nat)) (a b : Pr) : Prop := wt m hs b < wt m hs a ∨ (wt m hs a = wt m hs b ∧ lx a b)
instance (m : Nat) (hs : List (List Nat)) (a b : Pr) : Decidable (hx m hs a b) := inferInstanceAs (Decidable (_ ∨ _))
def tI (xs : List Int) : D := .tuple (xs.map .int)
open Classical in
section
variable {m : Nat} {hs : List (List Nat)} (v : LayV m hs)
include v
open Classical in
open Classical in
omit v in
/-! ### all join trees -/
omit v in
open Classical in
open Classical in
omit v in
end
end TP
/-! the plain layer: pairs, rows of pairs in order -/
namespace TP
open PySem PySem.Spec PyProof.Rows L2 TL JT
open TQ (Pr Hang InV Forest prs combos JoinT)
instance ltPr : LT (Nat × Nat) := ⟨lx⟩
instance decLtPr : DecidableRel (α := Nat × Nat) (· < ·) := fun a b => inferInstanceAs (Decidable (lx a b))
theorem lt_lx {a b : Pr} : a < b ↔ lx a b := Iff.rfl
theorem ord_pN : OrD 1 pN := ⟨eqd_pN, fun a b => by rw [pN_tN, pN_tN]; exact ord_tN.al _ _, fun a b => by
  rw [pN_tN, pN_tN, ord_tN.lt, lt_lx]
  unfold lx
  rw [List.cons_lt_cons_iff, List.cons_lt_cons_iff]
  simp⟩
theorem lx_tri (a b : Pr) : lx a b ∨ a = b ∨ lx b a := by
  obtain ⟨a1, a2⟩ := a
  obtain ⟨b1, b2⟩ := b
  unfold lx
  rw [Prod.mk.injEq]
  dsimp only
  omega
theorem lx_irr (a : Pr) : ¬ lx a a := by
  unfold lx
  omega
theorem srtP_perm (xs : List Pr) : (srt xs).Perm xs := List.mergeSort_perm _ _
theorem srtP_up {xs : List Pr} (h : xs.Nodup) : (srt xs).Pairwise lx := by
  have h1 := List.pairwise_mergeSort (le := fun a b : Pr => decide (¬ b < a)) (fun a b c h1 h2 => by
    rw [decide_eq_true_iff] at *
    intro h3
    rcases lx_tri b c with q | q | q
    · exact h1 (lx_trans q h3)
    · exact h1 (q ▸ h3)
    · exact h2 q) (fun a b => by
    rw [Bool.or_eq_true, decide_eq_true_iff, decide_eq_true_iff]
    rcases lx_tri a b with q | q | q
    · exact .inl fun z => lx_irr _ (lx_trans q z)
    · subst q; exact .inl (lx_irr _)
    · exact .inr fun z => lx_irr _ (lx_trans q z)) xs
  have h2 : (srt xs).Nodup := (srtP_perm xs).nodup_iff.mpr h
  exact (List.Pairwise.and h1 h2).imp fun {a b} h => by
    have h1 := of_decide_eq_true h.1
    rcases lx_tri a b with q | q | q
    · exact q
    · exact absurd q h.2
    · exact absurd q h1
theorem sortedP (xs : List Pr) : pySorted [.list (xs.map pN)] = .ok (.list ((srt xs).map pN)) := ord_pN.sorted (by decide) (.inl fun p _ => ⟨nD p.1, [nD p.2], rfl⟩)
@[simp] theorem min_pN (e : Pr) : pyMin [pN e] = .ok (nD (min e.1 e.2)) := by
  obtain ⟨a, b⟩ := e
  have : nums [nD a, nD b] = some [(a : Int), (b : Int)] := rfl
  show (match nums [nD a, nD b] with
    | some ns => if ns = [] then R.no else R.ok (PyData.int (lmin ns))
    | none => R.no) = _
  rw [this]
  show R.ok (PyData.int (lmin [(a : Int), (b : Int)])) = _
  unfold nD
  congr 2
  simp only [lmin, List.foldl]
  omega
@[simp] theorem max_pN (e : Pr) : pyMax [pN e] = .ok (nD (max e.1 e.2)) := by
  obtain ⟨a, b⟩ := e
  have : nums [nD a, nD b] = some [(a : Int), (b : Int)] := rfl
  show (match nums [nD a, nD b] with
    | some ns => if ns = [] then R.no else R.ok (PyData.int (lmax ns))
    | none => R.no) = _
  rw [this]
  show R.ok (PyData.int (lmax [(a : Int), (b : Int)])) = _
  unfold nD
  congr 2
  simp only [lmax, List.foldl]
  omega
end TP
/-! the plain layer: kinds of exceptions -/
namespace TP
open PySem PySem.Spec PyProof.Rows L2 TL JT
end TP
/-! the plain layer: things looked at whether they are trees -/
namespace TP
open PySem PySem.Spec PyProof.Rows L2 TL JT
open TQ (Pr Hang InV Forest prs combos JoinT)
/-- what may stand for a tree -/
def PThing (d : D) : Prop := NoDict d ∧ match d with
  | .tuple xs => ∀ x ∈ xs, Thing x
  | _ => True
theorem thing_P (e : Pr) : Thing (pN e) := thing_T [e.1, e.2]
def pairO : D → Option Pr
  | .tuple [a, b] => match natOf a, natOf b with
    | some i, some j => some (i, j)
    | _, _ => none
  | _ => none
theorem pairO_N (e : Pr) : pairO (pN e) = some e := by
  show (match natOf (nD e.1), natOf (nD e.2) with
    | some i, some j => some (i, j)
    | _, _ => none) = _
  rw [natOf_N, natOf_N]
theorem pairO_some {d : D} {e : Pr} (h : pairO d = some e) : d = pN e := by
  match d, h with
  | .tuple [a, b], h =>
    have h : (match natOf a, natOf b with
      | some i, some j => some (i, j)
      | _, _ => none) = some e := h
    cases ha : natOf a with
    | none => rw [ha] at h; cases h
    | some i =>
      cases hb : natOf b with
      | none => rw [ha, hb] at h; cases h
      | some j =>
        rw [ha, hb] at h
        cases h
        rw [natOf_some ha, natOf_some hb]
        rfl
  | .tuple [], h | .tuple [_], h | .tuple (_ :: _ :: _ :: _), h => cases h
  | .none, h | .bool _, h | .int _, h | .str _, h | .list _, h | .dict _, h => cases h
def pairB (n : Nat) (d : D) : Bool := match pairO d with
  | some e => okP n e
  | none => false
theorem pairB_N (n : Nat) (e : Pr) : pairB n (pN e) = okP n e := by
  unfold pairB
  rw [pairO_N]
def pairsO : List D → Option (List Pr)
  | [] => some []
  | x :: xs => match pairO x, pairsO xs with
    | some e, some T => some (e :: T)
    | _, _ => none
theorem pairsO_map (T : List Pr) : pairsO (T.map pN) = some T := by
  induction T with
  | nil => rfl
  | cons e T ih => rw [List.map_cons, pairsO, pairO_N, ih]
theorem pairsO_some : ∀ {xs : List D} {T : List Pr}, pairsO xs = some T → xs = T.map pN
  | [], T, h => by cases h; rfl
  | x :: xs, T, h => by
    rw [pairsO] at h
    cases hx : pairO x with
    | none => rw [hx] at h; cases h
    | some e =>
      cases hs : pairsO xs with
      | none => rw [hx, hs] at h; cases h
      | some S =>
        rw [hx, hs] at h
        cases h
        rw [pairO_some hx, pairsO_some hs]
        rfl
noncomputable def treeD (n : Nat) (d : D) : Bool := match d with
  | .tuple xs => match pairsO xs with
    | some T => treeP n T
    | none => false
  | _ => false
theorem treeD_P (n : Nat) (T : List Pr) : treeD n (tP T) = treeP n T := by
  show (match pairsO (T.map pN) with
    | some T => treeP n T
    | none => false) = _
  rw [pairsO_map]
theorem treeD_some {n : Nat} {d : D} (h : treeD n d = true) : ∃ T, d = tP T ∧ treeP n T = true := by
  cases d with
  | tuple xs =>
    have h : (match pairsO xs with
      | some T => treeP n T
      | none => false) = true := h
    cases hs : pairsO xs with
    | none => rw [hs] at h; cases h
    | some T =>
      rw [hs] at h
      exact ⟨T, by rw [pairsO_some hs]; rfl, h⟩
  | _ => cases h
theorem allP : ∀ {xs : List D} {n : Nat}, xs.all (pairB n) = true → ∃ T : List Pr, xs = T.map pN ∧ T.all (okP n) = true
  | [], _, _ => ⟨[], rfl, rfl⟩
  | x :: xs, n, h => by
    rw [List.all_cons, Bool.and_eq_true] at h
    obtain ⟨T, rfl, hT⟩ := allP h.2
    have h1 := h.1
    unfold pairB at h1
    cases hx : pairO x with
    | none => rw [hx] at h1; cases h1
    | some e =>
      rw [hx] at h1
      exact ⟨e :: T, by rw [pairO_some hx]; rfl, by rw [List.all_cons, hT, Bool.and_true]; exact h1⟩
theorem treeD_no {xs : List D} {n : Nat} (h : xs.all (pairB n) = false ∨ xs.length + 1 ≠ n) : treeD n (.tuple xs) = false := by
  cases hs : treeD n (.tuple xs) with
  | false => rfl
  | true =>
    obtain ⟨T, e, ht⟩ := treeD_some hs
    have e : xs = T.map pN := by injection e
    subst e
    unfold treeP at ht
    simp only [Bool.and_eq_true, decide_eq_true_eq] at ht
    rcases h with h | h
    · have : (T.map pN).all (pairB n) = T.all (okP n) := by
        rw [List.all_map]
        exact congrArg (fun f => T.all f) (funext fun e => pairB_N n e)
      rw [this, ht.1.1.2] at h
      cases h
    · exact absurd (by simpa using ht.1.1.1) h
section
variable {m : Nat} {hs : List (List Nat)}
theorem is_pair_any {d : D} (h : Thing d) : m_is_pair [layD m hs, d] = .ok (.bool (pairB hs.length d)) := by
  rw [m_is_pair]
  cases d with
  | tuple xs =>
    by_cases hl : xs.length = 2
    · match xs, hl, h with
      | [a, b], _, h =>
        have e0 : (nD [a, b].length) = nD 2 := rfl
        simp! only [e0, ne_eq, not_true, decide_false, lay1, map_upto h.2, List.all_map, Function.comp_def, id]
        cases hu : [a, b].all fun x => uptoB x hs.length with
        | false =>
          simp! only
          congr 2
          cases hp : pairB hs.length (.tuple [a, b]) with
          | false => rfl
          | true =>
            exfalso
            unfold pairB at hp
            cases hx : pairO (.tuple [a, b]) with
            | none => rw [hx] at hp; cases hp
            | some e =>
              rw [hx] at hp
              have e2 := pairO_some hx
              have e3 : [a, b] = [nD e.1, nD e.2] := by injection e2
              rw [e3] at hu
              unfold okP at hp
              simp only [Bool.and_eq_true, decide_eq_true_eq] at hp
              simp [uptoB, nD] at hu
              omega
        | true =>
          obtain ⟨o, eo, ho⟩ := upto_all hu
          match o, eo, ho with
          | [i, j], eo, ho =>
            have e1 : a = nD i := (List.cons.inj eo).1
            have e2 : b = nD j := (List.cons.inj (List.cons.inj eo).2).1
            subst e1 e2
            simp! only
            congr 2
            show _ = pairB hs.length (pN (i, j))
            rw [pairB_N]
            unfold okP
            rw [decide_eq_true (ho i (by simp)), decide_eq_true (ho j (by simp))]
            rfl
    · simp! only [hl, ne_eq, not_false_eq_true, decide_true]
      congr 2
      match xs, hl with
      | [], _ => rfl
      | [_], _ => rfl
      | [_, _], hl => exact absurd rfl hl
      | _ :: _ :: _ :: _, _ => rfl
  | dict es =>
    cases es with
    | nil => simp! only; rfl
    | cons e es => exact h.1.elim
  | _ => simp! only; rfl
theorem is_tree_any (h1 : 1 ≤ hs.length) (hn : hs.length ≤ 64) {d : D} (h : PThing d) : m_is_tree [layD m hs, d] = .ok (.bool (treeD hs.length d)) := by
  cases d with
  | tuple xs =>
    cases ha : xs.all (pairB hs.length) with
    | true =>
      obtain ⟨T, rfl, hT⟩ := allP ha
      rw [is_tree_P h1 hn, ← treeD_P]
      rfl
    | false =>
      rw [treeD_no (.inl ha), m_is_tree]
      simp! only [lay1, subN h1]
      by_cases hl : xs.length = hs.length - 1
      · simp! only [hl, ne_eq, not_true, decide_false]
        have := mapR_m (f := fun x => m_is_pair [layD m hs, x]) (g := fun x : D => x) (fun x => PyData.bool (pairB hs.length x)) (xs := xs) fun x hx => is_pair_any (h.2 x hx)
        rw [List.map_id'] at this
        rw [this]
        simp! only [ha]
      · simp! only [hl, ne_eq, not_false_eq_true, decide_true]
  | dict es =>
    cases es with
    | nil => rw [m_is_tree]; simp! only [lay1]; rfl
    | cons e es => exact h.1.elim
  | _ => rw [m_is_tree]; simp! only [lay1]; rfl
noncomputable def joinD (m : Nat) (hs : List (List Nat)) (d : D) : Bool := match d with
  | .tuple xs => match pairsO xs with
    | some T => joinsB m hs T
    | none => false
  | _ => false
theorem joinD_P (T : List Pr) : joinD m hs (tP T) = joinsB m hs T := by
  show (match pairsO (T.map pN) with
    | some T => joinsB m hs T
    | none => false) = _
  rw [pairsO_map]
theorem is_join_any (h1 : 1 ≤ hs.length) (hm : m ≤ 64) (hn : hs.length ≤ 64) {d : D} (h : PThing d) : m_is_join_tree [layD m hs, d] = .ok (.bool (treeD hs.length d && joinD m hs d)) := by
  cases ht : treeD hs.length d with
  | true =>
    obtain ⟨T, rfl, hT⟩ := treeD_some ht
    rw [joinD_P]
    show m_is_join_tree [layD m hs, .tuple (T.map pN)] = _
    rw [is_join_tree_P h1 hm hn, hT]
  | false =>
    rw [m_is_join_tree]
    simp! only [is_tree_any h1 hn h, ht, Bool.false_and]
/-! the law's look -/
theorem law_pair_any {d : D} (h : Thing d) : m_law_is_pair [layD m hs, d] = .ok (.bool (pairB hs.length d)) := by
  rw [m_law_is_pair]
  cases d with
  | tuple xs =>
    by_cases hl : xs.length = 2
    · match xs, hl, h with
      | [a, b], _, h =>
        have e0 : (nD [a, b].length) = nD 2 := rfl
        simp! only [e0, ne_eq, not_true, decide_false, lay1, map_whole h.2, List.all_map, Function.comp_def, id]
        cases a with
        | int i =>
          cases b with
          | int j =>
            have c1 : pyLe (nD 0) (.int i) = .ok (.bool (decide (0 ≤ i))) := rfl
            have c2 : pyLt (.int i) (.int j) = .ok (.bool (decide (i < j))) := rfl
            have c3 : pyLt (.int j) (nD hs.length) = .ok (.bool (decide (j < (hs.length : Int)))) := rfl
            simp! only [List.all_cons, List.all_nil, wholeB, Bool.and_true, c1, c2, c3]
            by_cases hi : 0 ≤ i
            · obtain ⟨k, rfl⟩ : ∃ k : Nat, i = k := ⟨i.toNat, (Int.toNat_of_nonneg hi).symm⟩
              simp! only [hi, decide_true]
              by_cases hij : (k : Int) < j
              · obtain ⟨l, rfl⟩ : ∃ l : Nat, j = l := ⟨j.toNat, (Int.toNat_of_nonneg (by omega)).symm⟩
                simp! only [hij, decide_true]
                congr 2
                show _ = pairB hs.length (pN (k, l))
                rw [pairB_N]
                unfold okP
                rw [Bool.eq_iff_iff]
                simp only [Bool.and_eq_true, decide_eq_true_eq]
                omega
              · simp! only [hij, decide_false]
                congr 2
                unfold pairB pairO natOf
                simp only [hi, if_true]
                by_cases hj : 0 ≤ j
                · simp only [hj, if_true]
                  unfold okP
                  symm
                  simp only [Bool.and_eq_false_iff, decide_eq_false_iff_not]
                  omega
                · simp only [hj, if_false]
            · simp! only [hi, decide_false]
              congr 2
              unfold pairB pairO natOf
              simp only [hi, if_false]
          | _ =>
            simp! only [List.all_cons, List.all_nil, wholeB, Bool.and_true, Bool.and_false]
            congr 2
            unfold pairB pairO natOf
            by_cases hi : 0 ≤ i <;> simp [hi]
        | _ => simp! only [List.all_cons, List.all_nil, wholeB, Bool.and_true, Bool.false_and]; rfl
    · simp! only [hl, ne_eq, not_false_eq_true, decide_true]
      congr 2
      match xs, hl with
      | [], _ => rfl
      | [_], _ => rfl
      | [_, _], hl => exact absurd rfl hl
      | _ :: _ :: _ :: _, _ => rfl
  | dict es =>
    cases es with
    | nil => simp! only; rfl
    | cons e es => exact h.1.elim
  | _ => simp! only; rfl
def pI (e : Pr) : List Int := [(e.1 : Int), (e.2 : Int)]
theorem pI_lt {a b : Pr} : pI a < pI b ↔ lx a b := by
  unfold pI lx
  rw [List.cons_lt_cons_iff, List.cons_lt_cons_iff]
  simp
  omega
theorem setT_pairs {T : List Pr} {n : Nat} (hn : n ≤ 64) (h : T.all (okP n) = true) (hl : T.length < 64) : pySortedSet (tP T) = .ok (.list ((setT' (T.map pI)).map fun k => .tuple (k.map .int))) := by
  show setLD (T.map pN) = _
  have em : T.map pN = (T.map pI).map fun k => PyData.tuple (k.map .int) := by rw [List.map_map]; rfl
  cases T with
  | nil => rfl
  | cons e T =>
    have en : nums ((e :: T).map pN) = none := rfl
    unfold setLD
    rw [en]
    show setTD ((e :: T).map pN) = _
    unfold setTD
    rw [em, tupsOf_map]
    show (if ((e :: T).map pI).length < 64 ∧ tupsOk ((e :: T).map pI) = true then _ else _) = _
    rw [if_pos]
    refine ⟨by simpa using hl, ?_⟩
    show (decide (1 ≤ (pI e).length) && ((e :: T).map pI).all fun j => decide (j.length = (pI e).length) && j.all fun n => decide (0 ≤ n ∧ n < BT)) = true
    rw [Bool.and_eq_true, List.all_eq_true]
    refine ⟨rfl, fun k hk => ?_⟩
    obtain ⟨x, hx, rfl⟩ := List.mem_map.mp hk
    have := List.all_eq_true.mp h x hx
    unfold okP at this
    simp only [Bool.and_eq_true, decide_eq_true_eq] at this
    rw [Bool.and_eq_true, List.all_eq_true]
    refine ⟨rfl, fun c hc => decide_eq_true ?_⟩
    have hB : (64 : Int) < BT := by decide
    unfold pI at hc
    rcases List.mem_cons.mp hc with z | hc
    · rw [z]; omega
    · rw [List.mem_singleton.mp hc]; omega
theorem setT'_sorted {T : List Pr} : T.map pI = setT' (T.map pI) ↔ T.Pairwise lx := by
  constructor
  · intro h
    have h2 := setT'_up (ks := T.map pI)
    rw [← h, List.pairwise_map] at h2
    exact h2.imp fun h => pI_lt.mp h
  · intro h
    refine upT_eq ?_ setT'_up fun k => setT'_mem.symm
    rw [List.pairwise_map]
    exact h.imp fun h => pI_lt.mpr h
theorem eqd_tI : EqD 1 tI := eqd_int.tup
theorem law_tree_P (h1 : 1 ≤ hs.length) (hn : hs.length ≤ 64) (T : List Pr) : m_law_is_tree [layD m hs, .tuple (T.map pN)] = .ok (.bool (treeP hs.length T)) := by
  rw [m_law_is_tree]
  simp! only [lay1, subN h1]
  unfold treeP
  by_cases hl : T.length + 1 = hs.length
  · have hl' : T.length = hs.length - 1 := by omega
    rw [decide_eq_true hl, Bool.true_and]
    simp! only [hl', ne_eq, not_true, decide_true, decide_false, Bool.true_and]
    rw [mapR_m (fun e => PyData.bool (okP hs.length e)) (fun e _ => by
      rw [law_pair_any (thing_P e), pairB_N])]
    simp! only
    cases ha : T.all (okP hs.length) with
    | false => simp! only [Bool.false_and]
    | true =>
      have es : pySortedSet (.tuple (T.map pN)) = _ := setT_pairs hn ha (by omega)
      have em : T.map pN = (T.map pI).map tI := by rw [List.map_map]; rfl
      have ene : pyNe (.list (T.map pN)) (.list ((setT' (T.map pI)).map fun k => .tuple (k.map .int))) = .ok (.bool (!decide (T.Pairwise lx))) := by
        rw [em]
        show pyNe (.list ((T.map pI).map tI)) (.list ((setT' (T.map pI)).map tI)) = _
        rw [eqd_tI.lst.ne (by decide)]
        congr 2
        rw [Bool.eq_iff_iff, decide_eq_true_iff, Bool.not_eq_true', decide_eq_false_iff_not, ne_eq, setT'_sorted]
      simp! only [es, ene, Bool.true_and]
      by_cases hpw : T.Pairwise lx
      · simp! only [hpw, decide_true, Bool.true_and, rgl1 (show hs.length ≤ 16777216 by omega)]
        exact law_hang_is (E := T) (items_t _) List.nodup_range (by simpa using hn)
      · simp! only [hpw, decide_false, Bool.false_and]
  · have hl' : ¬ T.length = hs.length - 1 := by omega
    simp! only [hl, hl', ne_eq, not_false_eq_true, decide_true, decide_false, Bool.false_and]
theorem law_tree_any (h1 : 1 ≤ hs.length) (hn : hs.length ≤ 64) {d : D} (h : PThing d) : m_law_is_tree [layD m hs, d] = .ok (.bool (treeD hs.length d)) := by
  cases d with
  | tuple xs =>
    cases ha : xs.all (pairB hs.length) with
    | true =>
      obtain ⟨T, rfl, hT⟩ := allP ha
      rw [law_tree_P h1 hn, ← treeD_P]
      rfl
    | false =>
      rw [treeD_no (.inl ha), m_law_is_tree]
      simp! only [lay1, subN h1]
      by_cases hl : xs.length = hs.length - 1
      · simp! only [hl, ne_eq, not_true, decide_false]
        have := mapR_m (f := fun x => m_law_is_pair [layD m hs, x]) (g := fun x : D => x) (fun x => PyData.bool (pairB hs.length x)) (xs := xs) fun x hx => law_pair_any (h.2 x hx)
        rw [List.map_id'] at this
        rw [this]
        simp! only [ha]
      · simp! only [hl, ne_eq, not_false_eq_true, decide_true]
  | dict es =>
    cases es with
    | nil => rw [m_law_is_tree]; simp! only [lay1]; rfl
    | cons e es => exact h.1.elim
  | _ => rw [m_law_is_tree]; simp! only [lay1]; rfl
end
end TP
/-! the one way between two heads of a tree (plain Lean) -/
namespace TQ
/-- one step along a pair -/
def Adj (E : List Pr) (a b : Nat) : Prop := (a, b) ∈ E ∨ (b, a) ∈ E
/-- a way from the first to the last, none twice -/
inductive Way (E : List Pr) : List Nat → Nat → Nat → Prop where
  | one (a : Nat) : Way E [a] a a
  | snoc {w : List Nat} {a b c : Nat} : Way E w a b → Adj E b c → c ∉ w → Way E (w ++ [c]) a c
theorem Way.mem {E : List Pr} {w : List Nat} {a b : Nat} (h : Way E w a b) : a ∈ w ∧ b ∈ w := by
  induction h with
  | one a => simp
  | snoc _ _ _ ih => simp [ih.1]
theorem Way.ne {E : List Pr} {w : List Nat} {a b : Nat} (h : Way E w a b) : w ≠ [] := fun z => by
  have := h.mem.1
  rw [z] at this
  cases this
theorem Way.nodup {E : List Pr} {w : List Nat} {a b : Nat} (h : Way E w a b) : w.Nodup := by
  induction h with
  | one a => simp
  | snoc _ _ n ih =>
    rw [List.nodup_append]
    exact ⟨ih, by simp, fun x hx y hy => by rw [List.mem_singleton.mp hy]; exact fun e => n (e ▸ hx)⟩
theorem Way.last {E : List Pr} {w : List Nat} {a b : Nat} (h : Way E w a b) : ∃ v, w = v ++ [b] := by
  cases h with
  | one a => exact ⟨[], rfl⟩
  | snoc _ _ _ => exact ⟨_, rfl⟩
theorem Adj.hang {E : List Pr} {a b : Nat} (h : Adj E a b) : Hang E a b := by
  rcases h with h | h
  · exact .edge h
  · exact (Hang.edge h).symm
theorem Way.hang {E : List Pr} {w : List Nat} {a b : Nat} (h : Way E w a b) : Hang E a b := by
  induction h with
  | one a => exact .refl
  | snoc _ q _ ih => exact ih.trans q.hang
theorem Way.hangs {E : List Pr} {w : List Nat} {a b : Nat} (h : Way E w a b) : ∀ x ∈ w, Hang E a x := by
  induction h with
  | one a => intro x hx; rw [List.mem_singleton.mp hx]; exact .refl
  | snoc h q _ ih =>
    intro x hx
    rcases List.mem_append.mp hx with m | m
    · exact ih x m
    · rw [List.mem_singleton.mp m]; exact h.hang.trans q.hang
theorem Way.mono {E F : List Pr} (s : ∀ e ∈ E, e ∈ F) {w : List Nat} {a b : Nat} (h : Way E w a b) : Way F w a b := by
  induction h with
  | one a => exact .one a
  | snoc _ q n ih => exact .snoc ih (q.imp (s _) (s _)) n
/-- a way has a beginning to each of its heads -/
theorem Way.upto {E : List Pr} {w : List Nat} {a b : Nat} (h : Way E w a b) : ∀ x ∈ w, ∃ v r, w = v ++ r ∧ Way E v a x := by
  induction h with
  | one a => intro x hx; rw [List.mem_singleton.mp hx]; exact ⟨[a], [], rfl, .one a⟩
  | @snoc w a b c h q n ih =>
    intro x hx
    rcases List.mem_append.mp hx with m | m
    · obtain ⟨v, r, e, hv⟩ := ih x m
      exact ⟨v, r ++ [c], by rw [e, List.append_assoc], hv⟩
    · rw [List.mem_singleton.mp m]
      exact ⟨w ++ [c], [], by simp, .snoc h q n⟩
end TQ
/-! the plain layer: the way in a tree -/
namespace TQ
theorem Way.split {E : List Pr} {W : List Nat} {a b : Nat} (h : Way E W a b) : ∀ {w r : List Nat} {c : Nat}, W = w ++ c :: r → w ≠ [] → ∃ p, Way E w a p ∧ Adj E p c ∧ c ∉ w := by
  induction h with
  | one a =>
    intro w r c e ne
    cases w with
    | nil => exact absurd rfl ne
    | cons x w => simp at e
  | @snoc W' a b d h q n ih =>
    intro w r c e ne
    rcases List.eq_nil_or_concat r with er | ⟨r', z, er⟩
    · subst er
      have := List.append_inj' e rfl
      obtain ⟨e1, e2⟩ := this
      rw [List.singleton_inj] at e2
      subst e1 e2
      exact ⟨b, h, q, n⟩
    · subst er
      have e' : W' ++ [d] = (w ++ c :: r') ++ [z] := by rw [e]; simp
      exact ih (List.append_inj' e' rfl).1 ne
end TQ
namespace TP
open PySem PySem.Spec PyProof.Rows L2 TL JT
open TQ (Pr Hang InV Forest prs combos JoinT Way Adj)
theorem add_tN {w : List Nat} {c : Nat} (h : w.length ≤ 1000) : pyAdd (tN w) (.tuple [nD c]) = .ok (tN (w ++ [c])) := by
  show pyAdd (.tuple (w.map nD)) (.tuple [nD c]) = _
  simp only [pyAdd]
  rw [if_pos (by rw [sizeLine_eq]; simp; omega)]
  unfold tN
  rw [List.map_append]
  rfl
section
variable {m : Nat} {hs : List (List Nat)} {T : List Pr}
theorem treeP_props {n : Nat} (h : treeP n T = true) : T.length + 1 = n ∧ (∀ e ∈ T, e.1 < e.2 ∧ e.2 < n) ∧ T.Pairwise lx ∧ (∀ u, u < n → ∀ v, v < n → Hang T u v) ∧ Forest T := by
  unfold treeP at h
  simp only [Bool.and_eq_true, decide_eq_true_eq] at h
  obtain ⟨⟨⟨h1, h2⟩, h3⟩, h4⟩ := h
  have hP : ∀ e ∈ T, e.1 < e.2 ∧ e.2 < n := fun e he => by
    have := List.all_eq_true.mp h2 e he
    unfold okP at this
    simp only [Bool.and_eq_true, decide_eq_true_eq] at this
    omega
  have hi : InV (List.range n) T := fun e he => by
    have := hP e he
    exact ⟨List.mem_range.mpr (by omega), List.mem_range.mpr this.2⟩
  have hh := hangB_iff.mp h4
  rw [wi_all hi] at hh
  refine ⟨h1, hP, h3, fun u hu v hv => hh u (List.mem_range.mpr hu) v (List.mem_range.mpr hv), ?_⟩
  exact (TQ.tree_forest List.nodup_range hi (fun z => by have := congrArg List.length z; simp at this; omega) (by simpa using h1)).mpr hh
theorem pthing_P (T : List Pr) : PThing (tP T) := ⟨trivial, fun x hx => by
  obtain ⟨e, _, rfl⟩ := List.mem_map.mp hx
  exact thing_P e⟩
end
end TP
/-! the plain layer: trees put together head by head; odd things -/
namespace TP
open PySem PySem.Spec PyProof.Rows L2 TL JT
open TQ (Pr Hang InV Forest prs combos JoinT nrm)
/-- each head put to one that stands already: no ring -/
theorem grown_forest {o : List Nat} (nd : o.Nodup) : ∀ {k : Nat} {P : List Pr}, P.length = k → k + 1 ≤ o.length → (∀ i e, P[i]? = some e → ∃ j, j ≤ i ∧ e = (o.getD j 0, o.getD (i + 1) 0)) → Forest P.reverse
  | 0, P, hl, _, _ => by rw [List.length_eq_zero_iff.mp hl]; exact trivial
  | k + 1, P, hl, ho, h => by
    have hne : P ≠ [] := fun z => by rw [z] at hl; cases hl
    obtain ⟨P', e, rfl⟩ : ∃ P' e, P = P' ++ [e] := ⟨P.dropLast, P.getLast hne, (List.dropLast_concat_getLast hne).symm⟩
    have hl' : P'.length = k := by simpa using hl
    rw [List.reverse_append]
    have gd : ∀ {i : Nat} (hi : i < o.length), o.getD i 0 = o[i] := fun {i} hi => by rw [List.getD_eq_getElem?_getD, List.getElem?_eq_getElem hi]; rfl
    obtain ⟨j, hj, ee⟩ := h k e (by rw [List.getElem?_append_right (by omega)]; simp [hl'])
    have inj : ∀ {a b : Nat}, a < o.length → b < o.length → o.getD a 0 = o.getD b 0 → a = b := fun {a b} ha hb q => (List.getElem_inj nd).mp (by rw [← gd ha, ← gd hb]; exact q)
    refine ⟨fun q => ?_, grown_forest nd hl' (by omega) fun i x hx => h i x (by
      have := (List.getElem?_eq_some_iff.mp hx).1
      rw [List.getElem?_append_left this]; exact hx)⟩
    have hout : ∀ p ∈ P'.reverse, p.1 ≠ e.2 ∧ p.2 ≠ e.2 := fun p hp => by
      obtain ⟨i, hi, ep⟩ := List.mem_iff_getElem.mp (List.mem_reverse.mp hp)
      obtain ⟨j', hj', e'⟩ := h i p (by rw [List.getElem?_append_left hi, List.getElem?_eq_getElem hi, ep])
      rw [ee, e']
      exact ⟨fun z => by have := inj (by omega) (by omega) z; omega, fun z => by have := inj (by omega) (by omega) z; omega⟩
    have := TQ.hang_out hout q.symm
    rw [ee] at this
    have := inj (by omega) (by omega) this
    omega
theorem treeP_of {n : Nat} {T : List Pr} (hl : T.length + 1 = n) (hP : ∀ e ∈ T, e.1 < e.2 ∧ e.2 < n) (hu : T.Pairwise lx) (hf : Forest T) : treeP n T = true := by
  have hi : InV (List.range n) T := fun e he => by
    have := hP e he
    exact ⟨List.mem_range.mpr (by omega), List.mem_range.mpr this.2⟩
  have hh := (TQ.tree_forest List.nodup_range hi (fun z => by have := congrArg List.length z; simp at this; omega) (by simpa using hl)).mp hf
  unfold treeP
  rw [decide_eq_true hl, decide_eq_true hu, List.all_eq_true.mpr fun e he => by
    have := hP e he
    unfold okP
    rw [decide_eq_true (show e.1 < n by omega), decide_eq_true this.2, decide_eq_true this.1]
    rfl]
  exact hangB_iff.mpr (by rw [wi_all hi]; exact hh)
theorem grown_tree {n : Nat} {o : List Nat} (po : o.Perm (List.range n)) {P : List Pr} (hl : P.length + 1 = n) (h : ∀ i e, P[i]? = some e → ∃ j, j ≤ i ∧ e = (o.getD j 0, o.getD (i + 1) 0)) : treeP n (srt (P.map nrm)) = true := by
  have ol : o.length = n := by simpa using po.length_eq
  have nd : o.Nodup := po.nodup_iff.mpr List.nodup_range
  have gd : ∀ {i : Nat} (hi : i < o.length), o.getD i 0 = o[i] := fun {i} hi => by rw [List.getD_eq_getElem?_getD, List.getElem?_eq_getElem hi]; rfl
  have hf : Forest (P.reverse.map nrm) := TQ.forest_nrm.mpr (grown_forest nd rfl (by omega) h)
  have hP : ∀ e ∈ P.map nrm, e.1 < e.2 ∧ e.2 < n := fun e he => by
    obtain ⟨p, hp, rfl⟩ := List.mem_map.mp he
    obtain ⟨i, hi, ep⟩ := List.mem_iff_getElem.mp hp
    obtain ⟨j, hj, e'⟩ := h i p (by rw [List.getElem?_eq_getElem hi, ep])
    have lt : ∀ {i : Nat}, i < o.length → o.getD i 0 < n := fun {i} hi => by
      rw [gd hi]
      exact List.mem_range.mp (po.mem_iff.mp (List.getElem_mem hi))
    have h1 := lt (show j < o.length by omega)
    have h2 := lt (show i + 1 < o.length by omega)
    have h3 : o.getD j 0 ≠ o.getD (i + 1) 0 := fun q => by
      rw [gd (show j < o.length by omega), gd (show i + 1 < o.length by omega)] at q
      have := (List.getElem_inj nd).mp q
      omega
    rw [e']
    unfold nrm
    dsimp only
    omega
  have hi : InV (List.range n) (P.reverse.map nrm) := fun e he => by
    rw [List.map_reverse] at he
    have := hP e (List.mem_reverse.mp he)
    exact ⟨List.mem_range.mpr (by omega), List.mem_range.mpr this.2⟩
  have pm : (P.reverse.map nrm).Perm (srt (P.map nrm)) := by
    rw [List.map_reverse]
    exact (List.reverse_perm _).trans (srtP_perm _).symm
  have hf2 : Forest (srt (P.map nrm)) := hf.perm List.nodup_range hi pm
  refine treeP_of (by rw [(srtP_perm _).length_eq, List.length_map]; exact hl) (fun e he => hP e ((srtP_perm _).mem_iff.mp he)) (srtP_up ?_) hf2
  exact (srtP_perm _).nodup_iff.mp hf2.nodup
/-! ### odd things -/
def noDictB : D → Bool
  | .dict (_ :: _) => false
  | _ => true
theorem noDictB_iff {d : D} (h : noDictB d = true) : NoDict d := by
  match d with
  | .dict [] => exact trivial
  | .dict (_ :: _) => cases h
  | .none | .bool _ | .int _ | .str _ | .list _ | .tuple _ => exact trivial
def thingB (d : D) : Bool := noDictB d && match d with
  | .tuple xs => xs.all noDictB
  | _ => true
theorem thingB_iff {d : D} (h : thingB d = true) : Thing d := by
  unfold thingB at h
  rw [Bool.and_eq_true] at h
  refine ⟨noDictB_iff h.1, ?_⟩
  cases d with
  | tuple xs => exact fun x hx => noDictB_iff (List.all_eq_true.mp h.2 x hx)
  | _ => exact trivial
def pthingB (d : D) : Bool := noDictB d && match d with
  | .tuple xs => xs.all thingB
  | _ => true
theorem pthingB_iff {d : D} (h : pthingB d = true) : PThing d := by
  unfold pthingB at h
  rw [Bool.and_eq_true] at h
  refine ⟨noDictB_iff h.1, ?_⟩
  cases d with
  | tuple xs => exact fun x hx => thingB_iff (List.all_eq_true.mp h.2 x hx)
  | _ => exact trivial
theorem pow_39 : pyPow (nD 10) (nD 39) = .ok (.int (10 ^ 39)) := by
  show pyPow (.int 10) (.int 39) = _
  rfl
end TP
/-! the plain layer: nests -/
namespace TP
open PySem PySem.Spec PyProof.Rows L2 TL JT
def subB (a b : List Nat) : Bool := a.all fun c => decide (c ∈ b)
def nestB (gs : List (List Nat)) (c : Nat) : Bool := (gs.filter fun h => decide (c ∈ h)).all fun a => (gs.filter fun h => decide (c ∈ h)).all fun b => subB a b || subB b a
def takL (gs : List (List Nat)) (c : Nat) : List (List Nat) := gs.map fun h => h.filter fun x => decide (x ≠ c)
def nsB : List (List Nat) → List Nat → Bool
  | _, [] => true
  | gs, c :: s => nestB gs c && nsB (takL gs c) s
theorem is_within_is (a b : List Nat) : m_is_within [tN a, tN b] = .ok (.bool (subB a b)) := by
  rw [m_is_within]
  simp! only
  rw [mapR_m (fun c => PyData.bool (decide (c ∈ b))) (fun c _ => by simp! only)]
  simp! only
  rfl
theorem any_bad {s : List (List Nat)} : (s.any fun a => s.any fun b => !(subB a b || subB b a)) = !(s.all fun a => s.all fun b => subB a b || subB b a) := by
  rw [List.not_all_eq_any_not]
  congr 1
  funext a
  rw [List.not_all_eq_any_not]
theorem foldO_ins {mb : Unit → D → R (Oc Unit)} (bad : List Nat → Bool) {xs : List (List Nat)} (h : ∀ x ∈ xs, mb () (tN x) = .ok (if bad x = true then Oc.rt (.bool false) .none else Oc.nx ())) : foldO (fun d => R.ok d) mb (xs.map tN) () = .ok (if xs.any bad = true then Oc.rt (.bool false) .none else Oc.nx ()) := foldO_bad (u := fun d => R.ok d) tN bad _ _ (fun _ _ => rfl) h
theorem is_nest_is (gs : List (List Nat)) (c : Nat) : m_is_nest [.list (gs.map tN), nD c] = .ok (.bool (nestB gs c)) := by
  rw [m_is_nest]
  simp! only
  rw [filR_m (fun h => decide (c ∈ h)) tN (fun h _ => by simp! only) (fun _ _ _ => rfl)]
  unfold nestB
  generalize gs.filter (fun h => decide (c ∈ h)) = s
  simp! only
  rw [foldO_ins (fun a => s.any fun b => !(subB a b || subB b a)) (fun a _ => by
    rw [foldO_ins (fun b => !(subB a b || subB b a)) (fun b _ => by
      simp! only [is_within_is]
      cases subB a b <;> cases subB b a <;> rfl)]
    cases s.any fun b => !(subB a b || subB b a) <;> rfl), any_bad]
  cases s.all fun a => s.all fun b => subB a b || subB b a <;> rfl
theorem ones_ne (a b : List Nat) : pyNe (.list ((a.filter fun c => decide (c ∉ b)).map fun _ => nD 1)) (.list []) = .ok (.bool (!subB a b)) := by
  rw [ne_nilL (k := 0) (fun x hx => by
    obtain ⟨_, _, rfl⟩ := List.mem_map.mp hx
    exact fitk_int _) (by decide)]
  congr 2
  unfold subB
  rw [Bool.eq_iff_iff, decide_eq_true_iff, Bool.not_eq_true', ← Bool.not_eq_true, List.all_eq_true, ne_eq, List.map_eq_nil_iff, List.filter_eq_nil_iff]
  refine not_congr ⟨fun h x hx => decide_eq_true (Classical.byContradiction fun z => h x hx (decide_eq_true z)), fun h x hx z => of_decide_eq_true z (of_decide_eq_true (h x hx))⟩
theorem law_nest_is (gs : List (List Nat)) (c : Nat) : m_law_is_nest [.list (gs.map tN), nD c] = .ok (.bool (nestB gs c)) := by
  rw [m_law_is_nest]
  simp! only
  rw [filR_m (fun h => decide (c ∈ h)) tN (fun h _ => by simp! only) (fun _ _ _ => rfl)]
  unfold nestB
  generalize gs.filter (fun h => decide (c ∈ h)) = s
  simp! only
  rw [foldO_ins (fun a => s.any fun b => !(subB a b || subB b a)) (fun a _ => by
    rw [foldO_ins (fun b => !(subB a b || subB b a)) (fun b _ => by
      simp! only
      rw [filR_m (g := nD) (fun c => decide (c ∉ b)) (fun _ => nD 1) (fun c _ => by simp! only) (fun _ _ _ => rfl)]
      rw [filR_m (g := nD) (fun c => decide (c ∉ a)) (fun _ => nD 1) (fun c _ => by simp! only) (fun _ _ _ => rfl)]
      simp! only [ones_ne]
      cases subB a b <;> cases subB b a <;> rfl)]
    cases s.any fun b => !(subB a b || subB b a) <;> rfl), any_bad]
  cases s.all fun a => s.all fun b => subB a b || subB b a <;> rfl
theorem taken_is (gs : List (List Nat)) (c : Nat) : m_taken_out [.list (gs.map tN), nD c] = .ok (.list ((takL gs c).map tN)) := by
  rw [m_taken_out]
  simp! only
  rw [mapR_m (fun h => tN (h.filter fun x => decide (x ≠ c))) (fun h _ => by
    simp! only
    rw [filR_m (fun x => decide (x ≠ c)) nD (fun x _ => by simp! only) (fun _ _ _ => rfl)]
    rfl)]
  simp! only
  unfold takL
  rw [List.map_map]
  rfl
def colsL (m : Nat) (hs : List (List Nat)) : List Nat := (List.range m).filter fun c => hs.any fun h => decide (c ∈ h)
theorem any_ne {hs : List (List Nat)} {c : Nat} : decide (hs.filter (fun h => decide (c ∈ h)) ≠ []) = hs.any fun h => decide (c ∈ h) := by
  rw [Bool.eq_iff_iff, decide_eq_true_iff, List.any_eq_true]
  constructor
  · intro h
    obtain ⟨x, hx⟩ := List.exists_mem_of_ne_nil _ h
    exact ⟨x, (List.mem_filter.mp hx).1, (List.mem_filter.mp hx).2⟩
  · rintro ⟨x, hx, q⟩ z
    rw [List.filter_eq_nil_iff] at z
    exact z x hx q
section
variable {m : Nat} {hs : List (List Nat)}
theorem law_columns_is (hm : m ≤ 64) : m_law_columns [layD m hs] = .ok (.list ((colsL m hs).map nD)) := by
  rw [m_law_columns]
  simp! only [lay0, lay1, range1 (show m ≤ 16777216 by omega)]
  rw [filR_m (fun c => hs.any fun h => decide (c ∈ h)) nD (fun c _ => by
    rw [filR_m (fun h => decide (c ∈ h)) tN (fun h _ => by simp! only) (fun _ _ _ => rfl)]
    simp! only
    rw [any_ne]) (fun _ _ _ => rfl)]
  rfl
theorem all_columns_is (hm : m ≤ 64) : m_all_columns [layD m hs] = .ok (.list ((colsL m hs).map nD)) := by
  rw [m_all_columns]
  simp! only [lay0, lay1, range1 (show m ≤ 16777216 by omega)]
  rw [filR_m (fun c => hs.any fun h => decide (c ∈ h)) nD (fun c _ => by
    simp! only [having2_is]
    congr 1
    rw [Bool.eq_iff_iff, decide_eq_true_iff, List.any_eq_true]
    constructor
    · intro h
      obtain ⟨i, hi⟩ := List.exists_mem_of_ne_nil _ h
      obtain ⟨h1, h2⟩ := TQ.mem_hv.mp hi
      exact ⟨hd hs i, hd_mem h1, decide_eq_true h2⟩
    · rintro ⟨h, hh, q⟩ z
      obtain ⟨i, hi, rfl⟩ := List.mem_iff_getElem.mp hh
      have : i ∈ TQ.hv hs c := TQ.mem_hv.mpr ⟨hi, by
        show c ∈ hd hs i
        unfold hd
        rw [List.getD_eq_getElem?_getD, List.getElem?_eq_getElem hi]
        exact of_decide_eq_true q⟩
      rw [z] at this
      cases this) (fun _ _ _ => rfl)]
  rfl
end
/-! ### a row of nests, whatever is looked at -/
theorem nests_fold (nest : D → D → R D) (hn : ∀ gs c, nest (.list ((gs : List (List Nat)).map tN)) (nD c) = .ok (.bool (nestB gs c))) : ∀ (o : List Nat) (gs : List (List Nat)),
    thenO (foldO (fun d => R.ok d) (fun j a => (nest j a).bind fun x => (tru x).bind fun y => if (!y) = true then R.ok (Oc.rt (.bool false) .none) else (m_taken_out [j, a]).bind fun v => R.ok (Oc.nx v)) (o.map nD) (.list (gs.map tN))) (fun t _ => t) (fun _ => R.ok (.bool true)) = .ok (.bool (nsB gs o))
  | [], gs => rfl
  | c :: o, gs => by
    have ih := nests_fold nest hn o (takL gs c)
    rw [List.map_cons, foldO, noxo, okb, hn, okb, truB, okb]
    unfold nsB
    cases hc : nestB gs c with
    | false => rfl
    | true =>
      rw [if_neg (by simp), taken_is, okb, okb, Bool.true_and]
      exact ih
def nestsD (m : Nat) (hs : List (List Nat)) (d : D) : Bool := match d with
  | .tuple xs => match natsOf xs with
    | some o => decide (sortN o = colsL m hs) && nsB hs o
    | none => false
  | _ => false
theorem nestsD_T (m : Nat) (hs : List (List Nat)) (o : List Nat) : nestsD m hs (tN o) = (decide (sortN o = colsL m hs) && nsB hs o) := by
  show (match natsOf (o.map nD) with
    | some o => decide (sortN o = colsL m hs) && nsB hs o
    | none => false) = _
  rw [natsOf_map]
theorem sorted_negC {is : List Int} (h : natsOf (is.map PyData.int) = none) (cs : List Nat) : ∃ ms : List Int, pySorted [.tuple (is.map .int)] = .ok (.list (ms.map .int)) ∧ pyNe (.list (ms.map .int)) (.list (cs.map nD)) = .ok (.bool true) := by
  obtain ⟨i, hi, hneg⟩ := natsOf_neg h
  have hp := List.mergeSort_perm (is.map PyData.int) (PySem.W.dataLe false fun d => d)
  obtain ⟨ms, e⟩ := ints_of (rs := sortD (is.map .int)) fun d hd => by
    have := hp.mem_iff.mp hd
    obtain ⟨i, _, rfl⟩ := List.mem_map.mp this
    exact ⟨i, rfl⟩
  refine ⟨ms, ?_, ?_⟩
  · simp only [pySorted]
    rw [if_pos (sortable_ints is), e]
  · have hm : i ∈ ms := by
      have : PyData.int i ∈ sortD (is.map .int) := hp.mem_iff.mpr (List.mem_map.mpr ⟨i, hi, rfl⟩)
      rw [e] at this
      obtain ⟨j, hj, e2⟩ := List.mem_map.mp this
      cases e2
      exact hj
    rw [map_nD, eqd_int.lst.ne (by decide)]
    have : ms ≠ cs.map fun n : Nat => (n : Int) := fun z => by
      rw [z] at hm
      obtain ⟨k, _, rfl⟩ := List.mem_map.mp hm
      omega
    simp [this]
section
variable {m : Nat} {hs : List (List Nat)}
theorem are_nests_is (hm : m ≤ 64) {d : D} (h : Thing d) : m_are_nests [layD m hs, d] = .ok (.bool (nestsD m hs d)) := by
  rw [m_are_nests]
  cases d with
  | tuple xs =>
    simp! only [lay0, map_upto h.2]
    cases hu : xs.all fun x => uptoB x m with
    | false =>
      have : nestsD m hs (.tuple xs) = false := by
        cases hq : nestsD m hs (.tuple xs) with
        | false => rfl
        | true =>
          exfalso
          have hq : (match natsOf xs with
            | some o => decide (sortN o = colsL m hs) && nsB hs o
            | none => false) = true := hq
          cases e : natsOf xs with
          | none => rw [e] at hq; cases hq
          | some o =>
            rw [e] at hq
            have hq : (decide (sortN o = colsL m hs) && nsB hs o) = true := hq
            rw [Bool.and_eq_true, decide_eq_true_iff] at hq
            have : xs.all (fun x => uptoB x m) = true := by
              rw [natsOf_some e, List.all_map, List.all_eq_true]
              intro c hc
              have hc : c ∈ colsL m hs := by rw [← hq.1, sortN_mem]; exact hc
              have := List.mem_range.mp (List.mem_filter.mp hc).1
              show uptoB (nD c) m = true
              simp [uptoB, nD]
              omega
            rw [this] at hu
            cases hu
      rw [this]
      simp! only [List.all_map, Function.comp_def, id, hu]
    | true =>
      obtain ⟨o, rfl, ho⟩ := upto_all hu
      have e : (PyData.tuple (o.map nD)) = tN o := rfl
      simp! only [List.all_map, Function.comp_def, id, hu]
      rw [nestsD_T]
      simp! only [all_columns_is hm, lay1]
      by_cases hc : sortN o = colsL m hs
      · simp! only [hc, ne_eq, not_true, decide_false, decide_true, Bool.true_and]
        exact nests_fold (fun j a => m_is_nest [j, a]) is_nest_is o hs
      · simp! only [hc, ne_eq, not_false_eq_true, decide_false, decide_true, Bool.false_and]
  | dict es =>
    cases es with
    | nil => simp! only; rfl
    | cons e es => exact h.1.elim
  | _ => simp! only; rfl
theorem law_nests_is (hm : m ≤ 64) {d : D} (h : Thing d) : m_law_are_nests [layD m hs, d] = .ok (.bool (nestsD m hs d)) := by
  rw [m_law_are_nests]
  cases d with
  | tuple xs =>
    simp! only [map_whole h.2]
    cases hu : xs.all wholeB with
    | false =>
      have : nestsD m hs (.tuple xs) = false := by
        show (match natsOf xs with
          | some o => decide (sortN o = colsL m hs) && nsB hs o
          | none => false) = false
        cases e : natsOf xs with
        | none => rfl
        | some o =>
          exfalso
          rw [natsOf_some e, List.all_map] at hu
          have : o.all (wholeB ∘ nD) = true := List.all_eq_true.mpr fun c hc => rfl
          rw [this] at hu
          cases hu
      rw [this]
      simp! only [List.all_map, Function.comp_def, id, hu]
    | true =>
      obtain ⟨is, rfl⟩ := whole_all hu
      have hu' : (is.all fun x => wholeB (.int x)) = true := List.all_eq_true.mpr fun c hc => rfl
      simp! only [List.all_map, Function.comp_def, id, law_columns_is hm, hu']
      cases e : natsOf (is.map PyData.int) with
      | none =>
        obtain ⟨ms, e1, e2⟩ := sorted_negC e (colsL m hs)
        have : nestsD m hs (.tuple (is.map .int)) = false := by
          show (match natsOf (is.map PyData.int) with
            | some o => decide (sortN o = colsL m hs) && nsB hs o
            | none => false) = false
          rw [e]
        simp! only [e1, e2, this]
      | some o =>
        have e1 := natsOf_some e
        rw [e1]
        have e : (PyData.tuple (o.map nD)) = tN o := rfl
        rw [e, nestsD_T]
        simp! only [lay1]
        by_cases hc : sortN o = colsL m hs
        · simp! only [hc, ne_eq, not_true, decide_false, decide_true, Bool.true_and]
          exact nests_fold (fun j a => m_law_is_nest [j, a]) law_nest_is o hs
        · simp! only [hc, ne_eq, not_false_eq_true, decide_false, decide_true, Bool.false_and]
  | dict es =>
    cases es with
    | nil => simp! only; rfl
    | cons e es => exact h.1.elim
  | _ => simp! only; rfl
end
/-! ### the first row of nests -/
def nestF (left : List Nat) : Nat → List (List Nat) → List Nat → Option (List Nat)
  | 0, _, _ => none
  | n + 1, gs, row => if row.length = left.length then some row else left.findSome? fun c => if c ∉ row ∧ nestB gs c = true then nestF left n (takL gs c) (row ++ [c]) else none
def grdF : Nat → List (List Nat) → List Nat → List Nat → Option (List Nat)
  | 0, _, _, _ => none
  | n + 1, gs, left, row => if left = [] then some row else match left.filter (nestB gs) with
    | [] => none
    | c :: _ => grdF n (takL gs c) (left.erase c) (row ++ [c])
theorem tak_tak (gs : List (List Nat)) (c d : Nat) : takL (takL gs c) d = takL (takL gs d) c := by
  unfold takL
  rw [List.map_map, List.map_map]
  refine List.map_congr_left fun h _ => ?_
  show (h.filter _).filter _ = (h.filter _).filter _
  rw [List.filter_filter, List.filter_filter]
  refine List.filter_congr fun x _ => ?_
  rw [Bool.and_comm]
theorem sub_tak {a b : List Nat} {c : Nat} (h : subB a b = true) : subB (a.filter fun x => decide (x ≠ c)) (b.filter fun x => decide (x ≠ c)) = true := by
  unfold subB at *
  rw [List.all_eq_true] at *
  intro x hx
  obtain ⟨h1, h2⟩ := List.mem_filter.mp hx
  exact decide_eq_true (List.mem_filter.mpr ⟨of_decide_eq_true (h x h1), h2⟩)
theorem nest_tak {gs : List (List Nat)} {c d : Nat} (h : nestB gs d = true) : nestB (takL gs c) d = true := by
  unfold nestB at *
  rw [List.all_eq_true] at *
  intro a ha
  rw [List.all_eq_true]
  intro b hb
  obtain ⟨ha1, ha2⟩ := List.mem_filter.mp ha
  obtain ⟨hb1, hb2⟩ := List.mem_filter.mp hb
  obtain ⟨a', ha', rfl⟩ := List.mem_map.mp ha1
  obtain ⟨b', hb', rfl⟩ := List.mem_map.mp hb1
  have ia := (List.mem_filter.mp (of_decide_eq_true ha2)).1
  have ib := (List.mem_filter.mp (of_decide_eq_true hb2)).1
  have := h a' (List.mem_filter.mpr ⟨ha', decide_eq_true ia⟩)
  rw [List.all_eq_true] at this
  have := this b' (List.mem_filter.mpr ⟨hb', decide_eq_true ib⟩)
  rw [Bool.or_eq_true] at this ⊢
  exact this.imp sub_tak sub_tak
theorem ns_tak : ∀ {s : List Nat} {gs : List (List Nat)} {c : Nat}, nsB gs s = true → nestB gs c = true → c ∈ s → s.Nodup → nsB (takL gs c) (s.erase c) = true
  | [], _, _, _, _, h, _ => nomatch h
  | d :: s, gs, c, h, hc, hm, nd => by
    unfold nsB at h
    rw [Bool.and_eq_true] at h
    rw [List.nodup_cons] at nd
    by_cases e : d = c
    · subst e
      rw [List.erase_cons_head]
      exact h.2
    · rw [List.erase_cons_tail (by simpa using e)]
      unfold nsB
      rw [nest_tak h.1, tak_tak, Bool.true_and]
      have hm : c ∈ s := (List.mem_cons.mp hm).resolve_left fun z => e z.symm
      exact ns_tak h.2 (nest_tak hc) hm nd.2
theorem nestF_some {left : List Nat} : ∀ {n : Nat} {gs : List (List Nat)} {row o : List Nat}, nestF left n gs row = some o → ∃ s, o = row ++ s ∧ o.length = left.length ∧ nsB gs s = true ∧ (row.Nodup → o.Nodup) ∧ ∀ c ∈ s, c ∈ left
  | 0, _, _, _, h => nomatch h
  | n + 1, gs, row, o, h => by
    unfold nestF at h
    by_cases q : row.length = left.length
    · rw [if_pos q] at h
      cases h
      exact ⟨[], by simp, q, rfl, id, fun _ h => nomatch h⟩
    · rw [if_neg q] at h
      obtain ⟨c, hc, hf⟩ := List.exists_of_findSome?_eq_some h
      by_cases k : c ∉ row ∧ nestB gs c = true
      · rw [if_pos k] at hf
        obtain ⟨s, e, h1, h2, h3, h4⟩ := nestF_some hf
        refine ⟨c :: s, by rw [e]; simp, h1, ?_, fun nd => h3 ?_, fun x hx => ?_⟩
        · unfold nsB
          rw [k.2, h2]
          rfl
        · rw [List.nodup_append]
          exact ⟨nd, by simp, fun x hx y hy => by rw [List.mem_singleton.mp hy]; exact fun z => k.1 (z ▸ hx)⟩
        · rcases List.mem_cons.mp hx with z | z
          · rw [z]; exact hc
          · exact h4 x z
      · rw [if_neg k] at hf
        cases hf
theorem nestF_none {left : List Nat} : ∀ {n : Nat} {gs : List (List Nat)} {row : List Nat}, left.length < row.length + n → nestF left n gs row = none → ∀ s, (row ++ s).length = left.length → (row ++ s).Nodup → (∀ c ∈ s, c ∈ left) → nsB gs s = false
  | 0, gs, row, h0, _, s, hl, _, _ => by rw [List.length_append] at hl; omega
  | n + 1, gs, row, h0, h, s, hl, nd, hm => by
    unfold nestF at h
    by_cases q : row.length = left.length
    · rw [if_pos q] at h; cases h
    · rw [if_neg q] at h
      cases s with
      | nil => rw [List.append_nil] at hl; exact absurd hl q
      | cons c s =>
        unfold nsB
        cases hn : nestB gs c with
        | false => rfl
        | true =>
          have nc : c ∉ row := fun z => (List.nodup_append.mp nd).2.2 c z c (by simp) rfl
          have := List.findSome?_eq_none_iff.mp h c (hm c (by simp))
          rw [if_pos ⟨nc, hn⟩] at this
          rw [Bool.true_and]
          have e : row ++ c :: s = row ++ [c] ++ s := by simp
          rw [e] at hl nd
          exact nestF_none (by rw [List.length_append]; simp; omega) this s hl nd fun x hx => hm x (List.mem_cons_of_mem _ hx)
theorem findSome_first {α β : Type} {f : α → Option β} {p : α → Bool} (hp : ∀ x, p x = false → f x = none) : ∀ {xs : List α}, xs.findSome? f = (xs.filter p).findSome? f
  | [] => rfl
  | x :: xs => by
    rw [List.findSome?_cons]
    cases hx : p x with
    | false =>
      rw [hp x hx, List.filter_cons_of_neg (by rw [hx]; simp)]
      exact findSome_first hp
    | true =>
      rw [List.filter_cons_of_pos hx, List.findSome?_cons]
      cases f x with
      | some y => rfl
      | none => exact findSome_first hp
/-- the first nest each time: the first row of all -/
theorem grd_nestF {left : List Nat} (ndl : left.Nodup) : ∀ {n : Nat} {gs : List (List Nat)} {row : List Nat}, row.Nodup → (∀ c ∈ row, c ∈ left) → left.length < row.length + n → grdF n gs (left.filter fun c => decide (c ∉ row)) row = nestF left n gs row
  | 0, gs, row, nd, hr, h0 => rfl
  | n + 1, gs, row, nd, hr, h0 => by
    have hlen : row.length + (left.filter fun c => decide (c ∉ row)).length = left.length := by
      have p : (row ++ left.filter fun c => decide (c ∉ row)).Perm left := by
        refine (List.perm_ext_iff_of_nodup ?_ ndl).mpr fun c => ?_
        · rw [List.nodup_append]
          exact ⟨nd, ndl.filter _, fun x hx y hy e => by
            have := (List.mem_filter.mp hy).2
            rw [decide_eq_true_iff] at this
            exact this (e ▸ hx)⟩
        · rw [List.mem_append, List.mem_filter, decide_eq_true_iff]
          constructor
          · rintro (h | h)
            · exact hr c h
            · exact h.1
          · intro h
            by_cases q : c ∈ row
            · exact .inl q
            · exact .inr ⟨h, q⟩
      have := p.length_eq
      rwa [List.length_append] at this
    unfold grdF nestF
    by_cases q : row.length = left.length
    · have e : left.filter (fun c => decide (c ∉ row)) = [] := List.length_eq_zero_iff.mp (by omega)
      rw [if_pos q, if_pos e]
    · have e : left.filter (fun c => decide (c ∉ row)) ≠ [] := fun z => by rw [z] at hlen; simp at hlen; exact q hlen
      rw [if_neg q, if_neg e, findSome_first (p := fun c => decide (c ∉ row) && nestB gs c) fun c hc => if_neg fun z => by
        rw [decide_eq_true z.1, z.2] at hc
        cases hc]
      have ef : left.filter (fun c => decide (c ∉ row) && nestB gs c) = (left.filter fun c => decide (c ∉ row)).filter (nestB gs) := by
        rw [List.filter_filter]
        exact List.filter_congr fun x _ => Bool.and_comm _ _
      rw [ef]
      cases hN : (left.filter fun c => decide (c ∉ row)).filter (nestB gs) with
      | nil => rfl
      | cons c N =>
        have hcm : c ∈ (left.filter fun c => decide (c ∉ row)).filter (nestB gs) := by rw [hN]; exact List.mem_cons_self
        obtain ⟨hc1, hcn⟩ := List.mem_filter.mp hcm
        obtain ⟨hcl, hcr⟩ := List.mem_filter.mp hc1
        rw [decide_eq_true_iff] at hcr
        have ndc : (row ++ [c]).Nodup := by
          rw [List.nodup_append]
          exact ⟨nd, by simp, fun x hx y hy => by rw [List.mem_singleton.mp hy]; exact fun z => hcr (z ▸ hx)⟩
        have ih := grd_nestF ndl (n := n) (gs := takL gs c) (row := row ++ [c]) ndc (fun x hx => (List.mem_append.mp hx).elim (hr x) fun z => by rw [List.mem_singleton.mp z]; exact hcl) (by rw [List.length_append]; simp; omega)
        have ee : (left.filter fun c => decide (c ∉ row)).erase c = left.filter fun x => decide (x ∉ row ++ [c]) := by
          rw [List.Nodup.erase_eq_filter (show (left.filter fun c => decide (c ∉ row)).Nodup from ndl.filter _), List.filter_filter]
          refine List.filter_congr fun x _ => ?_
          rw [Bool.eq_iff_iff]
          simp [and_comm]
        show grdF n (takL gs c) ((left.filter fun c => decide (c ∉ row)).erase c) (row ++ [c]) = _
        rw [ee, ih, List.findSome?_cons, if_pos ⟨hcr, hcn⟩]
        cases hF : nestF left n (takL gs c) (row ++ [c]) with
        | some o => rfl
        | none =>
          symm
          rw [List.findSome?_eq_none_iff]
          intro d hd'
          have hdm : d ∈ (left.filter fun c => decide (c ∉ row)).filter (nestB gs) := by rw [hN]; exact List.mem_cons_of_mem _ hd'
          obtain ⟨hd1, hdn⟩ := List.mem_filter.mp hdm
          obtain ⟨hdl, hdr⟩ := List.mem_filter.mp hd1
          rw [decide_eq_true_iff] at hdr
          rw [if_pos ⟨hdr, hdn⟩]
          cases hG : nestF left n (takL gs d) (row ++ [d]) with
          | none => rfl
          | some o =>
            exfalso
            obtain ⟨s, eo, h1, h2, h3, h4⟩ := nestF_some hG
            have ndd : (row ++ [d]).Nodup := by
              rw [List.nodup_append]
              exact ⟨nd, by simp, fun x hx y hy => by rw [List.mem_singleton.mp hy]; exact fun z => hdr (z ▸ hx)⟩
            have ndo := h3 ndd
            have e1 : o = row ++ (d :: s) := by rw [eo]; simp
            rw [e1] at ndo h1
            have nds : (d :: s).Nodup := (List.nodup_append.mp ndo).2.1
            have ns : nsB gs (d :: s) = true := by unfold nsB; rw [hdn, h2]; rfl
            have hcs : c ∈ d :: s := Classical.byContradiction fun z => by
              have := TQ.sub_lenN (C := c :: (row ++ d :: s)) (T := left) (List.nodup_cons.mpr ⟨fun w => by
                rcases List.mem_append.mp w with w | w
                · exact hcr w
                · exact z w, ndo⟩) fun x hx => by
                rcases List.mem_cons.mp hx with w | hx
                · rw [w]; exact hcl
                rcases List.mem_append.mp hx with w | w
                · exact hr x w
                · rcases List.mem_cons.mp w with y | y
                  · rw [y]; exact hdl
                  · exact h4 x y
              rw [List.length_cons, h1] at this
              omega
            have nt := ns_tak ns hcn hcs nds
            have hle := List.length_erase_of_mem hcs
            have hpos := List.length_pos_of_mem hcs
            have := nestF_none (left := left) (n := n) (gs := takL gs c) (row := row ++ [c]) (by rw [List.length_append]; simp; omega) hF ((d :: s).erase c) (by
              rw [List.length_append] at h1 ⊢
              rw [List.length_append, hle]
              simp only [List.length_cons, List.length_nil] at hpos ⊢ h1
              omega) (by
              rw [List.append_assoc]
              have p : (row ++ ([c] ++ (d :: s).erase c)).Perm (row ++ (d :: s)) := List.Perm.append_left _ (List.perm_cons_erase hcs).symm
              exact p.nodup_iff.mpr ndo) fun x hx => by
              rcases List.mem_cons.mp (List.mem_of_mem_erase hx) with y | y
              · rw [y]; exact hdl
              · exact h4 x y
            rw [this] at nt
            cases nt
section
variable {m : Nat} {hs : List (List Nat)}
theorem first_nests_is (hm : m ≤ 7) : m_first_nests [layD m hs] = .ok (optT (grdF 8 hs (colsL m hs) [])) := by
  rw [m_first_nests]
  simp! only [lay1, all_columns_is (show m ≤ 64 by omega)]
  have hcl : (colsL m hs).length ≤ 7 := by
    unfold colsL
    have := List.length_filter_le (fun c => hs.any fun h => decide (c ∈ h)) (List.range m)
    rw [List.length_range] at this
    omega
  apply Sat.eq
  refine thenSat (P := fun o => (∃ r, o = Oc.rt r .none ∧ r = optT (grdF 8 hs (colsL m hs) [])) ∨ ∃ j : D × D × D, o = Oc.nx j ∧ j.2.2 = optT (grdF 8 hs (colsL m hs) [])) ?_ ?_ ?_ (fun j z => by rcases z with ⟨_, z, _⟩ | ⟨_, z, _⟩ <;> cases z)
  rotate_left
  · rintro j (⟨_, z, _⟩ | ⟨j', z, h⟩)
    · cases z
    · cases z
      exact ⟨_, rfl, h⟩
  · rintro t b (⟨r, z, h⟩ | ⟨j', z, h⟩)
    · cases z; exact h
    · cases z
  refine whX_sat (I := fun j => ∃ (n : Nat) (gs : List (List Nat)) (left row : List Nat), j = (.list (gs.map tN), .list (left.map nD), tN row) ∧ left.length < n ∧ row.length + left.length ≤ 7 ∧ grdF n gs left row = grdF 8 hs (colsL m hs) []) (μ := fun j => match j.2.1 with
      | .list xs => xs.length
      | _ => 0) ?_ ⟨8, hs, colsL m hs, [], rfl, by omega, by simpa using hcl, rfl⟩
  rintro _ ⟨n, gs, left, row, rfl, h1, h2, h3⟩
  generalize grdF 8 hs (colsL m hs) [] = RR at h3 ⊢
  simp! only
  refine ⟨_, rfl, ?_⟩
  cases n with
  | zero => omega
  | succ n =>
    by_cases hl : left = []
    · subst hl
      rw [if_neg (by simp)]
      refine .inr ⟨_, rfl, ?_⟩
      rw [← h3]
      rfl
    · rw [if_pos (by simpa using hl)]
      rw [filR_m (nestB gs) nD (fun c _ => by simp! only [is_nest_is]) (fun _ _ _ => rfl)]
      unfold grdF at h3
      rw [if_neg hl] at h3
      simp only [okb, nf_ok]
      cases hf : left.filter (nestB gs) with
      | nil =>
        rw [hf] at h3
        have e0 : pyEq (.list (([] : List Nat).map nD)) (.list []) = .ok (.bool true) := rfl
        simp! only [e0]
        exact ⟨_, rfl, .inl ⟨_, rfl, by rw [← h3]; rfl⟩⟩
      | cons c r =>
        rw [hf] at h3
        have hc : c ∈ left := (List.mem_filter.mp (show c ∈ left.filter (nestB gs) by rw [hf]; exact List.mem_cons_self)).1
        have hle := List.length_erase_of_mem hc
        have hpos := List.length_pos_of_mem hc
        have e0 : pyEq (.list ((c :: r).map nD)) (.list []) = .ok (.bool false) := by rw [eqL0]; simp
        have e1 : pyIx (.list ((c :: r).map nD)) (nD 0) = .ok (nD c) := ix0l _ _
        simp! only [e0, e1, add_tN (show row.length ≤ 1000 by omega), remD_is hc, taken_is]
        refine ⟨_, rfl, ⟨n, takL gs c, left.erase c, row ++ [c], rfl, by omega, by rw [List.length_append, hle]; simp; omega, h3⟩, ?_⟩
        simp only [List.length_map]
        omega
def stD (q : List (List Nat) × List Nat) : D := .tuple [tN q.2, .list (q.1.map tN)]
def wNest (L : Nat) (q : List (List Nat) × List Nat) : Nat := 8 ^ (L - q.2.length)
theorem law_first_nests {left : List Nat} (hl : left.length ≤ 7) (gs0 : List (List Nat)) : m_law_first [.list (gs0.map tN), .list (left.map nD)] = .ok (optT (nestF left 8 gs0 [])) := by
  rw [m_law_first]
  simp! only
  apply Sat.eq
  refine thenSat (P := fun o => (∃ r, o = Oc.rt r .none ∧ r = optT (nestF left 8 gs0 [])) ∨ ((∃ j : D, o = Oc.nx j) ∧ nestF left 8 gs0 [] = none)) ?_ ?_ ?_ (fun j z => by rcases z with ⟨_, z, _⟩ | ⟨⟨_, z⟩, _⟩ <;> cases z)
  rotate_left
  · rintro j (⟨_, z, _⟩ | ⟨⟨j', z⟩, h⟩)
    · cases z
    · exact ⟨_, rfl, by rw [h]; rfl⟩
  · rintro t b (⟨r, z, h⟩ | ⟨⟨j', z⟩, h⟩)
    · cases z; exact h
    · cases z
  have fuel : ∀ {n k : Nat} {gs : List (List Nat)} {row : List Nat}, left.length < row.length + n → nestF left (n + k) gs row = nestF left n gs row := by
    intro n
    induction n with
    | zero =>
      intro k gs row h
      cases k with
      | zero => rfl
      | succ k =>
        unfold nestF
        have : ¬ row.length = left.length := by omega
        rw [if_neg this]
        have key : ∀ {q : Nat} {gs : List (List Nat)} {row : List Nat}, left.length < row.length → nestF left q gs row = none := by
          intro q
          induction q with
          | zero => intro gs row h; rfl
          | succ q ih =>
            intro gs row h
            unfold nestF
            rw [if_neg (by omega), List.findSome?_eq_none_iff]
            intro c hc
            split
            · exact ih (by rw [List.length_append]; simp; omega)
            · rfl
        rw [List.findSome?_eq_none_iff]
        intro c hc
        split
        · exact key (by rw [List.length_append]; simp; omega)
        · rfl
    | succ n ih =>
      intro k gs row h
      rw [show n + 1 + k = (n + k) + 1 by omega]
      unfold nestF
      by_cases q : row.length = left.length
      · rw [if_pos q, if_pos q]
      · rw [if_neg q, if_neg q]
        congr 1
        funext c
        by_cases k' : c ∉ row ∧ nestB gs c = true
        · rw [if_pos k', if_pos k']
          exact ih (by rw [List.length_append]; simp; omega)
        · rw [if_neg k', if_neg k']
  let F : List (List Nat) × List Nat → Option (List Nat) := fun q => nestF left 8 q.1 q.2
  refine whX_sat (I := fun j => ∃ S : List (List (List Nat) × List Nat), j = .list (S.map stD) ∧ (∀ q ∈ S, q.2.length ≤ left.length) ∧ (S.map (wNest 7)).sum ≤ 8 ^ 7 ∧ S.reverse.findSome? F = nestF left 8 gs0 []) (μ := fun j => match j with
      | .list xs => (xs.map fun x => match x with
        | .tuple [.tuple ys, _] => 8 ^ (7 - ys.length)
        | _ => 0).sum
      | _ => 0) ?_ ⟨[(gs0, [])], rfl, fun q hq => by rw [List.mem_singleton.mp hq]; simp, by simp [wNest], by simp [F]⟩
  rintro _ ⟨S, rfl, hlen, hw, hF⟩
  have emu : ∀ S : List (List (List Nat) × List Nat), ((S.map stD).map fun x : D => match x with
        | .tuple [.tuple ys, _] => 8 ^ (7 - ys.length)
        | _ => 0).sum = (S.map (wNest 7)).sum := fun S => by
    rw [List.map_map]
    congr 2
    funext x
    show 8 ^ (7 - (x.2.map nD).length) = _
    rw [List.length_map]
    rfl
  have eqs : EqD 3 stD := ⟨fun q => fitk_tuple fun x hx => by
    rcases List.mem_cons.mp hx with e | hx
    · rw [e]; exact (eqd_tN.fit q.2).mono (by decide)
    · rw [List.mem_singleton.mp hx]; exact eqd_tN.lst.fit q.1, fun a b => by
    unfold stD
    rw [PyData.eqv]
    simp only [PyData.eqvAll, Bool.and_true, Bool.and_eq_true]
    rw [show (PyData.eqv (tN a.2) (tN b.2) = true) = _ from propext (eqd_tN.eqv a.2 b.2), show (PyData.eqv (.list (a.1.map tN)) (.list (b.1.map tN)) = true) = _ from propext (eqd_tN.lst.eqv a.1 b.1)]
    exact ⟨fun h => Prod.ext h.2 h.1, fun h => by rw [h]; exact ⟨rfl, rfl⟩⟩⟩
  have ene : pyNe (.list (S.map stD)) (.list []) = .ok (.bool (decide (S ≠ []))) := by
    rw [ne_nilL (fit_map eqs S) (by decide)]
    simp
  rw [ene, okb, asBB]
  refine ⟨_, rfl, ?_⟩
  show if decide (S ≠ []) = true then _ else _
  by_cases hS : S = []
  · subst hS
    rw [if_neg (by simp)]
    exact .inr ⟨⟨_, rfl⟩, by rw [← hF]; rfl⟩
  · rw [if_pos (by simpa using hS)]
    obtain ⟨S', ⟨gs, row⟩, rfl⟩ : ∃ S' q, S = S' ++ [q] := ⟨S.dropLast, S.getLast hS, (List.dropLast_concat_getLast hS).symm⟩
    have hrl : row.length ≤ left.length := hlen (gs, row) (by simp)
    rw [List.reverse_append, List.reverse_cons, List.reverse_nil, List.nil_append, List.singleton_append, List.findSome?_cons] at hF
    have est : stD (gs, row) = .tuple [tN row, .list (gs.map tN)] := rfl
    simp! only [List.map_append, List.map_cons, List.map_nil, popD_last, est]
    by_cases q : row.length = left.length
    · simp! only [q, decide_true]
      refine ⟨_, rfl, .inl ⟨_, rfl, ?_⟩⟩
      have : F (gs, row) = some row := by
        show nestF left 8 gs row = _
        unfold nestF
        rw [if_pos q]
      rw [this] at hF
      rw [← hF]
      rfl
    · simp! only [q, decide_false]
      rw [filR_m (fun c => decide (c ∉ row) && nestB gs c) nD (fun c _ => by
        simp! only
        by_cases hc : c ∈ row
        · simp! only [hc, not_true, decide_false, Bool.false_and]
        · simp! only [hc, not_false_eq_true, decide_true, Bool.true_and, law_nest_is]) (fun _ _ _ => rfl)]
      generalize hM : left.filter (fun c => decide (c ∉ row) && nestB gs c) = M
      have hMl : M.length ≤ 7 := by
        rw [← hM]
        exact Nat.le_trans (List.length_filter_le _ _) hl
      have er : pyRev (.list (M.map nD)) = .ok (.list (M.reverse.map nD)) := by
        rw [List.map_reverse]
        rfl
      simp! only [er]
      rw [mapR_m (fun c => stD (takL gs c, row ++ [c])) (fun c _ => by
        simp! only [add_tN (show row.length ≤ 1000 by omega), taken_is]
        rfl)]
      have em : M.reverse.map (fun c => stD (takL gs c, row ++ [c])) = (M.reverse.map fun c => (takL gs c, row ++ [c])).map stD := by rw [List.map_map]; rfl
      have hsz : ∀ X : List (List (List Nat) × List Nat), X.length ≤ (X.map (wNest 7)).sum := by
        intro X
        induction X with
        | nil => simp
        | cons x X ih =>
          rw [List.map_cons, List.sum_cons, List.length_cons]
          have : 0 < wNest 7 x := Nat.pow_pos (by decide)
          omega
      have hS'l := hsz (S' ++ [(gs, row)])
      have eext : extD (.list (S'.map stD)) (.list ((M.reverse.map fun c => (takL gs c, row ++ [c])).map stD)) = .ok (.list ((S' ++ M.reverse.map fun c => (takL gs c, row ++ [c])).map stD)) := by
        simp only [extD]
        rw [if_pos (by
          rw [sizeLine_eq]
          simp only [List.length_map, List.length_reverse, List.length_append, List.length_cons, List.length_nil] at hS'l ⊢
          omega), List.map_append]
      simp! only [em, eext]
      have hsum : (((S' ++ M.reverse.map fun c => (takL gs c, row ++ [c])).map (wNest 7)).sum) < ((S' ++ [(gs, row)]).map (wNest 7)).sum := by
        rw [List.map_append, List.map_append, List.sum_append, List.sum_append]
        have h2 : ((M.reverse.map fun c => (takL gs c, row ++ [c])).map (wNest 7)).sum = M.length * 8 ^ (7 - (row.length + 1)) := by
          rw [List.map_map]
          have : (wNest 7 ∘ fun c => (takL gs c, row ++ [c])) = fun _ : Nat => 8 ^ (7 - (row.length + 1)) := by
            funext c
            show 8 ^ (7 - (row ++ [c]).length) = _
            rw [List.length_append]
            rfl
          rw [this, List.map_const', List.sum_replicate_nat, List.length_reverse]
        have h3 : ([(gs, row)].map (wNest 7)).sum = 8 * 8 ^ (7 - (row.length + 1)) := by
          show 8 ^ (7 - row.length) + 0 = _
          rw [show 7 - row.length = 7 - (row.length + 1) + 1 by omega, Nat.pow_succ]
          omega
        have h4 : M.length * 8 ^ (7 - (row.length + 1)) ≤ 7 * 8 ^ (7 - (row.length + 1)) := Nat.mul_le_mul_right _ hMl
        have h5 : 0 < 8 ^ (7 - (row.length + 1)) := Nat.pow_pos (by decide)
        omega
      refine ⟨_, rfl, ⟨_, rfl, fun p hp => ?_, by omega, ?_⟩, ?_⟩
      · rcases List.mem_append.mp hp with z | z
        · exact hlen p (List.mem_append_left _ z)
        · obtain ⟨c, _, rfl⟩ := List.mem_map.mp z
          show (row ++ [c]).length ≤ _
          rw [List.length_append]
          simp only [List.length_cons, List.length_nil]
          omega
      · rw [List.reverse_append, List.findSome?_append, ← List.map_reverse, List.reverse_reverse, List.findSome?_map]
        have e7 : F (gs, row) = M.findSome? (F ∘ fun c => (takL gs c, row ++ [c])) := by
          show nestF left 8 gs row = _
          conv => lhs; unfold nestF
          rw [if_neg q, findSome_first (p := fun c => decide (c ∉ row) && nestB gs c) fun c hc => if_neg fun z => by
            rw [decide_eq_true z.1, z.2] at hc
            cases hc]
          rw [hM]
          have : ∀ X : List Nat, (∀ c ∈ X, c ∉ row ∧ nestB gs c = true) → X.findSome? (fun c => if c ∉ row ∧ nestB gs c = true then nestF left 7 (takL gs c) (row ++ [c]) else none) = X.findSome? (F ∘ fun c => (takL gs c, row ++ [c])) := by
            intro X
            induction X with
            | nil => intro _; rfl
            | cons x X ih =>
              intro hX
              rw [List.findSome?_cons, List.findSome?_cons, ih fun c hc => hX c (List.mem_cons_of_mem _ hc), if_pos (hX x List.mem_cons_self)]
              have : nestF left 7 (takL gs x) (row ++ [x]) = (F ∘ fun c => (takL gs c, row ++ [c])) x := (fuel (n := 7) (k := 1) (by rw [List.length_append]; simp; omega)).symm
              rw [this]
          refine this M fun c hc => ?_
          rw [← hM] at hc
          have := (List.mem_filter.mp hc).2
          rw [Bool.and_eq_true, decide_eq_true_iff] at this
          exact this
        rw [← e7, ← hF]
        cases F (gs, row) <;> rfl
      · refine Nat.lt_of_le_of_lt (Nat.le_of_eq (emu _)) (Nat.lt_of_lt_of_le hsum (Nat.le_of_eq ?_))
        have := emu (S' ++ [(gs, row)])
        rw [List.map_append, List.map_append] at this
        exact this.symm
end
end TP
/-! the plain layer: k21 -/
namespace TP
open PySem PySem.Spec PyProof.Rows L2 TL JT
open TQ (Pr Hang InV Forest prs combos JoinT nrm)
theorem odd2_T {s : D} (hb : IsBox s) : Sat (m_law_odd_2 s []) fun p => (PThing p.1 ∧ Thing p.1) ∧ IsBox p.2 := by
  rw [m_law_odd_2]
  simp! only [pow_39]
  rw [addL (by simp)]
  simp! only
  refine Sat.bind (take2_nox hb (by simp) (by simp)) ?_
  rintro ⟨_, s'⟩ ⟨⟨k, hk, rfl⟩, hb'⟩
  refine Sat.bind (pick_nox (P := fun x => PThing x ∧ Thing x) (fun x hx => ?_) hk) fun d hd => ⟨_, rfl, hd, hb'⟩
  have : (pthingB x && thingB x) = true := by
    revert x
    rw [← List.all_eq_true]
    rfl
  rw [Bool.and_eq_true] at this
  exact ⟨pthingB_iff this.1, thingB_iff this.2⟩
theorem lmax_mem {xs : List Int} (h : xs ≠ []) : lmax xs ∈ xs := by
  cases xs with
  | nil => exact absurd rfl h
  | cons x xs =>
    rcases (foldmax xs x).1 with e | e
    · show xs.foldl _ x ∈ _
      rw [e]; exact List.mem_cons_self
    · exact List.mem_cons_of_mem _ e
theorem max_list {xs : List Nat} (h : xs ≠ []) : ∃ c ∈ xs, pyMax [.list (xs.map nD)] = .ok (nD c) := by
  have hm := lmax_mem (xs := xs.map fun n : Nat => (n : Int)) (by simpa using h)
  obtain ⟨c, hc, e⟩ := List.mem_map.mp hm
  refine ⟨c, hc, ?_⟩
  show (match nums (xs.map nD) with
    | some ns => if ns = [] then R.no else R.ok (PyData.int (lmax ns))
    | none => R.no) = _
  rw [map_nD, nums_map]
  show (if xs.map (fun n : Nat => (n : Int)) = [] then R.no else R.ok (PyData.int (lmax (xs.map fun n : Nat => (n : Int))))) = _
  rw [if_neg (by simpa using h), ← e]
  rfl
theorem index_isL {o : List Nat} {c : Nat} (h : c ∈ o) : pyIndex (.list (o.map nD)) (nD c) = .ok (nD (o.idxOf c)) := by
  have := index_is h
  simp only [tN, pyIndex] at this ⊢
  have h1 : TL.fit (nD c) = true ∧ TL.fit (.list (o.map nD)) = true := ⟨(eqd_nD.fit c).fit (by decide), (eqd_lN.fit o).fit (by decide)⟩
  have h2 : TL.fit (nD c) = true ∧ TL.fit (.tuple (o.map nD)) = true := ⟨(eqd_nD.fit c).fit (by decide), (eqd_tN.fit o).fit (by decide)⟩
  simp only [h1, h2, and_self, if_true] at this ⊢
  exact this
theorem setD_N {xs : List D} {i : Nat} (h : i < xs.length) (d : D) : setD (.list xs) (nD i) d = .ok (.list (xs.set i d)) := by
  have e : ixN xs.length (i : Int) = some i := by
    unfold ixN
    rw [if_pos (by omega)]
    first
    | rw [if_pos (by omega)]; simp
    | simp
  simp only [setD, nD, e]
section
variable {m : Nat} {hs : List (List Nat)}
theorem some_tree_sat (v : LayV m hs) {s : D} (hb : IsBox s) : Sat (m_law_some_tree s [layD m hs]) fun p => (∃ T, p.1 = tP T ∧ treeP hs.length T = true) ∧ IsBox p.2 := by
  have n1 := v.n1
  have n6 := v.n6
  rw [m_law_some_tree]
  simp! only [lay1, range2 (show 1 ≤ 16777216 by omega) (show hs.length ≤ 16777216 by omega)]
  refine Sat.bind (foldR_inv (g := nD) (h := nD) (P := fun i (j : D × D) => IsBox j.1 ∧ ∃ P : List Pr, j.2 = .list (P.map pN) ∧ P.length = i ∧ ∀ k e, P[k]? = some e → e.1 < e.2 ∧ e.2 = k + 1) (xs := List.range' 1 (hs.length - 1)) (i := 0) (j := (s, .list [])) (fun _ _ => rfl) ?_ ⟨hb, [], rfl, rfl, fun k e h => by simp at h⟩) ?_
  · rintro k ⟨s1, _⟩ x hx ⟨b1, P, rfl, hPl, hP⟩
    have hx : x = k + 1 ∧ k < hs.length - 1 := by
      obtain ⟨hlt, e⟩ := List.getElem?_eq_some_iff.mp hx
      rw [List.length_range'] at hlt
      rw [List.getElem_range'] at e
      exact ⟨by omega, hlt⟩
    obtain ⟨rfl, hk⟩ := hx
    rw [Nat.zero_add] at hPl
    refine Sat.bind (take2_nox b1 (by omega) (by omega)) ?_
    rintro ⟨_, s2⟩ ⟨⟨j, hj, rfl⟩, b2⟩
    simp! only [lay1, ixHd (show k + 1 < hs.length by omega)]
    have et : (hs.map tN).take (k + 1) = (hs.take (k + 1)).map tN := (List.map_take ..).symm
    rw [et, mapR_m (fun h => nD ((hd hs (k + 1)).filter fun c => decide (c ∈ h)).length) (fun h _ => by
      rw [filR_m (fun c => decide (c ∈ h)) nD (fun c _ => by simp! only) (fun _ _ _ => rfl)]
      simp! only)]
    have em : (hs.take (k + 1)).map (fun h => nD ((hd hs (k + 1)).filter fun c => decide (c ∈ h)).length) = ((hs.take (k + 1)).map fun h => ((hd hs (k + 1)).filter fun c => decide (c ∈ h)).length).map nD := by rw [List.map_map]; rfl
    simp! only [em]
    generalize hN : ((hs.take (k + 1)).map fun h => ((hd hs (k + 1)).filter fun c => decide (c ∈ h)).length) = near
    have hnl : near.length = k + 1 := by rw [← hN, List.length_map, List.length_take]; omega
    refine Sat.bind (take2_nox b2 (by decide) (by decide)) ?_
    rintro ⟨_, s3⟩ ⟨⟨t, ht, rfl⟩, b3⟩
    obtain ⟨c, hc, ec⟩ := max_list (xs := near) (fun z => by rw [z] at hnl; simp at hnl)
    have hi : near.idxOf c < k + 1 := by rw [← hnl]; exact List.idxOf_lt_length_of_mem hc
    have fin : ∀ q, q < k + 1 → Sat (((lstD (PyData.list (P.map pN))).bind fun a => (appD (PyData.list (P.map pN)) (PyData.tuple [nD q, nD (k + 1)])).bind fun j81 => R.ok (s3, j81))) fun j => IsBox j.1 ∧ ∃ P : List Pr, j.2 = .list (P.map pN) ∧ P.length = 0 + k + 1 ∧ ∀ k e, P[k]? = some e → e.1 < e.2 ∧ e.2 = k + 1 := fun q hq => by
      rw [lstD_ok, okb, appD_of (by simp; omega), okb]
      refine ⟨_, rfl, b3, P ++ [(q, k + 1)], by simp; rfl, by simp; omega, fun i e he => ?_⟩
      rcases Nat.lt_or_ge i P.length with z | z
      · rw [List.getElem?_append_left z] at he
        exact hP i e he
      · rw [List.getElem?_append_right z] at he
        have hz : i - P.length = 0 := by
          have := (List.getElem?_eq_some_iff.mp he).1
          simp at this
          omega
        rw [hz] at he
        have : (q, k + 1) = e := by simpa using he
        rw [← this]
        dsimp only
        omega
    simp! only
    by_cases h0 : 0 < t
    · simp! only [h0, decide_true, ec, index_isL hc]
      exact fin _ hi
    · simp! only [h0, decide_false]
      exact fin _ hj
  · rintro ⟨s1, _⟩ ⟨b1, P, rfl, hPl, hP⟩
    rw [List.length_range', Nat.zero_add] at hPl
    simp! only [sortedP]
    have en : P.map nrm = P := by
      have : ∀ e ∈ P, nrm e = e := fun e he => by
        obtain ⟨i, hi, ei⟩ := List.mem_iff_getElem.mp he
        have := (hP i e (by rw [List.getElem?_eq_getElem hi, ei])).1
        unfold nrm
        refine Prod.ext ?_ ?_
        · dsimp only; omega
        · dsimp only; omega
      conv => rhs; rw [← List.map_id P]
      exact List.map_congr_left this
    refine ⟨_, rfl, ⟨srt P, rfl, ?_⟩, b1⟩
    rw [← en]
    refine grown_tree (o := List.range hs.length) (List.Perm.refl _) (by omega) fun i e he => ?_
    obtain ⟨h1, h2⟩ := hP i e he
    have hi := (List.getElem?_eq_some_iff.mp he).1
    have gd : ∀ {q : Nat}, q < hs.length → (List.range hs.length).getD q 0 = q := fun {q} hq => by rw [List.getD_eq_getElem?_getD, List.getElem?_range hq]; rfl
    refine ⟨e.1, by omega, ?_⟩
    rw [gd (by omega), gd (by omega)]
    exact Prod.ext rfl h2
def AllT (xs : List D) : Prop := ∀ x ∈ xs, Thing x
theorem AllT.app {xs ys : List D} (h : AllT xs) (k : AllT ys) : AllT (xs ++ ys) := fun x hx => (List.mem_append.mp hx).elim (h x) (k x)
theorem AllT.take {xs : List D} (h : AllT xs) (n : Nat) : AllT (xs.take n) := fun x hx => h x (List.mem_of_mem_take hx)
theorem AllT.drop {xs : List D} (h : AllT xs) (n : Nat) : AllT (xs.drop n) := fun x hx => h x (List.mem_of_mem_drop hx)
theorem AllT.one {x : D} (h : Thing x) : AllT [x] := fun y hy => by rw [List.mem_singleton.mp hy]; exact h
theorem AllT.set {xs : List D} (h : AllT xs) (n : Nat) {d : D} (hd : Thing d) : AllT (xs.set n d) := fun x hx => (List.mem_or_eq_of_mem_set hx).elim (h x) (fun e => e ▸ hd)
theorem allT_P (T : List Pr) : AllT (T.map pN) := fun x hx => by
  obtain ⟨e, _, rfl⟩ := List.mem_map.mp hx
  exact thing_P e
theorem AllT.pt {xs : List D} (h : AllT xs) : PThing (.tuple xs) := ⟨trivial, h⟩
theorem bent_sat (v : LayV m hs) {T : List Pr} (ht : treeP hs.length T = true) {s : D} (hb : IsBox s) : Sat (m_law_bent_3 s [layD m hs, tP T]) fun p => PThing p.1 ∧ IsBox p.2 := by
  obtain ⟨hl, hP, hup, hh, hf⟩ := treeP_props ht
  have n6 := v.n6
  rw [m_law_bent_3]
  simp! only
  refine Sat.bind (odd2_T hb).nox ?_
  rintro ⟨od, s1⟩ ⟨⟨ho, ho2⟩, b1⟩
  have e0 : pyEq (tP T) (.tuple []) = .ok (.bool (decide (T = []))) := eqd_tP.eq (by decide) T []
  have el : TL.pyLen [tP T] = .ok (nD T.length) := by show R.ok (nD (T.map pN).length) = _; rw [List.length_map]
  simp! only [e0]
  by_cases hT : T = []
  · simp! only [hT, decide_true]
    refine Sat.bind (take2_nox b1 (by decide) (by decide)) ?_
    rintro ⟨_, s2⟩ ⟨⟨k, hk, rfl⟩, b2⟩
    refine Sat.bind (pick_nox (P := PThing) (fun x hx => ?_) hk) fun d hd => ⟨_, rfl, hd, b2⟩
    rcases List.mem_cons.mp hx with e | hx
    · rw [e]; exact ho
    rcases List.mem_cons.mp hx with e | hx
    · rw [e]; exact pthingB_iff rfl
    rcases List.mem_cons.mp hx with e | hx
    · rw [e]; exact pthingB_iff rfl
    rcases List.mem_cons.mp hx with e | hx
    · rw [e]; exact pthingB_iff rfl
    · rw [List.mem_singleton.mp hx]; exact (AllT.one ho2).pt
  · have hp : 0 < T.length := List.length_pos_iff.mpr hT
    simp! only [hT, decide_false, el]
    refine Sat.bind (take2_nox b1 hp (by omega)) ?_
    rintro ⟨_, s2⟩ ⟨⟨a, ha, rfl⟩, b2⟩
    refine Sat.bind (take2_nox b2 hp (by omega)) ?_
    rintro ⟨_, s3⟩ ⟨⟨t, htl, rfl⟩, b3⟩
    have exl : pyList [tP T] = .ok (.list (T.map pN)) := rfl
    have ea : pyIx (.list (T.map pN)) (nD a) = .ok (pN (T.getD a (0, 0))) := ixLm (0, 0) ha
    have et : pyIx (.list (T.map pN)) (nD t) = .ok (pN (T.getD t (0, 0))) := ixLm (0, 0) htl
    have eaT : pyIx (tP T) (nD a) = .ok (pN (T.getD a (0, 0))) := ixTm (0, 0) ha
    simp! only [exl, ea, et]
    generalize T.getD a (0, 0) = ga at ea eaT
    generalize T.getD t (0, 0) = gt at et
    have enl : nl (.ok (.tuple [pN gt, pN ga])) = .ok (.tuple [pN gt, pN ga]) := nl_ok rfl
    simp! only [enl]
    rw [setD_N (by simpa using ha), okb, setD_N (by simpa using htl), okb]
    simp! only [lay1]
    refine Sat.bind (take2_nox b3 (by omega) (by omega)) ?_
    rintro ⟨_, s4⟩ ⟨⟨o1, ho1, rfl⟩, b4⟩
    simp! only
    refine Sat.bind (take2_nox b4 (by omega) (by omega)) ?_
    rintro ⟨_, s5⟩ ⟨⟨o2, ho2', rfl⟩, b5⟩
    have sTo : ∀ k : Nat, pySl (tP T) none (some (k : Int)) = .ok (.tuple ((T.map pN).take k)) := fun k => sl_to (T.map pN) k
    have sFr : ∀ k : Nat, pySl (tP T) (some (k : Int)) none = .ok (.tuple ((T.map pN).drop k)) := fun k => sl_from (T.map pN) k
    have hTl : (T.map pN).length ≤ 5 := by simp; omega
    have hTk : ∀ k, ((T.map pN).take k).length ≤ 5 := fun k => by rw [List.length_take]; omega
    have hDk : ∀ k, ((T.map pN).drop k).length ≤ 5 := fun k => by rw [List.length_drop]; omega
    have eAD : ∀ k l, pyAdd (.tuple ((T.map pN).take k)) (.tuple ((T.map pN).drop l)) = .ok (.tuple ((T.map pN).take k ++ (T.map pN).drop l)) := fun k l => addT (by have := hTk k; have := hDk l; omega)
    have eTO : ∀ x, pyAdd (tP T) (.tuple [x]) = .ok (.tuple (T.map pN ++ [x])) := fun x => addT (xs := T.map pN) (by simp; omega)
    have eT1 : ∀ k x, pyAdd (.tuple ((T.map pN).take k)) (.tuple [x]) = .ok (.tuple ((T.map pN).take k ++ [x])) := fun k x => addT (by have := hTk k; simp; omega)
    have eT2 : ∀ k l x, pyAdd (.tuple ((T.map pN).take k ++ [x])) (.tuple ((T.map pN).drop l)) = .ok (.tuple ((T.map pN).take k ++ [x] ++ (T.map pN).drop l)) := fun k l x => addT (by have := hTk k; have := hDk l; rw [List.length_append]; simp only [List.length_cons, List.length_nil]; omega)
    have eP1 : pyAdd (pN ga) (.tuple [nD 0]) = .ok (.tuple [nD ga.1, nD ga.2, nD 0]) := addT (xs := [nD ga.1, nD ga.2]) (by simp)
    have eR : pyRev (pN ga) = .ok (.tuple [nD ga.2, nD ga.1]) := rfl
    have eL : pyList [pN ga] = .ok (.list [nD ga.1, nD ga.2]) := rfl
    simp! only [sTo, sFr, eAD, eTO, eaT, eP1, eR, eL, exl, eT1, eT2]
    have aT := allT_P T
    rw [show ∀ (mb : D → D → R D) (l : List D) (j : D), foldR (fun r92 => R.ok r92) mb l j = foldR (fun d => R.ok d) mb (l.map fun x => x) j from fun mb l j => by rw [List.map_id']]
    have hfold := fun (x1 x2 x3 x4 x5 x6 : D) (acc : List D) (hacc : acc.length = 6) =>
      foldR_stI (u := fun d => R.ok d) (mb := fun j200 a201 => (lstD j200).bind fun u218 => appD j200 (.tuple ((T.map pN).take a ++ [a201] ++ (T.map pN).drop (a + 1)))) (g := fun x : D => x) (fun x => x) (fun l : List D => PyData.list l) (fun l x => l ++ [.tuple ((T.map pN).take a ++ [x] ++ (T.map pN).drop (a + 1))]) (fun l rest => l.length + rest.length ≤ 1000) (xs := [x1, x2, x3, x4, x5, x6]) (s := acc) (fun _ _ => rfl) (fun l x _ ys hI => by
        rw [List.length_cons] at hI
        refine ⟨?_, by rw [List.length_append]; simp only [List.length_cons, List.length_nil]; omega⟩
        rw [lstD_ok, okb]
        exact appD_of (by omega)) (by rw [hacc]; simp)
    rw [hfold _ _ _ _ _ _ _ rfl]
    simp! only [List.foldl_cons, List.foldl_nil, sTo, sFr, eT1, eT2]
    generalize hq : (min o1 o2, max o1 o2) = q
    have eq1 : PyData.tuple [nD (min o1 o2), nD (max o1 o2)] = pN q := by rw [← hq]; rfl
    simp only [eq1]
    have e9 : (T.map pN).take a ++ [pN q] ++ (T.map pN).drop (a + 1) = (T.take a ++ [q] ++ T.drop (a + 1)).map pN := by simp
    have es : pySorted [.tuple ((T.map pN).take a ++ [pN q] ++ (T.map pN).drop (a + 1))] = .ok (.list ((srt (T.take a ++ [q] ++ T.drop (a + 1))).map pN)) := by
      rw [e9]
      exact sortedP _
    simp! only [es]
    rw [appD_of (by simp)]
    simp! only
    refine Sat.bind (take2_nox b5 (by decide) (by decide)) ?_
    rintro ⟨_, s6⟩ ⟨⟨k, hk, rfl⟩, b6⟩
    refine Sat.bind (pick_nox (P := PThing) (fun x hx => ?_) (by simpa using hk)) fun d hd => ⟨_, rfl, hd, b6⟩
    have mid : ∀ y, Thing y → PThing (.tuple ((T.map pN).take a ++ [y] ++ (T.map pN).drop (a + 1))) := fun y hy => (((aT.take a).app (AllT.one hy)).app (aT.drop _)).pt
    simp only [List.append_assoc, List.cons_append, List.nil_append, List.mem_cons, List.not_mem_nil, or_false] at hx
    have mid' : ∀ y, Thing y → PThing (.tuple ((T.map pN).take a ++ y :: (T.map pN).drop (a + 1))) := fun y hy => by
      have := mid y hy
      rwa [List.append_assoc] at this
    rcases hx with e | e | e | e | e | e | e | e | e | e | e | e | e
    · rw [e]; exact ((aT.take _).app (aT.drop _)).pt
    · rw [e]; exact ((aT.take _).app (aT.drop _)).pt
    · rw [e]; exact ((aT.set _ (thing_P _)).set _ (thing_P _)).pt
    · rw [e]; exact ⟨trivial, trivial⟩
    · rw [e]; exact ho
    · rw [e]; exact (aT.app (AllT.one ho2)).pt
    · rw [e]; exact mid' _ (thing_P (o1, o2))
    · rw [e]; exact mid' _ (thing_P (ga.2, ga.1))
    · rw [e]; exact mid' _ ho2
    · rw [e]; exact mid' _ ⟨trivial, trivial⟩
    · rw [e]; exact mid' _ ⟨trivial, fun x hx => by
        rcases List.mem_cons.mp hx with e | hx
        · rw [e]; exact trivial
        rcases List.mem_cons.mp hx with e | hx
        · rw [e]; exact trivial
        · rw [List.mem_singleton.mp hx]; exact trivial⟩
    · rw [e]; exact mid' _ ⟨trivial, fun x hx => by
        rcases List.mem_cons.mp hx with e | hx
        · rw [e]; exact trivial
        · rw [List.mem_singleton.mp hx]; exact trivial⟩
    · rw [e]; exact (allT_P _).pt
end
theorem k21_main (ns : List Int) (h : ns.length ≤ 63) (hb : Small ns) : m_law_k21 [scrD ns] = .ok (.bool true) := by
  rw [m_law_k21]
  simp! only [len_scr, range1 (show max 1 (min ns.length 6) ≤ 16777216 by omega)]
  apply Sat.eq
  refine thenFine (turnsN fun k hk => ?_) ⟨_, rfl, rfl⟩
  refine Sat.bind (box2_is ns k (by omega) hb) fun v12 b12 => ?_
  refine Sat.bind (layout2_is b12 (by omega) (by omega) (by omega) (by omega)).nox ?_
  rintro ⟨_, s⟩ ⟨⟨m, hs, rfl, v, _⟩, bs⟩
  have n1 := v.n1
  have n6 := v.n6
  have m7 := v.m7
  simp! only
  refine Sat.bind (some_tree_sat v bs).nox ?_
  rintro ⟨_, s2⟩ ⟨⟨T, rfl, ht⟩, bs2⟩
  refine thenThings (I := IsBox) ?_ fun j bj => ?_
  · refine Sat.bind (bent_sat v ht bs2).nox ?_
    rintro ⟨d1, s3⟩ ⟨hd1, bs3⟩
    refine Sat.bind (bent_sat v ht bs3).nox ?_
    rintro ⟨d2, s4⟩ ⟨hd2, bs4⟩
    refine Sat.bind (odd2_T bs4).nox ?_
    rintro ⟨d3, s5⟩ ⟨⟨hd3, _⟩, bs5⟩
    refine foldO_things (I := IsBox) (P := PThing) (fun x hx => ?_) (fun j d bj hd => ?_) bs5
    · rcases List.mem_cons.mp hx with e | hx
      · rw [e]; exact pthing_P T
      rcases List.mem_cons.mp hx with e | hx
      · rw [e]; exact hd1
      rcases List.mem_cons.mp hx with e | hx
      · rw [e]; exact hd2
      · rw [List.mem_singleton.mp hx]; exact hd3
    · simp! only [is_tree_any n1 (show hs.length ≤ 64 by omega) hd, is_join_any n1 (show m ≤ 64 by omega) (show hs.length ≤ 64 by omega) hd, law_tree_any n1 (show hs.length ≤ 64 by omega) hd, neB, bne_self_eq_false]
      cases hu : treeD hs.length d with
      | false =>
        simp! only [Bool.false_and, neB, bne_self_eq_false]
        exact ⟨_, rfl, j, rfl, bj⟩
      | true =>
        obtain ⟨S, rfl, hS⟩ := treeD_some hu
        have e1 := joinD_P (m := m) (hs := hs) S
        have e2 : m_law_joins [layD m hs, tP S] = .ok (.bool (joinsB m hs S)) := law_joins_is (by omega) (by omega) (items_t _)
        simp! only [Bool.true_and, e1, e2, neB, bne_self_eq_false]
        exact ⟨_, rfl, j, rfl, bj⟩
  · have e3 : m_is_tree [layD m hs, tP T] = .ok (.bool true) := by
      rw [is_tree_any n1 (by omega) (pthing_P T), treeD_P, ht]
    have e4 : pyIsNotB (.bool true) (.bool true) = .ok (.bool false) := rfl
    simp! only [e3, e4]
    exact ⟨_, rfl, rfl⟩
end TP
namespace LK21
open PySem PySem.Spec PyProof.Rows L2 TL JT
theorem main (ns : List Int) (h : ns.length ≤ 63) (hb : Small ns) : m_law_k21 [scrD ns] = .ok (.bool true) := TP.k21_main ns h hb
end LK21
/-! the plain layer: k41 -/
namespace TP
open PySem PySem.Spec PyProof.Rows L2 TL JT
theorem pops2 : ∀ (k : Nat) (l : List Nat) (s : D) (xs : List D), xs.length = k → l.length = k → k ≤ 1000 → IsBox s → Sat (mapJ (fun (d : D) (s : D × D) => (lstD s.1).bind fun u => (nl (TL.pyLen [s.1])).bind fun a => (m_law_take_2 s.2 [a]).bind fun a => (popAtD s.1 a.1).bind fun q => R.ok (q.1, q.2, a.2)) xs (PyData.list (l.map nD), s)) fun r => (∃ o : List Nat, o.Perm l ∧ r.1 = o.map nD) ∧ IsBox r.2.2 := by
  intro k
  induction k with
  | zero =>
    intro l s xs hx hl _ hb
    rw [List.length_eq_zero_iff.mp hx, List.length_eq_zero_iff.mp hl]
    exact ⟨_, rfl, ⟨[], List.Perm.refl _, rfl⟩, hb⟩
  | succ k ih =>
    intro l s xs hx hl hk hb
    cases xs with
    | nil => cases hx
    | cons x xs =>
      rw [mapJ]
      simp! only
      refine Sat.bind (take2_sat hb (by omega) (by omega)) fun p ⟨⟨j, hj, e⟩, hb2⟩ => ?_
      rw [e, popAt_is 0 hj (by omega)]
      simp only [okb]
      refine Sat.bind (ih (l.eraseIdx j) p.2 xs (by simpa using hx) (by rw [List.length_eraseIdx, if_pos hj]; omega) (by omega) hb2) fun r ⟨⟨o, ho, e2⟩, hb3⟩ => ?_
      refine ⟨_, rfl, ⟨l.getD j 0 :: o, ?_, by rw [e2]; rfl⟩, hb3⟩
      have e3 : l.getD j 0 = l[j] := by rw [List.getD_eq_getElem?_getD, List.getElem?_eq_getElem hj]; rfl
      rw [e3]
      exact (ho.cons _).trans (perm_erase hj)
theorem ne_self {d : D} {k : Nat} (h : fitk k d) (hk : k ≤ 60) : pyNe d d = .ok (.bool false) := by
  rw [pyNe_of h h hk, eqv_refl h.1]
  rfl
def AllN (xs : List D) : Prop := ∀ x ∈ xs, NoDict x
theorem AllN.app {xs ys : List D} (h : AllN xs) (k : AllN ys) : AllN (xs ++ ys) := fun x hx => (List.mem_append.mp hx).elim (h x) (k x)
theorem AllN.take {xs : List D} (h : AllN xs) (n : Nat) : AllN (xs.take n) := fun x hx => h x (List.mem_of_mem_take hx)
theorem AllN.drop {xs : List D} (h : AllN xs) (n : Nat) : AllN (xs.drop n) := fun x hx => h x (List.mem_of_mem_drop hx)
theorem AllN.one {x : D} (h : NoDict x) : AllN [x] := fun y hy => by rw [List.mem_singleton.mp hy]; exact h
theorem AllN.set {xs : List D} (h : AllN xs) (n : Nat) {d : D} (hd : NoDict d) : AllN (xs.set n d) := fun x hx => (List.mem_or_eq_of_mem_set hx).elim (h x) (fun e => e ▸ hd)
theorem allN_N (o : List Nat) : AllN (o.map nD) := fun x hx => by
  obtain ⟨e, _, rfl⟩ := List.mem_map.mp hx
  exact trivial
theorem AllN.t {xs : List D} (h : AllN xs) : Thing (.tuple xs) := ⟨trivial, h⟩
theorem bent5_sat {m : Nat} {hs : List (List Nat)} (m1 : 1 ≤ m) (m7 : m ≤ 7) {o : List Nat} (hT : o ≠ []) (hl : o.length ≤ 64) {s : D} (hb : IsBox s) : Sat (m_law_bent_5 s [layD m hs, tN o]) fun p => Thing p.1 ∧ IsBox p.2 := by
  rw [m_law_bent_5]
  simp! only
  refine Sat.bind (odd2_T hb).nox ?_
  rintro ⟨od, s1⟩ ⟨⟨ho, ho2⟩, b1⟩
  have hp : 0 < o.length := List.length_pos_iff.mpr hT
  simp! only
  refine Sat.bind (take2_nox b1 hp (by omega)) ?_
  rintro ⟨_, s2⟩ ⟨⟨a, ha, rfl⟩, b2⟩
  simp! only
  refine Sat.bind (take2_nox b2 hp (by omega)) ?_
  rintro ⟨_, s3⟩ ⟨⟨t, htl, rfl⟩, b3⟩
  have ea : pyIx (.list (o.map nD)) (nD a) = .ok (nD (o.getD a 0)) := ixLm 0 ha
  have et : pyIx (.list (o.map nD)) (nD t) = .ok (nD (o.getD t 0)) := ixLm 0 htl
  simp! only [ea, et]
  generalize o.getD a 0 = ga at ea
  generalize o.getD t 0 = gt at et
  have enl : nl (.ok (.tuple [nD gt, nD ga])) = .ok (.tuple [nD gt, nD ga]) := nl_ok rfl
  simp! only [enl]
  rw [setD_N (by simpa using ha), okb, setD_N (by simpa using htl), okb]
  simp! only [lay0]
  have hlo : (o.map nD).length ≤ 64 := by simpa using hl
  have sTo : ∀ k : Nat, pySl (tN o) none (some (k : Int)) = .ok (.tuple ((o.map nD).take k)) := fun k => sl_to (o.map nD) k
  have sFr : ∀ k : Nat, pySl (tN o) (some (k : Int)) none = .ok (.tuple ((o.map nD).drop k)) := fun k => sl_from (o.map nD) k
  have hTk : ∀ k, ((o.map nD).take k).length ≤ 64 := fun k => by rw [List.length_take]; omega
  have hDk : ∀ k, ((o.map nD).drop k).length ≤ 64 := fun k => by rw [List.length_drop]; omega
  have eAD : ∀ k l, pyAdd (.tuple ((o.map nD).take k)) (.tuple ((o.map nD).drop l)) = .ok (.tuple ((o.map nD).take k ++ (o.map nD).drop l)) := fun k l => addT (by have := hTk k; have := hDk l; omega)
  have eT1 : ∀ k x, pyAdd (.tuple ((o.map nD).take k)) (.tuple [x]) = .ok (.tuple ((o.map nD).take k ++ [x])) := fun k x => addT (by have := hTk k; simp; omega)
  have eT2 : ∀ k l x, pyAdd (.tuple ((o.map nD).take k ++ [x])) (.tuple ((o.map nD).drop l)) = .ok (.tuple ((o.map nD).take k ++ [x] ++ (o.map nD).drop l)) := fun k l x => addT (by have := hTk k; have := hDk l; rw [List.length_append]; simp only [List.length_cons, List.length_nil]; omega)
  have tTo : ∀ k : Nat, tN (o.take k) = .tuple ((o.map nD).take k) := fun k => by unfold tN; rw [List.map_take]
  have tFr : ∀ k : Nat, tN (o.drop k) = .tuple ((o.map nD).drop k) := fun k => by unfold tN; rw [List.map_drop]
  have eR : pyRev (tN o) = .ok (.tuple (o.map nD).reverse) := rfl
  simp! only [sl_totN, sl_fromtN, tTo, tFr, eAD, eT1, eT2, eR]
  refine Sat.bind (take2_nox b3 (by omega) (by omega)) ?_
  rintro ⟨_, s4⟩ ⟨⟨o1, ho1, rfl⟩, b4⟩
  simp! only [foldR, tTo, tFr, eT1, eT2]
  rw [appD_of (by simp), okb, lstD_ok, okb, appD_of (by simp)]
  simp! only
  refine Sat.bind (take2_nox b4 (by decide) (by decide)) ?_
  rintro ⟨_, s6⟩ ⟨⟨k, hk, rfl⟩, b6⟩
  refine Sat.bind (pick_nox (P := Thing) (fun x hx => ?_) (by simpa using hk)) fun d hd => ⟨_, rfl, hd, b6⟩
  have aT := allN_N o
  simp only [List.append_assoc, List.cons_append, List.nil_append, List.mem_cons, List.not_mem_nil, or_false] at hx
  have mid' : ∀ y, NoDict y → Thing (.tuple ((o.map nD).take a ++ y :: (o.map nD).drop (a + 1))) := fun y hy => by
    have := (((aT.take a).app (AllN.one hy)).app (aT.drop (a + 1))).t
    rwa [List.append_assoc] at this
  rcases hx with e | e | e | e | e | e | e | e
  · rw [e]; exact ((aT.set _ (show NoDict (nD gt) from trivial)).set _ (show NoDict (nD ga) from trivial)).t
  · rw [e]; exact ((aT.take _).app (aT.drop _)).t
  · rw [e]; exact ((aT.take _).app (aT.drop _)).t
  · rw [e]; exact thing_T _
  · rw [e]; exact ⟨trivial, trivial⟩
  · rw [e]; exact ho2
  · rw [e]; exact mid' _ trivial
  · rw [e]; exact mid' _ ho2.1
theorem cols_nodup {m : Nat} {hs : List (List Nat)} : (colsL m hs).Nodup := List.nodup_range.filter _
theorem cols_len {m : Nat} {hs : List (List Nat)} : (colsL m hs).length ≤ m := by
  unfold colsL
  have := List.length_filter_le (fun c => hs.any fun h => decide (c ∈ h)) (List.range m)
  rwa [List.length_range] at this
theorem cols_ne {m : Nat} {hs : List (List Nat)} (v : LayV m hs) : colsL m hs ≠ [] := fun z => by
  have h1 := v.n1
  have hm : hs[0] ∈ hs := List.getElem_mem h1
  obtain ⟨c, hc⟩ := List.exists_mem_of_ne_nil _ (v.ne _ hm)
  have : c ∈ colsL m hs := by
    unfold colsL
    rw [List.mem_filter, List.any_eq_true]
    exact ⟨List.mem_range.mpr (v.lt _ hm c hc), hs[0], hm, decide_eq_true hc⟩
  rw [z] at this
  cases this
theorem k41_main (ns : List Int) (h : ns.length ≤ 63) (hb : Small ns) : m_law_k41 [scrD ns] = .ok (.bool true) := by
  rw [m_law_k41]
  simp! only [len_scr, range1 (show max 1 (min ns.length 5) ≤ 16777216 by omega)]
  apply Sat.eq
  refine thenFine (turnsN fun k hk => ?_) ⟨_, rfl, rfl⟩
  refine Sat.bind (box2_is ns k (by omega) hb) fun v12 b12 => ?_
  refine Sat.bind (layout2_is b12 (by omega) (by omega) (by omega) (by omega)).nox ?_
  rintro ⟨_, s⟩ ⟨⟨m, hs, rfl, v, _⟩, bs⟩
  have n1 := v.n1
  have n6 := v.n6
  have m1 := v.m1
  have m7 := v.m7
  have hcl := cols_len (m := m) (hs := hs)
  have hcn := cols_ne v
  have eg : grdF 8 hs (colsL m hs) [] = nestF (colsL m hs) 8 hs [] := by
    have := grd_nestF (left := colsL m hs) cols_nodup (n := 8) (gs := hs) (row := []) List.nodup_nil (fun _ h => nomatch h) (by simp; omega)
    rwa [List.filter_eq_self.mpr (fun _ _ => by simp)] at this
  simp! only [law_columns_is (show m ≤ 64 by omega), lay1, law_first_nests (show (colsL m hs).length ≤ 7 by omega), first_nests_is m7, eg, neB, bne_self_eq_false, ne_self (fit_optT _) (by decide), range1 (show (colsL m hs).length ≤ 16777216 by omega)]
  generalize hdue : nestF (colsL m hs) 8 hs [] = due
  have hdo : ∀ o, due = some o → o ≠ [] ∧ o.length ≤ 64 := fun o e => by
    rw [e] at hdue
    obtain ⟨s, _, h1, _⟩ := nestF_some hdue
    refine ⟨fun z => ?_, by omega⟩
    rw [z] at h1
    exact hcn (List.length_eq_zero_iff.mp h1.symm)
  refine Sat.bind (pops2 (colsL m hs).length (colsL m hs) s _ (by simp) rfl (by omega) bs).nox ?_
  rintro ⟨_, _, s2⟩ ⟨⟨o, po, rfl⟩, b2⟩
  have ol := po.length_eq
  have on : o ≠ [] := fun z => by rw [z] at ol; exact hcn (List.length_eq_zero_iff.mp ol.symm)
  have eT : PyData.tuple (o.map nD) = tN o := rfl
  refine thenThings (I := IsBox) ?_ fun j bj => ⟨_, rfl, rfl⟩
  simp only [eT]
  refine Sat.bind (bent5_sat m1 m7 on (by omega) b2).nox ?_
  rintro ⟨d1, s3⟩ ⟨hd1, b3⟩
  have hrow : ∃ o2 : List Nat, o2 ≠ [] ∧ o2.length ≤ 64 ∧ ((nox (tru (optT due))).bind fun a_2 => nox (if a_2 = true then R.ok (optT due) else R.ok (tN o))) = .ok (tN o2) := by
    cases due with
    | none => exact ⟨o, on, by omega, rfl⟩
    | some q =>
      obtain ⟨q1, q2⟩ := hdo q rfl
      refine ⟨q, q1, q2, ?_⟩
      have : tru (tN q) = .ok (decide (q ≠ [])) := by
        cases q with
        | nil => rfl
        | cons x q => rfl
      simp! only [optT, this]
      rw [if_pos q1]
      rfl
  obtain ⟨o2, h1, h2, h3⟩ := hrow
  have hthing : Thing (optT due) := by
    cases due with
    | none => exact ⟨trivial, trivial⟩
    | some q => exact thing_T q
  rw [← bind_as, h3, okb]
  refine Sat.bind (bent5_sat m1 m7 h1 h2 b3).nox ?_
  rintro ⟨d2, s4⟩ ⟨hd2, b4⟩
  refine Sat.bind (odd2_T b4).nox ?_
  rintro ⟨d3, s5⟩ ⟨⟨_, hd3⟩, b5⟩
  refine foldO_things (I := IsBox) (P := Thing) (fun x hx => ?_) (fun j d bj hd => ?_) b5
  · rcases List.mem_cons.mp hx with e | hx
    · rw [e]; exact thing_T o
    rcases List.mem_cons.mp hx with e | hx
    · rw [e]; exact hd1
    rcases List.mem_cons.mp hx with e | hx
    · rw [e]; exact hthing
    rcases List.mem_cons.mp hx with e | hx
    · rw [e]; exact hd2
    · rw [List.mem_singleton.mp hx]; exact hd3
  · simp! only [are_nests_is (show m ≤ 64 by omega) hd, law_nests_is (show m ≤ 64 by omega) hd, neB, bne_self_eq_false]
    exact ⟨_, rfl, j, rfl, bj⟩
end TP
namespace LK41
open PySem PySem.Spec PyProof.Rows L2 TL JT
theorem main (ns : List Int) (h : ns.length ≤ 63) (hb : Small ns) : m_law_k41 [scrD ns] = .ok (.bool true) := TP.k41_main ns h hb
end LK41
set_option maxRecDepth 100000
namespace LK41
open PySem PySem.Spec PyProof.Rows L2 TL JT
theorem all_mk {l : PySem.W.OpenLaw} {w : World} {K : PySem.W.Frag} {h : Heap} {mg : Str → Option Value} {fa : Addr} (main : ∀ ns : List Int, ns.length ≤ 63 → Small ns → m_law_k41 [scrD ns] = .ok (.bool true)) (X : K.In h) (G : h.Ns mainGlobals mg) (hfa : mg "law" = some (.ref fa))
    {f0 : Addr} {od0 an0 : Option Addr} {sl0 : Array (Option Value)} {oc0 kV0 dc0 pm0 cd0 ct0 : Value} (a0 : PySem.W.nsIn K mainGlobals "is_whole" = some (some (.ref f0))) (l0 : K.lookup f0 = some ⟨oc0, od0, .func (PySem.W.fnOf "is_whole" "is_whole" (defArgs s_is_whole) (defBody s_is_whole) (defScope s_is_whole) .none kV0 dc0 pm0 an0 cd0 ct0), sl0⟩) (c0 : PySem.W.codeIn K cd0 "is_whole" = true) (k0 : PySem.W.keepIn K (.ref f0) = true)
    {f1 : Addr} {od1 an1 : Option Addr} {sl1 : Array (Option Value)} {oc1 kV1 dc1 pm1 cd1 ct1 : Value} (a1 : PySem.W.nsIn K mainGlobals "is_upto" = some (some (.ref f1))) (l1 : K.lookup f1 = some ⟨oc1, od1, .func (PySem.W.fnOf "is_upto" "is_upto" (defArgs s_is_upto) (defBody s_is_upto) (defScope s_is_upto) .none kV1 dc1 pm1 an1 cd1 ct1), sl1⟩) (c1 : PySem.W.codeIn K cd1 "is_upto" = true) (k1 : PySem.W.keepIn K (.ref f1) = true)
    {f2 : Addr} {od2 an2 : Option Addr} {sl2 : Array (Option Value)} {oc2 kV2 dc2 pm2 cd2 ct2 : Value} (a2 : PySem.W.nsIn K mainGlobals "having" = some (some (.ref f2))) (l2 : K.lookup f2 = some ⟨oc2, od2, .func (PySem.W.fnOf "having" "having" (defArgs s_having) (defBody s_having) (defScope s_having) .none kV2 dc2 pm2 an2 cd2 ct2), sl2⟩) (c2 : PySem.W.codeIn K cd2 "having" = true) (k2 : PySem.W.keepIn K (.ref f2) = true)
    {f3 : Addr} {od3 an3 : Option Addr} {sl3 : Array (Option Value)} {oc3 kV3 dc3 pm3 cd3 ct3 : Value} (a3 : PySem.W.nsIn K mainGlobals "all_columns" = some (some (.ref f3))) (l3 : K.lookup f3 = some ⟨oc3, od3, .func (PySem.W.fnOf "all_columns" "all_columns" (defArgs s_all_columns) (defBody s_all_columns) (defScope s_all_columns) .none kV3 dc3 pm3 an3 cd3 ct3), sl3⟩) (c3 : PySem.W.codeIn K cd3 "all_columns" = true) (k3 : PySem.W.keepIn K (.ref f3) = true)
    {f4 : Addr} {od4 an4 : Option Addr} {sl4 : Array (Option Value)} {oc4 kV4 dc4 pm4 cd4 ct4 : Value} (a4 : PySem.W.nsIn K mainGlobals "is_within" = some (some (.ref f4))) (l4 : K.lookup f4 = some ⟨oc4, od4, .func (PySem.W.fnOf "is_within" "is_within" (defArgs s_is_within) (defBody s_is_within) (defScope s_is_within) .none kV4 dc4 pm4 an4 cd4 ct4), sl4⟩) (c4 : PySem.W.codeIn K cd4 "is_within" = true) (k4 : PySem.W.keepIn K (.ref f4) = true)
    {f5 : Addr} {od5 an5 : Option Addr} {sl5 : Array (Option Value)} {oc5 kV5 dc5 pm5 cd5 ct5 : Value} (a5 : PySem.W.nsIn K mainGlobals "is_nest" = some (some (.ref f5))) (l5 : K.lookup f5 = some ⟨oc5, od5, .func (PySem.W.fnOf "is_nest" "is_nest" (defArgs s_is_nest) (defBody s_is_nest) (defScope s_is_nest) .none kV5 dc5 pm5 an5 cd5 ct5), sl5⟩) (c5 : PySem.W.codeIn K cd5 "is_nest" = true) (k5 : PySem.W.keepIn K (.ref f5) = true)
    {f6 : Addr} {od6 an6 : Option Addr} {sl6 : Array (Option Value)} {oc6 kV6 dc6 pm6 cd6 ct6 : Value} (a6 : PySem.W.nsIn K mainGlobals "taken_out" = some (some (.ref f6))) (l6 : K.lookup f6 = some ⟨oc6, od6, .func (PySem.W.fnOf "taken_out" "taken_out" (defArgs s_taken_out) (defBody s_taken_out) (defScope s_taken_out) .none kV6 dc6 pm6 an6 cd6 ct6), sl6⟩) (c6 : PySem.W.codeIn K cd6 "taken_out" = true) (k6 : PySem.W.keepIn K (.ref f6) = true)
    {f7 : Addr} {od7 an7 : Option Addr} {sl7 : Array (Option Value)} {oc7 kV7 dc7 pm7 cd7 ct7 : Value} (a7 : PySem.W.nsIn K mainGlobals "are_nests" = some (some (.ref f7))) (l7 : K.lookup f7 = some ⟨oc7, od7, .func (PySem.W.fnOf "are_nests" "are_nests" (defArgs s_are_nests) (defBody s_are_nests) (defScope s_are_nests) .none kV7 dc7 pm7 an7 cd7 ct7), sl7⟩) (c7 : PySem.W.codeIn K cd7 "are_nests" = true) (k7 : PySem.W.keepIn K (.ref f7) = true)
    {f8 : Addr} {od8 an8 : Option Addr} {sl8 : Array (Option Value)} {oc8 kV8 dc8 pm8 cd8 ct8 : Value} (a8 : PySem.W.nsIn K mainGlobals "first_nests" = some (some (.ref f8))) (l8 : K.lookup f8 = some ⟨oc8, od8, .func (PySem.W.fnOf "first_nests" "first_nests" (defArgs s_first_nests) (defBody s_first_nests) (defScope s_first_nests) .none kV8 dc8 pm8 an8 cd8 ct8), sl8⟩) (c8 : PySem.W.codeIn K cd8 "first_nests" = true) (k8 : PySem.W.keepIn K (.ref f8) = true)
    {f9 : Addr} {od9 an9 : Option Addr} {sl9 : Array (Option Value)} {oc9 kV9 dc9 pm9 cd9 ct9 : Value} (a9 : PySem.W.nsIn K mainGlobals "_law_cell" = some (some (.ref f9))) (l9 : K.lookup f9 = some ⟨oc9, od9, .func (PySem.W.fnOf "_law_cell" "_law_cell" (defArgs s__law_cell) (defBody s__law_cell) (defScope s__law_cell) .none kV9 dc9 pm9 an9 cd9 ct9), sl9⟩) (c9 : PySem.W.codeIn K cd9 "_law_cell" = true) (k9 : PySem.W.keepIn K (.ref f9) = true)
    {f10 : Addr} {od10 an10 : Option Addr} {sl10 : Array (Option Value)} {oc10 kV10 dc10 pm10 cd10 ct10 : Value} (a10 : PySem.W.nsIn K mainGlobals "_law_mix" = some (some (.ref f10))) (l10 : K.lookup f10 = some ⟨oc10, od10, .func (PySem.W.fnOf "_law_mix" "_law_mix" (defArgs s__law_mix) (defBody s__law_mix) (defScope s__law_mix) .none kV10 dc10 pm10 an10 cd10 ct10), sl10⟩) (c10 : PySem.W.codeIn K cd10 "_law_mix" = true) (k10 : PySem.W.keepIn K (.ref f10) = true)
    {f11 : Addr} {od11 an11 : Option Addr} {sl11 : Array (Option Value)} {oc11 kV11 dc11 pm11 cd11 ct11 : Value} (a11 : PySem.W.nsIn K mainGlobals "_law_box" = some (some (.ref f11))) (l11 : K.lookup f11 = some ⟨oc11, od11, .func (PySem.W.fnOf "_law_box" "_law_box" (defArgs s__law_box) (defBody s__law_box) (defScope s__law_box) .none kV11 dc11 pm11 an11 cd11 ct11), sl11⟩) (c11 : PySem.W.codeIn K cd11 "_law_box" = true) (k11 : PySem.W.keepIn K (.ref f11) = true)
    {f12 : Addr} {od12 an12 : Option Addr} {sl12 : Array (Option Value)} {oc12 kV12 dc12 pm12 cd12 ct12 : Value} (a12 : PySem.W.nsIn K mainGlobals "_law_take" = some (some (.ref f12))) (l12 : K.lookup f12 = some ⟨oc12, od12, .func (PySem.W.fnOf "_law_take" "_law_take" (defArgs s__law_take) (defBody s__law_take) (defScope s__law_take) .none kV12 dc12 pm12 an12 cd12 ct12), sl12⟩) (c12 : PySem.W.codeIn K cd12 "_law_take" = true) (k12 : PySem.W.keepIn K (.ref f12) = true)
    {f13 : Addr} {od13 an13 : Option Addr} {sl13 : Array (Option Value)} {oc13 kV13 dc13 pm13 cd13 ct13 : Value} (a13 : PySem.W.nsIn K mainGlobals "_law_head" = some (some (.ref f13))) (l13 : K.lookup f13 = some ⟨oc13, od13, .func (PySem.W.fnOf "_law_head" "_law_head" (defArgs s__law_head) (defBody s__law_head) (defScope s__law_head) .none kV13 dc13 pm13 an13 cd13 ct13), sl13⟩) (c13 : PySem.W.codeIn K cd13 "_law_head" = true) (k13 : PySem.W.keepIn K (.ref f13) = true)
    {f14 : Addr} {od14 an14 : Option Addr} {sl14 : Array (Option Value)} {oc14 kV14 dc14 pm14 cd14 ct14 : Value} (a14 : PySem.W.nsIn K mainGlobals "_law_grown" = some (some (.ref f14))) (l14 : K.lookup f14 = some ⟨oc14, od14, .func (PySem.W.fnOf "_law_grown" "_law_grown" (defArgs s__law_grown) (defBody s__law_grown) (defScope s__law_grown) .none kV14 dc14 pm14 an14 cd14 ct14), sl14⟩) (c14 : PySem.W.codeIn K cd14 "_law_grown" = true) (k14 : PySem.W.keepIn K (.ref f14) = true)
    {f15 : Addr} {od15 an15 : Option Addr} {sl15 : Array (Option Value)} {oc15 kV15 dc15 pm15 cd15 ct15 : Value} (a15 : PySem.W.nsIn K mainGlobals "_law_barred" = some (some (.ref f15))) (l15 : K.lookup f15 = some ⟨oc15, od15, .func (PySem.W.fnOf "_law_barred" "_law_barred" (defArgs s__law_barred) (defBody s__law_barred) (defScope s__law_barred) .none kV15 dc15 pm15 an15 cd15 ct15), sl15⟩) (c15 : PySem.W.codeIn K cd15 "_law_barred" = true) (k15 : PySem.W.keepIn K (.ref f15) = true)
    {f16 : Addr} {od16 an16 : Option Addr} {sl16 : Array (Option Value)} {oc16 kV16 dc16 pm16 cd16 ct16 : Value} (a16 : PySem.W.nsIn K mainGlobals "_law_named" = some (some (.ref f16))) (l16 : K.lookup f16 = some ⟨oc16, od16, .func (PySem.W.fnOf "_law_named" "_law_named" (defArgs s__law_named) (defBody s__law_named) (defScope s__law_named) .none kV16 dc16 pm16 an16 cd16 ct16), sl16⟩) (c16 : PySem.W.codeIn K cd16 "_law_named" = true) (k16 : PySem.W.keepIn K (.ref f16) = true)
    {f17 : Addr} {od17 an17 : Option Addr} {sl17 : Array (Option Value)} {oc17 kV17 dc17 pm17 cd17 ct17 : Value} (a17 : PySem.W.nsIn K mainGlobals "_law_layout" = some (some (.ref f17))) (l17 : K.lookup f17 = some ⟨oc17, od17, .func (PySem.W.fnOf "_law_layout" "_law_layout" (defArgs s__law_layout) (defBody s__law_layout) (defScope s__law_layout) .none kV17 dc17 pm17 an17 cd17 ct17), sl17⟩) (c17 : PySem.W.codeIn K cd17 "_law_layout" = true) (k17 : PySem.W.keepIn K (.ref f17) = true)
    {f18 : Addr} {od18 an18 : Option Addr} {sl18 : Array (Option Value)} {oc18 kV18 dc18 pm18 cd18 ct18 : Value} (a18 : PySem.W.nsIn K mainGlobals "_law_whole" = some (some (.ref f18))) (l18 : K.lookup f18 = some ⟨oc18, od18, .func (PySem.W.fnOf "_law_whole" "_law_whole" (defArgs s__law_whole) (defBody s__law_whole) (defScope s__law_whole) .none kV18 dc18 pm18 an18 cd18 ct18), sl18⟩) (c18 : PySem.W.codeIn K cd18 "_law_whole" = true) (k18 : PySem.W.keepIn K (.ref f18) = true)
    {f19 : Addr} {od19 an19 : Option Addr} {sl19 : Array (Option Value)} {oc19 kV19 dc19 pm19 cd19 ct19 : Value} (a19 : PySem.W.nsIn K mainGlobals "_law_odd" = some (some (.ref f19))) (l19 : K.lookup f19 = some ⟨oc19, od19, .func (PySem.W.fnOf "_law_odd" "_law_odd" (defArgs s__law_odd) (defBody s__law_odd) (defScope s__law_odd) .none kV19 dc19 pm19 an19 cd19 ct19), sl19⟩) (c19 : PySem.W.codeIn K cd19 "_law_odd" = true) (k19 : PySem.W.keepIn K (.ref f19) = true)
    {f20 : Addr} {od20 an20 : Option Addr} {sl20 : Array (Option Value)} {oc20 kV20 dc20 pm20 cd20 ct20 : Value} (a20 : PySem.W.nsIn K mainGlobals "_law_columns" = some (some (.ref f20))) (l20 : K.lookup f20 = some ⟨oc20, od20, .func (PySem.W.fnOf "_law_columns" "_law_columns" (defArgs s__law_columns) (defBody s__law_columns) (defScope s__law_columns) .none kV20 dc20 pm20 an20 cd20 ct20), sl20⟩) (c20 : PySem.W.codeIn K cd20 "_law_columns" = true) (k20 : PySem.W.keepIn K (.ref f20) = true)
    {f21 : Addr} {od21 an21 : Option Addr} {sl21 : Array (Option Value)} {oc21 kV21 dc21 pm21 cd21 ct21 : Value} (a21 : PySem.W.nsIn K mainGlobals "_law_taken" = some (some (.ref f21))) (l21 : K.lookup f21 = some ⟨oc21, od21, .func (PySem.W.fnOf "_law_taken" "_law_taken" (defArgs s__law_taken) (defBody s__law_taken) (defScope s__law_taken) .none kV21 dc21 pm21 an21 cd21 ct21), sl21⟩) (c21 : PySem.W.codeIn K cd21 "_law_taken" = true) (k21 : PySem.W.keepIn K (.ref f21) = true)
    {f22 : Addr} {od22 an22 : Option Addr} {sl22 : Array (Option Value)} {oc22 kV22 dc22 pm22 cd22 ct22 : Value} (a22 : PySem.W.nsIn K mainGlobals "_law_is_nest" = some (some (.ref f22))) (l22 : K.lookup f22 = some ⟨oc22, od22, .func (PySem.W.fnOf "_law_is_nest" "_law_is_nest" (defArgs s__law_is_nest) (defBody s__law_is_nest) (defScope s__law_is_nest) .none kV22 dc22 pm22 an22 cd22 ct22), sl22⟩) (c22 : PySem.W.codeIn K cd22 "_law_is_nest" = true) (k22 : PySem.W.keepIn K (.ref f22) = true)
    {f23 : Addr} {od23 an23 : Option Addr} {sl23 : Array (Option Value)} {oc23 kV23 dc23 pm23 cd23 ct23 : Value} (a23 : PySem.W.nsIn K mainGlobals "_law_are_nests" = some (some (.ref f23))) (l23 : K.lookup f23 = some ⟨oc23, od23, .func (PySem.W.fnOf "_law_are_nests" "_law_are_nests" (defArgs s__law_are_nests) (defBody s__law_are_nests) (defScope s__law_are_nests) .none kV23 dc23 pm23 an23 cd23 ct23), sl23⟩) (c23 : PySem.W.codeIn K cd23 "_law_are_nests" = true) (k23 : PySem.W.keepIn K (.ref f23) = true)
    {f24 : Addr} {od24 an24 : Option Addr} {sl24 : Array (Option Value)} {oc24 kV24 dc24 pm24 cd24 ct24 : Value} (a24 : PySem.W.nsIn K mainGlobals "_law_first" = some (some (.ref f24))) (l24 : K.lookup f24 = some ⟨oc24, od24, .func (PySem.W.fnOf "_law_first" "_law_first" (defArgs s__law_first) (defBody s__law_first) (defScope s__law_first) .none kV24 dc24 pm24 an24 cd24 ct24), sl24⟩) (c24 : PySem.W.codeIn K cd24 "_law_first" = true) (k24 : PySem.W.keepIn K (.ref f24) = true)
    {f25 : Addr} {od25 an25 : Option Addr} {sl25 : Array (Option Value)} {oc25 kV25 dc25 pm25 cd25 ct25 : Value} (a25 : PySem.W.nsIn K mainGlobals "_law_bent" = some (some (.ref f25))) (l25 : K.lookup f25 = some ⟨oc25, od25, .func (PySem.W.fnOf "_law_bent" "_law_bent" (defArgs s__law_bent) (defBody s__law_bent) (defScope s__law_bent) .none kV25 dc25 pm25 an25 cd25 ct25), sl25⟩) (c25 : PySem.W.codeIn K cd25 "_law_bent" = true) (k25 : PySem.W.keepIn K (.ref f25) = true)
    {f26 : Addr} {od26 an26 : Option Addr} {sl26 : Array (Option Value)} {oc26 kV26 dc26 pm26 cd26 ct26 : Value} (a26 : PySem.W.nsIn K mainGlobals "law" = some (some (.ref f26))) (l26 : K.lookup f26 = some ⟨oc26, od26, .func (PySem.W.fnOf "law" "law" (defArgs s_law) (defBody s_law) (defScope s_law) .none kV26 dc26 pm26 an26 cd26 ct26), sl26⟩) (c26 : PySem.W.codeIn K cd26 "law" = true) (k26 : PySem.W.keepIn K (.ref f26) = true)
    (z_all : PySem.W.nsIn K mainGlobals "all" = some none)
    (z_bool : PySem.W.nsIn K mainGlobals "bool" = some none)
    (z_divmod : PySem.W.nsIn K mainGlobals "divmod" = some none)
    (z_enumerate : PySem.W.nsIn K mainGlobals "enumerate" = some none)
    (z_int : PySem.W.nsIn K mainGlobals "int" = some none)
    (z_isinstance : PySem.W.nsIn K mainGlobals "isinstance" = some none)
    (z_len : PySem.W.nsIn K mainGlobals "len" = some none)
    (z_list : PySem.W.nsIn K mainGlobals "list" = some none)
    (z_max : PySem.W.nsIn K mainGlobals "max" = some none)
    (z_min : PySem.W.nsIn K mainGlobals "min" = some none)
    (z_range : PySem.W.nsIn K mainGlobals "range" = some none)
    (z_sorted : PySem.W.nsIn K mainGlobals "sorted" = some none)
    (z_tuple : PySem.W.nsIn K mainGlobals "tuple" = some none)
    : ∃ fd : FuncData, (∀ (s : Shared) (v : Value), BindsTo s fd ⟨[v], []⟩ [("_law_script", v)]) ∧ ∀ base : Heap, K.In base → base.Ns mainGlobals mg → FnOk l.prog w K mg base (L2N.CX l.prog w) 5 fa fd ["_law_script"] (spTB K) := by
  have e := hfa.symm.trans (PySem.W.mg_of X G a26)
  cases e
  have F0 := fun_mk (st := s_is_whole) l0 c0 k0
  have b0 := F0.binds (ps := ["thing"]) fun _ _ _ _ _ _ us hl => match us, hl with | [_], _ => rfl
  have g0 := PySem.W.mg_of X G a0
  have F1 := fun_mk (st := s_is_upto) l1 c1 k1
  have b1 := F1.binds (ps := ["thing", "many"]) fun _ _ _ _ _ _ us hl => match us, hl with | [_, _], _ => rfl
  have g1 := PySem.W.mg_of X G a1
  have F2 := fun_mk (st := s_having) l2 c2 k2
  have b2 := F2.binds (ps := ["heads", "column"]) fun _ _ _ _ _ _ us hl => match us, hl with | [_, _], _ => rfl
  have g2 := PySem.W.mg_of X G a2
  have F3 := fun_mk (st := s_all_columns) l3 c3 k3
  have b3 := F3.binds (ps := ["layout"]) fun _ _ _ _ _ _ us hl => match us, hl with | [_], _ => rfl
  have g3 := PySem.W.mg_of X G a3
  have F4 := fun_mk (st := s_is_within) l4 c4 k4
  have b4 := F4.binds (ps := ["one", "other"]) fun _ _ _ _ _ _ us hl => match us, hl with | [_, _], _ => rfl
  have g4 := PySem.W.mg_of X G a4
  have F5 := fun_mk (st := s_is_nest) l5 c5 k5
  have b5 := F5.binds (ps := ["heads", "column"]) fun _ _ _ _ _ _ us hl => match us, hl with | [_, _], _ => rfl
  have g5 := PySem.W.mg_of X G a5
  have F6 := fun_mk (st := s_taken_out) l6 c6 k6
  have b6 := F6.binds (ps := ["heads", "column"]) fun _ _ _ _ _ _ us hl => match us, hl with | [_, _], _ => rfl
  have g6 := PySem.W.mg_of X G a6
  have F7 := fun_mk (st := s_are_nests) l7 c7 k7
  have b7 := F7.binds (ps := ["layout", "thing"]) fun _ _ _ _ _ _ us hl => match us, hl with | [_, _], _ => rfl
  have g7 := PySem.W.mg_of X G a7
  have F8 := fun_mk (st := s_first_nests) l8 c8 k8
  have b8 := F8.binds (ps := ["layout"]) fun _ _ _ _ _ _ us hl => match us, hl with | [_], _ => rfl
  have g8 := PySem.W.mg_of X G a8
  have F9 := fun_mk (st := s__law_cell) l9 c9 k9
  have b9 := F9.binds (ps := ["_law_script", "_law_k"]) fun _ _ _ _ _ _ us hl => match us, hl with | [_, _], _ => rfl
  have g9 := PySem.W.mg_of X G a9
  have F10 := fun_mk (st := s__law_mix) l10 c10 k10
  have b10 := F10.binds (ps := ["_law_cell_here", "_law_k"]) fun _ _ _ _ _ _ us hl => match us, hl with | [_, _], _ => rfl
  have g10 := PySem.W.mg_of X G a10
  have F11 := fun_mk (st := s__law_box) l11 c11 k11
  have b11 := F11.binds (ps := ["_law_script", "_law_k"]) fun _ _ _ _ _ _ us hl => match us, hl with | [_, _], _ => rfl
  have g11 := PySem.W.mg_of X G a11
  have F12 := fun_mk (st := s__law_take) l12 c12 k12
  have b12 := F12.binds (ps := ["_law_box_here", "_law_many"]) fun _ _ _ _ _ _ us hl => match us, hl with | [_, _], _ => rfl
  have g12 := PySem.W.mg_of X G a12
  have F13 := fun_mk (st := s__law_head) l13 c13 k13
  have b13 := F13.binds (ps := ["_law_box_here", "_law_many"]) fun _ _ _ _ _ _ us hl => match us, hl with | [_, _], _ => rfl
  have g13 := PySem.W.mg_of X G a13
  have F14 := fun_mk (st := s__law_grown) l14 c14 k14
  have b14 := F14.binds (ps := ["_law_box_here", "_law_many", "_law_heads"]) fun _ _ _ _ _ _ us hl => match us, hl with | [_, _, _], _ => rfl
  have g14 := PySem.W.mg_of X G a14
  have F15 := fun_mk (st := s__law_barred) l15 c15 k15
  have b15 := F15.binds (ps := ["_law_box_here", "_law_many"]) fun _ _ _ _ _ _ us hl => match us, hl with | [_, _], _ => rfl
  have g15 := PySem.W.mg_of X G a15
  have F16 := fun_mk (st := s__law_named) l16 c16 k16
  have b16 := F16.binds (ps := ["_law_box_here", "_law_many", "_law_heads"]) fun _ _ _ _ _ _ us hl => match us, hl with | [_, _, _], _ => rfl
  have g16 := PySem.W.mg_of X G a16
  have F17 := fun_mk (st := s__law_layout) l17 c17 k17
  have b17 := F17.binds (ps := ["_law_box_here", "_law_most", "_law_heads"]) fun _ _ _ _ _ _ us hl => match us, hl with | [_, _, _], _ => rfl
  have g17 := PySem.W.mg_of X G a17
  have F18 := fun_mk (st := s__law_whole) l18 c18 k18
  have b18 := F18.binds (ps := ["_law_found"]) fun _ _ _ _ _ _ us hl => match us, hl with | [_], _ => rfl
  have g18 := PySem.W.mg_of X G a18
  have F19 := fun_mk (st := s__law_odd) l19 c19 k19
  have b19 := F19.binds (ps := ["_law_box_here"]) fun _ _ _ _ _ _ us hl => match us, hl with | [_], _ => rfl
  have g19 := PySem.W.mg_of X G a19
  have F20 := fun_mk (st := s__law_columns) l20 c20 k20
  have b20 := F20.binds (ps := ["_law_layout_here"]) fun _ _ _ _ _ _ us hl => match us, hl with | [_], _ => rfl
  have g20 := PySem.W.mg_of X G a20
  have F21 := fun_mk (st := s__law_taken) l21 c21 k21
  have b21 := F21.binds (ps := ["_law_heads", "_law_column"]) fun _ _ _ _ _ _ us hl => match us, hl with | [_, _], _ => rfl
  have g21 := PySem.W.mg_of X G a21
  have F22 := fun_mk (st := s__law_is_nest) l22 c22 k22
  have b22 := F22.binds (ps := ["_law_heads", "_law_column"]) fun _ _ _ _ _ _ us hl => match us, hl with | [_, _], _ => rfl
  have g22 := PySem.W.mg_of X G a22
  have F23 := fun_mk (st := s__law_are_nests) l23 c23 k23
  have b23 := F23.binds (ps := ["_law_layout_here", "_law_thing"]) fun _ _ _ _ _ _ us hl => match us, hl with | [_, _], _ => rfl
  have g23 := PySem.W.mg_of X G a23
  have F24 := fun_mk (st := s__law_first) l24 c24 k24
  have b24 := F24.binds (ps := ["_law_heads", "_law_left"]) fun _ _ _ _ _ _ us hl => match us, hl with | [_, _], _ => rfl
  have g24 := PySem.W.mg_of X G a24
  have F25 := fun_mk (st := s__law_bent) l25 c25 k25
  have b25 := F25.binds (ps := ["_law_box_here", "_law_layout_here", "_law_row"]) fun _ _ _ _ _ _ us hl => match us, hl with | [_, _, _], _ => rfl
  have g25 := PySem.W.mg_of X G a25
  have F26 := fun_mk (st := s_law) l26 c26 k26
  have b26 := F26.binds (ps := ["_law_script"]) fun _ _ _ _ _ _ us hl => match us, hl with | [_], _ => rfl
  have g26 := PySem.W.mg_of X G a26
  have y_all := PySem.W.mg_none_of X G z_all
  have y_bool := PySem.W.mg_none_of X G z_bool
  have y_divmod := PySem.W.mg_none_of X G z_divmod
  have y_enumerate := PySem.W.mg_none_of X G z_enumerate
  have y_int := PySem.W.mg_none_of X G z_int
  have y_isinstance := PySem.W.mg_none_of X G z_isinstance
  have y_len := PySem.W.mg_none_of X G z_len
  have y_list := PySem.W.mg_none_of X G z_list
  have y_max := PySem.W.mg_none_of X G z_max
  have y_min := PySem.W.mg_none_of X G z_min
  have y_range := PySem.W.mg_none_of X G z_range
  have y_sorted := PySem.W.mg_none_of X G z_sorted
  have y_tuple := PySem.W.mg_none_of X G z_tuple
  refine ⟨PySem.W.fnOf "law" "law" (defArgs s_law) (defBody s_law) (defScope s_law) .none kV26 dc26 pm26 an26 cd26 ct26, fun s v => .of_eq rfl, fun base _ _ => ?_⟩
  have c__law_cell := k__law_cell (P := l.prog) (w := w) (base := base) F9 b9 g9 y_len 
  have c__law_mix := k__law_mix (P := l.prog) (w := w) (base := base) F10 b10 g10  
  have c__law_box := k__law_box (P := l.prog) (w := w) (base := base) F11 b11 g11 y_range c__law_cell c__law_mix
  have c__law_take := k__law_take (P := l.prog) (w := w) (base := base) F12 b12 g12 y_divmod 
  have c__law_barred := k__law_barred (P := l.prog) (w := w) (base := base) F15 b15 g15 y_min y_range y_sorted y_tuple c__law_take
  have c__law_named := k__law_named (P := l.prog) (w := w) (base := base) F16 b16 g16 y_len y_list y_range y_sorted y_tuple c__law_take
  have c__law_head := k__law_head (P := l.prog) (w := w) (base := base) F13 b13 g13 y_range y_tuple c__law_take
  have c__law_grown := k__law_grown (P := l.prog) (w := w) (base := base) F14 b14 g14 y_int y_len y_range y_sorted y_tuple c__law_head c__law_take
  have c__law_layout := k__law_layout (P := l.prog) (w := w) (base := base) F17 b17 g17 y_len y_max y_range c__law_take c__law_barred c__law_named c__law_head c__law_grown
  have c__law_columns := k__law_columns (P := l.prog) (w := w) (base := base) F20 b20 g20 y_range 
  have c__law_is_nest := k__law_is_nest (P := l.prog) (w := w) (base := base) F22 b22 g22  
  have c__law_taken := k__law_taken (P := l.prog) (w := w) (base := base) F21 b21 g21 y_tuple 
  have c__law_first := k__law_first (P := l.prog) (w := w) (base := base) F24 b24 g24 y_len c__law_is_nest c__law_taken
  have c_having := k_having (P := l.prog) (w := w) (base := base) F2 b2 g2 y_enumerate y_tuple 
  have c_all_columns := k_all_columns (P := l.prog) (w := w) (base := base) F3 b3 g3 y_range c_having
  have c_taken_out := k_taken_out (P := l.prog) (w := w) (base := base) F6 b6 g6 y_tuple 
  have c_is_within := k_is_within (P := l.prog) (w := w) (base := base) F4 b4 g4 y_all 
  have c_is_nest := k_is_nest (P := l.prog) (w := w) (base := base) F5 b5 g5  c_is_within
  have c_first_nests := k_first_nests (P := l.prog) (w := w) (base := base) F8 b8 g8 y_list c_all_columns c_taken_out c_is_nest
  have c__law_odd := k__law_odd (P := l.prog) (w := w) (base := base) F19 b19 g19 y_len c__law_take
  have c__law_bent := k__law_bent (P := l.prog) (w := w) (base := base) F25 b25 g25 y_len y_list y_tuple c__law_odd c__law_take
  have c_is_whole := k_is_whole (P := l.prog) (w := w) (base := base) F0 b0 g0 y_bool y_int y_isinstance 
  have c_is_upto := k_is_upto (P := l.prog) (w := w) (base := base) F1 b1 g1  c_is_whole
  have c_are_nests := k_are_nests (P := l.prog) (w := w) (base := base) F7 b7 g7 y_all y_isinstance y_list y_sorted y_tuple c_all_columns c_taken_out c_is_nest c_is_upto
  have c__law_whole := k__law_whole (P := l.prog) (w := w) (base := base) F18 b18 g18 y_bool y_int y_isinstance 
  have c__law_are_nests := k__law_are_nests (P := l.prog) (w := w) (base := base) F23 b23 g23 y_all y_isinstance y_list y_sorted y_tuple c__law_columns c__law_taken c__law_is_nest c__law_whole
  exact law_fnB main (k_law F26 b26 g26 y_bool y_isinstance y_len y_list y_max y_min y_range y_tuple c__law_box c__law_layout c__law_columns c__law_first c_first_nests c__law_bent c__law_odd c_are_nests c__law_take c__law_are_nests)
end LK41
open PySem PySem.W PyProof.Rows
set_option maxHeartbeats 0 in
theorem PySem.Challenge.cw_jointrees_k41_rows_of_nests_holds : PySem.Challenge.rw_jointrees_k41_rows_of_nests.Holds := by
  w_on; o_law; k_head; (case hw => w_witness2)
  k_fill
  refine L2.walk_ofB (l := PySem.Challenge.rw_jointrees_k41_rows_of_nests) (n := 63) (k := 5) (x := "_law_script") (CX := fun w => L2N.CX (PySem.Challenge.rw_jointrees_k41_rows_of_nests).prog w) (sp := fun w => TL.spTB _) rfl (by decide) rfl ⟨rfl, by decide, by decide⟩ (fun w h Y => PySem.W.kIn_of Y) ?F (fun _ _ a ns hl hb _ hS => ⟨a, ns, rfl, hS, hl, hb, fun _ => rfl⟩) (fun _ _ _ _ _ h => TL.cx_end h)
  case F =>
    intro w mg fa h KX G hmg
    refine' LK41.all_mk LK41.main KX G hmg ?a0 ?l0 ?c0 ?k0 ?a1 ?l1 ?c1 ?k1 ?a2 ?l2 ?c2 ?k2 ?a3 ?l3 ?c3 ?k3 ?a4 ?l4 ?c4 ?k4 ?a5 ?l5 ?c5 ?k5 ?a6 ?l6 ?c6 ?k6 ?a7 ?l7 ?c7 ?k7 ?a8 ?l8 ?c8 ?k8 ?a9 ?l9 ?c9 ?k9 ?a10 ?l10 ?c10 ?k10 ?a11 ?l11 ?c11 ?k11 ?a12 ?l12 ?c12 ?k12 ?a13 ?l13 ?c13 ?k13 ?a14 ?l14 ?c14 ?k14 ?a15 ?l15 ?c15 ?k15 ?a16 ?l16 ?c16 ?k16 ?a17 ?l17 ?c17 ?k17 ?a18 ?l18 ?c18 ?k18 ?a19 ?l19 ?c19 ?k19 ?a20 ?l20 ?c20 ?k20 ?a21 ?l21 ?c21 ?k21 ?a22 ?l22 ?c22 ?k22 ?a23 ?l23 ?c23 ?k23 ?a24 ?l24 ?c24 ?k24 ?a25 ?l25 ?c25 ?k25 ?a26 ?l26 ?c26 ?k26 ?z_all ?z_bool ?z_divmod ?z_enumerate ?z_int ?z_isinstance ?z_len ?z_list ?z_max ?z_min ?z_range ?z_sorted ?z_tuple
    (case a0 => k_is); (case l0 => k_is); (case c0 => k_is); (case k0 => k_is); (case a1 => k_is); (case l1 => k_is); (case c1 => k_is); (case k1 => k_is); (case a2 => k_is); (case l2 => k_is); (case c2 => k_is); (case k2 => k_is); (case a3 => k_is); (case l3 => k_is); (case c3 => k_is); (case k3 => k_is); (case a4 => k_is); (case l4 => k_is); (case c4 => k_is); (case k4 => k_is); (case a5 => k_is); (case l5 => k_is); (case c5 => k_is); (case k5 => k_is); (case a6 => k_is); (case l6 => k_is); (case c6 => k_is); (case k6 => k_is); (case a7 => k_is); (case l7 => k_is); (case c7 => k_is); (case k7 => k_is); (case a8 => k_is); (case l8 => k_is); (case c8 => k_is); (case k8 => k_is); (case a9 => k_is); (case l9 => k_is); (case c9 => k_is); (case k9 => k_is); (case a10 => k_is); (case l10 => k_is); (case c10 => k_is); (case k10 => k_is); (case a11 => k_is); (case l11 => k_is); (case c11 => k_is); (case k11 => k_is); (case a12 => k_is); (case l12 => k_is); (case c12 => k_is); (case k12 => k_is); (case a13 => k_is); (case l13 => k_is); (case c13 => k_is); (case k13 => k_is); (case a14 => k_is); (case l14 => k_is); (case c14 => k_is); (case k14 => k_is); (case a15 => k_is); (case l15 => k_is); (case c15 => k_is); (case k15 => k_is); (case a16 => k_is); (case l16 => k_is); (case c16 => k_is); (case k16 => k_is); (case a17 => k_is); (case l17 => k_is); (case c17 => k_is); (case k17 => k_is); (case a18 => k_is); (case l18 => k_is); (case c18 => k_is); (case k18 => k_is); (case a19 => k_is); (case l19 => k_is); (case c19 => k_is); (case k19 => k_is); (case a20 => k_is); (case l20 => k_is); (case c20 => k_is); (case k20 => k_is); (case a21 => k_is); (case l21 => k_is); (case c21 => k_is); (case k21 => k_is); (case a22 => k_is); (case l22 => k_is); (case c22 => k_is); (case k22 => k_is); (case a23 => k_is); (case l23 => k_is); (case c23 => k_is); (case k23 => k_is); (case a24 => k_is); (case l24 => k_is); (case c24 => k_is); (case k24 => k_is); (case a25 => k_is); (case l25 => k_is); (case c25 => k_is); (case k25 => k_is); (case a26 => k_is); (case l26 => k_is); (case c26 => k_is); (case k26 => k_is); (case z_all => k_is); (case z_bool => k_is); (case z_divmod => k_is); (case z_enumerate => k_is); (case z_int => k_is); (case z_isinstance => k_is); (case z_len => k_is); (case z_list => k_is); (case z_max => k_is); (case z_min => k_is); (case z_range => k_is); (case z_sorted => k_is); (case z_tuple => k_is)
