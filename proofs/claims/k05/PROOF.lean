import PyProof.Rows.All
import HandS.ForMost
import HandS.Exc
import HandS.ExcOwn
import HandS.TryMany
import HandS.Walk
import HandS.WordsExc
import HandS.HeadHook1
import HandS.Zip
import HandS.TupAny
import HandS.TupMul
import KE.KDictKeyed
import HandS.Style
import HandS.IsInst
import HandS.Wide
import HandS.Rev
import KE.SortData
import HandS.SortKw
import HandS.ExcIs
import HandS.Defaults
import HandS.More
import HandS.HeadHook2
import HandS.HeadEnd
import HandS.EndBits
import HandS.Head2
import KE.GoesMore
import HandS.SetFor
import HandS.Strs
import HandS.SortOrd
import HandS.TupLen
import KE.KDictWalk
import HandS.SetKeys
import HandS.DictComp
import KE.KDictZip
import KE.KDictPairs
import PySem.Challenge.RW_sumsworn_k05_whole_images_and_changes
import KE.BitLaws
set_option Elab.async false
set_option linter.all false
set_option maxRecDepth 100000
set_option autoImplicit false
set_option maxHeartbeats 0
set_option exponentiation.threshold 9000
/-! Layer Q, part 0: tuples of which it is known that they have no attributes of their own (so that dict(t) may be called). -/
namespace L2.Q
open PySem PySem.Spec PyProof.Rows

/-- a tuple that is read; it has no attributes of its own -/
def SqT (K : PySem.W.Frag) (H : Hp) (a : Addr) (xs : List V) : Prop :=
  (∃ o : Obj, H a = some (.frz o (.tup xs)) ∧ o.dict = none) ∨
    ∃ (o : Obj) (its : Array Value) (n : Nat), K.lookup a = some o ∧ o.cls = .type "tuple" ∧ o.dict = none ∧ o.data = .seq its n ∧ its.size ≤ sizeLine ∧ Vals xs its.toList
theorem SqT.sq {K : PySem.W.Frag} {H : Hp} {a : Addr} {xs : List V} (h : SqT K H a xs) : L2.SqT K H a xs := by
  rcases h with ⟨o, h, _⟩ | ⟨o, its, n, h1, h2, _, h3, h4, h5⟩
  · exact .inl (.inr ⟨o, h⟩)
  · exact .inr ⟨o, its, n, h1, h2, h3, h4, h5⟩
mutual
inductive Dp (K : PySem.W.Frag) (H : Hp) : V → PyData → Prop
  | non : Dp K H .non .none
  | bl (b : Bool) : Dp K H (.bl b) (.bool b)
  | int (i : Int) : Dp K H (.int i) (.int i)
  | str (x : Str) : Dp K H (.str x) (.str x)
  | lst {a : Addr} {xs : List V} {ds : List PyData} : SqL K H a xs → DpAll K H xs ds → Dp K H (.ref a) (.list ds)
  | tup {a : Addr} {xs : List V} {ds : List PyData} : SqT K H a xs → DpAll K H xs ds → Dp K H (.ref a) (.tuple ds)
inductive DpAll (K : PySem.W.Frag) (H : Hp) : List V → List PyData → Prop
  | nil : DpAll K H [] []
  | cons {v : V} {vs : List V} {d : PyData} {ds : List PyData} : Dp K H v d → DpAll K H vs ds → DpAll K H (v :: vs) (d :: ds)
end
mutual
theorem Dp.weak {K : PySem.W.Frag} {H : Hp} : ∀ (d : PyData) (v : V), Dp K H v d → L2.Dp K H v d
  | .none, _, r => by cases r; exact .non
  | .bool b, _, r => by cases r; exact .bl b
  | .int i, _, r => by cases r; exact .int i
  | .str x, _, r => by cases r; exact .str x
  | .list ds, _, r => by
    cases r with
    | lst hs ha => exact .lst hs (DpAll.weak ds _ ha)
  | .tuple ds, _, r => by
    cases r with
    | tup hs ha => exact .tup hs.sq (DpAll.weak ds _ ha)
theorem DpAll.weak {K : PySem.W.Frag} {H : Hp} : ∀ (ds : List PyData) (vs : List V), DpAll K H vs ds → L2.DpAll K H vs ds
  | [], _, r => by cases r; exact .nil
  | d :: ds, _, r => by
    cases r with
    | cons h1 h2 => exact .cons (Dp.weak d _ h1) (DpAll.weak ds _ h2)
end
/-- what a new tuple is good for -/
def NT (Q : VK) (H : Hp) (xs : List V) : Prop := ∀ (p : Addr) (ob : Obj), H p = none → ob.dict = none → Q (.ref p) (upd H p (.frz ob (.tup xs)))
section
variable {X : Cx} {pins : List (Addr × Obj)} {σ : St} {H : Hp} {s : Shared} {Q : VK} {xs ys : List V}
theorem tup_ok {P : Program} {w : World} {G : Hp} {h : Heap} {a : Addr} {arr : Array Value} (e : h.get? a = some { cls := .type "tuple", data := .seq arr }) (hz : xs.length ≤ sizeLine) (r : Vals xs arr.toList) :
    ObjOk P w G h a (.frz { cls := .type "tuple", data := .seq arr } (.tup xs)) :=
  ⟨e, hz, arr.toList, r, _, e, rfl, 0, by simp⟩
theorem ep_tup {arr : Array Value} (I : Inv X pins σ H s) (r : Vals xs arr.toList) (hz : xs.length ≤ sizeLine) (q : NT Q H xs) :
    EP X pins σ Q (.ref s.heap.objs.size) { s with heap := s.heap.push { cls := .type "tuple", data := .seq arr } } :=
  ⟨.ref s.heap.objs.size, _, I.laid (t' := s.toks) (fun b u e => Heap.get?_push_of_some _ e) (Nat.le_refl _) (tup_ok (Heap.get?_push_size _ rfl) hz r), rfl, q _ _ (I.hok.fresh (Nat.le_refl _)) rfl⟩
end

/-! ### rules that make a tuple -/
section
variable {X : Cx} {es : List Expr} {t : TA} {pos : Pos}
def tTupK (t : TA) : TE := fun σ H Q => t σ H fun xs H1 => xs.length ≤ sizeLine ∧ NT Q H1 xs
theorem pe_tupK {x1} (h : PA X es t) : PE X (.Tuple es x1 pos) (tTupK t) := by
  refine ⟨fun pins s σ H Q I hq => ?_⟩
  refine wpAny_Tuple_spliced (thn (h.run pos pins s σ H _ I hq) fun us s1 ⟨xs, H1, I1, r, z, q⟩ => ⟨by rw [← r.length]; exact z, ?_⟩)
  exact ep_tup I1 r z q
/-- tuple(..) of a list, of a tuple -/
theorem call_tupK : CallR X (.type "tuple") (fun xs H Q => ∃ p ys, xs = [.ref p] ∧ ((SqL X.K H p ys ∧ NT Q H ys) ∨ (L2.SqT X.K H p ys ∧ Q (.ref p) H))) := by
  intro pins s σ H xs us Q I r h
  obtain ⟨p, ys, rfl, h⟩ := h
  obtain ⟨u, rfl, rx⟩ := vals1 r
  cases rx
  rcases h with ⟨hq, q⟩ | ⟨hq, q⟩
  · obtain ⟨its, r', pl, hz⟩ := I.list hq
    refine call_tuple_list pl.isList (fun h' kp => ?_) (by rw [List.size_toArray, ← r'.length]; exact hz)
    exact ep_tup (I.kept (t' := s.toks) kp) (arr := its.toArray) r' hz q
  · obtain ⟨its, r', pl, hz⟩ := I.tuple hq
    exact call_tuple_same pl ⟨.ref p, H, I, rfl, q⟩
/-- t + u -/
def rCatK (K : PySem.W.Frag) : R2 := fun x y H Q => ∃ a b xs ys, x = .ref a ∧ y = .ref b ∧ L2.SqT K H a xs ∧ L2.SqT K H b ys ∧ xs.length + ys.length ≤ sizeLine ∧
  (xs = [] → Q (.ref b) H) ∧ (xs ≠ [] → ys = [] → Q (.ref a) H) ∧ (xs ≠ [] → ys ≠ [] → NT Q H (xs ++ ys))
theorem op_catK : OpR X (binaryOp .Add) (rCatK X.K) := by
  intro pins s σ H x y v u Q I rx ry h
  obtain ⟨a, b, xs, ys, rfl, rfl, ha, hb, hz, q0, q1, q2⟩ := h
  cases rx
  cases ry
  obtain ⟨its, r1, p1, _⟩ := I.tuple ha
  obtain ⟨its2, r2, p2, _⟩ := I.tuple hb
  by_cases hx : xs = []
  · subst hx
    cases r1
    exact cat_tup0 p1 p2 ⟨.ref b, H, I, rfl, q0 rfl⟩
  · refine HT.cat_tup p1 p2 (fun z => hx (r1.nil_iff.mp z)) (fun z => ⟨.ref a, H, I, rfl, q1 hx (r2.nil_iff.mp z)⟩) (fun z => ?_) (by rw [← r1.length, ← r2.length]; exact hz)
    exact ep_tup (arr := (its ++ its2).toArray) I (r1.append r2) (by rw [List.length_append]; exact hz) (q2 hx fun w => z (r2.nil_iff.mpr w))
/-- t[lo:hi] -/
def rSlK (K : PySem.W.Frag) : V → Option Int → Option Int → Hp → VK → Prop := fun x lo hi H Q => ∃ a xs, x = .ref a ∧ L2.SqT K H a xs ∧
  (HT.sIx xs.length 0 lo = 0 ∧ HT.sIx xs.length xs.length hi = xs.length → Q (.ref a) H) ∧ (¬ (HT.sIx xs.length 0 lo = 0 ∧ HT.sIx xs.length xs.length hi = xs.length) → NT Q H (cutV xs lo hi))
theorem sl_tupK : SlR X (rSlK X.K) := by
  intro pins s σ H x v vl vu lo hi sl Q I rx hs pl pu h
  obtain ⟨a, xs, rfl, hx, q1, q2⟩ := h
  cases rx
  obtain ⟨its, r, ht, hz⟩ := I.tuple hx
  have hlen : its.toArray.size = xs.length := by rw [List.size_toArray]; exact r.length.symm
  refine ⟨"tuple", _, PyProof.Rows.slot_tuple_getitem.lookup, ht.typeIs, ?_⟩
  by_cases hw : HT.sIx xs.length 0 lo = 0 ∧ HT.sIx xs.length xs.length hi = xs.length
  · exact getItem_tuple_whole ht hs pl pu (by rw [hlen]; exact hw) ⟨.ref a, H, I, rfl, q1 hw⟩
  · refine HT.getItem_tuple_cut ht hs pl pu (by rw [hlen]; exact hw) ?_ (by rw [hlen]; exact hz)
    rw [hlen]
    refine ep_tup (xs := cutV xs lo hi) I ?_ (Nat.le_trans (cutV_length xs lo hi) hz) (q2 hw)
    exact (r.drop (HT.sIx xs.length 0 lo)).take (HT.sIx xs.length xs.length hi - HT.sIx xs.length 0 lo)
/-- t * k -/
def rRepK (K : PySem.W.Frag) : R2 := fun x y H Q => ∃ l k xs, x = .ref l ∧ y = .int k ∧ L2.SqT K H l xs ∧ xs ≠ [] ∧ 2 ≤ k ∧ k ≤ 1000 ∧ xs.length ≤ 1000 ∧ NT Q H (List.replicate k.toNat xs).flatten
theorem op_repK : OpR X (binaryOp .Mult) (rRepK X.K) := by
  intro pins s σ H x y v u Q I rx ry h
  obtain ⟨l, k, xs, rfl, rfl, hT, hne, h1, h2, hz, q⟩ := h
  cases rx
  obtain ⟨t, rfl⟩ := ry
  obtain ⟨its, r, ⟨⟨cls, dd, data, sl⟩, ho, hc, n, hd⟩, hs⟩ := I.tuple hT
  simp only at hc hd
  subst hc hd
  have hle : its.length = xs.length := r.length.symm
  have hn : its ≠ [] := fun e => hne (by
    rw [e] at hle
    exact List.eq_nil_of_length_eq_zero hle.symm)
  have hi : its.toArray.isEmpty = false := by
    cases its with
    | nil => exact absurd rfl hn
    | cons a b => rfl
  have hm : ((its.toArray.size : Nat) : Int) * k ≤ 1000000 := by
    rw [List.size_toArray, hle]
    have a1 : ((xs.length : Nat) : Int) * k ≤ 1000 * k := Int.mul_le_mul_of_nonneg_right (by omega) (by omega)
    omega
  have flen : (List.replicate k.toNat its).flatten.length ≤ sizeLine := by
    rw [PyProof.Rows.lm_len_rep_flat, hle, sizeLine_eq]
    have a1 : k.toNat * xs.length ≤ 1000 * 1000 := Nat.mul_le_mul (by omega) hz
    omega
  have c0 : (decide (k < -(2 ^ 63)) || decide (k ≥ 2 ^ 63)) = false := by rw [decide_eq_false (by omega), decide_eq_false (by omega)]; rfl
  have c1 : (its.toArray.isEmpty || k == 1) = false := by rw [hi, Bool.false_or]; exact beq_eq_false_iff_ne.mpr (by omega)
  have c2 : (decide (k ≤ 0) || its.toArray.isEmpty) = false := by rw [hi, Bool.or_false]; exact decide_eq_false (by omega)
  have c4 : Builtin.Tuple.tupleTooMany (((its.toArray.size : Nat) : Int) * k) = false := by
    unfold Builtin.Tuple.tupleTooMany
    rw [sizeLine_eq]
    exact decide_eq_false (by omega)
  refine wpAny_binaryOp_repeat_ref (T := "tuple") (U := "int") (by decide) ⟨_, ho, rfl⟩ (fun s' => typeIs_int s' k t) noFill_tuple_mul F.fills_int_mul F.slot_int_rmul repeat_tuple F.slot_int_index.lookup
    (call_meets F.slot_int_rmul (typeIs_int s k t) F.entry_int_rmul (F.args_int_rmul_2 _ _) (int_rmul_tuple k t l its.toArray n dd sl)
      ⟨ho, rfl, ⟨_, ho, rfl⟩, call_meets F.slot_tuple_mul ⟨_, ho, rfl⟩ F.entry_tuple_mul (F.args_tuple_mul_2 _ _) (tuple_mulW l its.toArray n dd sl k t c0 c1 c2 (by omega) c4 (by rw [size_rep, List.size_toArray]; exact flen)) ⟨ho, ?_⟩⟩)
  rw [size_rep]
  refine ep_tup I (r.rep k.toNat) ?_ q
  rw [(r.rep k.toNat).length]
  exact flen
end

/-! ### iterators that make pairs -/
def YPair (xs ys : Nat → Option V) : Nat → Hp → V → Hp → Prop := fun i H v H' => ∃ T ob x y, v = .ref T ∧ H T = none ∧ Obj.dict ob = none ∧ H' = upd H T (.frz ob (.tup [x, y])) ∧ xs i = some x ∧ ys i = some y
section
variable {X : Cx} {pins : List (Addr × Obj)} {σ : St} {H : Hp} {s : Shared} {x y : V} {u v : Value} {ch : List Addr} {h' : Heap} {t' : Nat}
/-- a pair is laid by an iterator's turn -/
theorem pair_laid (I : Inv X pins σ H s) (k : ∀ b o, b ∉ ch → s.heap.get? b = some o → h'.get? b = some o) (hf : ∀ b ∈ ch, FpOk X pins H b)
    (e : h'.get? s.heap.objs.size = some { cls := .type "tuple", data := .seq #[u, v] }) (rx : RelV x u) (ry : RelV y v) :
    Inv X pins σ (upd H s.heap.objs.size (.frz { cls := .type "tuple", data := .seq #[u, v] } (.tup [x, y]))) { s with heap := h', toks := t' } :=
  I.turnedNew k hf (Nat.le_refl _) (tup_ok e (by show 2 ≤ sizeLine; decide) (.cons rx (.cons ry .nil)))
theorem pair_out (I : Inv X pins σ H s) (hf : ∀ b ∈ ch, FpOk X pins H b) (lt : ∀ b ∈ ch, b < s.heap.objs.size) {o : HO} : ∀ b ∈ ch, upd H s.heap.objs.size o b = none := fun b hb => by
  rw [upd_ne (Nat.ne_of_lt (lt b hb))]
  exact (hf b hb).1
end
/-- enumerate of the list at a -/
def IteL (K : PySem.W.Frag) (a : Addr) : It :=
  ⟨fun i H => ∃ (xs : List V) (x : V), SqL K H a xs ∧ xs[i]? = some x,
    fun i H v H' => ∃ T ob x, v = .ref T ∧ H T = none ∧ Obj.dict ob = none ∧ H' = upd H T (.frz ob (.tup [.int (i : Nat), x])) ∧ ∀ xs, SqL K H a xs → xs[i]? = some x,
    fun i H => ∃ xs : List V, SqL K H a xs ∧ xs.length ≤ i⟩
theorem turn_enumL {P : Program} {w : World} {K : PySem.W.Frag} {elts : List Expr} {kk : Nat} {tpos : Pos} (a e it : Addr) :
    Turn P w K (.Tuple elts kk tpos) (IteL K a) [e, it] e (fun i h => (∃ old, IsEnum h e it ((i : Nat) : Int) old) ∧ h.IsListIter it a i ∧ e ≠ it) where
  mem := (turn_enum (P := P) (w := w) (K := K) (elts := elts) (kk := kk) (tpos := tpos) a e it).mem
  obj := (turn_enum (P := P) (w := w) (K := K) (elts := elts) (kk := kk) (tpos := tpos) a e it).obj
  keep := (turn_enum (P := P) (w := w) (K := K) (elts := elts) (kk := kk) (tpos := tpos) a e it).keep
  item := by
    intro X hP hw hK hc i pins s σ H E I hf st hg
    subst hP hw hK
    obtain ⟨⟨old, he⟩, hit, hne⟩ := st
    obtain ⟨xs, x, hq, hx⟩ := hg
    obtain ⟨its, rv, p, hz⟩ := I.list hq
    obtain ⟨u, hu, ru⟩ := rv.get hx
    have le := Heap.lt_size he
    have li : it < s.heap.objs.size := by obtain ⟨_, q, _⟩ := hit; exact Heap.lt_size q
    refine wpAny_pyNext_enum_item he hit p.isList (x := u) (by simpa using hu) hne fun h' ho hit' hT hsz hk => ?_
    refine ⟨_, rfl, wpAny_letOwnedTupleGo_enum (s := { s with heap := h', toks := s.toks + 1 }) ho fun h'' he' sb => ?_⟩
    have I1 := pair_laid (ch := [e, it]) (t' := s.toks + 1) (x := .int (i : Nat)) I (fun b ob hb q => (sb.2 b (fun z => hb (by simp [z]))).trans (hk b ob (fun z => hb (by simp [z])) (fun z => hb (by simp [z])) q)) hf ((sb.2 _ (Nat.ne_of_gt le)).trans hT) ⟨_, rfl⟩ ru
    refine ⟨.ref s.heap.objs.size, _, I1, rfl, ⟨_, _, x, rfl, I.hok.fresh (Nat.le_refl _), rfl, rfl, fun ys hy => by rw [I.list_inj hy hq]; exact hx⟩, ⟨⟨u, ?_⟩, hit'.at fun o q => (sb.2 it (Ne.symm hne)).trans q, hne⟩, pair_out I hf fun b hb => ?_⟩
    · rw [show ((i + 1 : Nat) : Int) = (i : Int) + 1 by omega]
      exact he'
    · rcases (show b = e ∨ b = it by simpa using hb) with rfl | rfl
      · exact le
      · exact li
  done := (turn_enum (P := P) (w := w) (K := K) (elts := elts) (kk := kk) (tpos := tpos) a e it).done
  self := (turn_enum (P := P) (w := w) (K := K) (elts := elts) (kk := kk) (tpos := tpos) a e it).self
theorem walk_enumL {K : PySem.W.Frag} {a : Addr} {xs : List V} : Walk (IteL K a) xs.length (fun H => SqL K H a xs) (YPair (fun i => some (.int (i : Nat))) (fun i => xs[i]?)) := by
  refine ⟨fun i _ hi q => ⟨xs, xs[i], q, by simp [hi]⟩, fun _ q => ⟨xs, q, Nat.le_refl _⟩, fun i H v H' _ q y => ?_⟩
  obtain ⟨T, ob, x, k1, k2, k3, k4, k5⟩ := y
  exact ⟨T, ob, .int (i : Nat), x, k1, k2, k3, k4, rfl, k5 xs q⟩
def iEnumL (K : PySem.W.Frag) (ta : TA) : TI := fun σ H R => ta σ H fun vs H1 => ∃ a xs, vs = [.ref a] ∧ SqL K H1 a xs ∧ R (IteL K a) H1
theorem fresh2 {X : Cx} {pins : List (Addr × Obj)} {σ : St} {H : Hp} {s : Shared} (I : Inv X pins σ H s) : ∀ b, b ∈ [s.heap.objs.size + 1, s.heap.objs.size] → FpOk X pins H b := fun b hb => by
  have hle : s.heap.objs.size ≤ b := by
    rcases (show b = s.heap.objs.size + 1 ∨ b = s.heap.objs.size by simpa using hb) with z | z <;> (rw [z]; omega)
  exact I.fpOk hle (I.hok.fresh hle)
theorem pi_enumL {X : Cx} {e : Expr} {ta : TA} {p pos tpos : Pos} {elts : List Expr} {kk : Nat} (hg : Gl X "enumerate") (hm : X.mg "enumerate" = none) (ha : PA X [e] ta) (hs : starEach [e] X.env = [(false, eval e X.env)] := by rfl) :
    PI X (.Tuple elts kk tpos) (.Call (.Name "enumerate" p) [e] [] pos) (iEnumL X.K ta) := by
  refine ⟨fun pins s σ H R I h => ?_⟩
  refine Call_ (ld_blt I hg hm boot_enumerate (PyProof.Rows.callWith_type1 (thn (ha.run pos pins s σ H _ I h) fun us s1 ⟨vs, H1, I1, r1, q1⟩ => ?_) hs rfl))
  obtain ⟨a, xs, ex, hq, q⟩ := q1
  subst ex
  obtain ⟨u, rfl, ru⟩ := vals1 r1
  cases ru
  obtain ⟨its, rv, p', hz⟩ := I1.list hq
  refine call_enumerate_list p'.isList fun h' he hit hsz hk => wpAny_pyIter_enum he ?_
  exact ⟨s1.heap.objs.size + 1, [s1.heap.objs.size + 1, s1.heap.objs.size], _, _, H1, rfl, I1.kept (t' := s1.toks) hk, turn_enumL a (s1.heap.objs.size + 1) s1.heap.objs.size, ⟨⟨.none, he⟩, hit, Nat.succ_ne_self _⟩, fresh2 I1, q⟩
/-- the items of a dict -/
def ItiK (d : Addr) (o : Obj) (kvs : List (Key × V)) : It :=
  ⟨fun i H => H d = some (.frz o (.dK kvs)) ∧ i < kvs.length, fun i H x H' => ∃ T ob k v, kvs[i]? = some (k, v) ∧ x = .ref T ∧ H T = none ∧ Obj.dict ob = none ∧ H' = upd H T (.frz ob (.tup [kV k, v])), fun i H => H d = some (.frz o (.dK kvs)) ∧ kvs.length ≤ i⟩
theorem turn_itemsK {P : Program} {w : World} {K : PySem.W.Frag} {d : Addr} {o : Obj} {es : Array DictEntry} {ep : Nat} {kvs : List (Key × V)} {elts : List Expr} {kk : Nat} {tpos : Pos} (it : Addr) (hod : o.data = .dict es ep) :
    Turn P w K (.Tuple elts kk tpos) (ItiK d o kvs) [it] it (fun i h => ∃ ok ov, IsItemIter h it d i kvs.length ep ok ov) where
  mem := (turn_items (P := P) (w := w) (K := K) (d := d) (kvs := kvs) (elts := elts) (kk := kk) (tpos := tpos) it hod).mem
  obj := (turn_items (P := P) (w := w) (K := K) (d := d) (kvs := kvs) (elts := elts) (kk := kk) (tpos := tpos) it hod).obj
  keep := (turn_items (P := P) (w := w) (K := K) (d := d) (kvs := kvs) (elts := elts) (kk := kk) (tpos := tpos) it hod).keep
  item := by
    intro X hP hw hK hc i pins s σ H E I hf st hg
    subst hP hw hK
    obtain ⟨hd, hi⟩ := hg
    obtain ⟨hs, hgd, hx, es', ep', vs, hdt, hsz, kv, hm⟩ := I.frzK hd
    obtain ⟨rfl, rfl⟩ := dict_ep hod hdt
    obtain ⟨⟨k, v⟩, hkv⟩ : ∃ p, kvs[i]? = some p := ⟨kvs[i], List.getElem?_eq_getElem hi⟩
    obtain ⟨u, hu, ru⟩ := kv_get kv hkv
    have hl : kvs.length = vs.length := Paired.length kv
    obtain ⟨ok, ov, he⟩ := st
    rw [hl] at he
    have hlt : it < s.heap.objs.size := Heap.lt_size he
    refine wpAny_pyNext_items_item he hm hu fun key h' hkey ho hT hz hk => ?_
    refine ⟨_, rfl, wpAny_letOwnedTupleGo_items (s := { s with heap := h' }) ho fun h'' he' sb => ?_⟩
    have I1 := pair_laid (ch := [it]) (t' := s.toks) I (fun b ob hb e => (sb.2 b (by simpa using hb)).trans (hk b ob (by simpa using hb) e)) hf ((sb.2 _ (Nat.ne_of_gt hlt)).trans hT) (relV_key (show keyIs k key = true from hkey)) ru
    refine ⟨.ref s.heap.objs.size, _, I1, rfl, ⟨_, _, k, v, hkv, rfl, I.hok.fresh (Nat.le_refl _), rfl, rfl⟩, ⟨key, u, ?_⟩, pair_out I hf fun b hb => ?_⟩
    · rw [hl]; exact he'
    · have e : b = it := by simpa using hb
      rw [e]; exact hlt
  done := (turn_items (P := P) (w := w) (K := K) (d := d) (kvs := kvs) (elts := elts) (kk := kk) (tpos := tpos) it hod).done
  self := (turn_items (P := P) (w := w) (K := K) (d := d) (kvs := kvs) (elts := elts) (kk := kk) (tpos := tpos) it hod).self
def iItemsK (td : TE) : TI := fun σ H R => td σ H fun x H1 => ∃ d o kvs, x = .ref d ∧ H1 d = some (.frz o (.dK kvs)) ∧ R (ItiK d o kvs) H1
theorem pi_itemsK {X : Cx} {e : Expr} {td : TE} {apos cpos tpos : Pos} {elts : List Expr} {kk : Nat} (he : PE X e td) (hbase : attributeBase e "items" X.env (eval e X.env) = eval e X.env := by rfl) (hline : (apos.endLine == cpos.line) = true := by rfl) :
    PI X (.Tuple elts kk tpos) (.Call (.Attribute e "items" apos) [] [] cpos) (iItemsK td) := by
  refine ⟨fun pins s σ H R I h => ?_⟩
  refine wpAny_Call_method (T := "dict") (id := "dict.items") hbase rfl hline F.plainAttrs_dict F.slot_dict_items F.type_dict_items (thn (he.run pins s σ H _ I h) fun u s1 ⟨x, H1, I1, rx, d, o, kvs, ex, hd, q⟩ => ?_)
  subst ex
  obtain rfl : u = Value.ref d := rx
  obtain ⟨hs, hgd, hx, es, ep, vs, hdt, hsz, kv, hm⟩ := I1.frzK hd
  have hl : kvs.length = vs.length := Paired.length kv
  refine ⟨hm.dictOf.typeIs, hm.dictOf.mapOf.noDict, ?_⟩
  show wpAny _ _ (callWith cpos (.builtin "dict.items") [.ref d] [] []) _ X.xe s1
  refine method_meetsIn F.slot_dict_items F.entry_dict_items rfl (PySem.evalArgs_none ⟨rfl, hm.dictOf.typeIs, F.args_dict_items_1 _, _, meets_dict_items (mixKind X.prog X.w) d hs, ⟨vs, hm.dictOf⟩, ?_⟩)
  refine wpAny_pyIter_items (d := d) (knd := mixKind X.prog X.w) ⟨_, Heap.get?_push_size _ rfl, rfl, rfl⟩ (hm.push _) (pi_one (tk := s1.toks) (I1.kept (t' := s1.toks) fun b ob q => Heap.get?_push_of_some _ q) _ (turn_itemsK _ hdt) ⟨.none, .none, ?_⟩ q)
  rw [hl]
  exact Heap.get?_push_size _ rfl
/-- zip of lists, of tuples -/
def ItzK (Sq : Hp → Addr → List V → Prop) (a b : Addr) : It :=
  ⟨fun i H => ∃ (xs ys : List V) (x y : V), Sq H a xs ∧ Sq H b ys ∧ xs[i]? = some x ∧ ys[i]? = some y,
    fun i H v H' => ∃ T ob x y, v = .ref T ∧ H T = none ∧ Obj.dict ob = none ∧ H' = upd H T (.frz ob (.tup [x, y])) ∧ (∀ xs, Sq H a xs → xs[i]? = some x) ∧ ∀ ys, Sq H b ys → ys[i]? = some y,
    fun i H => ∃ xs ys : List V, Sq H a xs ∧ Sq H b ys ∧ (xs.length ≤ i ∨ ys.length ≤ i)⟩
theorem zip_lt {s : Shared} {ch : List Addr} {z TI TO i1 i2 : Addr} (hz : z < s.heap.objs.size) (h1 : TI < s.heap.objs.size) (h2 : TO < s.heap.objs.size) (h3 : i1 < s.heap.objs.size) (h4 : i2 < s.heap.objs.size) : ∀ c ∈ [z, TI, TO, i1, i2], c < s.heap.objs.size := fun c h => by
  rcases (show c = z ∨ c = TI ∨ c = TO ∨ c = i1 ∨ c = i2 by simpa using h) with rfl | rfl | rfl | rfl | rfl <;> assumption
theorem turn_zipK {P : Program} {w : World} {K : PySem.W.Frag} {elts : List Expr} {kk : Nat} {tpos : Pos} {a b z TI TO i1 i2 : Addr} (D : ZipApart z TI TO i1 i2 a b) :
    Turn P w K (.Tuple elts kk tpos) (ItzK (SqL K) a b) [z, TI, TO, i1, i2] z (fun i h => IsZip h z TI TO .none ∧ IsPair h TI (.ref i1) (.ref i2) ∧ (∃ x y, IsPair h TO x y) ∧ h.IsListIter i1 a i ∧ h.IsListIter i2 b i) where
  mem := (turn_zip (P := P) (w := w) (K := K) (elts := elts) (kk := kk) (tpos := tpos) D).mem
  obj := (turn_zip (P := P) (w := w) (K := K) (elts := elts) (kk := kk) (tpos := tpos) D).obj
  keep := (turn_zip (P := P) (w := w) (K := K) (elts := elts) (kk := kk) (tpos := tpos) D).keep
  item := by
    intro X hP hw hK hc i pins s σ H E I hf st hg
    subst hP hw hK
    obtain ⟨hz, hTI, ⟨x0, y0, hTO⟩, h1, h2⟩ := st
    obtain ⟨xs, ys, x, y, hqx, hqy, hx, hy⟩ := hg
    obtain ⟨its, rv, p, _⟩ := I.list hqx
    obtain ⟨its2, rv2, p2, _⟩ := I.list hqy
    obtain ⟨u, hu, ru⟩ := rv.get hx
    obtain ⟨u2, hu2, ru2⟩ := rv2.get hy
    have hzl : z < s.heap.objs.size := Heap.lt_size hz
    have lt := zip_lt (s := s) (ch := []) hzl (Heap.lt_size hTI) (Heap.lt_size hTO) (by obtain ⟨_, q, _⟩ := h1; exact Heap.lt_size q) (by obtain ⟨_, q, _⟩ := h2; exact Heap.lt_size q)
    refine wpAny_pyNext_zip_item D hz hTI hTO h1 h2 p.isList p2.isList (x := u) (y := u2) (by simpa using hu) (by simpa using hu2) fun h' z' TO' h1' h2' hT hsz hk => ?_
    refine ⟨_, rfl, wpAny_letOwnedTupleGo_zip (s := { s with heap := h' }) z' fun h'' z'' sb => ?_⟩
    have I1 := pair_laid (ch := [z, TI, TO, i1, i2]) (t' := s.toks) I (fun c o hb q => (sb.2 c (fun q' => hb (by simp [q']))).trans (hk c o (fun q' => hb (by simp [q'])) (fun q' => hb (by simp [q'])) (fun q' => hb (by simp [q'])) (fun q' => hb (by simp [q'])) q)) hf ((sb.2 _ (Nat.ne_of_gt hzl)).trans hT) ru ru2
    refine ⟨.ref s.heap.objs.size, _, I1, rfl, ⟨_, _, x, y, rfl, I.hok.fresh (Nat.le_refl _), rfl, rfl, fun l hl => by rw [I.list_inj hl hqx]; exact hx, fun l hl => by rw [I.list_inj hl hqy]; exact hy⟩, ⟨z'', ?_, ⟨u, u2, ?_⟩, ?_, ?_⟩, pair_out I hf lt⟩
    · exact (sb.2 _ D.TIz).trans (hk _ _ D.TIz D.TITO D.TIi1 D.TIi2 hTI)
    · exact (sb.2 _ D.TOz).trans TO'
    · exact h1'.at fun o q => (sb.2 _ D.i1z).trans q
    · exact h2'.at fun o q => (sb.2 _ D.i2z).trans q
  done := (turn_zip (P := P) (w := w) (K := K) (elts := elts) (kk := kk) (tpos := tpos) D).done
  self := (turn_zip (P := P) (w := w) (K := K) (elts := elts) (kk := kk) (tpos := tpos) D).self
theorem turn_zipU {P : Program} {w : World} {K : PySem.W.Frag} {elts : List Expr} {kk : Nat} {tpos : Pos} {a b z TI TO i1 i2 : Addr} (D : ZipApart z TI TO i1 i2 a b) :
    Turn P w K (.Tuple elts kk tpos) (ItzK (L2.SqT K) a b) [z, TI, TO, i1, i2] z (fun i h => IsZip h z TI TO .none ∧ IsPair h TI (.ref i1) (.ref i2) ∧ (∃ x y, IsPair h TO x y) ∧ h.IsTupleIter i1 a i ∧ h.IsTupleIter i2 b i) where
  mem := (RZ.turn_zipT (P := P) (w := w) (K := K) (elts := elts) (kk := kk) (tpos := tpos) D).mem
  obj := (RZ.turn_zipT (P := P) (w := w) (K := K) (elts := elts) (kk := kk) (tpos := tpos) D).obj
  keep := (RZ.turn_zipT (P := P) (w := w) (K := K) (elts := elts) (kk := kk) (tpos := tpos) D).keep
  item := by
    intro X hP hw hK hc i pins s σ H E I hf st hg
    subst hP hw hK
    obtain ⟨hz, hTI, ⟨x0, y0, hTO⟩, h1, h2⟩ := st
    obtain ⟨xs, ys, x, y, hqx, hqy, hx, hy⟩ := hg
    obtain ⟨its, rv, p, _⟩ := I.tuple hqx
    obtain ⟨its2, rv2, p2, _⟩ := I.tuple hqy
    obtain ⟨u, hu, ru⟩ := rv.get hx
    obtain ⟨u2, hu2, ru2⟩ := rv2.get hy
    have hzl : z < s.heap.objs.size := Heap.lt_size hz
    have lt := zip_lt (s := s) (ch := []) hzl (Heap.lt_size hTI) (Heap.lt_size hTO) (by obtain ⟨_, q, _⟩ := h1; exact Heap.lt_size q) (by obtain ⟨_, q, _⟩ := h2; exact Heap.lt_size q)
    refine RZ.pyNext_zipT_item D hz hTI hTO h1 h2 p p2 (x := u) (y := u2) (by simpa using hu) (by simpa using hu2) fun h' z' TO' h1' h2' hT hsz hk => ?_
    refine ⟨_, rfl, wpAny_letOwnedTupleGo_zip (s := { s with heap := h' }) z' fun h'' z'' sb => ?_⟩
    have I1 := pair_laid (ch := [z, TI, TO, i1, i2]) (t' := s.toks) I (fun c o hb q => (sb.2 c (fun q' => hb (by simp [q']))).trans (hk c o (fun q' => hb (by simp [q'])) (fun q' => hb (by simp [q'])) (fun q' => hb (by simp [q'])) (fun q' => hb (by simp [q'])) q)) hf ((sb.2 _ (Nat.ne_of_gt hzl)).trans hT) ru ru2
    refine ⟨.ref s.heap.objs.size, _, I1, rfl, ⟨_, _, x, y, rfl, I.hok.fresh (Nat.le_refl _), rfl, rfl, fun l hl => by rw [I.tuple_inj hl hqx]; exact hx, fun l hl => by rw [I.tuple_inj hl hqy]; exact hy⟩, ⟨z'', ?_, ⟨u, u2, ?_⟩, ?_, ?_⟩, pair_out I hf lt⟩
    · exact (sb.2 _ D.TIz).trans (hk _ _ D.TIz D.TITO D.TIi1 D.TIi2 hTI)
    · exact (sb.2 _ D.TOz).trans TO'
    · exact h1'.at fun o q => (sb.2 _ D.i1z).trans q
    · exact h2'.at fun o q => (sb.2 _ D.i2z).trans q
  done := (RZ.turn_zipT (P := P) (w := w) (K := K) (elts := elts) (kk := kk) (tpos := tpos) D).done
  self := (RZ.turn_zipT (P := P) (w := w) (K := K) (elts := elts) (kk := kk) (tpos := tpos) D).self
def iZipK (K : PySem.W.Frag) (ta : TA) : TI := fun σ H R => ta σ H fun vs H1 => ∃ a b xs ys, vs = [.ref a, .ref b] ∧ ((SqL K H1 a xs ∧ SqL K H1 b ys ∧ R (ItzK (SqL K) a b) H1) ∨ (L2.SqT K H1 a xs ∧ L2.SqT K H1 b ys ∧ R (ItzK (L2.SqT K) a b) H1))
theorem pi_zipK {X : Cx} {e e2 : Expr} {ta : TA} {p pos tpos : Pos} {elts : List Expr} {kk : Nat} (hg : Gl X "zip") (hm : X.mg "zip" = none) (ha : PA X [e, e2] ta)
    (hs : starEach [e, e2] X.env = (false, eval e X.env) :: starEach [e2] X.env := by rfl) (hpl : (backTo pos (starEach [e2] X.env)).any (·.1) = false := by rfl) :
    PI X (.Tuple elts kk tpos) (.Call (.Name "zip" p) [e, e2] [] pos) (iZipK X.K ta) := by
  refine ⟨fun pins s σ H R I h => ?_⟩
  refine Call_ (ld_blt I hg hm PyProof.Rows.boot_zip (PyProof.Rows.callWith_type1 (thn (ha.run pos pins s σ H _ I h) fun us s1 ⟨vs, H1, I1, r1, q1⟩ => ?_) hs hpl))
  obtain ⟨a, b, xs, ys, ex, q1⟩ := q1
  subst ex
  obtain ⟨u, u2, rfl, ru, ru2⟩ : ∃ u u2, us = [u, u2] ∧ RelV (.ref a) u ∧ RelV (.ref b) u2 := by
    cases r1 with
    | cons r rr =>
      cases rr with
      | cons r' rr => cases rr; exact ⟨_, _, rfl, r, r'⟩
  cases ru
  cases ru2
  have fresh5 : ∀ c, c ∈ [s1.heap.objs.size + 4, s1.heap.objs.size + 2, s1.heap.objs.size + 3, s1.heap.objs.size, s1.heap.objs.size + 1] → FpOk X pins H1 c := fun c hcm => by
    have hle : s1.heap.objs.size ≤ c := by
      rcases (show c = s1.heap.objs.size + 4 ∨ c = s1.heap.objs.size + 2 ∨ c = s1.heap.objs.size + 3 ∨ c = s1.heap.objs.size ∨ c = s1.heap.objs.size + 1 by simpa using hcm) with z | z | z | z | z <;> (rw [z]; omega)
    exact I1.fpOk hle (I1.hok.fresh hle)
  rcases q1 with ⟨hqx, hqy, q⟩ | ⟨hqx, hqy, q⟩
  · obtain ⟨its, rv, p1, _⟩ := I1.list hqx
    obtain ⟨its2, rv2, p2, _⟩ := I1.list hqy
    refine call_zip_2 p1.isList p2.isList fun h' hz hTI hTO h1 h2 hsz hk => wpAny_pyIter_zip hz ?_
    exact ⟨s1.heap.objs.size + 4, _, _, _, H1, rfl, I1.kept (t' := s1.toks) hk, turn_zipK (PySem.W.ktu_apart s1.heap.objs.size a b p1.lt p2.lt), ⟨hz, hTI, ⟨_, _, hTO⟩, h1, h2⟩, fresh5, q⟩
  · obtain ⟨its, rv, p1, _⟩ := I1.tuple hqx
    obtain ⟨its2, rv2, p2, _⟩ := I1.tuple hqy
    obtain ⟨o1, ho1, _⟩ := id p1
    obtain ⟨o2, ho2, _⟩ := id p2
    refine RZ.call_zipT (show s1.heap.IsTuple a its.toArray from p1) (show s1.heap.IsTuple b its2.toArray from p2) fun h' hz hTI hTO h1 h2 hsz hk => wpAny_pyIter_zip hz ?_
    exact ⟨s1.heap.objs.size + 4, _, _, _, H1, rfl, I1.kept (t' := s1.toks) hk, turn_zipU (PySem.W.ktu_apart s1.heap.objs.size a b (Heap.lt_size ho1) (Heap.lt_size ho2)), ⟨hz, hTI, ⟨_, _, hTO⟩, h1, h2⟩, fresh5, q⟩
theorem walk_zipK {Sq : Hp → Addr → List V → Prop} {a b : Addr} {xs ys : List V} {n : Nat} (hn : n = min xs.length ys.length) : Walk (ItzK Sq a b) n (fun H => Sq H a xs ∧ Sq H b ys) (YPair (fun i => xs[i]?) (fun i => ys[i]?)) := by
  subst hn
  refine ⟨fun i _ hi q => ?_, fun _ q => ⟨xs, ys, q.1, q.2, by omega⟩, fun i H v H' _ q y => ?_⟩
  · have h1 : i < xs.length := by omega
    have h2 : i < ys.length := by omega
    exact ⟨xs, ys, xs[i], ys[i], q.1, q.2, by simp [h1], by simp [h2]⟩
  · obtain ⟨T, ob, x, z, h1, h2, h3, h4, h5, h6⟩ := y
    exact ⟨T, ob, x, z, h1, h2, h3, h4, h5 xs q.1, h6 ys q.2⟩
end L2.Q
/-! Layer Q, part A: deep values, slots that may own an object, a store of shared objects, how all this lies in the abstract heap. -/
namespace L2.Q
open PySem PySem.Spec PyProof.Rows

/-- a value: data, or a shared object by its number -/
inductive W where
  | d (x : PyData)
  | ref (n : Nat)
/-- an object that may change -/
inductive Ob where
  | lst (xs : List W)
  | dct (kvs : List (Key × W))
  /-- a dict that no longer changes (the kit's lock is on it) -/
  | fdc (kvs : List (Key × W))
  /-- an instance of a class of the program, by the class's name -/
  | ins (c : Str) (fs : List (Str × W))
  /-- a dict whose keys are tuples of whole numbers, of such, ..; whether it no longer changes -/
  | dcn (fz : Bool) (kvs : List (PyData × W))
/-- a name's slot: nothing, a value, an object that this slot alone holds -/
inductive Sl where
  | un
  | w (x : W)
  | own (o : Ob)
/-- what a call hands back -/
inductive Rv where
  | w (x : W)
  | own (o : Ob)
inductive Res (α : Type) where
  | ok (a : α) (S : List Ob)
  | err (c : Str) (S : List Ob)
  | bad
inductive Fl where
  | nx (ρ : List Sl) (S : List Ob)
  | rt (r : Rv) (S : List Ob)
  | bk (ρ : List Sl) (S : List Ob)
  | ct (ρ : List Sl) (S : List Ob)
  | ex (c : Str) (ρ : List Sl) (S : List Ob)
  | bad
abbrev FE := List Sl → List Ob → Res W
abbrev FA := List Sl → List Ob → Res (List W)
abbrev FB := List Sl → List Ob → Res Bool
abbrev FO := List Sl → List Ob → Res Ob
abbrev FT := List Sl → List Ob → Fl
def Res.bind {α β : Type} (r : Res α) (k : α → List Ob → Res β) : Res β :=
  match r with
  | .ok a S => k a S
  | .err c S => .err c S
  | .bad => .bad
theorem bind_ok {α β : Type} (a : α) (S : List Ob) (k : α → List Ob → Res β) : (Res.ok a S).bind k = k a S := rfl
theorem bind_err {α β : Type} (c : Str) (S : List Ob) (k : α → List Ob → Res β) : (Res.err c S).bind k = .err c S := rfl
theorem bind_bad {α β : Type} (k : α → List Ob → Res β) : (Res.bad).bind k = .bad := rfl

/-! ### frozen objects -/
/-- a part of a heap -/
def Le (F G : Hp) : Prop := ∀ a o, F a = some o → G a = some o
theorem Le.refl {F : Hp} : Le F F := fun _ _ h => h
theorem Le.trans {F G J : Hp} (h : Le F G) (k : Le G J) : Le F J := fun a o e => k a o (h a o e)
theorem Le.upd {F : Hp} {p : Addr} {o : HO} (h : F p = none) : Le F (upd F p o) := fun a u e => by
  rw [upd_ne (ne_of_none e h)]; exact e
theorem Le.rd {F G : Hp} (h : Le F G) {a : Addr} {u : HO} (r : Rd F a u) : Rd G a u := by
  rcases r with r | ⟨o, r⟩
  · exact .inl (h a _ r)
  · exact .inr ⟨o, h a _ r⟩
theorem Le.sqL {K : PySem.W.Frag} {F G : Hp} (h : Le F G) {a : Addr} {xs : List V} (r : SqL K F a xs) : SqL K G a xs := r.imp h.rd id
theorem Le.sqU {K : PySem.W.Frag} {F G : Hp} (h : Le F G) {a : Addr} {xs : List V} (r : SqT K F a xs) : SqT K G a xs := r.imp (fun ⟨o, e, d⟩ => ⟨o, h a _ e, d⟩) id
theorem Le.sqT {K : PySem.W.Frag} {F G : Hp} (h : Le F G) {a : Addr} {xs : List V} (r : SqT K F a xs) : L2.SqT K G a xs := (h.sqU r).sq
mutual
theorem Le.dp {K : PySem.W.Frag} {F G : Hp} (h : Le F G) : ∀ (d : PyData) (v : V), Dp K F v d → Dp K G v d
  | .none, _, r => by cases r; exact .non
  | .bool b, _, r => by cases r; exact .bl b
  | .int i, _, r => by cases r; exact .int i
  | .str x, _, r => by cases r; exact .str x
  | .list ds, _, r => by
    cases r with
    | lst hs ha => exact .lst (h.sqL hs) (Le.dps h ds _ ha)
  | .tuple ds, _, r => by
    cases r with
    | tup hs ha => exact .tup (h.sqU hs) (Le.dps h ds _ ha)
theorem Le.dps {K : PySem.W.Frag} {F G : Hp} (h : Le F G) : ∀ (ds : List PyData) (vs : List V), DpAll K F vs ds → DpAll K G vs ds
  | [], _, r => by cases r; exact .nil
  | d :: ds, _, r => by
    cases r with
    | cons h1 h2 => exact .cons (Le.dp h d _ h1) (Le.dps h ds _ h2)
end

/-! ### values, objects -/
def RepW (K : PySem.W.Frag) (Fr : Hp) (μ : List Addr) : W → V → Prop
  | .d x, v => Dp K Fr v x
  | .ref n, v => ∃ a, μ[n]? = some a ∧ v = .ref a
abbrev RepWs (K : PySem.W.Frag) (Fr : Hp) (μ : List Addr) : List W → List V → Prop := Paired (RepW K Fr μ)
def RepKV (K : PySem.W.Frag) (Fr : Hp) (μ : List Addr) : List (Key × W) → List (Key × V) → Prop := Paired fun p q => p.1 = q.1 ∧ RepW K Fr μ p.2 q.2
def RepFs (K : PySem.W.Frag) (Fr : Hp) (μ : List Addr) : List (Str × W) → List (Str × V) → Prop := Paired fun p q => p.1 = q.1 ∧ RepW K Fr μ p.2 q.2
/-! keys of whole numbers and tuples -/
mutual
def nk : PyData → NestedKey
  | .int i => .num i
  | .tuple ds => .tup (nks ds)
  | _ => .none
def nks : List PyData → List NestedKey
  | [] => []
  | d :: r => nk d :: nks r
end
mutual
def nkB : PyData → Bool
  | .int _ => true
  | .tuple ds => nkBs ds
  | _ => false
def nkBs : List PyData → Bool
  | [] => true
  | d :: r => nkB d && nkBs r
end
mutual
def nhash : PyData → Int
  | .int i => hashInt i
  | .tuple ds => reduceHash (Builtin.Tuple.tupleHashOf (nhashes ds))
  | _ => 0
def nhashes : List PyData → List Int
  | [] => []
  | d :: r => nhash d :: nhashes r
end
/-- what may be a key: a tuple of whole numbers and tuples, not deep -/
def keyB : PyData → Bool
  | .tuple ds => nkBs ds && decide ((NestedKey.tup (nks ds)).depth ≤ 8)
  | _ => false
def RepEn (K : PySem.W.Frag) (Fr : Hp) (μ : List Addr) (p : PyData × W) (e : DictEntry) : Prop :=
  keyB p.1 = true ∧ ∃ b v, e.key = .ref b ∧ e.hash = nhash p.1 ∧ Dp K Fr (.ref b) p.1 ∧ RepW K Fr μ p.2 v ∧ RelV v e.val
/-- a dict with these entries -/
def DnO (a : Addr) (es : Array DictEntry) (ep : Nat) : HO := .ext fun h => (a == sysModules) = false ∧ ∃ o, h.get? a = some o ∧ o.ExactDict ∧ o.data = .dict es ep
def RepN (K : PySem.W.Frag) (Fr : Hp) (μ : List Addr) (a : Addr) (kvs : List (PyData × W)) (o : HO) : Prop :=
  ∃ es ep, o = DnO a es ep ∧ (kvs.map fun p => nk p.1).Nodup ∧ Paired (RepEn K Fr μ) kvs es.toList
def RepO (K : PySem.W.Frag) (Fr : Hp) (μ : List Addr) : Ob → HO → Prop
  | .lst xs, o => ∃ vs, o = .lst vs ∧ RepWs K Fr μ xs vs
  | .dct kvs, o => ∃ vs, o = .dK vs ∧ RepKV K Fr μ kvs vs
  | .fdc _, _ => False
  | .ins _ _, _ => False
  | .dcn _ _, _ => False
/-- .. of an object of the store; what of it is frozen -/
def RepT (K : PySem.W.Frag) (Fr : Hp) (μ : List Addr) (a : Addr) : Ob → HO → Prop
  | .lst xs, o => ∃ vs, o = .lst vs ∧ RepWs K Fr μ xs vs
  | .dct kvs, o => ∃ vs, o = .dK vs ∧ RepKV K Fr μ kvs vs
  | .fdc kvs, o => ∃ od vs, o = .frz od (.dK vs) ∧ RepKV K Fr μ kvs vs
  | .ins c fs, o => ∃ dx vs, o = .ins (He.ga K c) dx vs ∧ RepFs K Fr μ fs vs
  | .dcn _ kvs, o => RepN K Fr μ a kvs o
def frO : Ob → HO → Option HO
  | .lst _, _ => none
  | .dct _, _ => none
  | .fdc _, o => some o
  | .ins _ _, _ => none
  | .dcn fz _, o => if fz = true then some o else none
theorem RepO.toT {K : PySem.W.Frag} {Fr : Hp} {μ : List Addr} {a : Addr} {o : Ob} {ho : HO} (h : RepO K Fr μ o ho) : RepT K Fr μ a o ho ∧ frO o ho = none := by
  cases o with
  | lst xs => exact ⟨h, rfl⟩
  | dct kvs => exact ⟨h, rfl⟩
  | fdc kvs => exact h.elim
  | ins c fs => exact h.elim
  | dcn fz kvs => exact h.elim
theorem pre_get {α : Type} {l m : List α} (h : l <+: m) {i : Nat} {x : α} (e : l[i]? = some x) : m[i]? = some x := by
  obtain ⟨t, rfl⟩ := h
  rw [List.getElem?_append_left (List.getElem?_eq_some_iff.mp e).1]
  exact e
section
variable {K : PySem.W.Frag} {Fr Fr' : Hp} {μ μ' : List Addr}
theorem RepW.mono {x : W} {v : V} (h : Le Fr Fr') (m : μ <+: μ') (r : RepW K Fr μ x v) : RepW K Fr' μ' x v := by
  cases x with
  | d x => exact Le.dp h _ _ r
  | ref n =>
    obtain ⟨a, e, rfl⟩ := r
    exact ⟨a, pre_get m e, rfl⟩
theorem RepWs.mono (h : Le Fr Fr') (m : μ <+: μ') : ∀ {xs : List W} {vs : List V}, RepWs K Fr μ xs vs → RepWs K Fr' μ' xs vs
  | _, _, .nil => .nil
  | _, _, .cons r t => .cons (r.mono h m) (RepWs.mono h m t)
theorem RepKV.mono (h : Le Fr Fr') (m : μ <+: μ') : ∀ {xs : List (Key × W)} {vs : List (Key × V)}, RepKV K Fr μ xs vs → RepKV K Fr' μ' xs vs
  | _, _, .nil => .nil
  | _, _, .cons r t => .cons ⟨r.1, r.2.mono h m⟩ (RepKV.mono h m t)
theorem RepFs.mono (h : Le Fr Fr') (m : μ <+: μ') : ∀ {xs : List (Str × W)} {vs : List (Str × V)}, RepFs K Fr μ xs vs → RepFs K Fr' μ' xs vs
  | _, _, .nil => .nil
  | _, _, .cons r t => .cons ⟨r.1, r.2.mono h m⟩ (RepFs.mono h m t)
theorem RepEn.mono {p : PyData × W} {e : DictEntry} (h : Le Fr Fr') (m : μ <+: μ') (r : RepEn K Fr μ p e) : RepEn K Fr' μ' p e := by
  obtain ⟨k, b, v, e1, e2, e3, e4, e5⟩ := r
  exact ⟨k, b, v, e1, e2, Le.dp h _ _ e3, e4.mono h m, e5⟩
theorem RepEns.mono (h : Le Fr Fr') (m : μ <+: μ') : ∀ {xs : List (PyData × W)} {es : List DictEntry}, Paired (RepEn K Fr μ) xs es → Paired (RepEn K Fr' μ') xs es
  | _, _, .nil => .nil
  | _, _, .cons r t => .cons (r.mono h m) (RepEns.mono h m t)
theorem RepO.mono {x : Ob} {o : HO} (h : Le Fr Fr') (m : μ <+: μ') (r : RepO K Fr μ x o) : RepO K Fr' μ' x o := by
  cases x with
  | lst xs => obtain ⟨vs, e, r⟩ := r; exact ⟨vs, e, r.mono h m⟩
  | dct kvs => obtain ⟨vs, e, r⟩ := r; exact ⟨vs, e, r.mono h m⟩
  | fdc kvs => exact r.elim
  | ins c fs => exact r.elim
  | dcn fz kvs => exact r.elim
theorem RepT.mono {a : Addr} {x : Ob} {o : HO} (h : Le Fr Fr') (m : μ <+: μ') (r : RepT K Fr μ a x o) : RepT K Fr' μ' a x o := by
  cases x with
  | lst xs => obtain ⟨vs, e, r⟩ := r; exact ⟨vs, e, r.mono h m⟩
  | dct kvs => obtain ⟨vs, e, r⟩ := r; exact ⟨vs, e, r.mono h m⟩
  | fdc kvs => obtain ⟨od, vs, e, r⟩ := r; exact ⟨od, vs, e, r.mono h m⟩
  | ins c fs => obtain ⟨dx, vs, e, r⟩ := r; exact ⟨dx, vs, e, r.mono h m⟩
  | dcn fz kvs => obtain ⟨es, ep, e, n, r⟩ := r; exact ⟨es, ep, e, n, RepEns.mono h m r⟩
end

/-! ### how slots, store and heap belong together -/
/-- slot i owns the object at a -/
def Owns (ρ : List Sl) (σ : St) (i : Nat) (a : Addr) : Prop := (∃ o, ρ[i]? = some (.own o)) ∧ σ[i]? = some (some (.ref a))
def SlOk (K : PySem.W.Frag) (Fr Hd : Hp) (μ : List Addr) (H : Hp) (v : Option (Option V)) : Sl → Prop
  | .un => True
  | .w x => ∃ u, v = some (some u) ∧ RepW K Fr μ x u
  | .own o => ∃ a ho, v = some (some (.ref a)) ∧ H a = some ho ∧ RepO K Fr μ o ho ∧ Fr a = none ∧ Hd a = none ∧ a ∉ μ
/-- frozen objects Fr, hidden ones Hd, the store S at the addresses μ -/
structure RB (K : PySem.W.Frag) (Fr Hd : Hp) (μ : List Addr) (S : List Ob) (H : Hp) : Prop where
  fr : Le Fr H
  hd : ∀ a o, Hd a = some o → H a = some o ∧ Fr a = none
  len : μ.length = S.length
  st : ∀ (n : Nat) (a : Addr) (o : Ob), μ[n]? = some a → S[n]? = some o → ∃ ho, H a = some ho ∧ RepT K Fr μ a o ho ∧ Fr a = frO o ho ∧ Hd a = none
  nd : μ.Nodup
structure RS (K : PySem.W.Frag) (Fr Hd : Hp) (μ : List Addr) (ρ : List Sl) (σ : St) (H : Hp) : Prop where
  len : ρ.length = σ.length
  sl : ∀ (i : Nat) (x : Sl), ρ[i]? = some x → SlOk K Fr Hd μ H σ[i]? x
  inj : ∀ i j a, Owns ρ σ i a → Owns ρ σ j a → i = j
structure R (K : PySem.W.Frag) (Fr Hd : Hp) (μ : List Addr) (ρ : List Sl) (S : List Ob) (σ : St) (H : Hp) : Prop where
  b : RB K Fr Hd μ S H
  s : RS K Fr Hd μ ρ σ H
/-- an object of the heap that nothing here knows of -/
structure Free (Fr Hd : Hp) (μ : List Addr) (ρ : List Sl) (σ : St) (p : Addr) : Prop where
  fr : Fr p = none
  hd : Hd p = none
  mu : p ∉ μ
  ow : ∀ i, ¬ Owns ρ σ i p
section
variable {K : PySem.W.Frag} {Fr Hd : Hp} {μ : List Addr} {ρ : List Sl} {S : List Ob} {σ : St} {H : Hp} {p : Addr} {o : HO}
theorem R.owns (r : R K Fr Hd μ ρ S σ H) {i : Nat} {a : Addr} (h : Owns ρ σ i a) : ∃ ho, H a = some ho ∧ Fr a = none ∧ Hd a = none ∧ a ∉ μ ∧ True := by
  obtain ⟨⟨o, e⟩, e2⟩ := h
  obtain ⟨b, ho, e3, h1, h2, h3, h4, h5⟩ := r.s.sl i _ e
  rw [e2] at e3
  cases e3
  exact ⟨ho, h1, h3, h4, h5, trivial⟩
theorem RB.muH (r : RB K Fr Hd μ S H) {a : Addr} (h : a ∈ μ) : ∃ ho, H a = some ho ∧ True ∧ Hd a = none ∧ True := by
  obtain ⟨n, hn, e⟩ := List.getElem_of_mem h
  have hs : n < S.length := by rw [← r.len]; exact hn
  obtain ⟨ho, h1, h2, h3, h4⟩ := r.st n a S[n] (by rw [List.getElem?_eq_getElem hn, e]) (List.getElem?_eq_getElem hs)
  exact ⟨ho, h1, trivial, h4, trivial⟩
theorem R.new (r : R K Fr Hd μ ρ S σ H) (h : H p = none) : Free Fr Hd μ ρ σ p := by
  refine ⟨?_, ?_, fun m => ?_, fun i w => ?_⟩
  · cases e : Fr p with
    | none => rfl
    | some o => rw [r.b.fr p o e] at h; cases h
  · cases e : Hd p with
    | none => rfl
    | some o => rw [(r.b.hd p o e).1] at h; cases h
  · obtain ⟨ho, e, _⟩ := r.b.muH m
    rw [e] at h; cases h
  · obtain ⟨ho, e, _⟩ := r.owns w
    rw [e] at h; cases h
/-- an object that is free is written, or laid anew -/
theorem RB.upd (r : RB K Fr Hd μ S H) (h1 : Fr p = none) (h2 : Hd p = none) (h3 : p ∉ μ) : RB K Fr Hd μ S (upd H p o) := by
  refine ⟨fun a u e => ?_, fun a u e => ⟨?_, (r.hd a u e).2⟩, r.len, fun n a x e1 e2 => ?_, r.nd⟩
  · rw [upd_ne (ne_of_none e h1)]; exact r.fr a u e
  · rw [upd_ne (ne_of_none e h2)]; exact (r.hd a u e).1
  · obtain ⟨ho, q1, q2⟩ := r.st n a x e1 e2
    refine ⟨ho, ?_, q2⟩
    rw [upd_ne]
    · exact q1
    · rintro rfl; exact h3 (List.mem_of_getElem? e1)
theorem R.upd (r : R K Fr Hd μ ρ S σ H) (f : Free Fr Hd μ ρ σ p) : R K Fr Hd μ ρ S σ (upd H p o) := by
  refine ⟨r.b.upd f.fr f.hd f.mu, r.s.len, fun i x e => ?_, r.s.inj⟩
  have q := r.s.sl i x e
  cases x with
  | un => trivial
  | w x => exact q
  | own x =>
    obtain ⟨a, ho, e1, e2, rest⟩ := q
    refine ⟨a, ho, e1, ?_, rest⟩
    rw [upd_ne]
    · exact e2
    · rintro rfl; exact f.ow i ⟨⟨x, e⟩, e1⟩
/-- a free object is frozen -/
theorem RB.freeze (r : RB K Fr Hd μ S H) (h : H p = some o) (h1 : Fr p = none) (h2 : Hd p = none) (h3 : p ∉ μ) : RB K (L2.upd Fr p o) Hd μ S H := by
  have le : Le Fr (L2.upd Fr p o) := Le.upd h1
  refine ⟨fun a u e => ?_, fun a u e => ⟨(r.hd a u e).1, ?_⟩, r.len, fun n a x e1 e2 => ?_, r.nd⟩
  · by_cases q : a = p
    · subst q; rw [upd_same] at e; cases e; exact h
    · rw [upd_ne q] at e; exact r.fr a u e
  · rw [upd_ne (ne_of_none e h2)]; exact (r.hd a u e).2
  · obtain ⟨ho, q1, q2, q3, q4⟩ := r.st n a x e1 e2
    refine ⟨ho, q1, q2.mono le (List.prefix_refl μ), ?_, q4⟩
    rw [upd_ne]
    · exact q3
    · rintro rfl; exact h3 (List.mem_of_getElem? e1)
theorem R.freeze (r : R K Fr Hd μ ρ S σ H) (h : H p = some o) (f : Free Fr Hd μ ρ σ p) : R K (L2.upd Fr p o) Hd μ ρ S σ H := by
  have le : Le Fr (L2.upd Fr p o) := Le.upd f.fr
  refine ⟨r.b.freeze h f.fr f.hd f.mu, r.s.len, fun i x e => ?_, r.s.inj⟩
  have q := r.s.sl i x e
  cases x with
  | un => trivial
  | w x => obtain ⟨u, e1, e2⟩ := q; exact ⟨u, e1, e2.mono le (List.prefix_refl μ)⟩
  | own x =>
    obtain ⟨a, ho, e1, e2, e3, e4, e5, e6⟩ := q
    refine ⟨a, ho, e1, e2, e3.mono le (List.prefix_refl μ), ?_, e5, e6⟩
    rw [upd_ne]
    · exact e4
    · rintro rfl; exact f.ow i ⟨⟨x, e⟩, e1⟩
/-- a free object is hidden; less is hidden -/
theorem RB.hide (r : RB K Fr Hd μ S H) (h : H p = some o) (h1 : Fr p = none) (h3 : p ∉ μ) : RB K Fr (L2.upd Hd p o) μ S H := by
  refine ⟨r.fr, fun a u e => ?_, r.len, fun n a x e1 e2 => ?_, r.nd⟩
  · by_cases q : a = p
    · subst q; rw [upd_same] at e; cases e; exact ⟨h, h1⟩
    · rw [upd_ne q] at e; exact r.hd a u e
  · obtain ⟨ho, q1, q2, q3, q4⟩ := r.st n a x e1 e2
    refine ⟨ho, q1, q2, q3, ?_⟩
    rw [upd_ne]
    · exact q4
    · rintro rfl; exact h3 (List.mem_of_getElem? e1)
theorem R.hide (r : R K Fr Hd μ ρ S σ H) (h : H p = some o) (f : Free Fr Hd μ ρ σ p) : R K Fr (L2.upd Hd p o) μ ρ S σ H := by
  refine ⟨r.b.hide h f.fr f.mu, r.s.len, fun i x e => ?_, r.s.inj⟩
  have q := r.s.sl i x e
  cases x with
  | un => trivial
  | w x => exact q
  | own x =>
    obtain ⟨a, ho, e1, e2, e3, e4, e5, e6⟩ := q
    refine ⟨a, ho, e1, e2, e3, e4, ?_, e6⟩
    rw [upd_ne]
    · exact e5
    · rintro rfl; exact f.ow i ⟨⟨x, e⟩, e1⟩
theorem RB.unhide {Hd' : Hp} (r : RB K Fr Hd μ S H) (h : Le Hd' Hd) : RB K Fr Hd' μ S H := by
  refine ⟨r.fr, fun a u e => r.hd a u (h a u e), r.len, fun n a x e1 e2 => ?_, r.nd⟩
  obtain ⟨ho, q1, q2, q3, q4⟩ := r.st n a x e1 e2
  refine ⟨ho, q1, q2, q3, ?_⟩
  cases e : Hd' a with
  | none => rfl
  | some u => rw [h a u e] at q4; cases q4
theorem none_le {F G : Hp} (h : Le F G) {a : Addr} (e : G a = none) : F a = none := by
  cases q : F a with
  | none => rfl
  | some u => rw [h a u q] at e; cases e
theorem R.unhide {Hd' : Hp} (r : R K Fr Hd μ ρ S σ H) (h : Le Hd' Hd) : R K Fr Hd' μ ρ S σ H := by
  refine ⟨r.b.unhide h, r.s.len, fun i x e => ?_, r.s.inj⟩
  have q := r.s.sl i x e
  cases x with
  | un => trivial
  | w x => exact q
  | own x =>
    obtain ⟨a, ho, e1, e2, e3, e4, e5, e6⟩ := q
    exact ⟨a, ho, e1, e2, e3, e4, none_le h e5, e6⟩
/-- a slot takes a value -/
theorem R.setW (r : R K Fr Hd μ ρ S σ H) {i : Nat} {x : W} {v : V} (e : RepW K Fr μ x v) : R K Fr Hd μ (ρ.set i (.w x)) S (σ.set i (some v)) H := by
  refine ⟨r.b, by simp [r.s.len], fun j y ej => ?_, fun j k a h1 h2 => ?_⟩
  · by_cases q : i = j
    · subst q
      by_cases hi : i < ρ.length
      · rw [List.getElem?_set_self hi] at ej
        cases ej
        exact ⟨v, by rw [List.getElem?_set_self (by rw [← r.s.len]; exact hi)], e⟩
      · rw [List.getElem?_eq_none (by simpa using hi)] at ej; cases ej
    · rw [List.getElem?_set_ne q] at ej ⊢
      exact r.s.sl j y ej
  · have one : ∀ j a, Owns (ρ.set i (.w x)) (σ.set i (some v)) j a → Owns ρ σ j a := fun j a ⟨⟨o, h1⟩, h2⟩ => by
      by_cases q : i = j
      · subst q
        by_cases hi : i < ρ.length
        · rw [List.getElem?_set_self hi] at h1; cases h1
        · rw [List.getElem?_eq_none (by simpa using hi)] at h1; cases h1
      · rw [List.getElem?_set_ne q] at h1 h2
        exact ⟨⟨o, h1⟩, h2⟩
    exact r.s.inj j k a (one j a h1) (one k a h2)
/-- a slot takes a free object as its own -/
theorem R.setOwn (r : R K Fr Hd μ ρ S σ H) {i : Nat} {x : Ob} (h : H p = some o) (f : Free Fr Hd μ ρ σ p) (e : RepO K Fr μ x o) : R K Fr Hd μ (ρ.set i (.own x)) S (σ.set i (some (.ref p))) H := by
  refine ⟨r.b, by simp [r.s.len], fun j y ej => ?_, fun j k a h1 h2 => ?_⟩
  · by_cases q : i = j
    · subst q
      by_cases hi : i < ρ.length
      · rw [List.getElem?_set_self hi] at ej
        cases ej
        exact ⟨p, o, by rw [List.getElem?_set_self (by rw [← r.s.len]; exact hi)], h, e, f.fr, f.hd, f.mu⟩
      · rw [List.getElem?_eq_none (by simpa using hi)] at ej; cases ej
    · rw [List.getElem?_set_ne q] at ej ⊢
      exact r.s.sl j y ej
  · have one : ∀ j a, Owns (ρ.set i (.own x)) (σ.set i (some (.ref p))) j a → (j = i ∧ a = p) ∨ (j ≠ i ∧ Owns ρ σ j a) := fun j a ⟨⟨u, h1⟩, h2⟩ => by
      by_cases q : i = j
      · subst q
        by_cases hi : i < σ.length
        · rw [List.getElem?_set_self hi] at h2; cases h2; exact .inl ⟨rfl, rfl⟩
        · rw [List.getElem?_eq_none (by simpa using hi)] at h2; cases h2
      · rw [List.getElem?_set_ne q] at h1 h2
        exact .inr ⟨fun z => q z.symm, ⟨u, h1⟩, h2⟩
    rcases one j a h1 with ⟨e1, e2⟩ | ⟨e1, e2⟩
    · rcases one k a h2 with ⟨e3, e4⟩ | ⟨e3, e4⟩
      · rw [e1, e3]
      · rw [e2] at e4; exact absurd e4 (f.ow k)
    · rcases one k a h2 with ⟨e3, e4⟩ | ⟨e3, e4⟩
      · rw [e4] at e2; exact absurd e2 (f.ow j)
      · exact r.s.inj j k a e2 e4
/-- a slot is forgotten (whatever lies there); its object is then free -/
theorem owns_un {i : Nat} {v : Option V} {j : Nat} {a : Addr} (h : Owns (ρ.set i .un) (σ.set i v) j a) : j ≠ i ∧ Owns ρ σ j a := by
  obtain ⟨⟨u, h1⟩, h2⟩ := h
  by_cases q : i = j
  · subst q
    by_cases hi : i < ρ.length
    · rw [List.getElem?_set_self hi] at h1; cases h1
    · rw [List.getElem?_eq_none (by simpa using hi)] at h1; cases h1
  · rw [List.getElem?_set_ne q] at h1 h2
    exact ⟨fun z => q z.symm, ⟨u, h1⟩, h2⟩
theorem R.setUn (r : R K Fr Hd μ ρ S σ H) {i : Nat} {v : Option V} : R K Fr Hd μ (ρ.set i .un) S (σ.set i v) H := by
  refine ⟨r.b, by simp [r.s.len], fun j y ej => ?_, fun j k a h1 h2 => r.s.inj j k a (owns_un h1).2 (owns_un h2).2⟩
  by_cases q : i = j
  · subst q
    by_cases hi : i < ρ.length
    · rw [List.getElem?_set_self hi] at ej; cases ej; trivial
    · rw [List.getElem?_eq_none (by simpa using hi)] at ej; cases ej
  · rw [List.getElem?_set_ne q] at ej ⊢
    exact r.s.sl j y ej
theorem set_at {α : Type} {l : List α} {i : Nat} {x : α} (h : l[i]? = some x) : l.set i x = l := by
  apply List.ext_getElem?
  intro j
  by_cases q : i = j
  · subst q
    have hi : i < l.length := (List.getElem?_eq_some_iff.mp h).1
    rw [List.getElem?_set_self hi, h]
  · rw [List.getElem?_set_ne q]
/-- the slot alone forgets -/
theorem R.un (r : R K Fr Hd μ ρ S σ H) (i : Nat) : R K Fr Hd μ (ρ.set i .un) S σ H := by
  by_cases hi : i < σ.length
  · have e : σ.set i σ[i] = σ := set_at (List.getElem?_eq_getElem hi)
    have q := r.setUn (i := i) (v := σ[i])
    rw [e] at q
    exact q
  · have e : ρ.set i .un = ρ := List.set_eq_of_length_le (by have := r.s.len; omega)
    rw [e]; exact r
/-- what a slot owned is free when it is forgotten -/
theorem R.free_un (r : R K Fr Hd μ ρ S σ H) {i : Nat} (h : Owns ρ σ i p) : Free Fr Hd μ (ρ.set i .un) σ p := by
  obtain ⟨ho, h1, h2, h3, h4, _⟩ := r.owns h
  refine ⟨h2, h3, h4, fun j w => ?_⟩
  have e : σ.set i (some (.ref p)) = σ := set_at h.2
  rw [← e] at w
  obtain ⟨n, w⟩ := owns_un w
  exact n (r.s.inj j i p w h)
end
end L2.Q
/-! Layer Q, part B: readings by functions; the step lemma; names, operators, tests, displays, plain statements. -/
namespace L2.Q
open PySem PySem.Spec PyProof.Rows

/-- how a result lies in the heap: frozen, hidden, store's addresses, slots, their values, heap, the result, its value -/
abbrev Rep (α β : Type) := Hp → Hp → List Addr → List Sl → St → Hp → α → β → Prop
def cont (K : PySem.W.Frag) (mg : Str → Option Value) (Wc : WX) {α β : Type} (rep : Rep α β) (Fr Hd : Hp) (μ : List Addr) (ρ : List Sl) (σ : St) (Q : β → Hp → Prop) : Res α → Prop
  | .ok a S' => ∀ Fr' μ' b H', Le Fr Fr' → μ <+: μ' → R K Fr' Hd μ' ρ S' σ H' → rep Fr' Hd μ' ρ σ H' a b → Q b H'
  | .err c S' => ∀ Fr' μ' C H', Le Fr Fr' → μ <+: μ' → R K Fr' Hd μ' ρ S' σ H' → mg c = some (.ref C) → Wc (.ref C) none σ H'
  | .bad => False
def lift (K : PySem.W.Frag) (mg : Str → Option Value) (Wc : WX) {α β : Type} (rep : Rep α β) (f : List Sl → List Ob → Res α) : St → Hp → (β → Hp → Prop) → Prop := fun σ H Q =>
  ∃ Fr Hd μ ρ S, R K Fr Hd μ ρ S σ H ∧ cont K mg Wc rep Fr Hd μ ρ σ Q (f ρ S)
def contS (K : PySem.W.Frag) (mg : Str → Option Value) (Wc : WX) (Fr Hd : Hp) (μ : List Addr) (D : Ends) : Fl → Prop
  | .nx ρ' S' => ∀ Fr' μ' σ' H', Le Fr Fr' → μ <+: μ' → R K Fr' Hd μ' ρ' S' σ' H' → D.nx σ' H'
  | .bk ρ' S' => ∀ Fr' μ' σ' H', Le Fr Fr' → μ <+: μ' → R K Fr' Hd μ' ρ' S' σ' H' → D.bk σ' H'
  | .ct ρ' S' => ∀ Fr' μ' σ' H', Le Fr Fr' → μ <+: μ' → R K Fr' Hd μ' ρ' S' σ' H' → D.ct σ' H'
  | .rt (.w x) S' => ∀ Fr' μ' v H', Le Fr Fr' → μ <+: μ' → RB K Fr' Hd μ' S' H' → RepW K Fr' μ' x v → D.rt v H'
  | .rt (.own o) S' => ∀ Fr' μ' p ho H', Le Fr Fr' → μ <+: μ' → RB K Fr' Hd μ' S' H' → H' p = some ho → RepO K Fr' μ' o ho → Fr' p = none → Hd p = none → p ∉ μ' → D.rt (.ref p) H'
  | .ex c ρ' S' => ∀ Fr' μ' σ' C H', Le Fr Fr' → μ <+: μ' → R K Fr' Hd μ' ρ' S' σ' H' → mg c = some (.ref C) → Wc (.ref C) none σ' H'
  | .bad => False
def liftS (K : PySem.W.Frag) (mg : Str → Option Value) (Wc : WX) (f : FT) : TS := fun D σ H =>
  ∃ Fr Hd μ ρ S, R K Fr Hd μ ρ S σ H ∧ contS K mg Wc Fr Hd μ D (f ρ S)
def repE (K : PySem.W.Frag) : Rep W V := fun Fr _ μ _ _ _ x v => RepW K Fr μ x v
def repA (K : PySem.W.Frag) : Rep (List W) (List V) := fun Fr _ μ _ _ _ xs vs => RepWs K Fr μ xs vs
def repB : Rep Bool Bool := fun _ _ _ _ _ _ a b => a = b
def repO (K : PySem.W.Frag) : Rep Ob V := fun Fr Hd μ ρ σ H o v => ∃ p ho, v = .ref p ∧ H p = some ho ∧ RepO K Fr μ o ho ∧ Free Fr Hd μ ρ σ p
/-- a list or tuple as it stands now -/
def repQ (K : PySem.W.Frag) : Rep (List W) V := fun Fr _ μ _ _ H xs v => ∃ a vs, v = .ref a ∧ (SqL K H a vs ∨ L2.SqT K H a vs) ∧ RepWs K Fr μ xs vs
/-- a slice's part -/
def repP : Rep (Option Int) (Option Int) := fun _ _ _ _ _ _ a b => a = b
abbrev LE (X : Cx) (Wc : WX) (f : FE) : TE := lift X.K X.mg Wc (repE X.K) f
abbrev LA (X : Cx) (Wc : WX) (f : FA) : TA := lift X.K X.mg Wc (repA X.K) f
abbrev LB (X : Cx) (Wc : WX) (f : FB) : TT := lift X.K X.mg Wc repB f
abbrev LO (X : Cx) (Wc : WX) (f : FO) : TE := lift X.K X.mg Wc (repO X.K) f
abbrev LQ (X : Cx) (Wc : WX) (f : FA) : TE := lift X.K X.mg Wc (repQ X.K) f
abbrev LS (X : Cx) (Wc : WX) (f : FT) : TS := liftS X.K X.mg Wc f

section
variable {K : PySem.W.Frag} {mg : Str → Option Value} {Wc : WX} {α β γ δ : Type} {rep : Rep α β} {rep2 : Rep γ δ} {Fr Fr' Hd : Hp} {μ μ' : List Addr} {ρ : List Sl} {S : List Ob} {σ : St} {H : Hp} {Q Q' : β → Hp → Prop} {Q2 : δ → Hp → Prop}
theorem cont.mono {r : Res α} (h1 : Le Fr Fr') (h2 : μ <+: μ') (hq : ∀ b H, Q b H → Q' b H) (c : cont K mg Wc rep Fr Hd μ ρ σ Q r) : cont K mg Wc rep Fr' Hd μ' ρ σ Q' r := by
  cases r with
  | ok a S => exact fun F m b H' l p r e => hq b H' (c F m b H' (h1.trans l) (List.IsPrefix.trans h2 p) r e)
  | err x S => exact fun F m C H' l p r e => c F m C H' (h1.trans l) (List.IsPrefix.trans h2 p) r e
  | bad => exact c
theorem contS.mono {f : Fl} {D : Ends} (h1 : Le Fr Fr') (h2 : μ <+: μ') (c : contS K mg Wc Fr Hd μ D f) : contS K mg Wc Fr' Hd μ' D f := by
  cases f with
  | nx ρ S => exact fun F m s H' l p r => c F m s H' (h1.trans l) (List.IsPrefix.trans h2 p) r
  | bk ρ S => exact fun F m s H' l p r => c F m s H' (h1.trans l) (List.IsPrefix.trans h2 p) r
  | ct ρ S => exact fun F m s H' l p r => c F m s H' (h1.trans l) (List.IsPrefix.trans h2 p) r
  | rt r S =>
    cases r with
    | w x => exact fun F m s H' l p r => c F m s H' (h1.trans l) (List.IsPrefix.trans h2 p) r
    | own o => exact fun F m q ho H' l p r => c F m q ho H' (h1.trans l) (List.IsPrefix.trans h2 p) r
  | ex x ρ S => exact fun F m s C H' l p r => c F m s C H' (h1.trans l) (List.IsPrefix.trans h2 p) r
  | bad => exact c
theorem lift.imp {f : List Sl → List Ob → Res α} (hq : ∀ b H, Q b H → Q' b H) (h : lift K mg Wc rep f σ H Q) : lift K mg Wc rep f σ H Q' := by
  obtain ⟨F, D, m, ρ, S, r, c⟩ := h
  exact ⟨F, D, m, ρ, S, r, c.mono Le.refl (List.prefix_refl m) hq⟩
/-- THE STEP: the first part of a reading -/
theorem step {f : List Sl → List Ob → Res α} {k : α → List Ob → Res γ} (r : R K Fr Hd μ ρ S σ H) (c : cont K mg Wc rep2 Fr Hd μ ρ σ Q2 ((f ρ S).bind k))
    (hk : ∀ Fr' μ' a b S1 H1, Le Fr Fr' → μ <+: μ' → R K Fr' Hd μ' ρ S1 σ H1 → rep Fr' Hd μ' ρ σ H1 a b → cont K mg Wc rep2 Fr' Hd μ' ρ σ Q2 (k a S1) → Q b H1) : lift K mg Wc rep f σ H Q := by
  refine ⟨Fr, Hd, μ, ρ, S, r, ?_⟩
  cases e : f ρ S with
  | ok a S1 =>
    rw [e] at c
    exact fun F m b H' l p r' q => hk F m a b S1 H' l p r' q (cont.mono l p (fun _ _ z => z) c)
  | err x S1 => rw [e] at c; exact c
  | bad => rw [e] at c; exact c
def fl {α : Type} (r : Res α) (ρ : List Sl) (k : α → List Ob → Fl) : Fl :=
  match r with
  | .ok a S => k a S
  | .err c S => .ex c ρ S
  | .bad => .bad
theorem stepS {f : List Sl → List Ob → Res α} {k : α → List Ob → Fl} {D : Ends} (r : R K Fr Hd μ ρ S σ H) (c : contS K mg Wc Fr Hd μ D (fl (f ρ S) ρ k))
    (hk : ∀ Fr' μ' a b S1 H1, Le Fr Fr' → μ <+: μ' → R K Fr' Hd μ' ρ S1 σ H1 → rep Fr' Hd μ' ρ σ H1 a b → contS K mg Wc Fr' Hd μ' D (k a S1) → Q b H1) : lift K mg Wc rep f σ H Q := by
  refine ⟨Fr, Hd, μ, ρ, S, r, ?_⟩
  cases e : f ρ S with
  | ok a S1 =>
    rw [e] at c
    exact fun F m b H' l p r' q => hk F m a b S1 H' l p r' q (contS.mono l p c)
  | err x S1 => rw [e] at c; exact fun F m C H' l p r' q => c F m σ C H' l p r' q
  | bad => rw [e] at c; exact c
end

/-! ### weaker readings -/
theorem PE.imp {X : Cx} {e : Expr} {t t' : TE} (h : PE X e t) (i : ∀ σ H Q, t' σ H Q → t σ H Q) : PE X e t' := ⟨fun pins s σ H Q I q => h.run pins s σ H Q I (i σ H Q q)⟩
theorem PT.imp {X : Cx} {e : Expr} {t t' : TT} (h : PT X e t) (i : ∀ σ H Q, t' σ H Q → t σ H Q) : PT X e t' := ⟨fun pins s σ H Q I q => h.run pins s σ H Q I (i σ H Q q)⟩
theorem PW.imp {X : Cx} {e : Expr} {t t' : TT} (h : PW X e t) (i : ∀ σ H Q, t' σ H Q → t σ H Q) : PW X e t' := ⟨fun w pins s σ H Q I q => h.run w pins s σ H Q I (i σ H Q q)⟩
theorem PA.imp {X : Cx} {e : List Expr} {t t' : TA} (h : PA X e t) (i : ∀ σ H Q, t' σ H Q → t σ H Q) : PA X e t' := ⟨fun p pins s σ H Q I q => h.run p pins s σ H Q I (i σ H Q q)⟩
theorem PS.imp {X : Cx} {e : Stmt} {t t' : TS} (h : PS X e t) (i : ∀ D σ H, t' D σ H → t D σ H) : PS X e t' := ⟨fun pins s σ H D I q => h.run pins s σ H D I (i D σ H q)⟩
theorem PSs.imp {X : Cx} {e : List Stmt} {t t' : TS} (h : PSs X e t) (i : ∀ D σ H, t' D σ H → t D σ H) : PSs X e t' := ⟨fun pins s σ H D I q => h.run pins s σ H D I (i D σ H q)⟩
theorem PO.imp {X : Cx} {e : Option Expr} {t t' : TO} (h : PO X e t) (i : ∀ σ H Q, t' σ H Q → t σ H Q) : PO X e t' := ⟨fun pins s σ H Q I q => h.run pins s σ H Q I (i σ H Q q)⟩

/-! ### names and constants -/
def fVar (i : Nat) : FE := fun ρ S => match ρ[i]? with
  | some (.w x) => .ok x S
  | _ => .bad
def fC (x : PyData) : FE := fun _ S => .ok (.d x) S
section
variable {X : Cx} {Wc : WX} {a b : Expr} {es : List Expr} {pos : Pos} {fa fb : FE}
theorem q_var {i : Nat} {x : Str} (hN : X.N[i]? = some x) (hv : Vis X.env.scope x) (hd : (x == ("__debug__" : Str)) = false := by decide) (hcd : (x == ("__classdict__" : Str)) = false := by decide) : PE X (.Name x pos) (LE X Wc (fVar i)) := by
  refine PE.imp (pe_var hN hv hd hcd) fun σ H Q h => ?_
  obtain ⟨F, D, m, ρ, S, r, c⟩ := h
  unfold fVar at c
  cases e : ρ[i]? with
  | none => rw [e] at c; exact c.elim
  | some y =>
    rw [e] at c
    cases y with
    | un => exact c.elim
    | own o => exact c.elim
    | w x =>
      obtain ⟨u, e1, e2⟩ := r.s.sl i _ e
      exact ⟨u, e1, c F m u H Le.refl (List.prefix_refl m) r e2⟩
theorem q_c {v : V} {d : PyData} {e : Expr} (h : PE X e (tC v)) (hd : ∀ F : Hp, Dp X.K F v d) : PE X e (LE X Wc (fC d)) := by
  refine PE.imp h fun σ H Q h => ?_
  obtain ⟨F, D, m, ρ, S, r, c⟩ := h
  exact c F m v H Le.refl (List.prefix_refl m) r (hd F)
theorem q_int {i j} : PE X (.Constant (.int i) j pos) (LE X Wc (fC (.int i))) := q_c pe_int fun _ => .int i
theorem q_bl {b j} : PE X (.Constant (.bool b) j pos) (LE X Wc (fC (.bool b))) := q_c pe_bl fun _ => .bl b
theorem q_non {j} : PE X (.Constant .none j pos) (LE X Wc (fC .none)) := q_c pe_non fun _ => .non
theorem q_str {x j} : PE X (.Constant (.str x) j pos) (LE X Wc (fC (.str x))) := q_c pe_str fun _ => .str x
/-- a module's constant -/
theorem q_glob {x : Str} {v : V} {u : Value} {d : PyData} (hg : Gl X x) (hm : X.mg x = some u) (r : RelV v u) (hd : ∀ F : Hp, Dp X.K F v d) (hdb : (x == ("__debug__" : Str)) = false := by decide) : PE X (.Name x pos) (LE X Wc (fC d)) :=
  q_c (pe_glob hg hm r hdb) hd

/-! ### operators -/
def fBin (op : W → W → List Ob → Res W) (fa fb : FE) : FE := fun ρ S => (fa ρ S).bind fun x S1 => (fb ρ S1).bind fun y S2 => op x y S2
def fUn (op : W → List Ob → Res W) (fa : FE) : FE := fun ρ S => (fa ρ S).bind fun x S1 => op x S1
/-- an operator's function tells what the operator's rule asks -/
def OpF (X : Cx) (Wc : WX) (r : R2) (op : W → W → List Ob → Res W) : Prop := ∀ (Fr Hd : Hp) (μ : List Addr) (ρ : List Sl) (S : List Ob) (σ : St) (H : Hp) (x y : W) (v u : V) (Q : VK),
  R X.K Fr Hd μ ρ S σ H → RepW X.K Fr μ x v → RepW X.K Fr μ y u → cont X.K X.mg Wc (repE X.K) Fr Hd μ ρ σ Q (op x y S) → r v u H Q
def UnF (X : Cx) (Wc : WX) (r : V → Hp → VK → Prop) (op : W → List Ob → Res W) : Prop := ∀ (Fr Hd : Hp) (μ : List Addr) (ρ : List Sl) (S : List Ob) (σ : St) (H : Hp) (x : W) (v : V) (Q : VK),
  R X.K Fr Hd μ ρ S σ H → RepW X.K Fr μ x v → cont X.K X.mg Wc (repE X.K) Fr Hd μ ρ σ Q (op x S) → r v H Q
theorem bin_imp {r : R2} {op : W → W → List Ob → Res W} (hr : OpF X Wc r op) {σ : St} {H : Hp} {Q : VK} (h : LE X Wc (fBin op fa fb) σ H Q) : tOp r (LE X Wc fa) (LE X Wc fb) σ H Q := by
  obtain ⟨F, D, m, ρ, S, r0, c⟩ := h
  refine step r0 c fun F1 m1 x v S1 H1 l1 p1 r1 e1 c1 => ?_
  refine step r1 c1 fun F2 m2 y u S2 H2 l2 p2 r2 e2 c2 => ?_
  exact hr F2 D m2 ρ S2 σ H2 x y v u Q r2 (RepW.mono l2 p2 e1) e2 c2
theorem q_op {op : Operator} {r : R2} {fop : W → W → List Ob → Res W} (ho : OpR X (binaryOp op) r) (hr : OpF X Wc r fop) (ha : PE X a (LE X Wc fa)) (hb : PE X b (LE X Wc fb)) : PE X (.BinOp a op b pos) (LE X Wc (fBin fop fa fb)) :=
  PE.imp (pe_op ho ha hb) fun _ _ _ h => bin_imp hr h
theorem q_cmp {op : CmpOp} {r : R2} {fop : W → W → List Ob → Res W} (ho : OpR X (compareOp op) r) (hr : OpF X Wc r fop) (ha : PE X a (LE X Wc fa)) (hb : PE X b (LE X Wc fb)) (hm : behindInMarks op b = false) : PE X (.Compare a [op] [b] pos) (LE X Wc (fBin fop fa fb)) :=
  PE.imp (pe_cmpR ho ha hb hm) fun _ _ _ h => bin_imp hr h
theorem un_imp {r : V → Hp → VK → Prop} {op : W → List Ob → Res W} (hr : UnF X Wc r op) {σ : St} {H : Hp} {Q : VK} (h : LE X Wc (fUn op fa) σ H Q) : tUn r (LE X Wc fa) σ H Q := by
  obtain ⟨F, D, m, ρ, S, r0, c⟩ := h
  refine step r0 c fun F1 m1 x v S1 H1 l1 p1 r1 e1 c1 => ?_
  exact hr F1 D m1 ρ S1 σ H1 x v Q r1 e1 c1
theorem q_un {op : UnaryOp} {r : V → Hp → VK → Prop} {fop : W → List Ob → Res W} (ho : UnR X (unaryOp op) r) (hr : UnF X Wc r fop) (ha : PE X a (LE X Wc fa)) : PE X (.UnaryOp op a pos) (LE X Wc (fUn fop fa)) :=
  PE.imp (pe_un ho ha) fun _ _ _ h => un_imp hr h

/-! ### tests -/
def toB : W → List Ob → Res Bool
  | .d (.bool c), S => .ok c S
  | _, _ => .bad
/-- an expression whose value is a bool, as a test -/
def fT (fa : FE) : FB := fun ρ S => (fa ρ S).bind toB
theorem t_imp {σ : St} {H : Hp} {Q : Bool → Hp → Prop} (h : LB X Wc (fT fa) σ H Q) : tB (LE X Wc fa) σ H Q := by
  obtain ⟨F, D, m, ρ, S, r0, c⟩ := h
  refine step r0 c fun F1 m1 x v S1 H1 l1 p1 r1 e1 c1 => ?_
  cases x with
  | ref n => exact c1.elim
  | d x =>
    cases x with
    | bool b => cases e1; exact ⟨b, rfl, c1 F1 m1 b H1 Le.refl (List.prefix_refl m1) r1 rfl⟩
    | none => exact c1.elim
    | int i => exact c1.elim
    | str z => exact c1.elim
    | list z => exact c1.elim
    | tuple z => exact c1.elim
    | dict z => exact c1.elim
theorem q_tv (h : PE X a (LE X Wc fa)) (he : ∀ whole, isTrue a X.env whole = (do let v ← whole; standAt a.pos; holding [v] (truthy v)) := by intro _; rfl) : PT X a (LB X Wc (fT fa)) :=
  PT.imp (pt_val h he) fun _ _ _ h => t_imp h
theorem q_tc {op : CmpOp} {r : R2} {fop : W → W → List Ob → Res W} (ho : OpR X (compareOp op) r) (hr : OpF X Wc r fop) (ha : PE X a (LE X Wc fa)) (hb : PE X b (LE X Wc fb)) (hm : behindInMarks op b = false) : PT X (.Compare a [op] [b] pos) (LB X Wc (fT (fBin fop fa fb))) := by
  refine PT.imp (pt_cmpR ho ha hb hm) fun σ H Q h => ?_
  obtain ⟨F, D, m, ρ, S, r0, c⟩ := h
  unfold fT at c
  have q : tB (LE X Wc (fBin fop fa fb)) σ H Q := t_imp ⟨F, D, m, ρ, S, r0, c⟩
  exact bin_imp hr q
def fAnd (ta tb : FB) : FB := fun ρ S => (ta ρ S).bind fun c S1 => if c = true then tb ρ S1 else .ok false S1
def fOr (ta tb : FB) : FB := fun ρ S => (ta ρ S).bind fun c S1 => if c = true then .ok true S1 else tb ρ S1
def fNot (ta : FB) : FB := fun ρ S => (ta ρ S).bind fun c S1 => .ok (!c) S1
variable {ta tb : FB} {rest : List Expr}
theorem q_and1 (ha : PT X a (LB X Wc ta)) : PW X (.BoolOp .And [a] pos) (LB X Wc ta) := pw_and1 ha
theorem q_or1 (ha : PT X a (LB X Wc ta)) : PW X (.BoolOp .Or [a] pos) (LB X Wc ta) := pw_or1 ha
theorem q_and (ha : PT X a (LB X Wc ta)) (hb : PW X (.BoolOp .And (b :: rest) pos) (LB X Wc tb)) : PW X (.BoolOp .And (a :: b :: rest) pos) (LB X Wc (fAnd ta tb)) := by
  refine PW.imp (pw_and ha hb) fun σ H Q h => ?_
  obtain ⟨F, D, m, ρ, S, r0, c⟩ := h
  refine step r0 c fun F1 m1 x v S1 H1 l1 p1 r1 e1 c1 => ?_
  cases e1
  cases x with
  | true => exact ⟨F1, D, m1, ρ, S1, r1, c1⟩
  | false => exact c1 F1 m1 false H1 Le.refl (List.prefix_refl m1) r1 rfl
theorem q_or (ha : PT X a (LB X Wc ta)) (hb : PW X (.BoolOp .Or (b :: rest) pos) (LB X Wc tb)) : PW X (.BoolOp .Or (a :: b :: rest) pos) (LB X Wc (fOr ta tb)) := by
  refine PW.imp (pw_or ha hb) fun σ H Q h => ?_
  obtain ⟨F, D, m, ρ, S, r0, c⟩ := h
  refine step r0 c fun F1 m1 x v S1 H1 l1 p1 r1 e1 c1 => ?_
  cases e1
  cases x with
  | false => exact ⟨F1, D, m1, ρ, S1, r1, c1⟩
  | true => exact c1 F1 m1 true H1 Le.refl (List.prefix_refl m1) r1 rfl
theorem q_not (ha : PT X a (LB X Wc ta)) : PT X (.UnaryOp .Not a pos) (LB X Wc (fNot ta)) := by
  refine PT.imp (pt_not ha) fun σ H Q h => ?_
  obtain ⟨F, D, m, ρ, S, r0, c⟩ := h
  refine step r0 c fun F1 m1 x v S1 H1 l1 p1 r1 e1 c1 => ?_
  cases e1
  exact c1 F1 m1 _ H1 Le.refl (List.prefix_refl m1) r1 rfl
/-- as values -/
def fAndV (fa fb : FE) : FE := fun ρ S => ((fa ρ S).bind toB).bind fun c S1 => if c = true then fb ρ S1 else .ok (.d (.bool false)) S1
def fOrV (fa fb : FE) : FE := fun ρ S => ((fa ρ S).bind toB).bind fun c S1 => if c = true then .ok (.d (.bool true)) S1 else fb ρ S1
def fNotV (fa : FE) : FE := fun ρ S => ((fa ρ S).bind toB).bind fun c S1 => .ok (.d (.bool (!c))) S1
theorem q_one {op} (h : PE X a (LE X Wc fa)) : PE X (.BoolOp op [a] pos) (LE X Wc fa) := pe_one h
theorem toB_step {K : PySem.W.Frag} {mg : Str → Option Value} {Fr Hd : Hp} {μ : List Addr} {ρ : List Sl} {S : List Ob} {σ : St} {Q : VK} {x : W} {v : V} {k : Bool → List Ob → Res W} (e : RepW K Fr μ x v)
    (c : cont K mg Wc (repE K) Fr Hd μ ρ σ Q ((toB x S).bind k)) : ∃ b, v = .bl b ∧ cont K mg Wc (repE K) Fr Hd μ ρ σ Q (k b S) := by
  cases x with
  | ref n => exact c.elim
  | d x =>
    cases x with
    | bool b => cases e; exact ⟨b, rfl, c⟩
    | none => exact c.elim
    | int i => exact c.elim
    | str z => exact c.elim
    | list z => exact c.elim
    | tuple z => exact c.elim
    | dict z => exact c.elim
theorem bind_assoc {α β γ : Type} (r : Res α) (k : α → List Ob → Res β) (l : β → List Ob → Res γ) : (r.bind k).bind l = r.bind fun a S => (k a S).bind l := by cases r <;> rfl
theorem q_andV (ha : PE X a (LE X Wc fa)) (hb : PE X (.BoolOp .And (b :: rest) pos) (LE X Wc fb)) : PE X (.BoolOp .And (a :: b :: rest) pos) (LE X Wc (fAndV fa fb)) := by
  refine PE.imp (pe_and ha hb) fun σ H Q h => ?_
  obtain ⟨F, D, m, ρ, S, r0, c⟩ := h
  unfold fAndV at c
  rw [bind_assoc] at c
  refine step r0 c fun F1 m1 x v S1 H1 l1 p1 r1 e1 c1 => ?_
  obtain ⟨k, rfl, c2⟩ := toB_step e1 c1
  refine ⟨k, rfl, ?_⟩
  cases k with
  | true => exact ⟨F1, D, m1, ρ, S1, r1, c2⟩
  | false => exact c2 F1 m1 (.bl false) H1 Le.refl (List.prefix_refl m1) r1 (Dp.bl false)
theorem q_orV (ha : PE X a (LE X Wc fa)) (hb : PE X (.BoolOp .Or (b :: rest) pos) (LE X Wc fb)) : PE X (.BoolOp .Or (a :: b :: rest) pos) (LE X Wc (fOrV fa fb)) := by
  refine PE.imp (pe_or ha hb) fun σ H Q h => ?_
  obtain ⟨F, D, m, ρ, S, r0, c⟩ := h
  unfold fOrV at c
  rw [bind_assoc] at c
  refine step r0 c fun F1 m1 x v S1 H1 l1 p1 r1 e1 c1 => ?_
  obtain ⟨k, rfl, c2⟩ := toB_step e1 c1
  refine ⟨k, rfl, ?_⟩
  cases k with
  | false => exact ⟨F1, D, m1, ρ, S1, r1, c2⟩
  | true => exact c2 F1 m1 (.bl true) H1 Le.refl (List.prefix_refl m1) r1 (Dp.bl true)
theorem q_notV (ha : PE X a (LE X Wc fa)) : PE X (.UnaryOp .Not a pos) (LE X Wc (fNotV fa)) := by
  refine PE.imp (pe_not ha) fun σ H Q h => ?_
  obtain ⟨F, D, m, ρ, S, r0, c⟩ := h
  unfold fNotV at c
  rw [bind_assoc] at c
  refine step r0 c fun F1 m1 x v S1 H1 l1 p1 r1 e1 c1 => ?_
  obtain ⟨k, rfl, c2⟩ := toB_step e1 c1
  exact ⟨k, rfl, c2 F1 m1 _ H1 Le.refl (List.prefix_refl m1) r1 (Dp.bl _)⟩
def fIf (t : FB) (fa fb : FE) : FE := fun ρ S => (t ρ S).bind fun c S1 => if c = true then fa ρ S1 else fb ρ S1
theorem q_if {c : Expr} {t : FB} (hc : PT X c (LB X Wc t)) (ha : PE X a (LE X Wc fa)) (hb : PE X b (LE X Wc fb)) : PE X (.IfExp c a b pos) (LE X Wc (fIf t fa fb)) := by
  refine PE.imp (pe_ifExp hc ha hb) fun σ H Q h => ?_
  obtain ⟨F, D, m, ρ, S, r0, c⟩ := h
  refine step r0 c fun F1 m1 x v S1 H1 l1 p1 r1 e1 c1 => ?_
  cases e1
  cases x with
  | true => exact ⟨F1, D, m1, ρ, S1, r1, c1⟩
  | false => exact ⟨F1, D, m1, ρ, S1, r1, c1⟩

/-! ### argument lists, tuples -/
def fNil : FA := fun _ S => .ok [] S
def fCons (fa : FE) (fr : FA) : FA := fun ρ S => (fa ρ S).bind fun x S1 => (fr ρ S1).bind fun xs S2 => .ok (x :: xs) S2
variable {fr : FA} {e : Expr}
theorem q_anil : PA X [] (LA X Wc fNil) := by
  refine PA.imp pa_nil fun σ H Q h => ?_
  obtain ⟨F, D, m, ρ, S, r0, c⟩ := h
  exact c F m [] H Le.refl (List.prefix_refl m) r0 .nil
theorem q_acons (ha : PE X e (LE X Wc fa)) (hr : PA X es (LA X Wc fr)) (hs : starEach (e :: es) X.env = (false, eval e X.env) :: starEach es X.env := by rfl) : PA X (e :: es) (LA X Wc (fCons fa fr)) := by
  refine PA.imp (pa_cons ha hr hs) fun σ H Q h => ?_
  obtain ⟨F, D, m, ρ, S, r0, c⟩ := h
  refine step r0 c fun F1 m1 x v S1 H1 l1 p1 r1 e1 c1 => ?_
  refine step r1 c1 fun F2 m2 xs vs S2 H2 l2 p2 r2 e2 c2 => ?_
  exact c2 F2 m2 _ H2 Le.refl (List.prefix_refl m2) r2 (.cons (RepW.mono l2 p2 e1) e2)
/-- data alone -/
def dats : List W → Option (List PyData)
  | [] => some []
  | .d x :: r => (dats r).map (x :: ·)
  | .ref _ :: _ => none
theorem dats_rep {K : PySem.W.Frag} {Fr : Hp} {μ : List Addr} : ∀ {xs : List W} {vs : List V} {ds : List PyData}, dats xs = some ds → RepWs K Fr μ xs vs → DpAll K Fr vs ds
  | [], _, _, e, .nil => by cases e; exact .nil
  | .d x :: r, _, ds, e, .cons h t => by
    unfold dats at e
    cases q : dats r with
    | none => rw [q] at e; cases e
    | some es => rw [q] at e; cases e; exact .cons h (dats_rep q t)
  | .ref _ :: _, _, _, e, _ => by cases e
theorem rep_dats {K : PySem.W.Frag} {Fr : Hp} {μ : List Addr} : ∀ {ds : List PyData} {vs : List V}, DpAll K Fr vs ds → RepWs K Fr μ (ds.map .d) vs
  | [], _, h => by cases h; exact .nil
  | d :: ds, _, h => by
    cases h with
    | cons h1 h2 => exact .cons h1 (rep_dats h2)
theorem DpAll.len {K : PySem.W.Frag} {Fr : Hp} : ∀ {ds : List PyData} {vs : List V}, DpAll K Fr vs ds → vs.length = ds.length
  | [], _, h => by cases h; rfl
  | d :: ds, _, h => by
    cases h with
    | cons h1 h2 => simp [DpAll.len h2]
def mkTup (xs : List W) (S : List Ob) : Res W := match dats xs with
  | some ds => .ok (.d (.tuple ds)) S
  | none => .bad
def fTup (fr : FA) : FE := fun ρ S => (fr ρ S).bind mkTup
/-- a new tuple of data is laid -/
theorem new_tup {K : PySem.W.Frag} {mg : Str → Option Value} {Fr Hd : Hp} {μ : List Addr} {ρ : List Sl} {S : List Ob} {σ : St} {H : Hp} {Q : VK} {ds : List PyData} {vs : List V} (r : R K Fr Hd μ ρ S σ H) (e : DpAll K Fr vs ds)
    (c : cont K mg Wc (repE K) Fr Hd μ ρ σ Q (.ok (.d (.tuple ds)) S)) : NT Q H vs := fun p ob hp hd => by
  have f := r.new hp
  have le : Le Fr (upd Fr p (.frz ob (.tup vs))) := Le.upd f.fr
  have r2 := (r.upd (o := .frz ob (.tup vs)) f).freeze upd_same f
  exact c _ μ (.ref p) _ le (List.prefix_refl μ) r2 (Dp.tup (.inl ⟨ob, upd_same, hd⟩) (Le.dps le _ _ e))
/-- how many values an argument list has -/
def LenN (fr : FA) (n : Nat) : Prop := ∀ ρ S xs S', fr ρ S = .ok xs S' → xs.length = n
theorem ln_nil : LenN fNil 0 := fun ρ S xs S' e => by cases e; rfl
theorem ln_cons {n : Nat} (h : LenN fr n) : LenN (fCons fa fr) (n + 1) := fun ρ S xs S' e => by
  unfold fCons at e
  cases q : fa ρ S with
  | err c S1 => rw [q] at e; cases e
  | bad => rw [q] at e; cases e
  | ok x S1 =>
    rw [q] at e
    have e : (fr ρ S1).bind (fun ys S2 => Res.ok (x :: ys) S2) = .ok xs S' := e
    cases q2 : fr ρ S1 with
    | err c S2 => rw [q2] at e; cases e
    | bad => rw [q2] at e; cases e
    | ok ys S2 =>
      rw [q2] at e
      cases e
      simp [h _ _ _ _ q2]
theorem q_tup {x1} {n : Nat} (h : PA X es (LA X Wc fr)) (hl : LenN fr n) (hn : n ≤ sizeLine := by decide) : PE X (.Tuple es x1 pos) (LE X Wc (fTup fr)) := by
  refine PE.imp (pe_tupK h) fun σ H Q h => ?_
  obtain ⟨F, D, m, ρ, S, r0, c⟩ := h
  refine ⟨F, D, m, ρ, S, r0, ?_⟩
  unfold fTup at c
  cases e : fr ρ S with
  | err x S1 => rw [e] at c; exact c
  | bad => rw [e] at c; exact c
  | ok xs S1 =>
    rw [e] at c
    intro F1 m1 vs H1 l1 p1 r1 e1
    refine ⟨?_, ?_⟩
    · have := Paired.length e1
      have := hl ρ S xs S1 e
      omega
    · have c : cont X.K X.mg Wc (repE X.K) F D m ρ σ Q (mkTup xs S1) := c
      unfold mkTup at c
      cases q : dats xs with
      | none => rw [q] at c; exact c.elim
      | some ds =>
        rw [q] at c
        exact new_tup r1 (dats_rep q e1) (cont.mono l1 p1 (fun _ _ z => z) c)
end
end L2.Q
/-! Layer Q, part C: statements, defs, calls. -/
namespace L2.Q
open PySem PySem.Spec PyProof.Rows

section
variable {K : PySem.W.Frag} {mg : Str → Option Value} {Wc : WX} {Fr Hd : Hp} {μ : List Addr} {ρ : List Sl} {S : List Ob} {σ : St} {H : Hp}
/-! ### blocks -/
def fNx : FT := fun ρ S => .nx ρ S
def thenF (x : Fl) (g : FT) : Fl := match x with
  | .nx ρ S => g ρ S
  | .bk ρ S => .bk ρ S
  | .ct ρ S => .ct ρ S
  | .rt r S => .rt r S
  | .ex c ρ S => .ex c ρ S
  | .bad => .bad
def fSeq (f g : FT) : FT := fun ρ S => thenF (f ρ S) g
end
section
variable {X : Cx} {Wc : WX} {st : Stmt} {rest : List Stmt} {f g : FT} {fa : FE} {fo : FO} {e : Expr} {pos : Pos} {tb : FB}
theorem s_nil : PSs X [] (LS X Wc fNx) := PSs.imp pss_nil fun D σ H h => by
  obtain ⟨F, Hd, m, ρ, S, r, c⟩ := h
  exact c F m σ H Le.refl (List.prefix_refl m) r
/-- a statement's reading goes on as the next ones want -/
theorem seq_imp {D : Ends} {σ : St} {H : Hp} (h : LS X Wc (fSeq f g) D σ H) : LS X Wc f { D with nx := LS X Wc g D } σ H := by
  obtain ⟨F, Hd, m, ρ, S, r, c⟩ := h
  refine ⟨F, Hd, m, ρ, S, r, ?_⟩
  unfold fSeq at c
  cases q : f ρ S with
  | nx ρ1 S1 =>
    rw [q] at c
    exact fun F1 m1 σ1 H1 l p r1 => ⟨F1, Hd, m1, ρ1, S1, r1, contS.mono l p c⟩
  | bk ρ1 S1 => rw [q] at c; exact c
  | ct ρ1 S1 => rw [q] at c; exact c
  | rt x S1 => rw [q] at c; cases x <;> exact c
  | ex x ρ1 S1 => rw [q] at c; exact c
  | bad => rw [q] at c; exact c
theorem s_cons (h1 : PS X st (LS X Wc f)) (h2 : PSs X rest (LS X Wc g)) : PSs X (st :: rest) (LS X Wc (fSeq f g)) := PSs.imp (pss_cons h1 h2) fun _ _ _ h => seq_imp h
theorem s_one (h1 : PS X st (LS X Wc f)) : PSs X [st] (LS X Wc f) := pss_one h1
theorem s_pass : PS X (.Pass pos) (LS X Wc fNx) := PS.imp ps_pass fun D σ H h => by
  obtain ⟨F, Hd, m, ρ, S, r, c⟩ := h
  exact c F m σ H Le.refl (List.prefix_refl m) r
theorem s_doc {x j pos'} : PS X (.Expr (.Constant (.str x) j pos) pos') (LS X Wc fNx) := PS.imp ps_doc fun D σ H h => by
  obtain ⟨F, Hd, m, ρ, S, r, c⟩ := h
  exact c F m σ H Le.refl (List.prefix_refl m) r
def fBk : FT := fun ρ S => .bk ρ S
def fCt : FT := fun ρ S => .ct ρ S
theorem s_break : PS X (.Break pos) (LS X Wc fBk) := PS.imp ps_break fun D σ H h => by
  obtain ⟨F, Hd, m, ρ, S, r, c⟩ := h
  exact c F m σ H Le.refl (List.prefix_refl m) r
theorem s_cont : PS X (.Continue pos) (LS X Wc fCt) := PS.imp ps_continue fun D σ H h => by
  obtain ⟨F, Hd, m, ρ, S, r, c⟩ := h
  exact c F m σ H Le.refl (List.prefix_refl m) r
/-- code that is never come to -/
def fNever : FT := fun _ _ => .bad
theorem s_never : PS X st (LS X Wc fNever) := PS.imp ps_never fun D σ H h => by
  obtain ⟨F, Hd, m, ρ, S, r, c⟩ := h
  exact c
/-- name = value -/
def fSet (i : Nat) (fa : FE) : FT := fun ρ S => fl (fa ρ S) ρ fun x S1 => .nx (ρ.set i (.w x)) S1
theorem s_set {i : Nat} {x : Str} {pos' : Pos} (hN : X.N.Nodup) (hi : X.N[i]? = some x) (hx : Loc X.env.scope x) (he : PE X e (LE X Wc fa)) (hs : swapsWith e (some (.Name x pos')) pos.line X.env = pure false := by rfl) (hf : X.fn x = true ∨ X.env.scope.names.lookup x = some .local := by first | exact .inl rfl | exact .inr rfl | assumption) :
    PS X (.Assign [.Name x pos'] e pos) (LS X Wc (fSet i fa)) := PS.imp (ps_set hN hi hx he hs hf) fun D σ H h => by
  obtain ⟨F, Hd, m, ρ, S, r, c⟩ := h
  exact stepS r c fun F1 m1 x v S1 H1 l1 p1 r1 e1 c1 => c1 F1 m1 _ H1 Le.refl (List.prefix_refl m1) (r1.setW e1)
/-- name = a new object, held by this name alone -/
def fSetO (i : Nat) (fo : FO) : FT := fun ρ S => fl (fo ρ S) ρ fun o S1 => .nx (ρ.set i (.own o)) S1
theorem setO_imp {i : Nat} {D : Ends} {σ : St} {H : Hp} (h : LS X Wc (fSetO i fo) D σ H) : tAsg (LO X Wc fo) (gName i) D σ H := by
  obtain ⟨F, Hd, m, ρ, S, r, c⟩ := h
  refine stepS r c fun F1 m1 x v S1 H1 l1 p1 r1 e1 c1 => ?_
  obtain ⟨p, ho, rfl, h1, h2, h3⟩ := e1
  exact c1 F1 m1 _ H1 Le.refl (List.prefix_refl m1) (r1.setOwn h1 h3 h2)
theorem s_setO {i : Nat} {x : Str} {pos' : Pos} (hN : X.N.Nodup) (hi : X.N[i]? = some x) (hx : Loc X.env.scope x) (he : PE X e (LO X Wc fo)) (hs : swapsWith e (some (.Name x pos')) pos.line X.env = pure false := by rfl) (hf : X.fn x = true ∨ X.env.scope.names.lookup x = some .local := by first | exact .inl rfl | exact .inr rfl | assumption) :
    PS X (.Assign [.Name x pos'] e pos) (LS X Wc (fSetO i fo)) := PS.imp (ps_set hN hi hx he hs hf) fun _ _ _ h => setO_imp h
def fDrop (fa : FE) : FT := fun ρ S => fl (fa ρ S) ρ fun _ S1 => .nx ρ S1
theorem s_expr (he : PE X e (LE X Wc fa)) (hs : swapsWith e none pos.line X.env = pure false := by rfl) : PS X (.Expr e pos) (LS X Wc (fDrop fa)) := PS.imp (ps_expr he hs) fun D σ H h => by
  obtain ⟨F, Hd, m, ρ, S, r, c⟩ := h
  exact stepS r c fun F1 m1 x v S1 H1 l1 p1 r1 e1 c1 => c1 F1 m1 _ H1 Le.refl (List.prefix_refl m1) r1
def fRet (fa : FE) : FT := fun ρ S => fl (fa ρ S) ρ fun x S1 => .rt (.w x) S1
theorem s_ret (he : PE X e (LE X Wc fa)) : PS X (.Return (some e) pos) (LS X Wc (fRet fa)) := PS.imp (ps_ret he) fun D σ H h => by
  obtain ⟨F, Hd, m, ρ, S, r, c⟩ := h
  exact stepS r c fun F1 m1 x v S1 H1 l1 p1 r1 e1 c1 => c1 F1 m1 v H1 Le.refl (List.prefix_refl m1) r1.b e1
def fRetO (fo : FO) : FT := fun ρ S => fl (fo ρ S) ρ fun x S1 => .rt (.own x) S1
theorem s_retO (he : PE X e (LO X Wc fo)) : PS X (.Return (some e) pos) (LS X Wc (fRetO fo)) := PS.imp (ps_ret he) fun D σ H h => by
  obtain ⟨F, Hd, m, ρ, S, r, c⟩ := h
  refine stepS r c fun F1 m1 x v S1 H1 l1 p1 r1 e1 c1 => ?_
  obtain ⟨p, ho, rfl, h1, h2, h3⟩ := e1
  exact c1 F1 m1 p ho H1 Le.refl (List.prefix_refl m1) r1.b h1 h2 h3.fr h3.hd h3.mu
def fRetN : FT := fun _ S => .rt (.w (.d .none)) S
theorem s_retN : PS X (.Return none pos) (LS X Wc fRetN) := PS.imp ps_retN fun D σ H h => by
  obtain ⟨F, Hd, m, ρ, S, r, c⟩ := h
  exact c F m .non H Le.refl (List.prefix_refl m) r.b Dp.non
def fIfS (t : FB) (f g : FT) : FT := fun ρ S => fl (t ρ S) ρ fun c S1 => if c = true then f ρ S1 else g ρ S1
theorem s_if {c : Expr} {a b : List Stmt} (hc : PT X c (LB X Wc tb)) (ha : PSs X a (LS X Wc f)) (hb : PSs X b (LS X Wc g)) : PS X (.If c a b pos) (LS X Wc (fIfS tb f g)) := PS.imp (ps_if hc ha hb) fun D σ H h => by
  obtain ⟨F, Hd, m, ρ, S, r, c⟩ := h
  refine stepS r c fun F1 m1 x v S1 H1 l1 p1 r1 e1 c1 => ?_
  cases e1
  cases x with
  | true => exact ⟨F1, Hd, m1, ρ, S1, r1, c1⟩
  | false => exact ⟨F1, Hd, m1, ρ, S1, r1, c1⟩
/-- raise X('..') -/
def fRaise (c : Str) : FT := fun ρ S => .ex c ρ S
theorem s_raise {x : Str} {C : Addr} (hc : X.calm = true) (tk : Takes X Wc) (hm : X.mg x = some (.ref C)) (he : PMk X e (fun _ H Q => Q (.ref C) none H)) : PS X (.Raise (some e) none pos) (LS X Wc (fRaise x)) :=
  PS.imp (ps_raise hc tk he) fun D σ H h => by
  obtain ⟨F, Hd, m, ρ, S, r, c⟩ := h
  exact c F m σ C H Le.refl (List.prefix_refl m) r hm
/-- a slot gives up its object: it is a value from now on -/
def frz (o : Ob) : Option W := match o with
  | .lst xs => (dats xs).map fun ds => .d (.list ds)
  | _ => none
def fFrz (i : Nat) (f : FT) : FT := fun ρ S => match ρ[i]? with
  | some (.own o) => (match frz o with
    | some x => f (ρ.set i (.w x)) S
    | none => .bad)
  | _ => f ρ S
theorem frz_rep {K : PySem.W.Frag} {Fr : Hp} {μ : List Addr} {o : Ob} {ho : HO} {p : Addr} {x : W} (e : frz o = some x) (h : RepO K Fr μ o ho) (hp : Fr p = none) : RepW K (upd Fr p ho) μ x (.ref p) := by
  cases o with
  | dct kvs => cases e
  | fdc kvs => cases e
  | ins c fs => cases e
  | dcn fz kvs => cases e
  | lst xs =>
    obtain ⟨vs, rfl, r⟩ := h
    have e : (dats xs).map (fun ds => W.d (.list ds)) = some x := e
    cases q : dats xs with
    | none => rw [q] at e; cases e
    | some ds =>
      rw [q] at e
      cases e
      exact Dp.lst (.inl (.inl upd_same)) (Le.dps (Le.upd hp) _ _ (dats_rep q r))
theorem R.give {K : PySem.W.Frag} {Fr Hd : Hp} {μ : List Addr} {ρ : List Sl} {S : List Ob} {σ : St} {H : Hp} (r : R K Fr Hd μ ρ S σ H) {i : Nat} {o : Ob} {x : W} (e : ρ[i]? = some (.own o)) (q : frz o = some x) :
    ∃ Fr', Le Fr Fr' ∧ R K Fr' Hd μ (ρ.set i (.w x)) S σ H := by
  obtain ⟨a, ho, e1, h1, h2, h3, h4, h5⟩ := r.s.sl i _ e
  have ow : Owns ρ σ i a := ⟨⟨o, e⟩, e1⟩
  have f := r.free_un ow
  have r1 := (r.un i).freeze h1 f
  have r2 := r1.setW (i := i) (frz_rep q h2 h3)
  rw [set_at e1, List.set_set] at r2
  exact ⟨_, Le.upd h3, r2⟩
theorem s_frz (i : Nat) (h : PS X st (LS X Wc f)) : PS X st (LS X Wc (fFrz i f)) := PS.imp h fun D σ H h => by
  obtain ⟨F, Hd, m, ρ, S, r, c⟩ := h
  unfold fFrz at c
  cases e : ρ[i]? with
  | none => rw [e] at c; exact ⟨F, Hd, m, ρ, S, r, c⟩
  | some y =>
    rw [e] at c
    cases y with
    | un => exact ⟨F, Hd, m, ρ, S, r, c⟩
    | w x => exact ⟨F, Hd, m, ρ, S, r, c⟩
    | own o =>
      cases q : frz o with
      | none => simp only [q] at c; exact c.elim
      | some x =>
        simp only [q] at c
        obtain ⟨F', l, r'⟩ := r.give e q
        exact ⟨F', Hd, m, _, S, r', contS.mono l (List.prefix_refl m) c⟩
end

/-! ### defs -/
def start0 (n : Nat) (ws : List W) : List Sl := ws.map .w ++ List.replicate (n - ws.length) .un
def outF (x : Fl) : Res Rv := match x with
  | .rt r S => .ok r S
  | .nx _ S => .ok (.w (.d .none)) S
  | .ex c _ S => .err c S
  | _ => .bad
def runF (n : Nat) (f : FT) : List W → List Ob → Res Rv := fun ws S => outF (f (start0 n ws) S)
abbrev FM := List W → List Ob → Res Rv
def contR (K : PySem.W.Frag) (mg : Str → Option Value) (Fr Hd : Hp) (μ : List Addr) (Q : VK) (E : XK) : Res Rv → Prop
  | .ok (.w x) S' => ∀ Fr' μ' v H', Le Fr Fr' → μ <+: μ' → RB K Fr' Hd μ' S' H' → RepW K Fr' μ' x v → Q v H'
  | .ok (.own o) S' => ∀ Fr' μ' p ho H', Le Fr Fr' → μ <+: μ' → RB K Fr' Hd μ' S' H' → H' p = some ho → RepO K Fr' μ' o ho → Fr' p = none → Hd p = none → p ∉ μ' → Q (.ref p) H'
  | .err c S' => ∀ Fr' μ' C H', Le Fr Fr' → μ <+: μ' → RB K Fr' Hd μ' S' H' → mg c = some (.ref C) → E (.ref C) none H'
  | .bad => False
/-- a def's promise by its function -/
def spOf (K : PySem.W.Frag) (mg : Str → Option Value) (m : FM) (n : Nat) : Sp := fun vs H Q E => vs.length = n ∧
  ∃ Fr Hd μ ws S, RB K Fr Hd μ S H ∧ RepWs K Fr μ ws vs ∧ contR K mg Fr Hd μ Q E (m ws S)
theorem paired_get {α β : Type} {F : α → β → Prop} : ∀ {l₁ : List α} {l₂ : List β} {i : Nat} {a : α}, Paired F l₁ l₂ → l₁[i]? = some a → ∃ b, l₂[i]? = some b ∧ F a b
  | _, _, _, _, .nil, e => by simp at e
  | _, _, 0, _, .cons r _, e => by simp at e; subst e; exact ⟨_, rfl, r⟩
  | _, _, i + 1, x, .cons _ t, e => by
    obtain ⟨u, h1, h2⟩ := paired_get (i := i) (a := x) t (by simpa using e)
    exact ⟨u, by simpa using h1, h2⟩
theorem start_ok {K : PySem.W.Frag} {Fr Hd : Hp} {μ : List Addr} {ws : List W} {vs : List V} {S : List Ob} {H : Hp} {N : List Str} (b : RB K Fr Hd μ S H) (e : RepWs K Fr μ ws vs) : R K Fr Hd μ (start0 N.length ws) S (start N vs) H := by
  have hl := Paired.length e
  have notOwn : ∀ (i : Nat) (o : Ob), (start0 N.length ws)[i]? ≠ some (.own o) := fun i o q => by
    unfold start0 at q
    by_cases hi : i < ws.length
    · rw [List.getElem?_append_left (by simpa using hi), List.getElem?_map, List.getElem?_eq_getElem hi] at q
      cases q
    · rw [List.getElem?_append_right (by simpa using hi), List.getElem?_replicate] at q
      split at q <;> cases q
  refine ⟨b, ?_, fun i x q => ?_, fun i j a h => ?_⟩
  · unfold start0 start
    simp [hl]
  · unfold start0 at q
    by_cases hi : i < ws.length
    · rw [List.getElem?_append_left (by simpa using hi), List.getElem?_map, List.getElem?_eq_getElem hi] at q
      cases q
      obtain ⟨v, h1, h2⟩ := paired_get e (List.getElem?_eq_getElem hi)
      refine ⟨v, ?_, h2⟩
      unfold start
      rw [List.getElem?_append_left (by simp; omega), List.getElem?_map, h1]
      rfl
    · rw [List.getElem?_append_right (by simpa using hi), List.getElem?_replicate] at q
      split at q
      · cases q; trivial
      · cases q
  · obtain ⟨⟨o, q⟩, _⟩ := h
    exact absurd q (notOwn i o)
section
variable {P : Program} {w : World} {K : PySem.W.Frag} {mg : Str → Option Value} {base : Heap}
abbrev FnQ (P : Program) (w : World) (K : PySem.W.Frag) (mg : Str → Option Value) (base : Heap) (k : Nat) (f : Addr) (fd : FuncData) (ps : List Str) (m : FM) : Prop := FnOk P w K mg base (L2.CX P w) k f fd ps (spOf K mg m ps.length)
/-- THE RULE for a def -/
theorem q_fn {x qual : Str} {st : Stmt} {f : Addr} {fd : FuncData} {N ps : List Str} {k : Nat} {fb : FT} {m : FM} (F : Fun K x qual st f fd) (S : FnScope N ps (defScope st)) (hm : m = runF N.length fb)
    (hbody : ∀ (cdv : Value) (A : Around) (outer : List Env) (s : Shared) (H : Hp) (E : XK), Room k (A.deeper (envOfC qual (defScope st) s.heap.objs.size f cdv)) →
      PSs (cxOf (L2.CX P w) P w K mg base N qual (defScope st) f cdv A outer s H E) (defBody st) (LS (cxOf (L2.CX P w) P w K mg base N qual (defScope st) f cdv A outer s H E) (fun cls d _ H' => E cls d H') fb)) : FnQ P w K mg base (k + 1) f fd ps m := by
  refine F.okX S (fun vs H Q E h => h.1) fun cdv A outer s H vs Q E hr h => ⟨_, hbody cdv A outer s H E hr, ?_⟩
  obtain ⟨_, Fr, Hd, μ, ws, St, b, e, c⟩ := h
  refine ⟨Fr, Hd, μ, start0 N.length ws, St, start_ok b e, ?_⟩
  subst hm
  unfold runF at c
  cases q : fb (start0 N.length ws) St with
  | nx ρ1 S1 => rw [q] at c; exact fun F1 m1 σ1 H1 l p r1 => c F1 m1 .non H1 l p r1.b Dp.non
  | bk ρ1 S1 => rw [q] at c; exact c.elim
  | ct ρ1 S1 => rw [q] at c; exact c.elim
  | rt x S1 => rw [q] at c; cases x <;> exact c
  | ex x ρ1 S1 => rw [q] at c; exact fun F1 m1 σ1 C H1 l p r1 hc => c F1 m1 C H1 l p r1.b hc
  | bad => rw [q] at c; exact c
end

/-! ### calls -/
noncomputable def hide1 (Hd H : Hp) (ρ : List Sl) (σ : St) : Hp := fun a => open Classical in if ∃ i, Owns ρ σ i a then H a else Hd a
section
variable {K : PySem.W.Frag} {mg : Str → Option Value} {Fr Hd : Hp} {μ : List Addr} {ρ : List Sl} {S : List Ob} {σ : St} {H : Hp}
/-- what the slots own is hidden from a callee -/
theorem R.hideOwn (r : R K Fr Hd μ ρ S σ H) : RB K Fr (hide1 Hd H ρ σ) μ S H := by
  refine ⟨r.b.fr, fun a o e => ?_, r.b.len, fun n a o e1 e2 => ?_, r.b.nd⟩
  · unfold hide1 at e
    split at e
    · rename_i h
      obtain ⟨i, h⟩ := h
      obtain ⟨_, _, h2, _⟩ := r.owns h
      exact ⟨e, h2⟩
    · exact r.b.hd a o e
  · obtain ⟨ho, h1, h2, h3, h4⟩ := r.b.st n a o e1 e2
    refine ⟨ho, h1, h2, h3, ?_⟩
    unfold hide1
    rw [if_neg]
    · exact h4
    · rintro ⟨i, h⟩
      obtain ⟨_, _, _, _, h5, _⟩ := r.owns h
      exact h5 (List.mem_of_getElem? e1)
/-- behind the callee they are as they were -/
theorem R.unhideOwn (r : R K Fr Hd μ ρ S σ H) {Fr' : Hp} {μ' : List Addr} {S' : List Ob} {H' : Hp} (l : Le Fr Fr') (p : μ <+: μ') (b : RB K Fr' (hide1 Hd H ρ σ) μ' S' H') : R K Fr' Hd μ' ρ S' σ H' := by
  have le : Le Hd (hide1 Hd H ρ σ) := fun a o e => by
    unfold hide1
    rw [if_neg]
    · exact e
    · rintro ⟨i, h⟩
      obtain ⟨_, _, _, h4, _⟩ := r.owns h
      rw [e] at h4; cases h4
  refine ⟨b.unhide le, r.s.len, fun i x e => ?_, r.s.inj⟩
  have q := r.s.sl i x e
  cases x with
  | un => trivial
  | w x => obtain ⟨u, e1, e2⟩ := q; exact ⟨u, e1, e2.mono l p⟩
  | own x =>
    obtain ⟨a, ho, e1, h1, h2, h3, h4, h5⟩ := q
    have ow : Owns ρ σ i a := ⟨⟨x, e⟩, e1⟩
    have hh : hide1 Hd H ρ σ a = some ho := by
      unfold hide1
      rw [if_pos ⟨i, ow⟩, h1]
    obtain ⟨k1, k2⟩ := b.hd a ho hh
    refine ⟨a, ho, e1, k1, h2.mono l p, k2, h4, fun hm => ?_⟩
    obtain ⟨n, hn, en⟩ := List.getElem_of_mem hm
    have hs : n < S'.length := by rw [← b.len]; exact hn
    obtain ⟨_, _, _, _, h9⟩ := b.st n a S'[n] (by rw [List.getElem?_eq_getElem hn, en]) (List.getElem?_eq_getElem hs)
    rw [hh] at h9; cases h9
theorem hide1_none (h : hide1 Hd H ρ σ = hide1 Hd H ρ σ) {a : Addr} {ho : HO} (r : R K Fr Hd μ ρ S σ H) (e : hide1 Hd H ρ σ a = none) : Hd a = none ∧ ∀ i, ¬ Owns ρ σ i a := by
  unfold hide1 at e
  split at e
  · rename_i h
    obtain ⟨i, h⟩ := h
    obtain ⟨ho, h1, _⟩ := r.owns h
    rw [e] at h1; cases h1
  · rename_i h
    exact ⟨e, fun i q => h ⟨i, q⟩⟩
end
/-- what is handed back, as a value -/
def rvW (x : Rv) (S : List Ob) : Res W := match x with
  | .w x => .ok x S
  | .own o => (match frz o with
    | some x => .ok x S
    | none => .bad)
def rvO (x : Rv) (S : List Ob) : Res Ob := match x with
  | .own o => .ok o S
  | .w _ => .bad
def fCall (m : FM) (fr : FA) : FE := fun ρ S => (fr ρ S).bind fun ws S1 => (m ws S1).bind rvW
def fCallO (m : FM) (fr : FA) : FO := fun ρ S => (fr ρ S).bind fun ws S1 => (m ws S1).bind rvO
section
variable {X : Cx} {Wc : WX} {k : Nat} {f : Addr} {fd : FuncData} {ps : List Str} {m : FM} {x : Str} {p pos : Pos} {e : Expr} {es : List Expr} {fr : FA}
theorem sp_call {Fr Hd : Hp} {μ : List Addr} {ρ : List Sl} {S : List Ob} {σ : St} {H : Hp} {Q : VK} {ws : List W} {vs : List V} {n : Nat} (hn : vs.length = n) (r : R X.K Fr Hd μ ρ S σ H) (e : RepWs X.K Fr μ ws vs)
    (c : cont X.K X.mg Wc (repE X.K) Fr Hd μ ρ σ Q ((m ws S).bind rvW)) : spOf X.K X.mg m n vs H Q (WE Wc σ) := by
  refine ⟨hn, Fr, hide1 Hd H ρ σ, μ, ws, S, r.hideOwn, e, ?_⟩
  cases q : m ws S with
  | bad => rw [q] at c; exact c
  | err z S1 => rw [q] at c; exact fun F1 m1 C H1 l p b hc => c F1 m1 C H1 l p (r.unhideOwn l p b) hc
  | ok y S1 =>
    rw [q] at c
    cases y with
    | w y => exact fun F1 m1 v H1 l p b ev => c F1 m1 v H1 l p (r.unhideOwn l p b) ev
    | own o =>
      intro F1 m1 a ho H1 l p b h1 h2 h3 h4 h5
      have c : cont X.K X.mg Wc (repE X.K) Fr Hd μ ρ σ Q (rvW (.own o) S1) := c
      unfold rvW at c
      cases q2 : frz o with
      | none => simp only [q2] at c; exact c.elim
      | some y =>
        simp only [q2] at c
        have r1 := r.unhideOwn l p b
        obtain ⟨k1, k2⟩ := hide1_none (ho := ho) rfl r h4
        have f : Free F1 Hd m1 ρ σ a := ⟨h3, k1, h5, k2⟩
        exact c _ m1 (.ref a) H1 (l.trans (Le.upd h3)) p (r1.freeze h1 f) (frz_rep q2 h2 h3)
theorem sp_callO {Fr Hd : Hp} {μ : List Addr} {ρ : List Sl} {S : List Ob} {σ : St} {H : Hp} {Q : VK} {ws : List W} {vs : List V} {n : Nat} (hn : vs.length = n) (r : R X.K Fr Hd μ ρ S σ H) (e : RepWs X.K Fr μ ws vs)
    (c : cont X.K X.mg Wc (repO X.K) Fr Hd μ ρ σ Q ((m ws S).bind rvO)) : spOf X.K X.mg m n vs H Q (WE Wc σ) := by
  refine ⟨hn, Fr, hide1 Hd H ρ σ, μ, ws, S, r.hideOwn, e, ?_⟩
  cases q : m ws S with
  | bad => rw [q] at c; exact c
  | err z S1 => rw [q] at c; exact fun F1 m1 C H1 l p b hc => c F1 m1 C H1 l p (r.unhideOwn l p b) hc
  | ok y S1 =>
    rw [q] at c
    cases y with
    | w y => exact c.elim
    | own o =>
      intro F1 m1 a ho H1 l p b h1 h2 h3 h4 h5
      have r1 := r.unhideOwn l p b
      obtain ⟨k1, k2⟩ := hide1_none (ho := ho) rfl r h4
      exact c F1 m1 (.ref a) H1 l p r1 ⟨a, ho, rfl, h1, h2, h3, k1, h5, k2⟩
/-- f(e, ..) -/
theorem q_call (F : FnQ X.prog X.w X.K X.mg X.base k f fd ps m) (hr : Room k X.A) (hg : Gl X x) (hm : X.mg x = some (.ref f)) (hk : PySem.W.keepIn X.K (.ref f) = true) (hb : Binds X.K fd ps []) (tk : Takes X Wc)
    (hl : LenN fr ps.length) (ha : PA X (e :: es) (LA X Wc fr)) (hdb : (x == ("__debug__" : Str)) = false := by decide) (he : starEach (e :: es) X.env = (false, eval e X.env) :: starEach es X.env := by rfl) (hpl : (backTo pos (starEach es X.env)).any (·.1) = false := by rfl) :
    PE X (.Call (.Name x p) (e :: es) [] pos) (LE X Wc (fCall m fr)) := by
  refine PE.imp (pe_callS F hr hg hm hk hb (fun σ => passAt tk σ) ha hdb he hpl) fun σ H Q h => ?_
  obtain ⟨F0, Hd, μ, ρ, S, r, c⟩ := h
  cases q : fr ρ S with
  | bad => unfold fCall at c; rw [q] at c; exact c.elim
  | err z S1 => unfold fCall at c; rw [q] at c; exact ⟨F0, Hd, μ, ρ, S, r, by rw [q]; exact c⟩
  | ok ws S1 =>
    refine ⟨F0, Hd, μ, ρ, S, r, ?_⟩
    unfold fCall at c
    rw [q] at c ⊢
    intro F1 m1 vs H1 l1 p1 r1 e1
    refine sp_call ?_ r1 e1 (cont.mono l1 p1 (fun _ _ z => z) c)
    rw [← Paired.length e1]
    exact hl _ _ _ _ q
theorem q_callO (F : FnQ X.prog X.w X.K X.mg X.base k f fd ps m) (hr : Room k X.A) (hg : Gl X x) (hm : X.mg x = some (.ref f)) (hk : PySem.W.keepIn X.K (.ref f) = true) (hb : Binds X.K fd ps []) (tk : Takes X Wc)
    (hl : LenN fr ps.length) (ha : PA X (e :: es) (LA X Wc fr)) (hdb : (x == ("__debug__" : Str)) = false := by decide) (he : starEach (e :: es) X.env = (false, eval e X.env) :: starEach es X.env := by rfl) (hpl : (backTo pos (starEach es X.env)).any (·.1) = false := by rfl) :
    PE X (.Call (.Name x p) (e :: es) [] pos) (LO X Wc (fCallO m fr)) := by
  refine PE.imp (pe_callS F hr hg hm hk hb (fun σ => passAt tk σ) ha hdb he hpl) fun σ H Q h => ?_
  obtain ⟨F0, Hd, μ, ρ, S, r, c⟩ := h
  cases q : fr ρ S with
  | bad => unfold fCallO at c; rw [q] at c; exact c.elim
  | err z S1 => unfold fCallO at c; rw [q] at c; exact ⟨F0, Hd, μ, ρ, S, r, by rw [q]; exact c⟩
  | ok ws S1 =>
    refine ⟨F0, Hd, μ, ρ, S, r, ?_⟩
    unfold fCallO at c
    rw [q] at c ⊢
    intro F1 m1 vs H1 l1 p1 r1 e1
    refine sp_callO ?_ r1 e1 (cont.mono l1 p1 (fun _ _ z => z) c)
    rw [← Paired.length e1]
    exact hl _ _ _ _ q
end
end L2.Q
/-! Layer Q, part D: targets, sources, for, while, list comprehensions. -/
namespace L2.Q
open PySem PySem.Spec PyProof.Rows

/-! ### targets -/
abbrev FG := W → List Sl → Option (List Sl)
abbrev FGs := List PyData → List Sl → Option (List Sl)
def gN (i : Nat) : FG := fun x ρ => some (ρ.set i (.w x))
def gsN : FGs := fun xs ρ => match xs with
  | [] => some ρ
  | _ :: _ => none
def gsC (g : FG) (gs : FGs) : FGs := fun xs ρ => match xs with
  | [] => none
  | x :: r => (g (.d x) ρ).bind (gs r)
def gT (n : Nat) (gs : FGs) : FG := fun x ρ => match x with
  | .d (.tuple xs) => if xs.length = n then gs xs ρ else none
  | _ => none
/-- own: the slots that the target stores -/
def liftG (K : PySem.W.Frag) (own : List Nat) (g : FG) : TG := fun v σ H Q => ∃ Fr Hd μ ρ S x, R K Fr Hd μ ρ S σ H ∧ RepW K Fr μ x v ∧ ∃ ρ', g x ρ = some ρ' ∧ ∀ σ', wipe σ' own = wipe σ own → R K Fr Hd μ ρ' S σ' H → Q σ' H
def liftGs (K : PySem.W.Frag) (own : List Nat) (g : FGs) : TGs := fun vs σ H Q => ∃ Fr Hd μ ρ S xs, R K Fr Hd μ ρ S σ H ∧ DpAll K Fr vs xs ∧ ∃ ρ', g xs ρ = some ρ' ∧ ∀ σ', wipe σ' own = wipe σ own → R K Fr Hd μ ρ' S σ' H → Q σ' H
theorem wipe_get {σ : St} {own : List Nat} {j : Nat} : (wipe σ own)[j]? = if j ∈ own then (if j < σ.length then some none else none) else σ[j]? := by
  induction own with
  | nil => simp [wipe]
  | cons v vs ih =>
    unfold wipe
    by_cases q : v = j
    · subst q
      simp only [List.mem_cons, true_or, if_true]
      by_cases hl : v < σ.length
      · rw [List.getElem?_set_self (by rw [wipe_length]; exact hl), if_pos hl]
      · rw [List.getElem?_eq_none (by simp [wipe_length]; omega), if_neg hl]
    · rw [List.getElem?_set_ne q, ih]
      have e : (j ∈ v :: vs) = (j ∈ vs) := by simp [Ne.symm q]
      simp only [e]
theorem wipe_set {σ : St} {own : List Nat} {i : Nat} {v : Option V} (h : i ∈ own) : wipe (σ.set i v) own = wipe σ own := by
  apply List.ext_getElem?
  intro j
  rw [wipe_get, wipe_get]
  by_cases q : j ∈ own
  · simp [q]
  · have n : i ≠ j := fun e => q (e ▸ h)
    simp [q, List.getElem?_set_ne n]
theorem PG.imp {X : Cx} {e : Expr} {t t' : TG} (h : PG X e t) (i : ∀ v σ H Q, t' v σ H Q → t v σ H Q) : PG X e t' := ⟨fun pins s σ H v u Q I r q => h.run pins s σ H v u Q I r (i v σ H Q q)⟩
theorem PGs.imp {X : Cx} {e : List Expr} {t t' : TGs} (h : PGs X e t) (i : ∀ v σ H Q, t' v σ H Q → t v σ H Q) : PGs X e t' := ⟨fun pins s σ H v u Q I r q => h.run pins s σ H v u Q I r (i v σ H Q q)⟩
theorem PI.imp {X : Cx} {tg e : Expr} {t t' : TI} (h : PI X tg e t) (i : ∀ σ H Q, t' σ H Q → t σ H Q) : PI X tg e t' := ⟨fun pins s σ H R I q => h.run pins s σ H R I (i σ H R q)⟩
def unset (ρ : List Sl) : List Nat → List Sl
  | [] => ρ
  | v :: vs => (unset ρ vs).set v .un
theorem unset_len (ρ : List Sl) : ∀ own : List Nat, (unset ρ own).length = ρ.length
  | [] => rfl
  | v :: vs => by unfold unset; rw [List.length_set, unset_len ρ vs]
theorem unset_get (ρ : List Sl) (own : List Nat) (j : Nat) : (unset ρ own)[j]? = if j ∈ own then (if j < ρ.length then some .un else none) else ρ[j]? := by
  induction own with
  | nil => simp [unset]
  | cons v vs ih =>
    unfold unset
    by_cases q : v = j
    · subst q
      simp only [List.mem_cons, true_or, if_true]
      by_cases hl : v < ρ.length
      · rw [List.getElem?_set_self (by rw [unset_len]; exact hl), if_pos hl]
      · rw [List.getElem?_eq_none (by simp [unset_len]; omega), if_neg hl]
    · rw [List.getElem?_set_ne q, ih]
      have e : (j ∈ v :: vs) = (j ∈ vs) := by simp [Ne.symm q]
      simp only [e]
/-- a target stores at own alone -/
def GO (own : List Nat) (g : FG) : Prop := ∀ x ρ ρ', g x ρ = some ρ' → unset ρ' own = unset ρ own
def GOs (own : List Nat) (g : FGs) : Prop := ∀ x ρ ρ', g x ρ = some ρ' → unset ρ' own = unset ρ own
theorem go_n {own : List Nat} {i : Nat} (h : i ∈ own) : GO own (gN i) := fun x ρ ρ' e => by
  cases e
  apply List.ext_getElem?
  intro j
  rw [unset_get, unset_get]
  by_cases q : j ∈ own
  · simp [q]
  · have n : i ≠ j := fun e => q (e ▸ h)
    simp [q, List.getElem?_set_ne n]
theorem go_nil {own : List Nat} : GOs own gsN := fun x ρ ρ' e => by
  cases x with
  | nil => cases e; rfl
  | cons a b => cases e
theorem go_c {own : List Nat} {g : FG} {gs : FGs} (h : GO own g) (k : GOs own gs) : GOs own (gsC g gs) := fun x ρ ρ' e => by
  cases x with
  | nil => cases e
  | cons a b =>
    have e : (g (.d a) ρ).bind (gs b) = some ρ' := e
    cases q : g (.d a) ρ with
    | none => rw [q] at e; cases e
    | some ρ1 => rw [q] at e; exact (k _ _ _ e).trans (h _ _ _ q)
theorem go_t {own : List Nat} {n : Nat} {gs : FGs} (k : GOs own gs) : GO own (gT n gs) := fun x ρ ρ' e => by
  unfold gT at e
  split at e
  · split at e
    · exact k _ _ _ e
    · cases e
  · cases e
section
variable {X : Cx} {e : Expr} {es : List Expr} {g : FG} {gs : FGs} {pos : Pos} {own : List Nat}
theorem g_name {i : Nat} {x : Str} (ho : i ∈ own) (hN : X.N.Nodup) (hi : X.N[i]? = some x) (hx : Loc X.env.scope x) (hf : X.fn x = true ∨ X.env.scope.names.lookup x = some .local := by first | exact .inl rfl | exact .inr rfl | assumption) : PG X (.Name x pos) (liftG X.K own (gN i)) :=
  PG.imp (pg_name hN hi hx hf) fun v σ H Q h => by
  obtain ⟨F, Hd, m, ρ, S, x, r, e, ρ', e1, q⟩ := h
  cases e1
  exact q _ (wipe_set ho) (r.setW e)
theorem gs_nil : PGs X [] (liftGs X.K own gsN) := PGs.imp pgs_nil fun v σ H Q h => by
  obtain ⟨F, Hd, m, ρ, S, xs, r, e, ρ', e1, q⟩ := h
  cases xs with
  | nil => cases e1; cases e; exact ⟨rfl, q _ rfl r⟩
  | cons x xs => cases e1
theorem gs_cons (h1 : PG X e (liftG X.K own g)) (h2 : PGs X es (liftGs X.K own gs)) (hs : (assignEach (e :: es) X.env).map (·.2) = assign e X.env :: (assignEach es X.env).map (·.2) := by rfl) : PGs X (e :: es) (liftGs X.K own (gsC g gs)) :=
  PGs.imp (pgs_cons h1 h2 hs) fun v σ H Q h => by
  obtain ⟨F, Hd, m, ρ, S, xs, r, e, ρ', e1, q⟩ := h
  cases xs with
  | nil => cases e1
  | cons x xs =>
    cases e with
    | @cons v vs _ _ a b =>
      have e1 : (g (.d x) ρ).bind (gs xs) = some ρ' := e1
      cases q1 : g (.d x) ρ with
      | none => rw [q1] at e1; cases e1
      | some ρ1 =>
        rw [q1] at e1
        exact ⟨v, vs, rfl, F, Hd, m, ρ, S, .d x, r, a, ρ1, q1, fun σ1 w1 r1 => ⟨F, Hd, m, ρ1, S, xs, r1, b, ρ', e1, fun σ2 w2 => q σ2 (w2.trans w1)⟩⟩
theorem g_tup {k n : Nat} (hc : X.calm = true) (h : PGs X es (liftGs X.K own gs)) (hn : (assignEach es X.env).length = n := by rfl) (hst : (assignEach es X.env).findIdx? (·.1) = none := by rfl) : PG X (.Tuple es k pos) (liftG X.K own (gT n gs)) :=
  PG.imp (pg_tup hc h hn hst) fun v σ H Q h => by
  obtain ⟨F, Hd, m, ρ, S, x, r, e, ρ', e1, q⟩ := h
  cases x with
  | ref n => cases e1
  | d x =>
    cases x with
    | tuple xs =>
      unfold gT at e1
      cases e with
      | @tup a vs _ hs ha =>
        dsimp only at e1
        split at e1
        · rename_i hl
          exact ⟨a, vs, rfl, Le.sqT r.b.fr hs, (DpAll.len ha).trans hl, F, Hd, m, ρ, S, xs, r, ha, ρ', e1, q⟩
        · cases e1
    | none => cases e1
    | bool b => cases e1
    | int i => cases e1
    | str z => cases e1
    | list z => cases e1
    | dict z => cases e1
end

/-! ### sources of a loop -/
/-- what a walk gives at turn i: the i-th of xs, or a new tuple that is it -/
def Yq (K : PySem.W.Frag) (Fr : Hp) (μ : List Addr) (xs : List W) : Nat → Hp → V → Hp → Prop := fun i H v H' =>
  ∃ x, xs[i]? = some x ∧ ((H' = H ∧ RepW K Fr μ x v) ∨ ∃ T ob vs ds, v = .ref T ∧ H T = none ∧ Obj.dict ob = none ∧ H' = upd H T (.frz ob (.tup vs)) ∧ x = .d (.tuple ds) ∧ DpAll K Fr vs ds)
def contI (K : PySem.W.Frag) (mg : Str → Option Value) (Wc : WX) (Fr Hd : Hp) (μ : List Addr) (ρ : List Sl) (σ : St) (Q : It → Hp → Prop) : Res (List W) → Prop
  | .ok xs S' => ∀ Fr' Hd' μ' H' J, Le Fr Fr' → Le Hd Hd' → μ <+: μ' → R K Fr' Hd' μ' ρ S' σ H' → Walk J xs.length (fun H => Le Fr' H ∧ Le Hd' H) (Yq K Fr' μ' xs) → xs.length ≤ sizeLine → Q J H'
  | .err c S' => ∀ Fr' μ' C H', Le Fr Fr' → μ <+: μ' → R K Fr' Hd μ' ρ S' σ H' → mg c = some (.ref C) → Wc (.ref C) none σ H'
  | .bad => False
def liftI (K : PySem.W.Frag) (mg : Str → Option Value) (Wc : WX) (f : FA) : TI := fun σ H Q => ∃ Fr Hd μ ρ S, R K Fr Hd μ ρ S σ H ∧ contI K mg Wc Fr Hd μ ρ σ Q (f ρ S)
abbrev LI (X : Cx) (Wc : WX) (f : FA) : TI := liftI X.K X.mg Wc f
section
variable {K : PySem.W.Frag} {mg : Str → Option Value} {Wc : WX} {α β : Type} {rep : Rep α β} {Fr Fr' Hd : Hp} {μ μ' : List Addr} {ρ : List Sl} {S : List Ob} {σ : St} {H : Hp} {Q : It → Hp → Prop} {Q1 : β → Hp → Prop}
theorem contI.mono {r : Res (List W)} (h1 : Le Fr Fr') (h2 : μ <+: μ') (c : contI K mg Wc Fr Hd μ ρ σ Q r) : contI K mg Wc Fr' Hd μ' ρ σ Q r := by
  cases r with
  | ok a S => exact fun F D m H' J l d p r e => c F D m H' J (h1.trans l) d (List.IsPrefix.trans h2 p) r e
  | err x S => exact fun F m C H' l p r e => c F m C H' (h1.trans l) (List.IsPrefix.trans h2 p) r e
  | bad => exact c
theorem stepI {f : List Sl → List Ob → Res α} {k : α → List Ob → Res (List W)} (r : R K Fr Hd μ ρ S σ H) (c : contI K mg Wc Fr Hd μ ρ σ Q ((f ρ S).bind k))
    (hk : ∀ Fr' μ' a b S1 H1, Le Fr Fr' → μ <+: μ' → R K Fr' Hd μ' ρ S1 σ H1 → rep Fr' Hd μ' ρ σ H1 a b → contI K mg Wc Fr' Hd μ' ρ σ Q (k a S1) → Q1 b H1) : lift K mg Wc rep f σ H Q1 := by
  refine ⟨Fr, Hd, μ, ρ, S, r, ?_⟩
  cases e : f ρ S with
  | ok a S1 =>
    rw [e] at c
    exact fun F m b H' l p r' q => hk F m a b S1 H' l p r' q (contI.mono l p c)
  | err x S1 => rw [e] at c; exact c
  | bad => rw [e] at c; exact c
end
section
variable {X : Cx} {Wc : WX} {tg l e e2 : Expr} {pos p : Pos} {fa fb : FE} {fo fo2 : FO} {fr : FA}
/-- a list or a tuple that is walked -/
def iSeq (K : PySem.W.Frag) (tl : TE) : TI := fun σ H R => tl σ H fun x H1 => ∃ a, x = .ref a ∧ ((∃ xs, SqL K H1 a xs ∧ (xs.length ≤ sizeLine → R (Itl K a) H1)) ∨ (∃ xs, L2.SqT K H1 a xs ∧ (xs.length ≤ sizeLine → R (Itt K a) H1)))
theorem pi_seq {tl : TE} (hl : PE X l tl) : PI X tg l (iSeq X.K tl) := by
  refine ⟨fun pins s σ H R I h => ?_⟩
  refine thn (hl.run pins s σ H _ I h) fun v s1 ⟨x, H1, I1, r1, q1⟩ => ?_
  obtain ⟨a, e, q1⟩ := q1
  subst e
  cases r1
  rcases q1 with ⟨xs, hq, q⟩ | ⟨xs, hq, q⟩
  · obtain ⟨its, rv, p, hz⟩ := I1.list hq
    refine wpAny_pyIter_list p.isList ?_
    refine ⟨s1.heap.objs.size, [s1.heap.objs.size], _, _, H1, rfl, I1.kept (t' := s1.toks) fun b o e => Heap.get?_push_of_some _ e, turn_list a _, ⟨_, Heap.get?_push_size _ rfl, rfl, rfl⟩, fun b hb => ?_, q hz⟩
    have e : b = s1.heap.objs.size := by simpa using hb
    subst e
    exact I1.fpOk (Nat.le_refl _) (I1.hok.fresh (Nat.le_refl _))
  · obtain ⟨its, rv, p, hz⟩ := I1.tuple hq
    refine wpAny_pyIter_tuple (show s1.heap.IsTuple a its.toArray from p) ?_
    refine ⟨s1.heap.objs.size, [s1.heap.objs.size], _, _, H1, rfl, I1.kept (t' := s1.toks) fun b o e => Heap.get?_push_of_some _ e, turn_tuple a _, ⟨_, Heap.get?_push_size _ rfl, rfl, rfl⟩, fun b hb => ?_, q hz⟩
    have e : b = s1.heap.objs.size := by simpa using hb
    subst e
    exact I1.fpOk (Nat.le_refl _) (I1.hok.fresh (Nat.le_refl _))
def seqOf (x : W) (S : List Ob) : Res (List W) := match x with
  | .d (.tuple xs) => .ok (xs.map .d) S
  | .d (.list xs) => .ok (xs.map .d) S
  | _ => .bad
def fIt (fa : FE) : FA := fun ρ S => (fa ρ S).bind seqOf
theorem yq_at {K : PySem.W.Frag} {Fr : Hp} {μ : List Addr} {xs : List W} {vs : List V} (r : RepWs K Fr μ xs vs) {i : Nat} {H : Hp} {v : V} {H' : Hp} (hi : i < xs.length) (y : YAt vs i H v H') : Yq K Fr μ xs i H v H' := by
  obtain ⟨v', e, q⟩ := paired_get r (List.getElem?_eq_getElem hi)
  obtain ⟨e1, e2⟩ := y
  rw [e] at e2
  cases e2
  exact ⟨_, List.getElem?_eq_getElem hi, .inl ⟨e1, q⟩⟩
/-- over a value -/
theorem i_val (h : PE X l (LE X Wc fa)) : PI X tg l (LI X Wc (fIt fa)) := PI.imp (pi_seq h) fun σ H Q h => by
  obtain ⟨F, Hd, m, ρ, S, r, c⟩ := h
  refine stepI r c fun F1 m1 x v S1 H1 l1 p1 r1 e1 c1 => ?_
  cases x with
  | ref n => exact c1.elim
  | d x =>
    cases x with
    | tuple xs =>
      cases e1 with
      | @tup a vs _ hs ha =>
        have hw := walk_tup (K := X.K) (a := a) (xs := vs)
        rw [show vs.length = (xs.map W.d).length by simp [DpAll.len ha]] at hw
        refine ⟨a, rfl, .inr ⟨vs, Le.sqT r1.b.fr hs, fun hz => c1 F1 Hd m1 H1 _ Le.refl Le.refl (List.prefix_refl m1) r1 (hw.mono (fun H h => Le.sqT h.1 hs) fun i H v H' hi _ y => yq_at (rep_dats ha) hi y) (by simpa [DpAll.len ha] using hz)⟩⟩
    | list xs =>
      cases e1 with
      | @lst a vs _ hs ha =>
        have hw := walk_list (K := X.K) (a := a) (xs := vs)
        rw [show vs.length = (xs.map W.d).length by simp [DpAll.len ha]] at hw
        refine ⟨a, rfl, .inl ⟨vs, Le.sqL r1.b.fr hs, fun hz => c1 F1 Hd m1 H1 _ Le.refl Le.refl (List.prefix_refl m1) r1 (hw.mono (fun H h => Le.sqL h.1 hs) fun i H v H' hi _ y => yq_at (rep_dats ha) hi y) (by simpa [DpAll.len ha] using hz)⟩⟩
    | none => exact c1.elim
    | bool b => exact c1.elim
    | int i => exact c1.elim
    | str z => exact c1.elim
    | dict z => exact c1.elim
/-- over a new list -/
def lstOf (o : Ob) (S : List Ob) : Res (List W) := match o with
  | .lst xs => .ok xs S
  | _ => .bad
def fItO (fo : FO) : FA := fun ρ S => (fo ρ S).bind lstOf
theorem i_new (h : PE X l (LO X Wc fo)) : PI X tg l (LI X Wc (fItO fo)) := PI.imp (pi_seq h) fun σ H Q h => by
  obtain ⟨F, Hd, m, ρ, S, r, c⟩ := h
  refine stepI r c fun F1 m1 x v S1 H1 l1 p1 r1 e1 c1 => ?_
  obtain ⟨p, ho, rfl, h1, h2, h3⟩ := e1
  cases x with
  | dct kvs => exact c1.elim
  | fdc kvs => exact c1.elim
  | ins c fs => exact c1.elim
  | dcn fz kvs => exact c1.elim
  | lst xs =>
    obtain ⟨vs, rfl, q⟩ := h2
    have hw := walk_list (K := X.K) (a := p) (xs := vs)
    rw [← Paired.length q] at hw
    refine ⟨p, rfl, .inl ⟨vs, .inl (.inl h1), fun hz => c1 F1 (upd Hd p (.lst vs)) m1 H1 _ Le.refl (Le.upd h3.hd) (List.prefix_refl m1) (r1.hide h1 h3) (hw.mono (fun H h => .inl (.inl (h.2 p _ upd_same))) fun i H v H' hi _ y => yq_at q hi y) (by rw [Paired.length q]; exact hz)⟩⟩
/-- range -/
def rngL (lo : Int) (n : Nat) : List W := (List.range n).map fun (i : Nat) => W.d (.int (lo + (i : Int)))
theorem rngL_len (lo : Int) (n : Nat) : (rngL lo n).length = n := by simp [rngL]
theorem rngL_get {lo : Int} {n i : Nat} (h : i < n) : (rngL lo n)[i]? = some (.d (.int (lo + (i : Int)))) := by simp [rngL, h]
theorem walk_rng {K : PySem.W.Frag} {Fr : Hp} {μ : List Addr} {lo : Int} {n : Nat} {G : Hp → Prop} : Walk (Itr lo n) (rngL lo n).length G (Yq K Fr μ (rngL lo n)) := by
  rw [rngL_len]
  refine Walk.mono walk_range (fun _ _ => trivial) fun i H v H' hi _ y => ?_
  obtain ⟨e1, e2⟩ := y
  subst e2
  exact ⟨_, rngL_get hi, .inl ⟨e1, Dp.int _⟩⟩
def rng1 (x : W) (S : List Ob) : Res (List W) := match x with
  | .d (.int j) => if -(2 ^ 62) ≤ j ∧ j ≤ 16777216 then .ok (rngL 0 j.toNat) S else .bad
  | _ => .bad
def fRng1 (fa : FE) : FA := fun ρ S => (fa ρ S).bind rng1
def tOne (t : TE) : TA := tCons t tNil
theorem i_rng1 (hg : Gl X "range") (hm : X.mg "range" = none) (h : PE X e (LE X Wc fa)) (hs1 : starEach [e] X.env = (false, eval e X.env) :: starEach [] X.env := by rfl) (hs : starEach [e] X.env = [(false, eval e X.env)] := by rfl) : PI X tg (.Call (.Name "range" p) [e] [] pos) (LI X Wc (fRng1 fa)) :=
  PI.imp (pi_range1 hg hm (pa_cons h pa_nil hs1) hs) fun σ H Q h => by
  obtain ⟨F, Hd, m, ρ, S, r, c⟩ := h
  refine stepI r c fun F1 m1 x v S1 H1 l1 p1 r1 e1 c1 => ?_
  show ∃ j : Int, [v] = [V.int j] ∧ _
  cases x with
  | ref n => exact c1.elim
  | d x =>
    cases x with
    | int i =>
      cases e1
      unfold rng1 at c1
      dsimp only at c1
      split at c1
      · rename_i hi
        exact ⟨i, rfl, hi.1, by omega, c1 F1 Hd m1 H1 _ Le.refl Le.refl (List.prefix_refl m1) r1 walk_rng (by rw [rngL_len, sizeLine_eq]; omega)⟩
      · exact c1.elim
    | none => exact c1.elim
    | bool b => exact c1.elim
    | tuple i => exact c1.elim
    | list z => exact c1.elim
    | str z => exact c1.elim
    | dict z => exact c1.elim
def rng2 (x y : W) (S : List Ob) : Res (List W) := match x, y with
  | .d (.int i), .d (.int j) => if -(2 ^ 62) ≤ i ∧ i < 2 ^ 62 ∧ -(2 ^ 62) ≤ j ∧ j < 2 ^ 62 ∧ j - i ≤ 16777216 then .ok (rngL i (j - i).toNat) S else .bad
  | _, _ => .bad
def fRng2 (fa fb : FE) : FA := fun ρ S => (fa ρ S).bind fun x S1 => (fb ρ S1).bind fun y S2 => rng2 x y S2
def intOf : W → Option Int
  | .d (.int i) => some i
  | _ => none
theorem rep_int {K : PySem.W.Frag} {Fr : Hp} {μ : List Addr} {x : W} {v : V} (r : RepW K Fr μ x v) : (∃ i, x = .d (.int i) ∧ v = .int i) ∨ (∀ i, x ≠ .d (.int i)) := by
  cases x with
  | ref n => exact .inr fun i h => by cases h
  | d x =>
    cases x with
    | int i => cases r; exact .inl ⟨i, rfl, rfl⟩
    | none => exact .inr fun i h => by cases h
    | bool b => exact .inr fun i h => by cases h
    | tuple i => exact .inr fun i h => by cases h
    | list z => exact .inr fun i h => by cases h
    | str z => exact .inr fun i h => by cases h
    | dict z => exact .inr fun i h => by cases h
theorem rng2_bad {x y : W} {S : List Ob} (h : (∀ i, x ≠ .d (.int i)) ∨ ∀ i, y ≠ .d (.int i)) : rng2 x y S = .bad := by
  unfold rng2
  split
  · rcases h with h | h
    · exact absurd rfl (h _)
    · exact absurd rfl (h _)
  · rfl
theorem i_rng2 (hg : Gl X "range") (hm : X.mg "range" = none) (h : PE X e (LE X Wc fa)) (h2 : PE X e2 (LE X Wc fb)) (hs1 : starEach [e, e2] X.env = (false, eval e X.env) :: starEach [e2] X.env := by rfl) (hs2 : starEach [e2] X.env = (false, eval e2 X.env) :: starEach [] X.env := by rfl)
    (hs : starEach [e, e2] X.env = [(false, eval e X.env), (false, eval e2 X.env)] := by rfl) (hs3 : starEach [e2] X.env = [(false, eval e2 X.env)] := by rfl) : PI X tg (.Call (.Name "range" p) [e, e2] [] pos) (LI X Wc (fRng2 fa fb)) :=
  PI.imp (pi_range2 hg hm (pa_cons h (pa_cons h2 pa_nil hs2) hs1) hs hs3) fun σ H Q h => by
  obtain ⟨F, Hd, m, ρ, S, r, c⟩ := h
  refine stepI r c fun F1 m1 x v S1 H1 l1 p1 r1 e1 c1 => ?_
  refine stepI r1 c1 fun F2 m2 y u S2 H2 l2 p2 r2 e2 c2 => ?_
  show ∃ i j : Int, [v, u] = [V.int i, V.int j] ∧ _
  rcases rep_int e1 with ⟨i, rfl, rfl⟩ | n
  · rcases rep_int e2 with ⟨j, rfl, rfl⟩ | n
    · unfold rng2 at c2
      dsimp only at c2
      split at c2
      · rename_i hi
        exact ⟨i, j, rfl, ⟨hi.1, hi.2.1, hi.2.2.1, hi.2.2.2.1⟩, c2 F2 Hd m2 H2 _ Le.refl Le.refl (List.prefix_refl m2) r2 walk_rng (by rw [rngL_len, sizeLine_eq]; omega)⟩
      · exact c2.elim
    · rw [rng2_bad (.inr n)] at c2; exact c2.elim
  · rw [rng2_bad (.inl n)] at c2; exact c2.elim
end

/-! ### for -/
def setG (o : Option (List Sl)) (S : List Ob) (k : List Sl → List Ob → Fl) : Fl := match o with
  | some ρ => k ρ S
  | none => .bad
/-- behind a turn's body: go on, or what leaves the loop -/
def turnF (x : Fl) (k : List Sl → List Ob → Fl) : Fl := match x with
  | .nx ρ S => k ρ S
  | .ct ρ S => k ρ S
  | .bk ρ S => .nx ρ S
  | .rt r S => .rt r S
  | .ex c ρ S => .ex c ρ S
  | .bad => .bad
def forL (g : FG) (fb : FT) : List W → FT
  | [] => fun ρ S => .nx ρ S
  | x :: r => fun ρ S => setG (g x ρ) S fun ρ1 S1 => turnF (fb ρ1 S1) (forL g fb r)
def fFor (fi : FA) (g : FG) (fb : FT) : FT := fun ρ S => fl (fi ρ S) ρ fun xs S1 => forL g fb xs ρ S1
theorem yield_ok {K : PySem.W.Frag} {Fr Hd : Hp} {μ : List Addr} {ρ : List Sl} {S : List Ob} {σ : St} {H H' : Hp} {xs : List W} {i : Nat} {v : V} {F1 : Hp} {m1 : List Addr} (r : R K Fr Hd μ ρ S σ H) (l : Le F1 Fr) (p : m1 <+: μ) (y : Yq K F1 m1 xs i H v H') :
    ∃ Fr' x, xs[i]? = some x ∧ Le Fr Fr' ∧ R K Fr' Hd μ ρ S σ H' ∧ RepW K Fr' μ x v := by
  obtain ⟨x, e, h⟩ := y
  rcases h with ⟨rfl, q⟩ | ⟨T, ob, vs, ds, rfl, hT, hob, rfl, rfl, q⟩
  · exact ⟨Fr, x, e, Le.refl, r, q.mono l p⟩
  · have f := r.new hT
    have le : Le Fr (upd Fr T (.frz ob (.tup vs))) := Le.upd f.fr
    exact ⟨_, _, e, le, (r.upd (o := .frz ob (.tup vs)) f).freeze upd_same f, Dp.tup (.inl ⟨ob, upd_same, hob⟩) (Le.dps (l.trans le) _ _ q)⟩
theorem contS.less {K : PySem.W.Frag} {mg : Str → Option Value} {Wc : WX} {Fr Hd Hd' : Hp} {μ : List Addr} {D : Ends} {f : Fl} (h : Le Hd Hd') (c : contS K mg Wc Fr Hd μ D f) : contS K mg Wc Fr Hd' μ D f := by
  cases f with
  | nx ρ S => exact fun F m s H' l p r => c F m s H' l p (r.unhide h)
  | bk ρ S => exact fun F m s H' l p r => c F m s H' l p (r.unhide h)
  | ct ρ S => exact fun F m s H' l p r => c F m s H' l p (r.unhide h)
  | rt r S =>
    cases r with
    | w x => exact fun F m s H' l p r => c F m s H' l p (r.unhide h)
    | own o => exact fun F m q ho H' l p r e1 e2 e3 e4 e5 => c F m q ho H' l p (r.unhide h) e1 e2 e3 (none_le h e4) e5
  | ex x ρ S => exact fun F m s C H' l p r => c F m s C H' l p (r.unhide h)
  | bad => exact c
section
variable {X : Cx} {Wc : WX} {tg iter : Expr} {pos : Pos} {fi : FA} {g : FG} {fb : FT} {body : List Stmt} {own : List Nat}
theorem s_for (hp : PassesOwn (model X.prog X.w) X.A X.env X.xe) (hc : X.calm = true) (hi : PI X tg iter (LI X Wc fi)) (hg : PG X tg (liftG X.K own g)) (hb : PSs X body (LS X Wc fb))
    (hs : ∀ x, foldedSetIterable iter X.env x = pure x := by intro _; rfl) : PS X (.For tg iter body [] pos) (LS X Wc (fFor fi g fb)) := PS.imp (ps_for hp hc hi hg hb hs) fun D σ H h => by
  obtain ⟨F, Hd, m, ρ, S, r, c⟩ := h
  show liftI X.K X.mg Wc fi σ H _
  refine ⟨F, Hd, m, ρ, S, r, ?_⟩
  unfold fFor at c
  cases e : fi ρ S with
  | bad => rw [e] at c; exact c.elim
  | err z S1 => rw [e] at c; exact fun F1 m1 C H1 l p r1 hz => c F1 m1 σ C H1 l p r1 hz
  | ok xs S1 =>
    rw [e] at c
    intro F1 Hd1 m1 H1 J l1 d1 p1 r1 wk hz
    have c : contS X.K X.mg Wc F Hd m D (forL g fb xs ρ S1) := c
    refine for_it wk (fun i σ H => ∃ F2 m2 ρ2 S2, Le F1 F2 ∧ m1 <+: m2 ∧ R X.K F2 Hd1 m2 ρ2 S2 σ H ∧ contS X.K X.mg Wc F2 Hd1 m2 D (forL g fb (xs.drop i) ρ2 S2)) ?_ ?_ ?_ ?_
    · exact ⟨F1, m1, ρ, S1, Le.refl, List.prefix_refl m1, r1, contS.less d1 (contS.mono l1 p1 c)⟩
    · rintro i σ2 H2 hi ⟨F2, m2, ρ2, S2, l2, p2, r2, c2⟩
      exact ⟨l2.trans r2.b.fr, fun a o q => (r2.b.hd a o q).1⟩
    · rintro i v σ2 H2 H3 hi ⟨F2, m2, ρ2, S2, l2, p2, r2, c2⟩ y
      obtain ⟨F3, x, ex, l3, r3, e3⟩ := yield_ok r2 l2 p2 y
      rw [List.drop_eq_getElem_cons hi] at c2
      have ex' : xs[i] = x := by rw [List.getElem?_eq_getElem hi] at ex; exact Option.some.inj ex
      rw [ex'] at c2
      have c2 : contS X.K X.mg Wc F2 Hd1 m2 D (setG (g x ρ2) S2 fun ρ1 S1 => turnF (fb ρ1 S1) (forL g fb (xs.drop (i + 1)))) := c2
      cases q : g x ρ2 with
      | none => rw [q] at c2; exact c2.elim
      | some ρ3 =>
        rw [q] at c2
        have c2 : contS X.K X.mg Wc F2 Hd1 m2 D (turnF (fb ρ3 S2) (forL g fb (xs.drop (i + 1)))) := c2
        refine ⟨F3, Hd1, m2, ρ2, S2, x, r3, e3, ρ3, q, fun σ3 _ r4 => ⟨F3, Hd1, m2, ρ3, S2, r4, ?_⟩⟩
        cases q2 : fb ρ3 S2 with
        | nx ρ4 S4 =>
          rw [q2] at c2
          exact fun F4 m4 σ4 H4 l4 p4 r5 => ⟨F4, m4, ρ4, S4, l2.trans (l3.trans l4), p2.trans p4, r5, contS.mono (l3.trans l4) p4 c2⟩
        | ct ρ4 S4 =>
          rw [q2] at c2
          exact fun F4 m4 σ4 H4 l4 p4 r5 => ⟨F4, m4, ρ4, S4, l2.trans (l3.trans l4), p2.trans p4, r5, contS.mono (l3.trans l4) p4 c2⟩
        | bk ρ4 S4 => rw [q2] at c2; exact contS.mono (f := .nx ρ4 S4) l3 (List.prefix_refl m2) c2
        | rt y S4 => rw [q2] at c2; cases y <;> exact contS.mono (D := D) l3 (List.prefix_refl m2) c2
        | ex z ρ4 S4 => rw [q2] at c2; exact contS.mono (D := D) l3 (List.prefix_refl m2) c2
        | bad => rw [q2] at c2; exact c2
    · rintro σ2 H2 ⟨F2, m2, ρ2, S2, l2, p2, r2, c2⟩
      rw [List.drop_length] at c2
      exact c2 F2 m2 σ2 H2 Le.refl (List.prefix_refl m2) r2

/-! ### while -/
def whileN (t : FB) (fb : FT) : Nat → FT
  | 0 => fun _ _ => .bad
  | n + 1 => fun ρ S => fl (t ρ S) ρ fun c S1 => if c = true then turnF (fb ρ S1) (whileN t fb n) else .nx ρ S1
def fWhile (n : Nat) (t : FB) (fb : FT) : FT := whileN t fb n
theorem s_while {c : Expr} {t : FB} (n : Nat) (hp : PassesOwn (model X.prog X.w) X.A X.env X.xe) (hc : PT X c (LB X Wc t)) (hb : PSs X body (LS X Wc fb)) : PS X (.While c body [] pos) (LS X Wc (fWhile n t fb)) := PS.imp (ps_while hp hc hb) fun D σ H h => by
  obtain ⟨F, Hd, m, ρ, S, r, c0⟩ := h
  refine ⟨fun k σ H => ∃ F2 m2 ρ2 S2, R X.K F2 Hd m2 ρ2 S2 σ H ∧ contS X.K X.mg Wc F2 Hd m2 D (whileN t fb k ρ2 S2), ⟨n, F, m, ρ, S, r, c0⟩, ?_⟩
  rintro k σ2 H2 ⟨F2, m2, ρ2, S2, r2, c2⟩
  cases k with
  | zero => exact c2.elim
  | succ k =>
    refine stepS r2 c2 fun F3 m3 b v S3 H3 l3 p3 r3 e3 c3 => ?_
    cases e3
    cases b with
    | false => exact c3 F3 m3 σ2 H3 Le.refl (List.prefix_refl m3) r3
    | true =>
      refine ⟨fun σ H => ∃ F4 m4 ρ4 S4, R X.K F4 Hd m4 ρ4 S4 σ H ∧ contS X.K X.mg Wc F4 Hd m4 D (whileN t fb k ρ4 S4), fun σ' H' h => ⟨k, Nat.lt_succ_self k, h⟩, F3, Hd, m3, ρ2, S3, r3, ?_⟩
      have c3 : contS X.K X.mg Wc F3 Hd m3 D (turnF (fb ρ2 S3) (whileN t fb k)) := c3
      cases q2 : fb ρ2 S3 with
      | nx ρ4 S4 =>
        rw [q2] at c3
        exact fun F4 m4 σ4 H4 l4 p4 r5 => ⟨F4, m4, ρ4, S4, r5, contS.mono l4 p4 c3⟩
      | ct ρ4 S4 =>
        rw [q2] at c3
        exact fun F4 m4 σ4 H4 l4 p4 r5 => ⟨F4, m4, ρ4, S4, r5, contS.mono l4 p4 c3⟩
      | bk ρ4 S4 => rw [q2] at c3; exact c3
      | rt y S4 => rw [q2] at c3; cases y <;> exact c3
      | ex z ρ4 S4 => rw [q2] at c3; exact c3
      | bad => rw [q2] at c3; exact c3
end
end L2.Q
/-! Layer Q, part E: list comprehensions. -/
namespace L2.Q
open PySem PySem.Spec PyProof.Rows

/-- no exception is let out of a comprehension -/
abbrev W0 : WX := fun _ _ _ _ => False
theorem tk0 {X : Cx} : Takes X W0 := takes0
def isOwn : Option Sl → Bool
  | some (.own _) => true
  | _ => false
def lcL (g : FG) (t : FB) (fe : FE) (ρ : List Sl) : List W → List Ob → Res (List W)
  | [], S => .ok [] S
  | x :: r, S => match g x ρ with
    | none => .bad
    | some ρ1 => match t ρ1 S with
      | .ok c S1 => if c = true then (match fe ρ1 S1 with
          | .ok y S2 => (lcL g t fe ρ r S2).bind fun ys S3 => .ok (y :: ys) S3
          | _ => .bad) else lcL g t fe ρ r S1
      | _ => .bad
def fLc (fi : FA) (own : List Nat) (g : FG) (t : FB) (fe : FE) : FO := fun ρ S => (fi ρ S).bind fun xs S1 =>
  if own.any (fun i => isOwn ρ[i]?) = true then .bad else (lcL g t fe (unset ρ own) xs S1).bind fun ys S2 => .ok (.lst ys) S2
section
variable {K : PySem.W.Frag} {Fr Fr' Hd : Hp} {μ μ' : List Addr} {ρ : List Sl} {S S' : List Ob} {σ : St} {H H' : Hp}
theorem unset_out {own : List Nat} {j : Nat} (h : j ∉ own) : (unset ρ own)[j]? = ρ[j]? := by rw [unset_get, if_neg h]
theorem R.wiped (r : R K Fr Hd μ ρ S σ H) : ∀ own : List Nat, R K Fr Hd μ (unset ρ own) S (wipe σ own) H
  | [] => r
  | v :: vs => (R.wiped r vs).setUn
/-- back from a block -/
theorem R.unwipe {own : List Nat} (r : R K Fr Hd μ ρ S σ H) (h : own.any (fun i => isOwn ρ[i]?) = false) (l : Le Fr Fr') (p : μ <+: μ') (r' : R K Fr' Hd μ' (unset ρ own) S' (wipe σ own) H') : R K Fr' Hd μ' ρ S' σ H' := by
  have no : ∀ (i : Nat) (o : Ob), i ∈ own → ρ[i]? ≠ some (.own o) := fun i o hi e => by
    have := List.any_eq_false.mp h i hi
    rw [e] at this
    exact this rfl
  have out : ∀ i, i ∉ own → (wipe σ own)[i]? = σ[i]? := fun i hi => by rw [wipe_get, if_neg hi]
  refine ⟨r'.b, r.s.len, fun i x e => ?_, fun i j a h1 h2 => ?_⟩
  · by_cases hi : i ∈ own
    · cases x with
      | un => trivial
      | w x => obtain ⟨u, e1, e2⟩ := r.s.sl i _ e; exact ⟨u, e1, e2.mono l p⟩
      | own o => exact absurd e (no i o hi)
    · have q := r'.s.sl i x (by rw [unset_out hi]; exact e)
      rw [out i hi] at q
      exact q
  · have one : ∀ i a, Owns ρ σ i a → Owns (unset ρ own) (wipe σ own) i a := fun i a ⟨⟨o, e1⟩, e2⟩ => by
      have hi : i ∉ own := fun hi => no i o hi e1
      exact ⟨⟨o, by rw [unset_out hi]; exact e1⟩, by rw [out i hi]; exact e2⟩
    exact r'.s.inj i j a (one i a h1) (one j a h2)
end
section
variable {X : Cx} {Wc : WX} {elt tg iter : Expr} {ifs : List Expr} {scope : Scope} {own : List (Str × Nat)} {pos : Pos} {fi : FA} {g : FG} {t : FB} {fe : FE}
/-- the tests of a clause -/
theorem ts_nil : PTs X [] (LB X Wc fun _ S => .ok true S) := ⟨fun pins s σ H Q I h => pts_nil.run pins s σ H Q I (by
  obtain ⟨F, Hd, m, ρ, S, r, c⟩ := h
  exact c F m true H Le.refl (List.prefix_refl m) r rfl)⟩
theorem ts_one {c : Expr} (h : PT X c (LB X Wc t)) : PTs X [c] (LB X Wc t) := pts_one h
theorem hide_upd {K : PySem.W.Frag} {Fr Hd : Hp} {μ : List Addr} {ρ : List Sl} {S : List Ob} {σ : St} {H : Hp} {D : Addr} {o o' : HO} (r : R K Fr (upd Hd D o) μ ρ S σ H) (hD : Hd D = none) : R K Fr (upd Hd D o') μ ρ S σ (upd H D o') := by
  obtain ⟨h1, h2⟩ := r.b.hd D o upd_same
  have r0 : R K Fr Hd μ ρ S σ H := r.unhide (Le.upd hD)
  have hm : D ∉ μ := fun hm => by
    obtain ⟨_, _, _, h4, _⟩ := r.b.muH hm
    rw [upd_same] at h4; cases h4
  have ho : ∀ i, ¬ Owns ρ σ i D := fun i q => by
    obtain ⟨_, _, _, h4, _⟩ := r.owns q
    rw [upd_same] at h4; cases h4
  have f : Free Fr Hd μ ρ σ D := ⟨h2, hD, hm, ho⟩
  exact (r0.upd f).hide upd_same f
theorem lc_imp {σ : St} {H : Hp} {Q : VK} (hgo : GO (own.map (·.2)) g) (h : LO X Wc (fLc fi (own.map (·.2)) g t fe) σ H Q) :
    tLc (LI X Wc fi) (liftG X.K (own.map (·.2)) g) (LB X W0 t) (LE X W0 fe) (own.map (·.2)) σ H Q := by
  obtain ⟨F, Hd, m, ρ, S, r, c⟩ := h
  refine ⟨F, Hd, m, ρ, S, r, ?_⟩
  unfold fLc at c
  cases e : fi ρ S with
  | bad => rw [e] at c; exact c.elim
  | err z S1 => rw [e] at c; exact c
  | ok xs S1 =>
    rw [e] at c
    intro F1 Hd1 m1 H1 J l1 d1 p1 r1 wk hxs D nD
    have c : cont X.K X.mg Wc (repO X.K) F Hd m ρ σ Q (if (own.map (·.2)).any (fun i => isOwn ρ[i]?) = true then .bad else (lcL g t fe (unset ρ (own.map (·.2))) xs S1).bind fun ys S2 => .ok (.lst ys) S2) := c
    cases hno : (own.map (·.2)).any (fun i => isOwn ρ[i]?) with
    | true => rw [if_pos hno] at c; exact c.elim
    | false =>
      rw [if_neg (by rw [hno]; exact Bool.false_ne_true)] at c
      have fD := r1.new nD
      refine lc_it wk (fun i H => ∃ F2 m2 S2 ys vs, Le F1 F2 ∧ m1 <+: m2 ∧ R X.K F2 (upd Hd1 D (.lst vs)) m2 (unset ρ (own.map (·.2))) S2 (wipe σ (own.map (·.2))) H ∧ RepWs X.K F2 m2 ys vs ∧ ys.length ≤ i ∧
        cont X.K X.mg Wc (repO X.K) F2 Hd m2 ρ σ Q ((lcL g t fe (unset ρ (own.map (·.2))) (xs.drop i) S2).bind fun zs S3 => .ok (.lst (ys ++ zs)) S3)) ?_ ?_ ?_ ?_
      · refine ⟨F1, m1, S1, [], [], Le.refl, List.prefix_refl m1, ?_, .nil, Nat.zero_le _, ?_⟩
        · exact ((r1.upd fD).hide upd_same fD).wiped _
        · exact cont.mono l1 p1 (fun _ _ z => z) c
      · rintro i H2 hi ⟨F2, m2, S2, ys, vs, l2, p2, r2, e2, n2, c2⟩
        refine ⟨l2.trans r2.b.fr, fun a o q => (r2.b.hd a o ?_).1⟩
        rw [upd_ne (ne_of_none q fD.hd)]
        exact q
      · rintro i v H2 H3 hi ⟨F2, m2, S2, ys, vs, l2, p2, r2, e2, n2, c2⟩ y
        obtain ⟨F3, x, ex, l3, r3, e3⟩ := yield_ok r2 l2 p2 y
        rw [List.drop_eq_getElem_cons hi] at c2
        have ex' : xs[i] = x := by rw [List.getElem?_eq_getElem hi] at ex; exact Option.some.inj ex
        rw [ex'] at c2
        unfold lcL at c2
        cases q : g x (unset ρ (own.map (·.2))) with
        | none => simp only [q] at c2; exact c2.elim
        | some ρ3 =>
          simp only [q] at c2
          refine ⟨F3, upd Hd1 D (.lst vs), m2, unset ρ (own.map (·.2)), S2, x, r3, e3, ρ3, q, fun σ3 w3 r4 => ⟨?_, F3, upd Hd1 D (.lst vs), m2, ρ3, S2, r4, ?_⟩⟩
          · rw [w3]
            apply List.ext_getElem?
            intro j
            rw [wipe_get, wipe_length, wipe_get]
            split <;> rfl
          have hw : ∀ {F4 : Hp} {m4 : List Addr} {S4 : List Ob} {H4 : Hp}, R X.K F4 (upd Hd1 D (.lst vs)) m4 ρ3 S4 σ3 H4 → R X.K F4 (upd Hd1 D (.lst vs)) m4 (unset ρ (own.map (·.2))) S4 (wipe σ (own.map (·.2))) H4 := fun {F4 m4 S4 H4} r5 => by
            have r6 := r5.wiped (own.map (·.2))
            have e1 : unset ρ3 (own.map (·.2)) = unset ρ (own.map (·.2)) := by
              rw [hgo _ _ _ q]
              apply List.ext_getElem?
              intro j
              rw [unset_get, unset_len, unset_get]
              split <;> rfl
            have e2 : wipe σ3 (own.map (·.2)) = wipe σ (own.map (·.2)) := by
              rw [w3]
              apply List.ext_getElem?
              intro j
              rw [wipe_get, wipe_length, wipe_get]
              split <;> rfl
            rw [e1, e2] at r6
            exact r6
          cases q2 : t ρ3 S2 with
          | bad => simp only [q2] at c2; exact c2.elim
          | err z S4 => simp only [q2] at c2; exact c2.elim
          | ok b S4 =>
            simp only [q2] at c2
            rintro F4 m4 b' H4 l4 p4 r5 rfl
            cases b with
            | false =>
              rw [if_neg Bool.false_ne_true] at c2 ⊢
              exact ⟨F4, m4, S4, ys, vs, l2.trans (l3.trans l4), p2.trans p4, hw r5, e2.mono (l3.trans l4) p4, by omega, cont.mono (l3.trans l4) p4 (fun _ _ z => z) c2⟩
            | true =>
              rw [if_pos rfl] at c2 ⊢
              refine ⟨F4, upd Hd1 D (.lst vs), m4, ρ3, S4, r5, ?_⟩
              cases q3 : fe ρ3 S4 with
              | bad => simp only [q3] at c2; exact c2.elim
              | err z S5 => simp only [q3] at c2; exact c2.elim
              | ok w S5 =>
                simp only [q3, bind_assoc, bind_ok] at c2
                intro F5 m5 v5 H5 l5 p5 r6 e6
                have hlv := Paired.length e2
                refine ⟨vs, (r6.b.hd D _ upd_same).1, by omega, F5, m5, S5, ys ++ [w], vs ++ [v5], l2.trans (l3.trans (l4.trans l5)), p2.trans (p4.trans p5), hide_upd (hw r6) fD.hd, ?_, by simp; omega, ?_⟩
                · exact Paired.snoc (e2.mono (l3.trans (l4.trans l5)) (p4.trans p5)) e6
                · have c3 := cont.mono (l3.trans (l4.trans l5)) (p4.trans p5) (fun _ _ z => z) c2
                  simpa using c3
      · rintro H2 ⟨F2, m2, S2, ys, vs, l2, p2, r2, e2, n2, c2⟩
        rw [List.drop_length] at c2
        have c2 : cont X.K X.mg Wc (repO X.K) F2 Hd m2 ρ σ Q (.ok (.lst (ys ++ [])) S2) := c2
        rw [List.append_nil] at c2
        obtain ⟨h1, h2⟩ := r2.b.hd D _ upd_same
        have r3 : R X.K F2 Hd1 m2 (unset ρ (own.map (·.2))) S2 (wipe σ (own.map (·.2))) H2 := r2.unhide (Le.upd fD.hd)
        have r4 := R.unwipe r1 hno l2 p2 r3
        have r5 := r4.unhide d1
        have hm : D ∉ m2 := fun hm => by
          obtain ⟨_, _, _, h4, _⟩ := r2.b.muH hm
          rw [upd_same] at h4; cases h4
        have ho : ∀ i, ¬ Owns ρ σ i D := fun i q => by
          obtain ⟨_, h3, _⟩ := r1.owns q
          rw [nD] at h3; cases h3
        exact c2 F2 m2 (.ref D) H2 Le.refl (List.prefix_refl m2) r5 ⟨D, .lst vs, rfl, h1, ⟨vs, rfl, e2⟩, h2, none_le d1 fD.hd, hm, ho⟩
/-- [elt for tg in iter if ..], a new list -/
theorem q_lc (hc : X.calm = true) (hN : X.N.Nodup) (hgo : GO (own.map (·.2)) g) (hi : PI X tg iter (LI X Wc fi)) (ok : BlkOk X.N X.env.scope scope own)
    (hg : ∀ (s : Shared) (H : Hp) (C : Addr) (cl : List (Str × Addr)) (fp : List Addr), PG (X.blk s H scope (compEnvC scope cl C X.env) fp) tg (liftG X.K (own.map (·.2)) g))
    (ht : ∀ (s : Shared) (H : Hp) (C : Addr) (cl : List (Str × Addr)) (fp : List Addr), PTs (X.blk s H scope (compEnvC scope cl C X.env) fp) ifs (LB X W0 t))
    (he : ∀ (s : Shared) (H : Hp) (C : Addr) (cl : List (Str × Addr)) (fp : List Addr), PE (X.blk s H scope (compEnvC scope cl C X.env) fp) elt (LE X W0 fe)) (hs : ∀ x, foldedSetIterable iter X.env x = pure x := by intro _; rfl) :
    PE X (.ListComp elt [⟨tg, iter, ifs, 0⟩] scope pos) (LO X Wc (fLc fi (own.map (·.2)) g t fe)) := PE.imp (pe_lc hc hN hi ok hg ht he hs) fun _ _ _ h => lc_imp hgo h
/-- name = [..] on one line -/
theorem s_setLc {i : Nat} {y : Str} {py spos : Pos} (hc : X.calm = true) (hN : X.N.Nodup) (hy : X.N[i]? = some y) (hyl : X.env.scope.names.lookup y = some .local)
    (hsw : swapsWith (.ListComp elt [⟨tg, iter, ifs, 0⟩] scope pos) (some (.Name y py)) spos.line X.env = pure true) (hgo : GO (own.map (·.2)) g) (hi : PI X tg iter (LI X Wc fi)) (ok : BlkOk X.N X.env.scope scope own)
    (hg : ∀ (s : Shared) (H : Hp) (C : Addr) (cl : List (Str × Addr)) (fp : List Addr), PG (X.blk s H scope (compEnvC scope cl C X.env) fp) tg (liftG X.K (own.map (·.2)) g))
    (ht : ∀ (s : Shared) (H : Hp) (C : Addr) (cl : List (Str × Addr)) (fp : List Addr), PTs (X.blk s H scope (compEnvC scope cl C X.env) fp) ifs (LB X W0 t))
    (he : ∀ (s : Shared) (H : Hp) (C : Addr) (cl : List (Str × Addr)) (fp : List Addr), PE (X.blk s H scope (compEnvC scope cl C X.env) fp) elt (LE X W0 fe)) (hs : ∀ x, foldedSetIterable iter X.env x = pure x := by intro _; rfl) :
    PS X (.Assign [.Name y py] (.ListComp elt [⟨tg, iter, ifs, 0⟩] scope pos) spos) (LS X Wc (fSetO i (fLc fi (own.map (·.2)) g t fe))) := PS.imp (ps_setLc hc hN hy hyl hsw hi ok hg ht he hs) fun D σ H h => by
  have q := setO_imp h
  exact lc_imp hgo q
end
end L2.Q
/-! Layer Q, part F: the operators' functions. -/
namespace L2.Q
open PySem PySem.Spec PyProof.Rows

/-- what a value's kind is, for the heap's rules -/
theorem rep_cases {K : PySem.W.Frag} {Fr : Hp} {μ : List Addr} {x : PyData} {v : V} (r : Dp K Fr v x) :
    (x = .none ∧ v = .non) ∨ (∃ b, x = .bool b ∧ v = .bl b) ∨ (∃ i, x = .int i ∧ v = .int i) ∨ (∃ z, x = .str z ∧ v = .str z) ∨
    (∃ a vs ds, x = .list ds ∧ v = .ref a ∧ SqL K Fr a vs ∧ DpAll K Fr vs ds) ∨ (∃ a vs ds, x = .tuple ds ∧ v = .ref a ∧ SqT K Fr a vs ∧ DpAll K Fr vs ds) := by
  cases x with
  | none => cases r; exact .inl ⟨rfl, rfl⟩
  | bool b => cases r; exact .inr (.inl ⟨b, rfl, rfl⟩)
  | int i => cases r; exact .inr (.inr (.inl ⟨i, rfl, rfl⟩))
  | str z => cases r; exact .inr (.inr (.inr (.inl ⟨z, rfl, rfl⟩)))
  | list ds => cases r with | @lst a vs _ h1 h2 => exact .inr (.inr (.inr (.inr (.inl ⟨a, vs, ds, rfl, rfl, h1, h2⟩))))
  | tuple ds => cases r with | @tup a vs _ h1 h2 => exact .inr (.inr (.inr (.inr (.inr ⟨a, vs, ds, rfl, rfl, h1, h2⟩))))
  | dict kvs => cases r

section
variable {X : Cx} {Wc : WX} {Fr Hd : Hp} {μ : List Addr} {ρ : List Sl} {S : List Ob} {σ : St} {H : Hp}
theorem rt {Q : VK} {x : W} {v : V} (r : R X.K Fr Hd μ ρ S σ H) (c : cont X.K X.mg Wc (repE X.K) Fr Hd μ ρ σ Q (.ok x S)) (e : RepW X.K Fr μ x v) : Q v H := c Fr μ v H Le.refl (List.prefix_refl μ) r e
end
/-- two ints -/
def oI (C : Int → Int → Bool) (g : Int → Int → PyData) : W → W → List Ob → Res W := fun x y S => match x, y with
  | .d (.int i), .d (.int j) => if C i j = true then .ok (.d (g i j)) S else .bad
  | _, _ => .bad
theorem oI_bad {C : Int → Int → Bool} {g : Int → Int → PyData} {x y : W} {S : List Ob} (h : (∀ i, x ≠ .d (.int i)) ∨ ∀ i, y ≠ .d (.int i)) : oI C g x y S = .bad := by
  unfold oI
  split
  · rcases h with h | h
    · exact absurd rfl (h _)
    · exact absurd rfl (h _)
  · rfl
section
variable {X : Cx} {Wc : WX}
theorem f_int {C : Int → Int → Bool} {C' : Int → Int → Prop} {g : Int → Int → PyData} {g' : Int → Int → V} (hC : ∀ i j, C i j = true → C' i j) (hg : ∀ (F : Hp) i j, Dp X.K F (g' i j) (g i j)) : OpF X Wc (rI C' g') (oI C g) := by
  intro Fr Hd μ ρ S σ H x y v u Q r ex ey c
  rcases rep_int ex with ⟨i, rfl, rfl⟩ | n
  · rcases rep_int ey with ⟨j, rfl, rfl⟩ | n
    · unfold oI at c
      dsimp only at c
      split at c
      · rename_i h
        exact ⟨i, j, rfl, rfl, hC i j h, rt r c (hg Fr i j)⟩
      · exact c.elim
    · rw [oI_bad (.inr n)] at c; exact c.elim
  · rw [oI_bad (.inl n)] at c; exact c.elim
theorem f_int0 {C : Int → Int → Bool} {g : Int → Int → PyData} {g' : Int → Int → V} (hg : ∀ (F : Hp) i j, Dp X.K F (g' i j) (g i j)) : OpF X Wc (rI0 g') (oI C g) := by
  intro Fr Hd μ ρ S σ H x y v u Q r ex ey c
  have q := f_int (X := X) (Wc := Wc) (C := C) (C' := fun _ _ => True) (g := g) (g' := g') (fun _ _ _ => trivial) hg Fr Hd μ ρ S σ H x y v u Q r ex ey c
  obtain ⟨i, j, e1, e2, _, q⟩ := q
  exact ⟨i, j, e1, e2, q⟩
def yes : Int → Int → Bool := fun _ _ => true
/-- a product that Python's ints can hold here -/
def mulC (i j : Int) : Bool := decide (i.natAbs.log2 + j.natAbs.log2 < 100000000)
def CMulX (i j : Int) : Prop := i.natAbs.log2 + j.natAbs.log2 < 100000000
theorem CMulX.ok {i j : Int} (h : CMulX i j) : IntMulOk i j := by
  have b : ∀ x : Int, Builtin.Int.intBits x ≤ x.natAbs.log2 + 1 := fun x => by
    unfold Builtin.Int.intBits
    split <;> omega
  have h1 := b i
  have h2 := b j
  have h3 : i.natAbs.log2 + j.natAbs.log2 < 100000000 := h
  have e : bitsLine = 134217728 := by decide
  intro z
  have z2 := (Bool.and_eq_true_iff.mp z).2
  unfold Builtin.Int.intTooBig at z2
  have z3 := of_decide_eq_true z2
  rw [e] at z3
  omega
theorem op_mulX {X : Cx} : OpR X (binaryOp .Mult) (rI CMulX fun i j => .int (i * j)) := opI fun _ _ _ _ _ _ _ hc q => mul_int q hc.ok
def divC (_ j : Int) : Bool := decide (0 < j) && decide (j.natAbs.log2 < 9000)
def modC (_ j : Int) : Bool := decide (0 < j)
def powC (i j : Int) : Bool := decide (0 ≤ j) && decide (j ≤ 1000000) && decide (i.natAbs < 2 ^ 64)
abbrev oSub := oI yes fun i j => .int (i - j)
abbrev oMul := oI mulC fun i j => .int (i * j)
abbrev oDiv := oI divC fun i j => .int (i / j)
abbrev oMod := oI modC fun i j => .int (i % j)
abbrev oPow := oI powC fun i j => .int (i ^ j.toNat)
abbrev oBAnd := oI yes fun i j => .int (Builtin.bitAnd i j)
abbrev oBXor := oI yes fun i j => .int (Builtin.bitXor i j)
abbrev oBOr := oI yes fun i j => .int (Builtin.bitOr i j)
abbrev oLt := oI yes fun i j => .bool (decide (i < j))
abbrev oLe := oI yes fun i j => .bool (decide (i ≤ j))
abbrev oGt := oI yes fun i j => .bool (decide (j < i))
abbrev oGe := oI yes fun i j => .bool (decide (j ≤ i))
theorem f_sub : OpF X Wc (rI0 fun i j => .int (i - j)) oSub := f_int0 fun _ _ _ => .int _
theorem f_mul : OpF X Wc (rI CMulX fun i j => .int (i * j)) oMul := f_int (fun i j h => show _ < _ from of_decide_eq_true h) fun _ _ _ => .int _
theorem f_div : OpF X Wc (rI CDivW fun i j => .int (i / j)) oDiv := f_int (fun i j h => by
  unfold divC at h
  rw [Bool.and_eq_true] at h
  exact ⟨of_decide_eq_true h.1, of_decide_eq_true h.2⟩) fun _ _ _ => .int _
theorem f_mod : OpF X Wc (rI (fun _ j => 0 < j) fun i j => .int (i % j)) oMod := f_int (fun i j h => of_decide_eq_true h) fun _ _ _ => .int _
theorem f_pow : OpF X Wc (rI CPow fun i j => .int (i ^ j.toNat)) oPow := f_int (fun i j h => by
  unfold powC at h
  rw [Bool.and_eq_true, Bool.and_eq_true] at h
  exact ⟨of_decide_eq_true h.1.1, of_decide_eq_true h.1.2, of_decide_eq_true h.2⟩) fun _ _ _ => .int _
theorem f_band : OpF X Wc (rI0 fun i j => .int (Builtin.bitAnd i j)) oBAnd := f_int0 fun _ _ _ => .int _
theorem f_bxor : OpF X Wc (rI0 fun i j => .int (Builtin.bitXor i j)) oBXor := f_int0 fun _ _ _ => .int _
theorem f_lt : OpF X Wc (rI0 fun i j => .bl (decide (i < j))) oLt := f_int0 fun _ _ _ => .bl _
theorem f_le : OpF X Wc (rI0 fun i j => .bl (decide (i ≤ j))) oLe := f_int0 fun _ _ _ => .bl _
theorem f_gt : OpF X Wc (rI0 fun i j => .bl (decide (j < i))) oGt := f_int0 fun _ _ _ => .bl _
theorem f_ge : OpF X Wc (rI0 fun i j => .bl (decide (j ≤ i))) oGe := f_int0 fun _ _ _ => .bl _
/-- + of ints and of tuples -/
def oAdd : W → W → List Ob → Res W := fun x y S => match x, y with
  | .d (.int i), .d (.int j) => .ok (.d (.int (i + j))) S
  | .d (.tuple xs), .d (.tuple ys) => if xs.length + ys.length ≤ 16777216 then .ok (.d (.tuple (xs ++ ys))) S else .bad
  | _, _ => .bad
theorem dps_app {K : PySem.W.Frag} {F : Hp} : ∀ {ds es : List PyData} {vs us : List V}, DpAll K F vs ds → DpAll K F us es → DpAll K F (vs ++ us) (ds ++ es)
  | [], _, _, _, h, k => by cases h; exact k
  | d :: ds, _, _, _, h, k => by
    cases h with
    | cons h1 h2 => exact .cons h1 (dps_app h2 k)
theorem f_add : OpF X Wc (fun x y H Q => rI0 (fun i j => .int (i + j)) x y H Q ∨ rCatK X.K x y H Q) oAdd := by
  intro Fr Hd μ ρ S σ H x y v u Q r ex ey c
  cases x with
  | ref n => exact c.elim
  | d x =>
    cases y with
    | ref n => cases x <;> exact c.elim
    | d y =>
      rcases rep_cases (μ := μ) ex with ⟨rfl, rfl⟩ | ⟨b, rfl, rfl⟩ | ⟨i, rfl, rfl⟩ | ⟨z, rfl, rfl⟩ | ⟨a, vs, ds, rfl, rfl, h1, h2⟩ | ⟨a, vs, ds, rfl, rfl, h1, h2⟩
      · exact c.elim
      · exact c.elim
      · cases y with
        | int j => cases ey; exact .inl ⟨i, j, rfl, rfl, rt r c (Dp.int _)⟩
        | none => exact c.elim
        | bool b => exact c.elim
        | str z => exact c.elim
        | list z => exact c.elim
        | tuple z => exact c.elim
        | dict z => exact c.elim
      · exact c.elim
      · exact c.elim
      · cases y with
        | tuple es =>
          cases ey with
          | @tup b us _ k1 k2 =>
            have c : cont X.K X.mg Wc (repE X.K) Fr Hd μ ρ σ Q (if ds.length + es.length ≤ 16777216 then .ok (.d (.tuple (ds ++ es))) S else .bad) := c
            split at c
            · rename_i hl
              have e1 := DpAll.len h2
              have e2 := DpAll.len k2
              have all : DpAll X.K Fr (vs ++ us) (ds ++ es) := dps_app h2 k2
              refine .inr ⟨a, b, vs, us, rfl, rfl, Le.sqT r.b.fr h1, Le.sqT r.b.fr k1, by rw [sizeLine_eq]; omega, fun q => ?_, fun q1 q2 => ?_, fun _ _ => new_tup r all c⟩
              · subst q
                have : ds = [] := by cases ds with | nil => rfl | cons a b => simp at e1
                subst this
                exact rt r c (Dp.tup k1 k2)
              · subst q2
                have : es = [] := by cases es with | nil => rfl | cons a b => simp at e2
                subst this
                rw [List.append_nil] at c
                exact rt r c (Dp.tup h1 h2)
            · exact c.elim
        | none => exact c.elim
        | bool b => exact c.elim
        | str z => exact c.elim
        | list z => exact c.elim
        | int z => exact c.elim
        | dict z => exact c.elim
theorem op_addQ : OpR X (binaryOp .Add) (fun x y H Q => rI0 (fun i j => .int (i + j)) x y H Q ∨ rCatK X.K x y H Q) := OpR.or op_add op_catK
/-- == and != of data -/
def oEq : W → W → List Ob → Res W := fun x y S => match x, y with
  | .d x, .d y => if SeqAt.shaped x && SeqAt.shaped y then .ok (.d (.bool (PyData.eqv x y))) S else .bad
  | _, _ => .bad
def oNe : W → W → List Ob → Res W := fun x y S => match x, y with
  | .d x, .d y => if SeqAt.shaped x && SeqAt.shaped y then .ok (.d (.bool (!PyData.eqv x y))) S else .bad
  | _, _ => .bad
theorem f_eq : OpF X Wc (rEqD X.K) oEq := by
  intro Fr Hd μ ρ S σ H x y v u Q r ex ey c
  cases x with
  | ref n => exact c.elim
  | d x =>
    cases y with
    | ref n => exact c.elim
    | d y =>
      unfold oEq at c
      dsimp only at c
      split at c
      · rename_i h
        rw [Bool.and_eq_true] at h
        exact ⟨x, y, Dp.weak _ _ (Le.dp r.b.fr _ _ ex), Dp.weak _ _ (Le.dp r.b.fr _ _ ey), h.1, h.2, rt r c (Dp.bl _)⟩
      · exact c.elim
theorem f_ne : OpF X Wc (rNeD X.K) oNe := by
  intro Fr Hd μ ρ S σ H x y v u Q r ex ey c
  cases x with
  | ref n => exact c.elim
  | d x =>
    cases y with
    | ref n => exact c.elim
    | d y =>
      unfold oNe at c
      dsimp only at c
      split at c
      · rename_i h
        rw [Bool.and_eq_true] at h
        exact ⟨x, y, Dp.weak _ _ (Le.dp r.b.fr _ _ ex), Dp.weak _ _ (Le.dp r.b.fr _ _ ey), h.1, h.2, rt r c (Dp.bl _)⟩
      · exact c.elim
/-- is None, is not None -/
def isNon : W → Bool
  | .d .none => true
  | _ => false
theorem isNon_rep {K : PySem.W.Frag} {μ : List Addr} {Fr : Hp} {x : W} {v : V} (e : RepW K Fr μ x v) : decide (v = .non) = isNon x := by
  cases x with
  | ref n => obtain ⟨a, _, rfl⟩ := e; rfl
  | d x =>
    rcases rep_cases (μ := μ) e with ⟨rfl, rfl⟩ | ⟨b, rfl, rfl⟩ | ⟨i, rfl, rfl⟩ | ⟨z, rfl, rfl⟩ | ⟨a, vs, ds, rfl, rfl, h1, h2⟩ | ⟨a, vs, ds, rfl, rfl, h1, h2⟩ <;> rfl
def oIsN : W → List Ob → Res W := fun x S => .ok (.d (.bool (isNon x))) S
def oNotN : W → List Ob → Res W := fun x S => .ok (.d (.bool (!isNon x))) S
variable {a b : Expr} {fa fb : FE} {pos : Pos}
theorem q_isN {j p'} (ha : PE X a (LE X Wc fa)) : PE X (.Compare a [.Is] [.Constant .none j p'] pos) (LE X Wc (fUn oIsN fa)) := PE.imp (pe_cmp (pc_isN ha) rfl) fun σ H Q h => by
  obtain ⟨F, D, m, ρ, S, r0, c⟩ := h
  refine step r0 c fun F1 m1 x v S1 H1 l1 p1 r1 e1 c1 => ?_
  show Q (.bl (decide (v = .non))) H1
  rw [isNon_rep e1]
  exact rt r1 c1 (Dp.bl _)
theorem q_notN {j p'} (ha : PE X a (LE X Wc fa)) : PE X (.Compare a [.IsNot] [.Constant .none j p'] pos) (LE X Wc (fUn oNotN fa)) := PE.imp (pe_cmp (pc_notN ha) rfl) fun σ H Q h => by
  obtain ⟨F, D, m, ρ, S, r0, c⟩ := h
  refine step r0 c fun F1 m1 x v S1 H1 l1 p1 r1 e1 c1 => ?_
  show Q (.bl (!decide (v = .non))) H1
  rw [isNon_rep e1]
  exact rt r1 c1 (Dp.bl _)
theorem t_isN {j p'} (ha : PE X a (LE X Wc fa)) : PT X (.Compare a [.Is] [.Constant .none j p'] pos) (LB X Wc (fT (fUn oIsN fa))) := PT.imp (pt_cmp (pc_isN ha) rfl) fun σ H Q h => by
  have q := t_imp h
  obtain ⟨F, D, m, ρ, S, r0, c⟩ := q
  refine step r0 c fun F1 m1 x v S1 H1 l1 p1 r1 e1 c1 => ?_
  have q := rt r1 c1 (Dp.bl _)
  rw [← isNon_rep e1] at q
  exact q
theorem t_notN {j p'} (ha : PE X a (LE X Wc fa)) : PT X (.Compare a [.IsNot] [.Constant .none j p'] pos) (LB X Wc (fT (fUn oNotN fa))) := PT.imp (pt_cmp (pc_notN ha) rfl) fun σ H Q h => by
  have q := t_imp h
  obtain ⟨F, D, m, ρ, S, r0, c⟩ := q
  refine step r0 c fun F1 m1 x v S1 H1 l1 p1 r1 e1 c1 => ?_
  have q := rt r1 c1 (Dp.bl _)
  rw [← isNon_rep e1] at q
  exact q
/-- - of an int -/
def oNeg : W → List Ob → Res W := fun x S => match x with
  | .d (.int i) => .ok (.d (.int (-i))) S
  | _ => .bad
theorem f_neg : UnF X Wc (rU fun i => .int (-i)) oNeg := by
  intro Fr Hd μ ρ S σ H x v Q r ex c
  rcases rep_int ex with ⟨i, rfl, rfl⟩ | n
  · exact ⟨i, rfl, rt r c (Dp.int _)⟩
  · unfold oNeg at c
    split at c
    · exact absurd rfl (n _)
    · exact c.elim
/-- a < b < c, the middle asked once -/
def fChain (op op' : W → W → List Ob → Res W) (fa fb fc : FE) : FE := fun ρ S => (fa ρ S).bind fun x S1 => (fb ρ S1).bind fun y S2 => ((op x y S2).bind toB).bind fun c S3 => if c = true then (fc ρ S3).bind fun z S4 => op' y z S4 else .ok (.d (.bool false)) S3
theorem q_chainI {op op' : CmpOp} {C C' : Int → Int → Bool} {g g' : Int → Int → Bool} {c : Expr} {fc : FE} (ho : OpR X (compareOp op) (rI0 fun i j => .bl (g i j))) (ho' : OpR X (compareOp op') (rI0 fun i j => .bl (g' i j)))
    (ha : PE X a (LE X Wc fa)) (hb : PE X b (LE X Wc fb)) (hc : PE X c (LE X Wc fc)) (hm : lastMarks [op, op'] [b, c] = false := by rfl) :
    PE X (.Compare a [op, op'] [b, c] pos) (LE X Wc (fChain (oI C fun i j => .bool (g i j)) (oI C' fun i j => .bool (g' i j)) fa fb fc)) := PE.imp (pe_chain ho ho' ha hb hc hm) fun σ H Q h => by
  obtain ⟨F, D, m, ρ, S, r0, c⟩ := h
  refine step r0 c fun F1 m1 x v S1 H1 l1 p1 r1 e1 c1 => ?_
  refine step r1 c1 fun F2 m2 y u S2 H2 l2 p2 r2 e2 c2 => ?_
  have e1' := RepW.mono l2 p2 e1
  rcases rep_int e1' with ⟨i, rfl, rfl⟩ | n
  · rcases rep_int e2 with ⟨j, rfl, rfl⟩ | n
    · unfold oI at c2
      dsimp only at c2
      split at c2
      · refine ⟨i, j, rfl, rfl, g i j, rfl, ?_⟩
        have c2 : cont X.K X.mg Wc (repE X.K) F2 D m2 ρ σ Q (if g i j = true then (fc ρ S2).bind fun z S4 => oI C' (fun i j => .bool (g' i j)) (.d (.int j)) z S4 else .ok (.d (.bool false)) S2) := c2
        split at c2
        · rename_i hg
          rw [if_pos hg]
          refine step r2 c2 fun F3 m3 z w S3 H3 l3 p3 r3 e3 c3 => ?_
          exact f_int0 (X := X) (Wc := Wc) (g := fun i j => .bool (g' i j)) (g' := fun i j => .bl (g' i j)) (fun _ _ _ => .bl _) F3 D m3 ρ S3 σ H3 (.d (.int j)) z (.int j) w Q r3 (Dp.int _) e3 c3
        · rename_i hg
          rw [if_neg hg]
          exact rt r2 c2 (Dp.bl _)
      · exact c2.elim
    · rw [oI_bad (.inr n)] at c2; exact c2.elim
  · rw [oI_bad (.inl n)] at c2; exact c2.elim
end
end L2.Q
/-! Layer Q, part G: subscripts, slices, built-in calls, lists. -/
namespace L2.Q
open PySem PySem.Spec PyProof.Rows

/-- a list as it stands now -/
def repL (K : PySem.W.Frag) : Rep (List W) V := fun Fr _ μ _ _ H xs v => ∃ a vs, v = .ref a ∧ SqL K H a vs ∧ RepWs K Fr μ xs vs
abbrev LL (X : Cx) (Wc : WX) (f : FA) : TE := lift X.K X.mg Wc (repL X.K) f
def lstV (x : W) (S : List Ob) : Res (List W) := match x with
  | .d (.list xs) => .ok (xs.map .d) S
  | _ => .bad
def fLv (fa : FE) : FA := fun ρ S => (fa ρ S).bind lstV
def fOwn (i : Nat) : FA := fun ρ S => match ρ[i]? with
  | some (.own (.lst xs)) => .ok xs S
  | some (.w (.d (.list ds))) => .ok (ds.map .d) S
  | _ => .bad
section
variable {X : Cx} {Wc : WX} {a b e e2 : Expr} {es : List Expr} {pos p : Pos} {fa fb : FE} {fo fo2 : FO} {fl1 : FA} {fr : FA}
theorem l_new (h : PE X e (LO X Wc fo)) : PE X e (LL X Wc (fItO fo)) := PE.imp h fun σ H Q h => by
  obtain ⟨F, D, m, ρ, S, r0, c⟩ := h
  refine step r0 c fun F1 m1 x v S1 H1 l1 p1 r1 e1 c1 => ?_
  obtain ⟨p, ho, rfl, h1, h2, h3⟩ := e1
  cases x with
  | dct kvs => exact c1.elim
  | fdc kvs => exact c1.elim
  | ins c fs => exact c1.elim
  | dcn fz kvs => exact c1.elim
  | lst xs =>
    obtain ⟨vs, rfl, q⟩ := h2
    exact c1 F1 m1 _ H1 Le.refl (List.prefix_refl m1) r1 ⟨p, vs, rfl, .inl (.inl h1), q⟩
theorem l_val (h : PE X e (LE X Wc fa)) : PE X e (LL X Wc (fLv fa)) := PE.imp h fun σ H Q h => by
  obtain ⟨F, D, m, ρ, S, r0, c⟩ := h
  refine step r0 c fun F1 m1 x v S1 H1 l1 p1 r1 e1 c1 => ?_
  cases x with
  | ref n => exact c1.elim
  | d x =>
    cases x with
    | list xs =>
      cases e1 with
      | @lst a vs _ hs ha => exact c1 F1 m1 _ H1 Le.refl (List.prefix_refl m1) r1 ⟨a, vs, rfl, Le.sqL r1.b.fr hs, rep_dats ha⟩
    | none => exact c1.elim
    | bool b => exact c1.elim
    | int i => exact c1.elim
    | str z => exact c1.elim
    | tuple z => exact c1.elim
    | dict z => exact c1.elim
theorem own_lst {Fr Hd : Hp} {μ : List Addr} {ρ : List Sl} {S : List Ob} {σ : St} {H : Hp} (r : R X.K Fr Hd μ ρ S σ H) {i : Nat} {xs : List W} (e : ρ[i]? = some (.own (.lst xs))) :
    ∃ a vs, σ[i]? = some (some (.ref a)) ∧ H a = some (.lst vs) ∧ RepWs X.K Fr μ xs vs := by
  obtain ⟨a, ho, e1, h1, ⟨vs, rfl, q⟩, _⟩ := r.s.sl i _ e
  exact ⟨a, vs, e1, h1, q⟩
theorem l_own {i : Nat} {x : Str} (hN : X.N[i]? = some x) (hv : Vis X.env.scope x) (hd : (x == ("__debug__" : Str)) = false := by decide) (hcd : (x == ("__classdict__" : Str)) = false := by decide) : PE X (.Name x pos) (LL X Wc (fOwn i)) :=
  PE.imp (pe_var hN hv hd hcd) fun σ H Q h => by
  obtain ⟨F, D, m, ρ, S, r, c⟩ := h
  unfold fOwn at c
  split at c
  · rename_i xs e
    obtain ⟨a, vs, e1, h1, q⟩ := own_lst r e
    exact ⟨_, e1, c F m _ H Le.refl (List.prefix_refl m) r ⟨a, vs, rfl, .inl (.inl h1), q⟩⟩
  · rename_i ds e
    obtain ⟨u, e1, ru⟩ := r.s.sl i _ e
    cases ru with
    | @lst a vs _ hs ha => exact ⟨_, e1, c F m _ H Le.refl (List.prefix_refl m) r ⟨a, vs, rfl, Le.sqL r.b.fr hs, rep_dats ha⟩⟩
  · exact c.elim
/-- a list or a tuple now -/
theorem qs_l (h : PE X e (LL X Wc fl1)) : PE X e (LQ X Wc fl1) := PE.imp h fun σ H Q h => by
  obtain ⟨F, D, m, ρ, S, r0, c⟩ := h
  refine ⟨F, D, m, ρ, S, r0, ?_⟩
  cases q : fl1 ρ S with
  | bad => rw [q] at c; exact c
  | err z S1 => rw [q] at c; exact c
  | ok xs S1 =>
    rw [q] at c
    intro F1 m1 v H1 l1 p1 r1 ⟨a, vs, e1, e2, e3⟩
    exact c F1 m1 v H1 l1 p1 r1 ⟨a, vs, e1, .inl e2, e3⟩
theorem qs_v (h : PE X e (LE X Wc fa)) : PE X e (LQ X Wc (fIt fa)) := PE.imp h fun σ H Q h => by
  obtain ⟨F, D, m, ρ, S, r0, c⟩ := h
  refine step r0 c fun F1 m1 x v S1 H1 l1 p1 r1 e1 c1 => ?_
  cases x with
  | ref n => exact c1.elim
  | d x =>
    cases x with
    | tuple xs =>
      cases e1 with
      | @tup a vs _ hs ha => exact c1 F1 m1 _ H1 Le.refl (List.prefix_refl m1) r1 ⟨a, vs, rfl, .inr (Le.sqT r1.b.fr hs), rep_dats ha⟩
    | list xs =>
      cases e1 with
      | @lst a vs _ hs ha => exact c1 F1 m1 _ H1 Le.refl (List.prefix_refl m1) r1 ⟨a, vs, rfl, .inl (Le.sqL r1.b.fr hs), rep_dats ha⟩
    | none => exact c1.elim
    | bool b => exact c1.elim
    | int i => exact c1.elim
    | str z => exact c1.elim
    | dict z => exact c1.elim
/-- len -/
def fLen (f : FA) : FE := fun ρ S => (f ρ S).bind fun xs S1 => .ok (.d (.int xs.length)) S1
theorem q_len (hg : Gl X "len") (hm : X.mg "len" = none) (h : PE X e (LQ X Wc fl1)) (hs : starEach [e] X.env = (false, eval e X.env) :: starEach [] X.env := by rfl) (hpl : (backTo pos (starEach [] X.env)).any (·.1) = false := by rfl) : PE X (.Call (.Name "len" p) [e] [] pos) (LE X Wc (fLen fl1)) :=
  PE.imp (pe_callB call_len_seq hg hm PySem.boot_len (pa_cons h pa_nil hs) (he := hs) (hpl := hpl)) fun σ H Q h => by
  obtain ⟨F, D, m, ρ, S, r0, c⟩ := h
  refine step r0 c fun F1 m1 xs v S1 H1 l1 p1 r1 e1 c1 => ?_
  obtain ⟨a, vs, rfl, e2, e3⟩ := e1
  refine ⟨a, vs, rfl, e2, ?_⟩
  rw [← Paired.length e3]
  exact rt r1 c1 (Dp.int _)
/-- len of a text -/
def fLenS (fa : FE) : FE := fun ρ S => (fa ρ S).bind fun x S1 => match x with
  | .d (.str z) => if z.length ≤ 16777216 then .ok (.d (.int z.length)) S1 else .bad
  | _ => .bad
/-- tuple(..) of a list -/
def fTupL (f : FA) : FE := fun ρ S => (f ρ S).bind mkTup
theorem q_tupL (hg : Gl X "tuple") (hm : X.mg "tuple" = none) (h : PE X e (LL X Wc fl1)) (hs : starEach [e] X.env = (false, eval e X.env) :: starEach [] X.env := by rfl) (hpl : (backTo pos (starEach [] X.env)).any (·.1) = false := by rfl) : PE X (.Call (.Name "tuple" p) [e] [] pos) (LE X Wc (fTupL fl1)) :=
  PE.imp (pe_callTy call_tupK hg hm (by decide +kernel) (pa_cons h pa_nil hs) (he := hs) (hpl := hpl)) fun σ H Q h => by
  obtain ⟨F, D, m, ρ, S, r0, c⟩ := h
  refine step r0 c fun F1 m1 xs v S1 H1 l1 p1 r1 e1 c1 => ?_
  obtain ⟨a, vs, rfl, e2, e3⟩ := e1
  refine ⟨a, vs, rfl, .inl ⟨e2, ?_⟩⟩
  unfold mkTup at c1
  cases z : dats xs with
  | none => rw [z] at c1; exact c1.elim
  | some ds => rw [z] at c1; exact new_tup r1 (dats_rep z e3) c1
/-- list(..), a new list -/
def fNewL (f : FA) : FO := fun ρ S => (f ρ S).bind fun xs S1 => .ok (.lst xs) S1
theorem new_lst {Fr Hd : Hp} {μ : List Addr} {ρ : List Sl} {S : List Ob} {σ : St} {H : Hp} {Q : VK} {xs : List W} {vs : List V} {q : Addr} (r : R X.K Fr Hd μ ρ S σ H) (e : RepWs X.K Fr μ xs vs) (hq : H q = none)
    (c : cont X.K X.mg Wc (repO X.K) Fr Hd μ ρ σ Q (.ok (.lst xs) S)) : Q (.ref q) (upd H q (.lst vs)) := by
  have f := r.new hq
  exact c Fr μ (.ref q) _ Le.refl (List.prefix_refl μ) (r.upd (o := .lst vs) f) ⟨q, .lst vs, rfl, upd_same, ⟨vs, rfl, e⟩, f⟩
theorem q_listOf (hg : Gl X "list") (hm : X.mg "list" = none) (h : PE X e (LQ X Wc fl1)) (hs : starEach [e] X.env = (false, eval e X.env) :: starEach [] X.env := by rfl) (hpl : (backTo pos (starEach [] X.env)).any (·.1) = false := by rfl) : PE X (.Call (.Name "list" p) [e] [] pos) (LO X Wc (fNewL fl1)) :=
  PE.imp (pe_callTy call_list_of hg hm (by decide +kernel) (pa_cons h pa_nil hs) (he := hs) (hpl := hpl)) fun σ H Q h => by
  obtain ⟨F, D, m, ρ, S, r0, c⟩ := h
  refine step r0 c fun F1 m1 xs v S1 H1 l1 p1 r1 e1 c1 => ?_
  obtain ⟨a, vs, rfl, e2, e3⟩ := e1
  exact ⟨a, vs, rfl, e2, fun q hq => new_lst r1 e3 hq c1⟩
/-- [a, b, ..], a new list -/
theorem q_lst {n : Nat} (h : PA X es (LA X Wc fr)) (hl : LenN fr n) (hn : n ≤ sizeLine := by decide) : PE X (.List es pos) (LO X Wc (fNewL fr)) := PE.imp (pe_lst h) fun σ H Q h => by
  obtain ⟨F, D, m, ρ, S, r0, c⟩ := h
  refine ⟨F, D, m, ρ, S, r0, ?_⟩
  unfold fNewL at c
  cases e : fr ρ S with
  | err x S1 => rw [e] at c; exact c
  | bad => rw [e] at c; exact c
  | ok xs S1 =>
    rw [e] at c
    intro F1 m1 vs H1 l1 p1 r1 e1
    refine ⟨?_, fun q hq => new_lst r1 e1 hq (cont.mono l1 p1 (fun _ _ z => z) c)⟩
    have := Paired.length e1
    have := hl ρ S xs S1 e
    omega
/-- a new list as a value: nobody may change it from now on -/
def fFz (fo : FO) : FE := fun ρ S => (fo ρ S).bind fun o S1 => match frz o with
  | some x => .ok x S1
  | none => .bad
theorem q_fz (h : PE X e (LO X Wc fo)) : PE X e (LE X Wc (fFz fo)) := PE.imp h fun σ H Q h => by
  obtain ⟨F, D, m, ρ, S, r0, c⟩ := h
  refine step r0 c fun F1 m1 x v S1 H1 l1 p1 r1 e1 c1 => ?_
  obtain ⟨p, ho, rfl, h1, h2, h3⟩ := e1
  cases z : frz x with
  | none => simp only [z] at c1; exact c1.elim
  | some y =>
    simp only [z] at c1
    exact c1 _ m1 _ H1 (Le.upd h3.fr) (List.prefix_refl m1) (r1.freeze h1 h3) (frz_rep z h2 h3.fr)
/-- + of two new lists -/
def bools : List W → Option (List Bool)
  | [] => some []
  | .d (.bool b) :: r => (bools r).map (b :: ·)
  | _ :: _ => none
def intsW : List W → Option (List Int)
  | [] => some []
  | .d (.int b) :: r => (intsW r).map (b :: ·)
  | _ :: _ => none
theorem bools_rep {K : PySem.W.Frag} {Fr : Hp} {μ : List Addr} : ∀ {xs : List W} {vs : List V} {bs : List Bool}, bools xs = some bs → RepWs K Fr μ xs vs → vs = bs.map V.bl
  | [], _, _, e, .nil => by cases e; rfl
  | x :: r, _, bs, e, .cons h t => by
    unfold bools at e
    split at e
    · rename_i e1; cases e1
    · rename_i b r' e1
      injection e1 with e1 e2
      subst e1 e2
      cases q : bools r with
      | none => rw [q] at e; cases e
      | some es =>
        rw [q] at e
        cases e
        cases h
        rw [bools_rep q t]
        rfl
    · cases e
theorem intsW_rep {K : PySem.W.Frag} {Fr : Hp} {μ : List Addr} : ∀ {xs : List W} {vs : List V} {bs : List Int}, intsW xs = some bs → RepWs K Fr μ xs vs → vs = bs.map V.int
  | [], _, _, e, .nil => by cases e; rfl
  | x :: r, _, bs, e, .cons h t => by
    unfold intsW at e
    split at e
    · rename_i e1; cases e1
    · rename_i b r' e1
      injection e1 with e1 e2
      subst e1 e2
      cases q : intsW r with
      | none => rw [q] at e; cases e
      | some es =>
        rw [q] at e
        cases e
        cases h
        rw [intsW_rep q t]
        rfl
    · cases e
def onB (f : List Bool → Bool) (xs : List W) (S : List Ob) : Res W := match bools xs with
  | some bs => .ok (.d (.bool (f bs))) S
  | none => .bad
def onI (f : List Int → Int) (xs : List W) (S : List Ob) : Res W := match intsW xs with
  | some ns => .ok (.d (.int (f ns))) S
  | none => .bad
def fAll (f : FA) : FE := fun ρ S => (f ρ S).bind (onB fun bs => bs.all id)
def fAny (f : FA) : FE := fun ρ S => (f ρ S).bind (onB fun bs => bs.any id)
def fSum (f : FA) : FE := fun ρ S => (f ρ S).bind (onI List.sum)
theorem q_all (hc : X.calm = true) (hg : Gl X "all") (hm : X.mg "all" = none) (h : PE X e (LL X Wc fl1)) (hs : starEach [e] X.env = (false, eval e X.env) :: starEach [] X.env := by rfl) (hpl : (backTo pos (starEach [] X.env)).any (·.1) = false := by rfl) : PE X (.Call (.Name "all" p) [e] [] pos) (LE X Wc (fAll fl1)) :=
  PE.imp (pe_callB (cr_all hc) hg hm (by decide +kernel) (pa_cons h pa_nil hs) (he := hs) (hpl := hpl)) fun σ H Q h => by
  obtain ⟨F, D, m, ρ, S, r0, c⟩ := h
  refine step r0 c fun F1 m1 xs v S1 H1 l1 p1 r1 e1 c1 => ?_
  obtain ⟨a, vs, rfl, e2, e3⟩ := e1
  unfold onB at c1
  cases z : bools xs with
  | none => rw [z] at c1; exact c1.elim
  | some bs =>
    rw [z] at c1
    rw [bools_rep z e3] at e2
    exact ⟨a, bs, rfl, e2, rt r1 c1 (Dp.bl _)⟩
theorem q_any (hc : X.calm = true) (hg : Gl X "any") (hm : X.mg "any" = none) (h : PE X e (LL X Wc fl1)) (hs : starEach [e] X.env = (false, eval e X.env) :: starEach [] X.env := by rfl) (hpl : (backTo pos (starEach [] X.env)).any (·.1) = false := by rfl) : PE X (.Call (.Name "any" p) [e] [] pos) (LE X Wc (fAny fl1)) :=
  PE.imp (pe_callB (cr_any hc) hg hm (by decide +kernel) (pa_cons h pa_nil hs) (he := hs) (hpl := hpl)) fun σ H Q h => by
  obtain ⟨F, D, m, ρ, S, r0, c⟩ := h
  refine step r0 c fun F1 m1 xs v S1 H1 l1 p1 r1 e1 c1 => ?_
  obtain ⟨a, vs, rfl, e2, e3⟩ := e1
  unfold onB at c1
  cases z : bools xs with
  | none => rw [z] at c1; exact c1.elim
  | some bs =>
    rw [z] at c1
    rw [bools_rep z e3] at e2
    exact ⟨a, bs, rfl, e2, rt r1 c1 (Dp.bl _)⟩
theorem q_sum (hc : X.calm = true) (hg : Gl X "sum") (hm : X.mg "sum" = none) (h : PE X e (LL X Wc fl1)) (hs : starEach [e] X.env = (false, eval e X.env) :: starEach [] X.env := by rfl) (hpl : (backTo pos (starEach [] X.env)).any (·.1) = false := by rfl) : PE X (.Call (.Name "sum" p) [e] [] pos) (LE X Wc (fSum fl1)) :=
  PE.imp (pe_callB (cr_sum hc) hg hm (by decide +kernel) (pa_cons h pa_nil hs) (he := hs) (hpl := hpl)) fun σ H Q h => by
  obtain ⟨F, D, m, ρ, S, r0, c⟩ := h
  refine step r0 c fun F1 m1 xs v S1 H1 l1 p1 r1 e1 c1 => ?_
  obtain ⟨a, vs, rfl, e2, e3⟩ := e1
  unfold onI at c1
  cases z : intsW xs with
  | none => rw [z] at c1; exact c1.elim
  | some bs =>
    rw [z] at c1
    rw [intsW_rep z e3] at e2
    exact ⟨a, bs, rfl, e2, rt r1 c1 (Dp.int _)⟩
/-- x[i] of a value -/
def oIx : W → W → List Ob → Res W := fun x y S => match x, y with
  | .d (.tuple xs), .d (.int i) => (match atI xs i with
    | some z => .ok (.d z) S
    | none => .bad)
  | .d (.list xs), .d (.int i) => (match atI xs i with
    | some z => .ok (.d z) S
    | none => .bad)
  | .ref n, .d (.int i) => (match S[n]? with
    | some (.lst xs) => (match atI xs i with
      | some z => .ok z S
      | none => .bad)
    | _ => .bad)
  | _, _ => .bad
theorem paired_at {α β : Type} {F : α → β → Prop} {l₁ : List α} {l₂ : List β} {i : Int} {a : α} (h : Paired F l₁ l₂) (e : atI l₁ i = some a) : ∃ b, atI l₂ i = some b ∧ F a b := by
  unfold atI at e ⊢
  rw [← Paired.length h]
  cases q : ixN l₁.length i with
  | none => rw [q] at e; cases e
  | some j =>
    rw [q] at e
    exact paired_get h e
theorem dps_at {K : PySem.W.Frag} {F : Hp} {ds : List PyData} {vs : List V} {i : Int} {d : PyData} (h : DpAll K F vs ds) (e : atI ds i = some d) : ∃ v, atI vs i = some v ∧ Dp K F v d := by
  have q : atI (ds.map W.d) i = some (.d d) := by
    unfold atI at e ⊢
    rw [List.length_map]
    cases z : ixN ds.length i with
    | none => rw [z] at e; cases e
    | some j =>
      rw [z] at e
      show (ds.map W.d)[j]? = _
      rw [List.getElem?_map]
      have e : ds[j]? = some d := e
      rw [e]; rfl
  exact paired_at (rep_dats (μ := []) h) q
theorem f_ix : OpF X Wc (rIx X.K) oIx := by
  intro Fr Hd μ ρ S σ H x y v u Q r ex ey c
  rcases rep_int ey with ⟨i, rfl, rfl⟩ | n
  · cases x with
    | ref n =>
      obtain ⟨a, ea, rfl⟩ := ex
      unfold oIx at c
      dsimp only at c
      split at c
      · rename_i xs es
        split at c
        · rename_i z ez
          obtain ⟨ho, h1, ⟨vs, rfl, q⟩, _⟩ := r.b.st n a _ ea es
          obtain ⟨w, e1, e2⟩ := paired_at q ez
          exact .inl ⟨a, vs, i, w, rfl, rfl, .inl (.inl h1), e1, rt r c e2⟩
        · exact c.elim
      · exact c.elim
    | d x =>
      rcases rep_cases (μ := μ) ex with ⟨rfl, rfl⟩ | ⟨b, rfl, rfl⟩ | ⟨i', rfl, rfl⟩ | ⟨z, rfl, rfl⟩ | ⟨a, vs, ds, rfl, rfl, h1, h2⟩ | ⟨a, vs, ds, rfl, rfl, h1, h2⟩
      · exact c.elim
      · exact c.elim
      · exact c.elim
      · exact c.elim
      · unfold oIx at c
        dsimp only at c
        split at c
        · rename_i z ez
          obtain ⟨w, e1, e2⟩ := dps_at h2 ez
          exact .inl ⟨a, vs, i, w, rfl, rfl, Le.sqL r.b.fr h1, e1, rt r c e2⟩
        · exact c.elim
      · unfold oIx at c
        dsimp only at c
        split at c
        · rename_i z ez
          obtain ⟨w, e1, e2⟩ := dps_at h2 ez
          exact .inr (.inl ⟨a, vs, i, w, rfl, rfl, Le.sqT r.b.fr h1, e1, rt r c e2⟩)
        · exact c.elim
  · unfold oIx at c
    split at c
    · exact absurd rfl (n _)
    · exact absurd rfl (n _)
    · exact absurd rfl (n _)
    · exact c.elim
theorem q_ix (ha : PE X a (LE X Wc fa)) (hb : PE X b (LE X Wc fb)) (hs : PlainIx b := by exact fun _ _ => rfl) : PE X (.Subscript a b pos) (LE X Wc (fBin oIx fa fb)) := PE.imp (pe_ix ix_seq ha hb hs) fun _ _ _ h => bin_imp f_ix h
/-- x[i] of a list that x alone holds -/
def ixO (xs : List W) (y : W) (S : List Ob) : Res W := match y with
  | .d (.int k) => (match atI xs k with
    | some z => .ok z S
    | none => .bad)
  | _ => .bad
def fIxO (i : Nat) (fb : FE) : FE := fun ρ S => match ρ[i]? with
  | some (.own (.lst xs)) => (fb ρ S).bind (ixO xs)
  | some (.w x) => (fb ρ S).bind fun y S1 => oIx x y S1
  | _ => .bad
theorem q_ixO {i : Nat} {x : Str} {p' : Pos} (hN : X.N[i]? = some x) (hv : Vis X.env.scope x) (hb : PE X b (LE X Wc fb)) (hs : PlainIx b := by exact fun _ _ => rfl) (hd : (x == ("__debug__" : Str)) = false := by decide) (hcd : (x == ("__classdict__" : Str)) = false := by decide) :
    PE X (.Subscript (.Name x p') b pos) (LE X Wc (fIxO i fb)) := PE.imp (pe_ix ix_seq (pe_var hN hv hd hcd) hb hs) fun σ H Q h => by
  obtain ⟨F, D, m, ρ, S, r, c⟩ := h
  unfold fIxO at c
  split at c
  · rename_i xs e
    obtain ⟨a, vs, e1, _, _⟩ := own_lst r e
    refine ⟨_, e1, ?_⟩
    refine step r c fun F1 m1 y v S1 H1 l1 p1 r1 ey c1 => ?_
    obtain ⟨a', vs', e1', h1, q⟩ := own_lst r1 e
    rw [e1] at e1'
    cases e1'
    rcases rep_int ey with ⟨k, rfl, rfl⟩ | n
    · unfold ixO at c1
      dsimp only at c1
      split at c1
      · rename_i z ez
        obtain ⟨w, k1, k2⟩ := paired_at q ez
        exact .inl ⟨a, vs', k, w, rfl, rfl, .inl (.inl h1), k1, rt r1 c1 k2⟩
      · exact c1.elim
    · unfold ixO at c1
      split at c1
      · exact absurd rfl (n _)
      · exact c1.elim
  · rename_i x e
    obtain ⟨u, e1, ru⟩ := r.s.sl i _ e
    refine ⟨u, e1, ?_⟩
    refine step r c fun F1 m1 y v S1 H1 l1 p1 r1 ey c1 => ?_
    exact f_ix F1 D m1 ρ S1 σ H1 x y u v Q r1 (RepW.mono l1 p1 ru) ey c1
  · exact c.elim
/-- == and != of a list that x alone holds -/
def cmpO (neg : Bool) (xs : List W) (y : W) (S : List Ob) : Res W := match dats xs, y with
  | some ds, .d y => if SeqAt.shaped (.list ds) && SeqAt.shaped y then .ok (.d (.bool (neg ^^ PyData.eqv (.list ds) y))) S else .bad
  | _, _ => .bad
def fCmpO (neg : Bool) (i : Nat) (fb : FE) : FE := fun ρ S => match ρ[i]? with
  | some (.own (.lst xs)) => (fb ρ S).bind (cmpO neg xs)
  | some (.w (.d (.list ds))) => (fb ρ S).bind (cmpO neg (ds.map .d))
  | _ => .bad
theorem dats_same : ∀ ds : List PyData, dats (ds.map .d) = some ds
  | [] => rfl
  | d :: r => by show (dats (r.map .d)).map (d :: ·) = _; rw [dats_same r]; rfl
theorem cmpO_imp {i : Nat} {neg : Bool} {σ : St} {H : Hp} {Q : VK} (h : LE X Wc (fCmpO neg i fb) σ H Q) : tOp (fun x y H Q => ∃ d e, Dp X.K H x d ∧ Dp X.K H y e ∧ SeqAt.shaped d = true ∧ SeqAt.shaped e = true ∧ Q (.bl (neg ^^ PyData.eqv d e)) H) (tVar i) (LE X Wc fb) σ H Q := by
  obtain ⟨F, D, m, ρ, S, r, c⟩ := h
  unfold fCmpO at c
  split at c
  · rename_i xs e
    obtain ⟨a, vs, e1, _, _⟩ := own_lst r e
    refine ⟨_, e1, ?_⟩
    refine step r c fun F1 m1 y v S1 H1 l1 p1 r1 ey c1 => ?_
    obtain ⟨a', vs', e1', h1, q⟩ := own_lst r1 e
    rw [e1] at e1'
    cases e1'
    cases y with
    | ref n =>
      unfold cmpO at c1
      cases z : dats xs with
      | none => rw [z] at c1; exact c1.elim
      | some ds => rw [z] at c1; exact c1.elim
    | d y =>
      unfold cmpO at c1
      cases z : dats xs with
      | none => rw [z] at c1; exact c1.elim
      | some ds =>
        rw [z] at c1
        dsimp only at c1
        split at c1
        · rename_i hh
          rw [Bool.and_eq_true] at hh
          exact ⟨.list ds, y, Dp.lst (.inl (.inl h1)) (Le.dps r1.b.fr _ _ (dats_rep z q)), Le.dp r1.b.fr _ _ ey, hh.1, hh.2, rt r1 c1 (Dp.bl _)⟩
        · exact c1.elim
  · rename_i ds e
    obtain ⟨w, e1, rw'⟩ := r.s.sl i _ e
    refine ⟨w, e1, ?_⟩
    refine step r c fun F1 m1 y v S1 H1 l1 p1 r1 ey c1 => ?_
    unfold cmpO at c1
    rw [dats_same] at c1
    cases y with
    | ref n => exact c1.elim
    | d y =>
      dsimp only at c1
      split at c1
      · rename_i hh
        rw [Bool.and_eq_true] at hh
        exact ⟨.list ds, y, Le.dp (l1.trans r1.b.fr) _ _ rw', Le.dp r1.b.fr _ _ ey, hh.1, hh.2, rt r1 c1 (Dp.bl _)⟩
      · exact c1.elim
  · exact c.elim
theorem op_eqX (hu : X.A.units + 64 < cLine) : OpR X (compareOp .Eq) (fun x y H Q => ∃ d e, Dp X.K H x d ∧ Dp X.K H y e ∧ SeqAt.shaped d = true ∧ SeqAt.shaped e = true ∧ Q (.bl (false ^^ PyData.eqv d e)) H) := fun pins s σ H x y v u Q I r1 r2 ⟨d, e, h1, h2, h3, h4, q⟩ =>
  op_eqD hu pins s σ H x y v u Q I r1 r2 ⟨d, e, Dp.weak _ _ h1, Dp.weak _ _ h2, h3, h4, by rw [Bool.false_xor] at q; exact q⟩
theorem op_neX (hu : X.A.units + 64 < cLine) : OpR X (compareOp .NotEq) (fun x y H Q => ∃ d e, Dp X.K H x d ∧ Dp X.K H y e ∧ SeqAt.shaped d = true ∧ SeqAt.shaped e = true ∧ Q (.bl (true ^^ PyData.eqv d e)) H) := fun pins s σ H x y v u Q I r1 r2 ⟨d, e, h1, h2, h3, h4, q⟩ =>
  op_neD hu pins s σ H x y v u Q I r1 r2 ⟨d, e, Dp.weak _ _ h1, Dp.weak _ _ h2, h3, h4, by rw [Bool.true_xor] at q; exact q⟩
theorem q_eqO {i : Nat} {x : Str} {p' : Pos} (hu : X.A.units + 64 < cLine) (hN : X.N[i]? = some x) (hv : Vis X.env.scope x) (hb : PE X b (LE X Wc fb)) (hd : (x == ("__debug__" : Str)) = false := by decide) (hcd : (x == ("__classdict__" : Str)) = false := by decide) :
    PE X (.Compare (.Name x p') [.Eq] [b] pos) (LE X Wc (fCmpO false i fb)) := PE.imp (pe_cmpR (op_eqX hu) (pe_var hN hv hd hcd) hb (nomark _)) fun _ _ _ h => cmpO_imp h
theorem q_neO {i : Nat} {x : Str} {p' : Pos} (hu : X.A.units + 64 < cLine) (hN : X.N[i]? = some x) (hv : Vis X.env.scope x) (hb : PE X b (LE X Wc fb)) (hd : (x == ("__debug__" : Str)) = false := by decide) (hcd : (x == ("__classdict__" : Str)) = false := by decide) :
    PE X (.Compare (.Name x p') [.NotEq] [b] pos) (LE X Wc (fCmpO true i fb)) := PE.imp (pe_cmpR (op_neX hu) (pe_var hN hv hd hcd) hb (nomark _)) fun _ _ _ h => cmpO_imp h
theorem t_eqO {i : Nat} {x : Str} {p' : Pos} (hu : X.A.units + 64 < cLine) (hN : X.N[i]? = some x) (hv : Vis X.env.scope x) (hb : PE X b (LE X Wc fb)) (hd : (x == ("__debug__" : Str)) = false := by decide) (hcd : (x == ("__classdict__" : Str)) = false := by decide) :
    PT X (.Compare (.Name x p') [.Eq] [b] pos) (LB X Wc (fT (fCmpO false i fb))) := PT.imp (pt_cmpR (op_eqX hu) (pe_var hN hv hd hcd) hb (nomark _)) fun _ _ _ h => cmpO_imp (t_imp h)
theorem t_neO {i : Nat} {x : Str} {p' : Pos} (hu : X.A.units + 64 < cLine) (hN : X.N[i]? = some x) (hv : Vis X.env.scope x) (hb : PE X b (LE X Wc fb)) (hd : (x == ("__debug__" : Str)) = false := by decide) (hcd : (x == ("__classdict__" : Str)) = false := by decide) :
    PT X (.Compare (.Name x p') [.NotEq] [b] pos) (LB X Wc (fT (fCmpO true i fb))) := PT.imp (pt_cmpR (op_neX hu) (pe_var hN hv hd hcd) hb (nomark _)) fun _ _ _ h => cmpO_imp (t_imp h)
/-- a comparison as a test, by its value's rule -/
theorem t_of {op : CmpOp} {t : TE} {f : FE} (h : PT X (.Compare a [op] [b] pos) (tTest t)) (i : ∀ σ H Q, LE X Wc f σ H Q → t σ H Q) : PT X (.Compare a [op] [b] pos) (LB X Wc (fT f)) := PT.imp h fun _ _ _ h => i _ _ _ (t_imp h)
end
end L2.Q
/-! Layer Q, part H: == over the store, lists as values, slices, isinstance, small built-ins, the store's objects. -/
namespace L2.Q
open PySem PySem.Spec PyProof.Rows

/-- a value as data, the store's lists read -/
def asD : W → List Ob → Option PyData
  | .d x, _ => some x
  | .ref n, S => match S[n]? with
    | some (.lst xs) => (dats xs).map .list
    | _ => none
section
variable {X : Cx} {Wc : WX} {a b e e2 : Expr} {es : List Expr} {pos p : Pos} {fa fb : FE} {fo fo2 : FO} {fl1 : FA} {fr : FA}
theorem asD_rep {Fr Hd : Hp} {μ : List Addr} {ρ : List Sl} {S : List Ob} {σ : St} {H : Hp} (r : R X.K Fr Hd μ ρ S σ H) {x : W} {v : V} {d : PyData} (e : asD x S = some d) (h : RepW X.K Fr μ x v) : Dp X.K H v d := by
  cases x with
  | d x => cases e; exact Le.dp r.b.fr _ _ h
  | ref n =>
    obtain ⟨a, ea, rfl⟩ := h
    have e : (match S[n]? with | some (.lst xs) => (dats xs).map PyData.list | _ => none) = some d := e
    split at e
    · rename_i xs es
      obtain ⟨ho, h1, ⟨vs, rfl, q⟩, _⟩ := r.b.st n a _ ea es
      cases z : dats xs with
      | none => rw [z] at e; cases e
      | some ds =>
        rw [z] at e
        cases e
        exact Dp.lst (.inl (.inl h1)) (Le.dps r.b.fr _ _ (dats_rep z q))
    · cases e
def oEqS (neg : Bool) : W → W → List Ob → Res W := fun x y S => match asD x S, asD y S with
  | some x, some y => if SeqAt.shaped x && SeqAt.shaped y then .ok (.d (.bool (neg ^^ PyData.eqv x y))) S else .bad
  | _, _ => .bad
abbrev rEqX (K : PySem.W.Frag) (neg : Bool) : R2 := fun x y H Q => ∃ d e, Dp K H x d ∧ Dp K H y e ∧ SeqAt.shaped d = true ∧ SeqAt.shaped e = true ∧ Q (.bl (neg ^^ PyData.eqv d e)) H
theorem f_eqS (neg : Bool) : OpF X Wc (rEqX X.K neg) (oEqS neg) := by
  intro Fr Hd μ ρ S σ H x y v u Q r ex ey c
  unfold oEqS at c
  split at c
  · rename_i d1 d2 h1 h2
    split at c
    · rename_i h
      rw [Bool.and_eq_true] at h
      exact ⟨d1, d2, asD_rep r h1 ex, asD_rep r h2 ey, h.1, h.2, rt r c (Dp.bl _)⟩
    · exact c.elim
  · exact c.elim
theorem q_eq (hu : X.A.units + 64 < cLine) (ha : PE X a (LE X Wc fa)) (hb : PE X b (LE X Wc fb)) : PE X (.Compare a [.Eq] [b] pos) (LE X Wc (fBin (oEqS false) fa fb)) := q_cmp (op_eqX hu) (f_eqS false) ha hb (nomark _)
theorem q_ne (hu : X.A.units + 64 < cLine) (ha : PE X a (LE X Wc fa)) (hb : PE X b (LE X Wc fb)) : PE X (.Compare a [.NotEq] [b] pos) (LE X Wc (fBin (oEqS true) fa fb)) := q_cmp (op_neX hu) (f_eqS true) ha hb (nomark _)
theorem t_eq (hu : X.A.units + 64 < cLine) (ha : PE X a (LE X Wc fa)) (hb : PE X b (LE X Wc fb)) : PT X (.Compare a [.Eq] [b] pos) (LB X Wc (fT (fBin (oEqS false) fa fb))) := q_tc (op_eqX hu) (f_eqS false) ha hb (nomark _)
theorem t_ne (hu : X.A.units + 64 < cLine) (ha : PE X a (LE X Wc fa)) (hb : PE X b (LE X Wc fb)) : PT X (.Compare a [.NotEq] [b] pos) (LB X Wc (fT (fBin (oEqS true) fa fb))) := q_tc (op_neX hu) (f_eqS true) ha hb (nomark _)
/-- is, is not of bools -/
def oIsB (neg : Bool) : W → W → List Ob → Res W := fun x y S => match x, y with
  | .d (.bool i), .d (.bool j) => .ok (.d (.bool (neg ^^ decide (i = j)))) S
  | _, _ => .bad
theorem rep_bool {K : PySem.W.Frag} {Fr : Hp} {μ : List Addr} {x : W} {v : V} (r : RepW K Fr μ x v) : (∃ i, x = .d (.bool i) ∧ v = .bl i) ∨ (∀ i, x ≠ .d (.bool i)) := by
  cases x with
  | ref n => exact .inr fun i h => by cases h
  | d x =>
    rcases rep_cases (μ := μ) r with ⟨rfl, rfl⟩ | ⟨b, rfl, rfl⟩ | ⟨i, rfl, rfl⟩ | ⟨z, rfl, rfl⟩ | ⟨a, vs, ds, rfl, rfl, h1, h2⟩ | ⟨a, vs, ds, rfl, rfl, h1, h2⟩
    · exact .inr fun i h => by cases h
    · exact .inl ⟨b, rfl, rfl⟩
    · exact .inr fun i h => by cases h
    · exact .inr fun i h => by cases h
    · exact .inr fun i h => by cases h
    · exact .inr fun i h => by cases h
theorem f_isB (neg : Bool) : OpF X Wc (fun x y H Q => ∃ a b : Bool, x = .bl a ∧ y = .bl b ∧ Q (.bl (neg ^^ decide (a = b))) H) (oIsB neg) := by
  intro Fr Hd μ ρ S σ H x y v u Q r ex ey c
  rcases rep_bool ex with ⟨i, rfl, rfl⟩ | n
  · rcases rep_bool ey with ⟨j, rfl, rfl⟩ | n
    · exact ⟨i, j, rfl, rfl, rt r c (Dp.bl _)⟩
    · unfold oIsB at c
      split at c
      · exact absurd rfl (n _)
      · exact c.elim
  · unfold oIsB at c
    split at c
    · exact absurd rfl (n _)
    · exact c.elim
theorem op_isX : OpR X (compareOp .Is) (fun x y H Q => ∃ a b : Bool, x = .bl a ∧ y = .bl b ∧ Q (.bl (false ^^ decide (a = b))) H) := fun pins s σ H x y v u Q I r1 r2 ⟨a, b, h1, h2, q⟩ => op_isBl pins s σ H x y v u Q I r1 r2 ⟨a, b, h1, h2, by rw [Bool.false_xor] at q; exact q⟩
theorem op_notX : OpR X (compareOp .IsNot) (fun x y H Q => ∃ a b : Bool, x = .bl a ∧ y = .bl b ∧ Q (.bl (true ^^ decide (a = b))) H) := fun pins s σ H x y v u Q I r1 r2 ⟨a, b, h1, h2, q⟩ => op_notBl pins s σ H x y v u Q I r1 r2 ⟨a, b, h1, h2, by rw [Bool.true_xor] at q; exact q⟩
theorem q_isB (ha : PE X a (LE X Wc fa)) (hb : PE X b (LE X Wc fb)) : PE X (.Compare a [.Is] [b] pos) (LE X Wc (fBin (oIsB false) fa fb)) := q_cmp op_isX (f_isB false) ha hb (nomark _)
theorem q_notB (ha : PE X a (LE X Wc fa)) (hb : PE X b (LE X Wc fb)) : PE X (.Compare a [.IsNot] [b] pos) (LE X Wc (fBin (oIsB true) fa fb)) := q_cmp op_notX (f_isB true) ha hb (nomark _)
theorem t_isB (ha : PE X a (LE X Wc fa)) (hb : PE X b (LE X Wc fb)) : PT X (.Compare a [.Is] [b] pos) (LB X Wc (fT (fBin (oIsB false) fa fb))) := q_tc op_isX (f_isB false) ha hb (nomark _)
theorem t_notB (ha : PE X a (LE X Wc fa)) (hb : PE X b (LE X Wc fb)) : PT X (.Compare a [.IsNot] [b] pos) (LB X Wc (fT (fBin (oIsB true) fa fb))) := q_tc op_notX (f_isB true) ha hb (nomark _)

/-! ### + of lists -/
def oCat : W → W → List Ob → Res W := fun x y S => match x, y with
  | .d (.list xs), .d (.list ys) => if xs.length + ys.length ≤ 16777216 then .ok (.d (.list (xs ++ ys))) S else .bad
  | _, _ => .bad
/-- a list that stands in the heap itself, no constant of the module's, no script -/
def LstAt (Fr : Hp) (v : V) : Prop := ∃ a vs, v = .ref a ∧ Fr a = some (.lst vs)
/-- list + list where the right one is new -/
def fCatO (fa : FE) (fo : FO) : FE := fun ρ S => (fa ρ S).bind fun x S1 => (fo ρ S1).bind fun o S2 => match x, o with
  | .d (.list xs), .lst ys => (match dats ys with
    | some ds => if xs.length + ds.length ≤ 16777216 then .ok (.d (.list (xs ++ ds))) S2 else .bad
    | none => .bad)
  | _, _ => .bad
/-! ### slices -/
abbrev FP := List Sl → List Ob → Res (Option Int)
abbrev LP (X : Cx) (Wc : WX) (f : FP) : TO := lift X.K X.mg Wc repP f
def fNoP : FP := fun _ S => .ok none S
def fP (fa : FE) : FP := fun ρ S => (fa ρ S).bind fun x S1 => match x with
  | .d (.int i) => .ok (some i) S1
  | _ => .bad
theorem p_none : PO X none (LP X Wc fNoP) := PO.imp po_none fun σ H Q h => by
  obtain ⟨F, D, m, ρ, S, r, c⟩ := h
  exact c F m none H Le.refl (List.prefix_refl m) r rfl
theorem p_some (h : PE X e (LE X Wc fa)) : PO X (some e) (LP X Wc (fP fa)) := PO.imp (po_some h) fun σ H Q h => by
  obtain ⟨F, D, m, ρ, S, r0, c⟩ := h
  refine step r0 c fun F1 m1 x v S1 H1 l1 p1 r1 e1 c1 => ?_
  rcases rep_int e1 with ⟨i, rfl, rfl⟩ | n
  · exact ⟨i, rfl, c1 F1 m1 _ H1 Le.refl (List.prefix_refl m1) r1 rfl⟩
  · split at c1
    · exact absurd rfl (n _)
    · exact c1.elim
/-- a cut of a list -/
def cut {α : Type} (xs : List α) (lo hi : Option Int) : List α := (xs.drop (HT.sIx xs.length 0 lo)).take (HT.sIx xs.length xs.length hi - HT.sIx xs.length 0 lo)
theorem paired_drop {α β : Type} {F : α → β → Prop} : ∀ {l₁ : List α} {l₂ : List β} (n : Nat), Paired F l₁ l₂ → Paired F (l₁.drop n) (l₂.drop n)
  | _, _, 0, h => h
  | _, _, _ + 1, .nil => .nil
  | _, _, n + 1, .cons _ t => paired_drop n t
theorem paired_take {α β : Type} {F : α → β → Prop} : ∀ {l₁ : List α} {l₂ : List β} (n : Nat), Paired F l₁ l₂ → Paired F (l₁.take n) (l₂.take n)
  | _, _, 0, _ => .nil
  | _, _, _ + 1, .nil => .nil
  | _, _, n + 1, .cons r t => .cons r (paired_take n t)
theorem dps_drop {K : PySem.W.Frag} {F : Hp} : ∀ {ds : List PyData} {vs : List V} (n : Nat), DpAll K F vs ds → DpAll K F (vs.drop n) (ds.drop n)
  | _, _, 0, h => h
  | [], _, _ + 1, h => by cases h; exact .nil
  | _ :: _, _, n + 1, h => by cases h with | cons _ t => exact dps_drop n t
theorem dps_take {K : PySem.W.Frag} {F : Hp} : ∀ {ds : List PyData} {vs : List V} (n : Nat), DpAll K F vs ds → DpAll K F (vs.take n) (ds.take n)
  | _, _, 0, h => .nil
  | [], _, _ + 1, h => by cases h; exact .nil
  | _ :: _, _, n + 1, h => by cases h with | cons r t => exact .cons r (dps_take n t)
theorem dps_cut {K : PySem.W.Frag} {F : Hp} {ds : List PyData} {vs : List V} (lo hi : Option Int) (h : DpAll K F vs ds) : DpAll K F (cutV vs lo hi) (cut ds lo hi) := by
  unfold cutV cut
  rw [DpAll.len h]
  exact dps_take _ (dps_drop _ h)
theorem cut_whole {α : Type} {xs : List α} {lo hi : Option Int} (h : HT.sIx xs.length 0 lo = 0 ∧ HT.sIx xs.length xs.length hi = xs.length) : cut xs lo hi = xs := by
  unfold cut
  rw [h.1, h.2]
  simp
def cutOf (x : W) (lo hi : Option Int) (S : List Ob) : Res W := match x with
  | .d (.tuple xs) => .ok (.d (.tuple (cut xs lo hi))) S
  | .d (.list xs) => .ok (.d (.list (cut xs lo hi))) S
  | .d (.str z) => if z.length ≤ 16777216 then .ok (.d (.str (cutS z lo hi))) S else .bad
  | _ => .bad
def fCut (fa : FE) (fl fh : FP) : FE := fun ρ S => (fa ρ S).bind fun x S1 => (fl ρ S1).bind fun lo S2 => (fh ρ S2).bind fun hi S3 => cutOf x lo hi S3
theorem new_lstV {Fr Hd : Hp} {μ : List Addr} {ρ : List Sl} {S : List Ob} {σ : St} {H : Hp} {Q : VK} {ds : List PyData} {vs : List V} {q : Addr} (r : R X.K Fr Hd μ ρ S σ H) (e : DpAll X.K Fr vs ds) (hq : H q = none)
    (c : cont X.K X.mg Wc (repE X.K) Fr Hd μ ρ σ Q (.ok (.d (.list ds)) S)) : Q (.ref q) (upd H q (.lst vs)) := by
  have f := r.new hq
  have le : Le Fr (upd Fr q (.lst vs)) := Le.upd f.fr
  exact c _ μ (.ref q) _ le (List.prefix_refl μ) ((r.upd (o := .lst vs) f).freeze upd_same f) (Dp.lst (.inl (.inl upd_same)) (Le.dps le _ _ e))
variable {p2 : Pos} {lo hi : Option Expr} {flo fh : FP}
theorem q_cut (ha : PE X a (LE X Wc fa)) (hl : PO X lo (LP X Wc flo)) (hh : PO X hi (LP X Wc fh)) : PE X (.Subscript a (.Slice lo hi none p2) pos) (LE X Wc (fCut fa flo fh)) :=
  PE.imp (pe_slice (SlR.or sl_tupK (SlR.or sl_list sl_str)) ha hl hh) fun σ H Q h => by
  obtain ⟨F, D, m, ρ, S, r0, c⟩ := h
  refine step r0 c fun F1 m1 x v S1 H1 l1 p1 r1 e1 c1 => ?_
  refine step r1 c1 fun F2 m2 lo u S2 H2 l2 p2 r2 e2 c2 => ?_
  cases e2
  refine step r2 c2 fun F3 m3 hi u S3 H3 l3 p3 r3 e3 c3 => ?_
  cases e3
  have e1 := RepW.mono (l2.trans l3) (p2.trans p3) e1
  cases x with
  | ref n => exact c3.elim
  | d x =>
    rcases rep_cases (μ := m3) e1 with ⟨rfl, rfl⟩ | ⟨b, rfl, rfl⟩ | ⟨i, rfl, rfl⟩ | ⟨z, rfl, rfl⟩ | ⟨a, vs, ds, rfl, rfl, h1, h2⟩ | ⟨a, vs, ds, rfl, rfl, h1, h2⟩
    · exact c3.elim
    · exact c3.elim
    · exact c3.elim
    · unfold cutOf at c3
      dsimp only at c3
      split at c3
      · rename_i hz
        exact .inr (.inr ⟨z, rfl, by rw [sizeLine_eq]; exact hz, rt r3 c3 (Dp.str _)⟩)
      · exact c3.elim
    · exact .inr (.inl ⟨a, vs, rfl, Le.sqL r3.b.fr h1, fun q hq => new_lstV r3 (dps_cut lo hi h2) hq c3⟩)
    · refine .inl ⟨a, vs, rfl, Le.sqT r3.b.fr h1, fun hw => ?_, fun hw => new_tup r3 (dps_cut lo hi h2) c3⟩
      have hw' := hw
      rw [DpAll.len h2] at hw'
      unfold cutOf at c3
      dsimp only at c3
      rw [cut_whole hw'] at c3
      exact rt r3 c3 (Dp.tup h1 h2)

/-! ### isinstance -/
def tyName : PyData → String
  | .none => "NoneType"
  | .bool _ => "bool"
  | .int _ => "int"
  | .str _ => "str"
  | .list _ => "list"
  | .tuple _ => "tuple"
  | .dict _ => "dict"
def wTy (x : W) (S : List Ob) : Option String := match x with
  | .d x => some (tyName x)
  | .ref n => match S[n]? with
    | some (.lst _) => some "list"
    | some (.dct _) => some "dict"
    | some (.fdc _) => none
    | some (.ins _ _) => none
    | some (.dcn _ _) => none
    | none => none
def fIsi (T : String) (fa : FE) : FE := fun ρ S => (fa ρ S).bind fun x S1 => match (wTy x S1).bind fun t => kitB t T with
  | some b => .ok (.d (.bool b)) S1
  | none => .bad
theorem wTy_rep {Fr Hd : Hp} {μ : List Addr} {ρ : List Sl} {S : List Ob} {σ : St} {H : Hp} (r : R X.K Fr Hd μ ρ S σ H) {x : W} {v : V} {t : String} (e : wTy x S = some t) (h : RepW X.K Fr μ x v) : TyX X.K H v (.type t) := by
  have seqT : ∀ {a : Addr} {vs : List V}, L2.SqT X.K H a vs → TyX X.K H (.ref a) (.type "tuple") := fun {a vs} h => by
    rcases h with (h | ⟨o, h⟩) | ⟨o, its, n, h1, h2, _⟩
    · exact .base (.tup h)
    · exact .fTuple h
    · exact .kTuple h1 h2
  have seqL : ∀ {a : Addr} {vs : List V}, SqL X.K H a vs → TyX X.K H (.ref a) (.type "list") := fun {a vs} h => by
    rcases h with (h | ⟨o, h⟩) | ⟨o, its, n, h1, h2, _⟩
    · exact .base (.lst h)
    · exact .base (.frz h)
    · exact .kList h1 h2
  cases x with
  | d x =>
    cases e
    rcases rep_cases (μ := μ) h with ⟨rfl, rfl⟩ | ⟨b, rfl, rfl⟩ | ⟨i, rfl, rfl⟩ | ⟨z, rfl, rfl⟩ | ⟨a, vs, ds, rfl, rfl, h1, h2⟩ | ⟨a, vs, ds, rfl, rfl, h1, h2⟩
    · exact .base .non
    · exact .base (.bl _)
    · exact .base (.int _)
    · exact .base (.str _)
    · exact seqL (Le.sqL r.b.fr h1)
    · exact seqT (Le.sqT r.b.fr h1)
  | ref n =>
    obtain ⟨a, ea, rfl⟩ := h
    unfold wTy at e
    dsimp only at e
    split at e
    · rename_i xs es
      cases e
      obtain ⟨ho, h1, ⟨vs, rfl, q⟩, _⟩ := r.b.st n a _ ea es
      exact .base (.lst h1)
    · rename_i kvs es
      cases e
      obtain ⟨ho, h1, ⟨vs, rfl, q⟩, _⟩ := r.b.st n a _ ea es
      exact .base (.dK h1)
    all_goals cases e
theorem q_isi {T : Str} {n : String} {pt : Pos} (hg : Gl X "isinstance") (hm : X.mg "isinstance" = none) (hgT : Gl X T) (hmT : X.mg T = none) (hvT : bootBuiltins T = some (.type n)) (h : PE X e (LE X Wc fa))
    (hnT : T ≠ "__name__" := by decide) (hdT : (T == ("__debug__" : Str)) = false := by decide) (hs : starEach [e, .Name T pt] X.env = (false, eval e X.env) :: starEach [.Name T pt] X.env := by rfl) (hs2 : starEach [.Name T pt] X.env = (false, eval (.Name T pt) X.env) :: starEach [] X.env := by rfl) (hpl : (backTo pos (starEach [.Name T pt] X.env)).any (·.1) = false := by rfl) :
    PE X (.Call (.Name "isinstance" p) [e, .Name T pt] [] pos) (LE X Wc (fIsi n fa)) :=
  PE.imp (pe_callB call_isi hg hm (by decide +kernel) (pa_cons h (pa_cons (pe_bltn (v := .ty n) hgT hmT hvT rfl hnT hdT) pa_nil hs2) hs) (he := hs) (hpl := hpl)) fun σ H Q h => by
  obtain ⟨F, D, m, ρ, S, r0, c⟩ := h
  refine step r0 c fun F1 m1 x v S1 H1 l1 p1 r1 e1 c1 => ?_
  show rIsi X.K [v, .ty n] H1 Q
  split at c1
  · rename_i b hb
    cases ht : wTy x S1 with
    | none => rw [ht] at hb; cases hb
    | some t =>
      rw [ht] at hb
      exact ⟨v, .ty n, .type t, .type n, b, rfl, .ty n, wTy_rep r1 ht e1, kit_ty hb, rt r1 c1 (Dp.bl _)⟩
  · exact c1.elim
/-- int(..) of an int or a bool, abs, min, max of two ints -/
def toI (x : W) (S : List Ob) : Res W := match x with
  | .d (.int i) => .ok (.d (.int i)) S
  | .d (.bool k) => .ok (.d (.int (if k then 1 else 0))) S
  | _ => .bad
def fInt (fa : FE) : FE := fun ρ S => (fa ρ S).bind toI
theorem q_toI (hg : Gl X "int") (hm : X.mg "int" = none) (h : PE X e (LE X Wc fa)) (hs : starEach [e] X.env = (false, eval e X.env) :: starEach [] X.env := by rfl) (hpl : (backTo pos (starEach [] X.env)).any (·.1) = false := by rfl) : PE X (.Call (.Name "int" p) [e] [] pos) (LE X Wc (fInt fa)) :=
  PE.imp (pe_callTy call_int1 hg hm (by decide +kernel) (pa_cons h pa_nil hs) (he := hs) (hpl := hpl)) fun σ H Q h => by
  obtain ⟨F, D, m, ρ, S, r0, c⟩ := h
  refine step r0 c fun F1 m1 x v S1 H1 l1 p1 r1 e1 c1 => ?_
  rcases rep_int e1 with ⟨i, rfl, rfl⟩ | n
  · exact .inl ⟨i, rfl, rt r1 c1 (Dp.int _)⟩
  · rcases rep_bool e1 with ⟨i, rfl, rfl⟩ | n2
    · exact .inr ⟨i, rfl, rt r1 c1 (Dp.int _)⟩
    · unfold toI at c1
      split at c1
      · exact absurd rfl (n _)
      · exact absurd rfl (n2 _)
      · exact c1.elim
def oAbs (x : W) (S : List Ob) : Res W := match x with
  | .d (.int i) => .ok (.d (.int (if i < 0 then -i else i))) S
  | _ => .bad
theorem q_abs (hg : Gl X "abs") (hm : X.mg "abs" = none) (h : PE X e (LE X Wc fa)) (hs : starEach [e] X.env = (false, eval e X.env) :: starEach [] X.env := by rfl) (hpl : (backTo pos (starEach [] X.env)).any (·.1) = false := by rfl) : PE X (.Call (.Name "abs" p) [e] [] pos) (LE X Wc (fUn oAbs fa)) :=
  PE.imp (pe_callB call_abs hg hm (by decide +kernel) (pa_cons h pa_nil hs) (he := hs) (hpl := hpl)) fun σ H Q h => by
  obtain ⟨F, D, m, ρ, S, r0, c⟩ := h
  refine step r0 c fun F1 m1 x v S1 H1 l1 p1 r1 e1 c1 => ?_
  rcases rep_int e1 with ⟨i, rfl, rfl⟩ | n
  · exact ⟨i, rfl, rt r1 c1 (Dp.int _)⟩
  · unfold oAbs at c1
    split at c1
    · exact absurd rfl (n _)
    · exact c1.elim
abbrev oMin := oI yes fun i j => .int (if j < i then j else i)
abbrev oMax := oI yes fun i j => .int (if j > i then j else i)
theorem bin_call {C : Int → Int → Bool} {g : Int → Int → PyData} {g' : Int → Int → V} (hg : ∀ (F : Hp) i j, Dp X.K F (g' i j) (g i j)) {σ : St} {H : Hp} {Q : VK} (h : LE X Wc (fBin (oI C g) fa fb) σ H Q) :
    tCB (fun xs H Q => ∃ i j, xs = [.int i, .int j] ∧ Q (g' i j) H) (tCons (LE X Wc fa) (tCons (LE X Wc fb) tNil)) σ H Q := by
  obtain ⟨F, D, m, ρ, S, r0, c⟩ := h
  refine step r0 c fun F1 m1 x v S1 H1 l1 p1 r1 e1 c1 => ?_
  refine step r1 c1 fun F2 m2 y u S2 H2 l2 p2 r2 e2 c2 => ?_
  obtain ⟨i, j, k1, k2, q⟩ := f_int0 hg F2 D m2 ρ S2 σ H2 x y v u Q r2 (RepW.mono l2 p2 e1) e2 c2
  exact ⟨i, j, by rw [k1, k2], q⟩
theorem q_min2 (hc : X.calm = true) (hg : Gl X "min") (hm : X.mg "min" = none) (h : PE X e (LE X Wc fa)) (h2 : PE X e2 (LE X Wc fb)) (hs : starEach [e, e2] X.env = (false, eval e X.env) :: starEach [e2] X.env := by rfl) (hs2 : starEach [e2] X.env = (false, eval e2 X.env) :: starEach [] X.env := by rfl) (hpl : (backTo pos (starEach [e2] X.env)).any (·.1) = false := by rfl) :
    PE X (.Call (.Name "min" p) [e, e2] [] pos) (LE X Wc (fBin oMin fa fb)) := PE.imp (pe_callB (call_min2 hc) hg hm (by decide +kernel) (pa_cons h (pa_cons h2 pa_nil hs2) hs) (he := hs) (hpl := hpl)) fun σ H Q h => bin_call (g' := fun i j => .int (if j < i then j else i)) (fun _ _ _ => .int _) h
theorem q_max2 (hc : X.calm = true) (hg : Gl X "max") (hm : X.mg "max" = none) (h : PE X e (LE X Wc fa)) (h2 : PE X e2 (LE X Wc fb)) (hs : starEach [e, e2] X.env = (false, eval e X.env) :: starEach [e2] X.env := by rfl) (hs2 : starEach [e2] X.env = (false, eval e2 X.env) :: starEach [] X.env := by rfl) (hpl : (backTo pos (starEach [e2] X.env)).any (·.1) = false := by rfl) :
    PE X (.Call (.Name "max" p) [e, e2] [] pos) (LE X Wc (fBin oMax fa fb)) := PE.imp (pe_callB (call_max2 hc) hg hm (by decide +kernel) (pa_cons h (pa_cons h2 pa_nil hs2) hs) (he := hs) (hpl := hpl)) fun σ H Q h => bin_call (g' := fun i j => .int (if j > i then j else i)) (fun _ _ _ => .int _) h

/-! ### objects of the store -/
/-- a new object goes to the store -/
def fSto (fo : FO) : FE := fun ρ S => (fo ρ S).bind fun o S1 => .ok (.ref S1.length) (S1 ++ [o])
theorem R.stoT {Fr Hd : Hp} {μ : List Addr} {ρ : List Sl} {S : List Ob} {σ : St} {H : Hp} {q : Addr} {o : Ob} {ho : HO} (r : R X.K Fr Hd μ ρ S σ H) (h : H q = some ho) (eT : RepT X.K Fr μ q o ho) (eN : frO o ho = none) (f : Free Fr Hd μ ρ σ q) : R X.K Fr Hd (μ ++ [q]) ρ (S ++ [o]) σ H := by
  have pre : μ <+: μ ++ [q] := List.prefix_append μ [q]
  have hl := r.b.len
  refine ⟨⟨r.b.fr, r.b.hd, by simp [hl], fun n a x e1 e2 => ?_, ?_⟩, r.s.len, fun i x ei => ?_, r.s.inj⟩
  · by_cases hn : n < μ.length
    · rw [List.getElem?_append_left hn] at e1
      rw [List.getElem?_append_left (by omega)] at e2
      obtain ⟨h1, k1, k2, k3⟩ := r.b.st n a x e1 e2
      exact ⟨h1, k1, k2.mono Le.refl pre, k3⟩
    · rw [List.getElem?_append_right (by omega)] at e1
      rw [List.getElem?_append_right (by omega)] at e2
      have hz : n - μ.length = 0 := by
        cases z : n - μ.length with
        | zero => rfl
        | succ k => rw [z] at e1; simp at e1
      rw [hz] at e1
      rw [← hl, hz] at e2
      cases e1
      cases e2
      exact ⟨ho, h, eT.mono Le.refl pre, f.fr.trans eN.symm, f.hd⟩
  · refine List.nodup_append.mpr ⟨r.b.nd, by simp, fun a ha b hb => ?_⟩
    simp at hb
    subst hb
    exact fun z => f.mu (z ▸ ha)
  · have k := r.s.sl i x ei
    cases x with
    | un => trivial
    | w x => obtain ⟨u, e1, e2⟩ := k; exact ⟨u, e1, e2.mono Le.refl pre⟩
    | own x =>
      obtain ⟨a, h1, e1, e2, e3, e4, e5, e6⟩ := k
      refine ⟨a, h1, e1, e2, e3.mono Le.refl pre, e4, e5, fun hm => ?_⟩
      rcases List.mem_append.mp hm with hm | hm
      · exact e6 hm
      · simp at hm
        subst hm
        exact f.ow i ⟨⟨x, ei⟩, e1⟩
theorem R.sto {Fr Hd : Hp} {μ : List Addr} {ρ : List Sl} {S : List Ob} {σ : St} {H : Hp} {q : Addr} {o : Ob} {ho : HO} (r : R X.K Fr Hd μ ρ S σ H) (h : H q = some ho) (e : RepO X.K Fr μ o ho) (f : Free Fr Hd μ ρ σ q) : R X.K Fr Hd (μ ++ [q]) ρ (S ++ [o]) σ H := r.stoT h (RepO.toT (a := q) e).1 (RepO.toT (a := q) e).2 f
theorem q_sto (h : PE X e (LO X Wc fo)) : PE X e (LE X Wc (fSto fo)) := PE.imp h fun σ H Q h => by
  obtain ⟨F, D, m, ρ, S, r0, c⟩ := h
  refine step r0 c fun F1 m1 x v S1 H1 l1 p1 r1 e1 c1 => ?_
  obtain ⟨q, ho, rfl, h1, h2, h3⟩ := e1
  refine c1 F1 (m1 ++ [q]) (.ref q) H1 Le.refl (List.prefix_append m1 [q]) (r1.sto h1 h2 h3) ⟨q, ?_, rfl⟩
  rw [← r1.b.len]
  simp
/-- the n-th object of the store is written -/
theorem R.putT {Fr Hd : Hp} {μ : List Addr} {ρ : List Sl} {S : List Ob} {σ : St} {H : Hp} {n : Nat} {a : Addr} {o : Ob} {ho : HO} (r : R X.K Fr Hd μ ρ S σ H) (ea : μ[n]? = some a) (hf : Fr a = none) (eT : RepT X.K Fr μ a o ho) (eN : frO o ho = none) : R X.K Fr Hd μ ρ (S.set n o) σ (L2.upd H a ho) := by
  have ha : a ∈ μ := List.mem_of_getElem? ea
  obtain ⟨_, _, _, hh, _⟩ := r.b.muH ha
  refine ⟨⟨fun b u q => ?_, fun b u q => ⟨?_, (r.b.hd b u q).2⟩, by simp [r.b.len], fun k b x e1 e2 => ?_, r.b.nd⟩, r.s.len, fun i x ei => ?_, r.s.inj⟩
  · rw [upd_ne (ne_of_none q hf)]; exact r.b.fr b u q
  · rw [upd_ne (ne_of_none q hh)]; exact (r.b.hd b u q).1
  · by_cases q : n = k
    · subst q
      rw [ea] at e1
      cases e1
      have hn : n < S.length := by rw [← r.b.len]; exact (List.getElem?_eq_some_iff.mp ea).1
      rw [List.getElem?_set_self hn] at e2
      cases e2
      exact ⟨ho, upd_same, eT, hf.trans eN.symm, hh⟩
    · rw [List.getElem?_set_ne q] at e2
      obtain ⟨h1, k1, k2⟩ := r.b.st k b x e1 e2
      refine ⟨h1, ?_, k2⟩
      rw [upd_ne]
      · exact k1
      · rintro rfl
        obtain ⟨hn, en⟩ := List.getElem?_eq_some_iff.mp ea
        obtain ⟨hk, ek⟩ := List.getElem?_eq_some_iff.mp e1
        exact q ((List.getElem_inj r.b.nd).mp (en.trans ek.symm))
  · have k := r.s.sl i x ei
    cases x with
    | un => trivial
    | w x => exact k
    | own x =>
      obtain ⟨b, h1, e1, e2, rest⟩ := k
      refine ⟨b, h1, e1, ?_, rest⟩
      rw [upd_ne]
      · exact e2
      · rintro rfl; exact rest.2.2.2 ha
theorem R.put {Fr Hd : Hp} {μ : List Addr} {ρ : List Sl} {S : List Ob} {σ : St} {H : Hp} {n : Nat} {a : Addr} {o : Ob} {ho : HO} (r : R X.K Fr Hd μ ρ S σ H) (ea : μ[n]? = some a) (hf : Fr a = none) (e : RepO X.K Fr μ o ho) : R X.K Fr Hd μ ρ (S.set n o) σ (L2.upd H a ho) := r.putT ea hf (RepO.toT (a := a) e).1 (RepO.toT (a := a) e).2
/-- x[i] = v of a list of the store -/
def setIxS (v x y : W) (ρ : List Sl) (S : List Ob) : Fl := match x, y with
  | .ref n, .d (.int k) => (match S[n]? with
    | some (.lst xs) => (match ixN xs.length k with
      | some j => .nx ρ (S.set n (.lst (xs.set j v)))
      | none => .bad)
    | _ => .bad)
  | _, _ => .bad
def fSetIx (fv fx fy : FE) : FT := fun ρ S => fl (fv ρ S) ρ fun v S1 => fl (fx ρ S1) ρ fun x S2 => fl (fy ρ S2) ρ fun y S3 => setIxS v x y ρ S3
theorem paired_set {α β : Type} {F : α → β → Prop} {a : α} {b : β} (r : F a b) : ∀ {l₁ : List α} {l₂ : List β} (i : Nat), Paired F l₁ l₂ → Paired F (l₁.set i a) (l₂.set i b)
  | _, _, _, .nil => .nil
  | _, _, 0, .cons _ t => .cons r t
  | _, _, i + 1, .cons q t => .cons q (paired_set r i t)
theorem s_setIx {o i v : Expr} {fv fx fy : FE} {tpos : Pos} (hv : PE X v (LE X Wc fv)) (ho : PE X o (LE X Wc fx)) (hi : PE X i (LE X Wc fy)) (hs : swapsWithSole [.Subscript o i tpos] v pos.line X.env = pure false := by rfl) (hw : swappedStores [.Subscript o i tpos] v X.env = pure none := by rfl)
    (h1 : (assignEach [.Subscript o i tpos] X.env).map (·.2) = [assign (.Subscript o i tpos) X.env] := by rfl) (ha : ∀ v, assign (.Subscript o i tpos) X.env v = (do
      let ov ← holding [v] (eval o X.env)
      let iv ← holding [v, ov] (eval i X.env)
      standAt tpos
      holding [v, ov, iv] (setItem ov iv v)
      release [v, ov, iv] []) := by intro _; rfl) : PS X (.Assign [.Subscript o i tpos] v pos) (LS X Wc (fSetIx fv fx fy)) :=
  PS.imp (ps_asg hv (pg_sub ho hi set_list ha) hs hw h1) fun D σ H h => by
  obtain ⟨F, Hd, m, ρ, S, r, c⟩ := h
  refine stepS r c fun F1 m1 v vv S1 H1 l1 p1 r1 e1 c1 => ?_
  show LE X Wc fx σ H1 _
  refine stepS r1 c1 fun F2 m2 x vx S2 H2 l2 p2 r2 e2 c2 => ?_
  refine stepS r2 c2 fun F3 m3 y vy S3 H3 l3 p3 r3 e3 c3 => ?_
  rcases rep_int e3 with ⟨k, rfl, rfl⟩ | n
  · cases x with
    | d x => exact c3.elim
    | ref n =>
      obtain ⟨a, ea, rfl⟩ := e2
      have ea := pre_get p3 ea
      unfold setIxS at c3
      dsimp only at c3
      split at c3
      · rename_i xs es
        split at c3
        · rename_i j ej
          obtain ⟨ho, h1, ⟨vs, rfl, q⟩, hfr, _⟩ := r3.b.st n a _ ea es
          have ev : RepW X.K F3 m3 v vv := RepW.mono (l2.trans l3) (p2.trans p3) e1
          refine ⟨a, vs, k, j, rfl, rfl, h1, by rw [← Paired.length q]; exact ej, ?_⟩
          exact c3 F3 m3 σ _ Le.refl (List.prefix_refl m3) (r3.put ea hfr ⟨_, rfl, paired_set ev j q⟩)
        · exact c3.elim
      · exact c3.elim
  · unfold setIxS at c3
    split at c3
    · exact absurd rfl (n _)
    · exact c3.elim
end
end L2.Q
/-! Layer Q, part I: + of lists, repetition, sorted, append, pop, extend, zip, several targets at once. -/
namespace L2.Q
open PySem PySem.Spec PyProof.Rows

section
variable {X : Cx} {Wc : WX} {a b e e2 : Expr} {es : List Expr} {pos p : Pos} {fa fb : FE} {fo fo2 : FO} {fl1 : FA} {fr : FA}
/-- list + list -/
def rCatS (K : PySem.W.Frag) : R2 := fun x y H Q => ∃ l b xs zs, x = .ref l ∧ y = .ref b ∧ SqL K H l xs ∧ SqL K H b zs ∧ xs.length + zs.length ≤ sizeLine ∧ ∀ p, H p = none → Q (.ref p) (upd H p (.lst (xs ++ zs)))
theorem op_catS : OpR X (binaryOp .Add) (rCatS X.K) := by
  intro pins s σ H x y v u Q I rx ry h
  obtain ⟨l, b, xs, zs, rfl, rfl, hH, hB, hz, q⟩ := h
  cases rx
  cases ry
  obtain ⟨its, r, p1, z⟩ := I.list hH
  obtain ⟨its2, r2, p2, z2⟩ := I.list hB
  have e1 := r.length
  have e2 := r2.length
  obtain ⟨⟨cls, dd, data, sl⟩, n, ho, hc, hdd, hd⟩ := p1
  obtain ⟨⟨cls2, dd2, data2, sl2⟩, n2, ho2, hc2, hdd2, hd2⟩ := p2
  simp only at hc hd hc2 hd2
  subst hc hd hc2 hd2
  refine concat_meets ⟨_, ho, rfl⟩ ⟨_, ho2, rfl⟩ noFill_list_add seq_list_add PySem.F.slot_list_add PySem.F.entry_list_add (PySem.F.args_list_add_2 _ _) (list_addW l b its.toArray its2.toArray n n2 dd dd2 sl sl2 (by simp; omega)) ⟨ho, ho2, ?_⟩
  have ea : its.toArray ++ its2.toArray = (its ++ its2).toArray := by simp
  rw [ea]
  exact ⟨.ref _, _, I.lnew (t' := s.toks) (r.append r2) (by rw [List.length_append]; omega), rfl, q _ I.fresh⟩
/-- + of ints, tuples, lists -/
def oAddA : W → W → List Ob → Res W := fun x y S => match x, y with
  | .d (.list xs), .d (.list ys) => if xs.length + ys.length ≤ 16777216 then .ok (.d (.list (xs ++ ys))) S else .bad
  | x, y => oAdd x y S
theorem f_addA : OpF X Wc (fun x y H Q => rCatS X.K x y H Q ∨ (rI0 (fun i j => .int (i + j)) x y H Q ∨ rCatK X.K x y H Q)) oAddA := by
  intro Fr Hd μ ρ S σ H x y v u Q r ex ey c
  unfold oAddA at c
  split at c
  · rename_i xs ys
    split at c
    · rename_i hl
      cases ex with
      | @lst a vs _ h1 h2 =>
        cases ey with
        | @lst b us _ k1 k2 =>
          have e1 := DpAll.len h2
          have e2 := DpAll.len k2
          exact .inl ⟨a, b, vs, us, rfl, rfl, Le.sqL r.b.fr h1, Le.sqL r.b.fr k1, by rw [sizeLine_eq]; omega, fun q hq => new_lstV r (dps_app h2 k2) hq c⟩
    · exact c.elim
  · exact .inr (f_add Fr Hd μ ρ S σ H _ _ v u Q r ex ey c)
theorem q_add (ha : PE X a (LE X Wc fa)) (hb : PE X b (LE X Wc fb)) : PE X (.BinOp a .Add b pos) (LE X Wc (fBin oAddA fa fb)) := q_op (OpR.or op_catS op_addQ) f_addA ha hb
/-- a new list times an int -/
def oRep (o : Ob) (y : W) (S : List Ob) : Res Ob := match o, y with
  | .lst xs, .d (.int k) => if -(2 ^ 63) ≤ k ∧ k < 2 ^ 63 ∧ xs.length * k.toNat ≤ 16777216 then .ok (.lst (List.replicate k.toNat xs).flatten) S else .bad
  | _, _ => .bad
def fRep (fo : FO) (fb : FE) : FO := fun ρ S => (fo ρ S).bind fun o S1 => (fb ρ S1).bind fun y S2 => oRep o y S2
theorem paired_app {α β : Type} {F : α → β → Prop} : ∀ {l₁ m₁ : List α} {l₂ m₂ : List β}, Paired F l₁ l₂ → Paired F m₁ m₂ → Paired F (l₁ ++ m₁) (l₂ ++ m₂)
  | _, _, _, _, .nil, k => k
  | _, _, _, _, .cons r t, k => .cons r (paired_app t k)
theorem paired_rep {α β : Type} {F : α → β → Prop} {l₁ : List α} {l₂ : List β} (h : Paired F l₁ l₂) : ∀ n : Nat, Paired F (List.replicate n l₁).flatten (List.replicate n l₂).flatten
  | 0 => .nil
  | n + 1 => by
    rw [List.replicate_succ, List.replicate_succ, List.flatten_cons, List.flatten_cons]
    exact paired_app h (paired_rep h n)
theorem q_rep (ha : PE X a (LO X Wc fo)) (hb : PE X b (LE X Wc fb)) : PE X (.BinOp a .Mult b pos) (LO X Wc (fRep fo fb)) := PE.imp (pe_op op_rep ha hb) fun σ H Q h => by
  obtain ⟨F, D, m, ρ, S, r0, c⟩ := h
  refine step r0 c fun F1 m1 o v S1 H1 l1 p1 r1 e1 c1 => ?_
  obtain ⟨q, ho, rfl, h1, h2, h3⟩ := e1
  have r1' := r1.hide h1 h3
  have go : lift X.K X.mg Wc (repE X.K) fb σ H1 fun y H2 => rRep (.ref q) y H2 Q := by
    refine ⟨F1, upd D q ho, m1, ρ, S1, r1', ?_⟩
    cases z : fb ρ S1 with
    | bad => rw [z] at c1; exact c1.elim
    | err w S2 => rw [z] at c1; exact fun F2 m2 C H2 l2 p2 r2 hc => c1 F2 m2 C H2 l2 p2 (r2.unhide (Le.upd h3.hd)) hc
    | ok y S2 =>
      rw [z] at c1
      intro F2 m2 v2 H2 l2 p2 r2 e2
      have c1 : cont X.K X.mg Wc (repO X.K) F1 D m1 ρ σ Q (oRep o y S2) := c1
      have hH := r2.b.hd q ho upd_same
      have r3 := r2.unhide (Le.upd (o := ho) h3.hd)
      rcases rep_int e2 with ⟨k, rfl, rfl⟩ | n
      · cases o with
        | dct kvs => exact c1.elim
        | fdc kvs => exact c1.elim
        | ins c fs => exact c1.elim
        | dcn fz kvs => exact c1.elim
        | lst xs =>
          obtain ⟨vs, rfl, k2⟩ := h2
          unfold oRep at c1
          dsimp only at c1
          split at c1
          · rename_i hk
            have el := Paired.length k2
            refine ⟨q, k, vs, rfl, rfl, hH.1, hk.1, hk.2.1, by rw [sizeLine_eq, ← el]; exact hk.2.2, fun z hz => ?_⟩
            have c2 := cont.mono (Wc := Wc) l2 p2 (fun _ _ z => z) c1
            exact new_lst r3 (paired_rep (RepWs.mono l2 p2 k2) k.toNat) hz c2
          · exact c1.elim
      · unfold oRep at c1
        split at c1
        · exact absurd rfl (n _)
        · exact c1.elim
  exact go
/-! ### sorted -/
def alikes : List PyData → Bool
  | [] => true
  | x :: r => PySem.W.alike x x && r.all (fun y => PySem.W.alike x y && PySem.W.alike y x) && alikes r
theorem alikes_ok : ∀ {ds : List PyData}, alikes ds = true → PySem.W.AllAlike ds
  | [], _ => fun d h => by cases h
  | x :: r, h => fun d hd d' hd' => by
    unfold alikes at h
    rw [Bool.and_eq_true, Bool.and_eq_true, List.all_eq_true] at h
    obtain ⟨⟨h0, h1⟩, h2⟩ := h
    have rest := alikes_ok h2
    rcases List.mem_cons.mp hd with e | k
    · subst e
      rcases List.mem_cons.mp hd' with e | k'
      · subst e; exact h0
      · have := h1 d' k'; rw [Bool.and_eq_true] at this; exact this.1
    · rcases List.mem_cons.mp hd' with e | k'
      · subst e; have := h1 d k; rw [Bool.and_eq_true] at this; exact this.2
      · exact rest d k d' k'
def isTupD : PyData → Bool
  | .tuple (_ :: _) => true
  | _ => false
def noTupD : PyData → Bool
  | .none => false
  | .tuple _ => false
  | _ => true
def sortableD (ds : List PyData) : Bool := ds.all isTupD || ds.all noTupD
theorem sortable_ok {ds : List PyData} (h : sortableD ds = true) : PySem.W.Sortable ds := by
  unfold sortableD at h
  rw [Bool.or_eq_true, List.all_eq_true, List.all_eq_true] at h
  rcases h with h | h
  · refine .inl fun d hd => ?_
    have := h d hd
    unfold isTupD at this
    split at this
    · exact ⟨_, _, rfl⟩
    · cases this
  · refine .inr fun d hd => ?_
    have := h d hd
    constructor
    · intro e
      subst e
      simp [noTupD] at this
    · intro xs e
      subst e
      simp [noTupD] at this
def sortD (ds : List PyData) : List PyData := ds.mergeSort (PySem.W.dataLe false id)
def srt (xs : List W) (S : List Ob) : Res W := match dats xs with
  | some ds => if alikes ds = true ∧ sortableD ds = true ∧ ds.all (fun d => decide (d.depth ≤ 64)) = true then .ok (.d (.list (sortD ds))) S else .bad
  | none => .bad
def fSrt (f : FA) : FE := fun ρ S => (f ρ S).bind srt
def rSrt (K : PySem.W.Frag) : List V → Hp → VK → Prop := fun vs H Q => ∃ (a : Addr) (xs : List V) (ds : List PyData) (F : Hp), vs = [V.ref a] ∧ SqL K H a xs ∧ Le F H ∧ DpAll K F xs ds ∧ PySem.W.AllAlike ds ∧ PySem.W.Sortable ds ∧ (∀ d ∈ ds, d.depth ≤ 64) ∧
  ∀ (ys : List V) (p : Addr), DpAll K F ys (sortD ds) → H p = none → Q (.ref p) (upd H p (.lst ys))
theorem each_of {K : PySem.W.Frag} {H : Hp} : ∀ {ds : List PyData} {xs : List V} {us : List Value}, DpAll K H xs ds → Vals xs us → PySem.W.EachIs (fun (u : Value) (d : PyData) => ∃ x, RelV x u ∧ Dp K H x d) us ds
  | [], _, _, h, r => by cases h; cases r; exact .nil
  | d :: ds, _, _, h, r => by
    cases h with
    | cons h1 h2 =>
      cases r with
      | cons r1 r2 => exact .cons ⟨_, r1, h1⟩ (each_of h2 r2)
theorem of_each {K : PySem.W.Frag} {H : Hp} : ∀ {ds : List PyData} {us : List Value}, PySem.W.EachIs (fun (u : Value) (d : PyData) => ∃ x, RelV x u ∧ Dp K H x d) us ds → ∃ xs, Vals xs us ∧ DpAll K H xs ds
  | [], _, h => by cases h; exact ⟨[], .nil, .nil⟩
  | d :: ds, _, h => by
    cases h with
    | cons h1 h2 =>
      obtain ⟨x, r, k⟩ := h1
      obtain ⟨xs, r2, k2⟩ := of_each h2
      exact ⟨x :: xs, .cons r r2, .cons k k2⟩
theorem cr_srt (hu : X.A.units + 200 < cLine) : CallR X (.builtin "sorted") (rSrt X.K) := by
  intro pins s σ H vs us Q I r h
  obtain ⟨a, xs, ds, F, rfl, hs, le, hd, ha, hk, hdep, q⟩ := h
  obtain ⟨its, rv, hl, hz⟩ := I.list hs
  rw [Vals.ref1 r]
  have e := each_of hd rv
  have el := DpAll.len hd
  have er : PySem.W.EachIs (fun v b => ∃ as, Reads s.heap v (id b) as) its ds := e.mono fun u d ⟨x, r1, h1⟩ => L2.Dp.reads I d x u (Dp.weak _ _ (Le.dp le _ _ h1)) r1
  refine PySem.W.sorted_data (enc := id) hl.isList e er (by rw [List.map_id]; exact ha) (by rw [List.map_id]; exact hk) (by omega) (fun d hd => ?_) fun out ho eo => ?_
  · have := hdep d hd
    show X.A.units + 2 + d.depth < cLine
    omega
  · obtain ⟨ys, ry, ky⟩ := of_each eo
    obtain ⟨ep, he'⟩ := PyProof.Rows.sortedAll_at s.heap its out.toArray
    have h1 := ry.length
    have hlen : ys.length ≤ sizeLine := by omega
    exact ⟨.ref _, upd H (s.heap.objs.size + 1) (.lst ys), I.laid (t' := s.toks) (fun _ _ => PyProof.Rows.sortedAll_old) (Nat.le_succ _) ⟨hlen, out, ep, ry, he'⟩, rfl, q ys _ ky (I.hok.fresh (Nat.le_succ _))⟩
theorem q_srt (hu : X.A.units + 200 < cLine) (hg : Gl X "sorted") (hm : X.mg "sorted" = none) (h : PE X e (LL X Wc fl1)) (hs : starEach [e] X.env = (false, eval e X.env) :: starEach [] X.env := by rfl) (hpl : (backTo pos (starEach [] X.env)).any (·.1) = false := by rfl) : PE X (.Call (.Name "sorted" p) [e] [] pos) (LE X Wc (fSrt fl1)) :=
  PE.imp (pe_callB (cr_srt hu) hg hm (by decide +kernel) (pa_cons h pa_nil hs) (he := hs) (hpl := hpl)) fun σ H Q h => by
  obtain ⟨F, D, m, ρ, S, r0, c⟩ := h
  refine step r0 c fun F1 m1 xs v S1 H1 l1 p1 r1 e1 c1 => ?_
  obtain ⟨a, vs, rfl, e2, e3⟩ := e1
  unfold srt at c1
  cases z : dats xs with
  | none => rw [z] at c1; exact c1.elim
  | some ds =>
    rw [z] at c1
    dsimp only at c1
    split at c1
    · rename_i hh
      have hd := dats_rep z e3
      refine ⟨a, vs, ds, F1, rfl, e2, r1.b.fr, hd, alikes_ok hh.1, sortable_ok hh.2.1, fun d hd => of_decide_eq_true (List.all_eq_true.mp hh.2.2 d hd), fun ys q hys hq => ?_⟩
      exact new_lstV r1 hys hq c1
    · exact c1.elim
end
end L2.Q
/-! Layer Q, part J: try with several clauses, named or not; isinstance of the caught error. -/
namespace L2.Q
open PySem PySem.Spec PyProof.Rows

/-- a clause: its class, the slot of its name, its suite -/
structure Cl where
  c : Value
  slot : Option Nat
  ts : Addr → Value → Option Addr → TS
def endsAt (o : Option Nat) (D : Ends) : Ends := match o with
  | none => D
  | some i => { nx := fun s h => D.nx (s.set i none) h, rt := D.rt, bk := fun s h => D.bk (s.set i none) h, ct := fun s h => D.ct (s.set i none) h }
def slotAt (o : Option Nat) (s : St) (a : Addr) : St := match o with
  | none => s
  | some i => s.set i (some (.ref a))
/-- what the clauses want of an error -/
def wCl (K : PySem.W.Frag) (Wout : WX) (D : Ends) : List Cl → WX
  | [] => Wout
  | k :: r => fun cls d s h => ∃ b, PySem.W.exmOne K cls k.c = some b ∧ (b = true → ∀ a, h a = none → k.ts a cls d (endsAt k.slot D) (slotAt k.slot s a) h) ∧ (b = false → wCl K Wout D r cls d s h)
/-- a clause of the text -/
inductive ClOk (X : Cx) : ExceptHandler → Cl → Prop
  | plain {x : Str} {c : Value} {ts : Addr → Value → Option Addr → TS} {b : Stmt} {bs : List Stmt} {q q' : Pos} (hc : Names X x c)
      (hb : ∀ (a : Addr) (o : Obj) (cls : Value) (d : Option Addr) (pn : List (Addr × Obj)), Zc cls d o → (∃ vs, o.data = .fields vs) → PSs (X.suite a ((a, o) :: pn)) (b :: bs) (ts a cls d)) :
      ClOk X (.ExceptHandler (some (.Name x q)) none (b :: bs) q') ⟨c, none, ts⟩
  | named {x n : Str} {i : Nat} {c : Value} {ts : Addr → Value → Option Addr → TS} {b : Stmt} {bs : List Stmt} {q q' : Pos} (hc : Names X x c) (hi : X.N[i]? = some n) (hn : X.env.kindOf n = some .local)
      (hb : ∀ (a : Addr) (o : Obj) (cls : Value) (d : Option Addr) (pn : List (Addr × Obj)), Zc cls d o → (∃ vs, o.data = .fields vs) → PSs (X.suite a ((a, o) :: pn)) (b :: bs) (ts a cls d)) :
      ClOk X (.ExceptHandler (some (.Name x q)) (some n) (b :: bs) q') ⟨c, some i, ts⟩
inductive ClsOk (X : Cx) : List ExceptHandler → List Cl → Prop
  | nil : ClsOk X [] []
  | cons {e : ExceptHandler} {k : Cl} {es : List ExceptHandler} {ks : List Cl} : ClOk X e k → ClsOk X es ks → ClsOk X (e :: es) (k :: ks)
section
variable {X : Cx} {Wout : WX}
/-- back from a suite: the end, with the clause's name forgotten -/
theorem sp_back {a : Addr} {q : Addr × Obj} {pins : List (Addr × Obj)} {D : Ends} {f : Flow} {s : Shared} (ok : X.Ok) (h : SP (X.suite a (q :: (X.pn ++ pins))) [] D f s) : SP X pins D f s := by
  cases f with
  | next => exact let ⟨s1, h1, I, z⟩ := h; ⟨s1, h1, I.unsuite ok, z⟩
  | brk => exact let ⟨s1, h1, I, z⟩ := h; ⟨s1, h1, I.unsuite ok, z⟩
  | cont => exact let ⟨s1, h1, I, z⟩ := h; ⟨s1, h1, I.unsuite ok, z⟩
  | ret u => exact let ⟨v, s1, h1, I, e, z⟩ := h; ⟨v, s1, h1, I.unsuite ok, e, z⟩
theorem sp_tried {xe : Value → Shared → Prop} {pins : List (Addr × Obj)} {D : Ends} {f : Flow} {s : Shared} (ok : X.Ok) (h : SP (X.tr (X.pn ++ pins) xe) [] D f s) : SP X pins D f s := by
  cases f with
  | next => exact let ⟨s1, h1, I, z⟩ := h; ⟨s1, h1, I.ofTry ok, z⟩
  | brk => exact let ⟨s1, h1, I, z⟩ := h; ⟨s1, h1, I.ofTry ok, z⟩
  | cont => exact let ⟨s1, h1, I, z⟩ := h; ⟨s1, h1, I.ofTry ok, z⟩
  | ret u => exact let ⟨v, s1, h1, I, e, z⟩ := h; ⟨v, s1, h1, I.ofTry ok, e, z⟩
theorem ps_try_cl {body : List Stmt} {e₀ : ExceptHandler} {es : List ExceptHandler} {ks : List Cl} {pos : Pos} {tb : WX → TS} (hs : X.stack = X.env :: X.outer) (hf : X.env.frame = some X.env.locals) (hN : X.N.Nodup) (tk : Takes X Wout)
    (hb : ∀ (W : WX) (pn : List (Addr × Obj)) (xe : Value → Shared → Prop), Takes (X.tr pn xe) W → PassesOwn (model X.prog X.w) X.A X.env xe → PSs (X.tr pn xe) body (tb W))
    (hk : ClsOk X (e₀ :: es) ks) : PS X (.Try body (e₀ :: es) [] [] pos) (fun D s h => tb (wCl X.K Wout D ks) D s h) := by
  refine ⟨fun pins s σ H D I start => ?_⟩
  have ok := I.ok
  have frames : X.A.frames = some (X.env :: X.outer) := ok.frames.trans (by rw [hs])
  refine wpAny_Try_except (wpAny_mono ((hb (wCl X.K Wout D ks) (X.pn ++ pins) _ (fun u t air => ?_) PassesOwn.looking).run [] s σ H D (I.toTry _) start) (fun f t z => ?_) fun _ _ z => z)
  -- first: the body's own ends
  rotate_left
  · have z' := sp_tried ok z
    cases f with
    | next => exact wpAny_execs_nil z'
    | brk => exact z'
    | cont => exact z'
    | ret u => exact z'
  -- then: an error of the body is in the air
  obtain ⟨a, B, t0, pins0, s0, h0, cls, d, rfl, J0, ground, slots, sky, free, os, bare, wish⟩ := air
  have J : Inv X pins s0 h0 t0 := J0.ofTry ok
  refine Sky.land Zc.steady frames hf (show Sky B (X.env :: X.outer) a (Zc cls d) X.env.locals t.heap from hs ▸ sky) fun hp fly more => ?_
  have K1 : Inv X pins s0 h0 { t with heap := hp } := J.landed ground fly.1 (slots.trans more) os bare
  obtain ⟨ob, fs, e1, z1, d1⟩ := fly.there
  have away : a ∉ frs (X.env :: X.outer) := fun m => by
    obtain ⟨_, o2, e2, nf⟩ := fly.2.2.1.mem m
    cases e1.symm.trans e2
    exact nf _ d1
  have aL : a ≠ X.env.locals := fun q => away (List.mem_filterMap.mpr ⟨X.env, List.mem_cons_self, by rw [hf, q]⟩)
  have aF : a ∉ X.fs := fun m => by
    obtain ⟨v, hv, q⟩ := List.mem_filterMap.mp m
    exact away (List.mem_filterMap.mpr ⟨v, List.mem_cons_of_mem _ hv, q⟩)
  have S1 := K1.suite e1 d1 free aL aF
  have clauses : ∀ {hs' : List ExceptHandler} {ks' : List Cl}, ClsOk X hs' ks' → wCl X.K Wout D ks' cls d s0 h0 → wpAny (model X.prog X.w) X.A (handleBy (.ref a) X.env hs') (SP X pins D) X.xe { t with heap := hp } := by
    intro hs' ks' ck
    induction ck with
    | nil =>
      intro out
      refine wpAny_handleBy_nil ?_
      obtain ⟨_, _, _, oe, vs, T, _, _, he, _, hd, hv, _⟩ := id fly
      unfold PySem.passOn
      refine wpAny_bind (wpAny_field he hd hv ?_)
      rw [if_neg (show ¬ (Value.ref T == Value.none) = true by simp)]
      have up : wpAny (model X.prog X.w) X.A (setFlight (.ref a) X.env.frame) (fun _ t4 => wpAny (model X.prog X.w) X.A (throw (.ref a) : Sem Flow) (SP X pins D) X.xe t4) X.xe { t with heap := hp } := by
        rw [hf]
        refine HandSPX.setFlight_upZ fly fun h4 held on => wpAny_throw (tk _ _ ⟨a, B, t0, pins, s0, h0, cls, d, rfl, J, ground, (slots.trans more).trans on, .inr (.inr (by rw [hs]; exact held)), free, os, bare, out⟩)
      first
        | exact wpAny_bind (wpAny_pure (wpAny_bind up))
        | exact wpAny_bind up
    | @cons e k es ks one rest ih =>
      intro out
      obtain ⟨b, ask, yes, no⟩ := out
      have LT : PySem.W.Looks (model X.prog X.w) hp (typeOf (.ref a)) cls := fun _ _ _ _ kp q => wpAny_typeOf_ref (kp _ _ e1) (by rw [z1.1]; exact q)
      have look := PySem.W.exm_one (M := model X.prog X.w) K1.kIn LT ask
      have test : ∀ {x : Str} {np : Pos} {c : Value} {Q E : Value → Shared → Prop}, Names X x c → Q c { t with heap := hp } → wpAny (model X.prog X.w) (X.A.mark (some (.ref a))) (eval (.Name x np) X.env) Q E { t with heap := hp } := fun {x np c Q E} nm q => by
        obtain ⟨g, db, m | ⟨m, v, nn⟩⟩ := nm
        · exact ld_glob (X := X.suite a ((a, ob) :: (X.pn ++ pins))) S1 g m q db
        · exact ld_blt (X := X.suite a ((a, ob) :: (X.pn ++ pins))) S1 g m v q nn db
      cases one with
      | plain hc hbd =>
        refine wpAny_handleBy_cons (codeAny_handlers_test (test hc (look.here ?_))) (fun q => nomatch q)
        cases b with
        | false => exact ih (no rfl)
        | true =>
          refine codeAny_handlers_suite (HandSPX.lands_againZ fly fun h4 f4 on => ?_)
          have J4 : Inv X pins s0 h0 { t with heap := h4 } := J.landed ground f4.1 ((slots.trans more).trans on) os bare
          obtain ⟨o4, v4, e4, z4, d4⟩ := f4.there
          have S4 := J4.suite e4 d4 free aL aF
          refine wpAny_mono ((hbd a o4 cls d (X.pn ++ pins) z4 ⟨_, d4⟩).run [] _ _ h0 _ S4 (yes rfl a free)) (fun f t6 z => ?_) (fun _ _ z => z.elim)
          have z' := sp_back ok z
          cases f with
          | next => exact z'
          | brk => exact z'
          | cont => exact z'
          | ret u => exact z'
      | @named _ n i _ _ _ _ _ qe hc hi hn hbd =>
        refine wpAny_handleBy_cons (codeAny_handlers_test (test hc (look.here ?_))) (fun q => nomatch q)
        cases b with
        | false => exact ih (no rfl)
        | true =>
          refine codeAny_handlers_suite_as (HandSPX.lands_againZ fly fun h4 f4 on => ?_)
          have J4 : Inv X pins s0 h0 { t with heap := h4 } := J.landed ground f4.1 ((slots.trans more).trans on) os bare
          obtain ⟨o4, v4, e4, z4, d4⟩ := f4.there
          have S4 := J4.suite e4 d4 free aL aF
          refine store_ok (X := X.suite a ((a, o4) :: (X.pn ++ pins))) (v := .ref a) S4 hN hi (.inl hn) rfl (fun t5 S5 => ?_) (.inr hn)
          refine wpAny_mono ((hbd a o4 cls d (X.pn ++ pins) z4 ⟨_, d4⟩).run [] t5 _ h0 _ S5 (yes rfl a free)) (fun f t6 z => ?_) (fun _ _ z => z.elim)
          have name_gone : ∀ {s6 : St} {h6 : Hp} {Q : Shared → Prop}, Inv (X.suite a ((a, o4) :: (X.pn ++ pins))) [] s6 h6 t6 → (∀ t7, Inv X pins (s6.set i none) h6 t7 → Q t7) → wpAny (model X.prog X.w) X.A (do bindName X.env n .none; unbindBehindTheSuite X.env n qe) (fun _ t7 => Q t7) X.xe t6 :=
            fun {s6 h6 Q} S6 go => gone_ok (S6.unsuite ok) hN hi hn go
          cases f with
          | next => exact let ⟨_, _, S6, z6⟩ := z; name_gone S6 fun _ J7 => ⟨_, _, J7, z6⟩
          | brk => exact let ⟨_, _, S6, z6⟩ := z; name_gone S6 fun _ J7 => ⟨_, _, J7, z6⟩
          | cont => exact let ⟨_, _, S6, z6⟩ := z; name_gone S6 fun _ J7 => ⟨_, _, J7, z6⟩
          | ret u => exact let ⟨_, _, _, S6, e6, z6⟩ := z; name_gone S6 fun _ J7 => ⟨_, _, _, J7, e6, z6⟩
  exact clauses hk wish
end

/-! ### by functions -/
/-- a clause's function: its class's name, the slot of its name, the suite by the class's name of the error -/
structure CF where
  c : Str
  slot : Option Nat
  f : Str → FT
/-- no error leaves a suite -/
def quiet (x : Fl) : Fl := match x with
  | .ex _ _ _ => .bad
  | .nx ρ S => .nx ρ S
  | .bk ρ S => .bk ρ S
  | .ct ρ S => .ct ρ S
  | .rt r S => .rt r S
  | .bad => .bad
def unSlot (o : Option Nat) (ρ : List Sl) : List Sl := match o with
  | none => ρ
  | some i => ρ.set i .un
def endSlot (o : Option Nat) (x : Fl) : Fl := match x with
  | .ex c ρ S => .ex c ρ S
  | .nx ρ S => .nx (unSlot o ρ) S
  | .bk ρ S => .bk (unSlot o ρ) S
  | .ct ρ S => .ct (unSlot o ρ) S
  | .rt r S => .rt r S
  | .bad => .bad
def handle (sub : Str → Str → Bool) (c : Str) (ρ : List Sl) (S : List Ob) : List CF → Fl
  | [] => .ex c ρ S
  | k :: r => if sub c k.c = true then endSlot k.slot (quiet (k.f c (unSlot k.slot ρ) S)) else handle sub c ρ S r
def fTry (sub : Str → Str → Bool) (ds : List Str) (fb : FT) (ks : List CF) : FT := fun ρ S => match fb ρ S with
  | .ex c ρ' S' => if c ∈ ds then handle sub c ρ' S' ks else .bad
  | x => x
/-- which class lies under which -/
def Subs (K : PySem.W.Frag) (mg : Str → Option Value) (sub : Str → Str → Bool) (ds cs : List Str) : Prop :=
  ∀ d ∈ ds, ∀ c ∈ cs, ∀ (C D : Addr), mg d = some (.ref D) → mg c = some (.ref C) → PySem.W.exmOne K (.ref D) (.ref C) = some (sub d c)
/-- the suite's reading, by the class's name -/
def tCl (K : PySem.W.Frag) (mg : Str → Option Value) (o : Option Nat) (f : Str → FT) : Addr → Value → Option Addr → TS := fun a cls d D s h => d = none ∧ ∃ c C, cls = .ref C ∧ mg c = some (.ref C) ∧ (∀ i, o = some i → i < s.length → s[i]? = some (some (.ref a))) ∧ liftS K mg W0 (f c) D s h
def clOf (K : PySem.W.Frag) (mg : Str → Option Value) (k : CF) (C : Addr) : Cl := ⟨.ref C, k.slot, tCl K mg k.slot k.f⟩
inductive ClF (K : PySem.W.Frag) (mg : Str → Option Value) : List CF → List Cl → Prop
  | nil : ClF K mg [] []
  | cons {k : CF} {ks : List CF} {l : List Cl} {C : Addr} : mg k.c = some (.ref C) → ClF K mg ks l → ClF K mg (k :: ks) (clOf K mg k C :: l)
section
variable {K : PySem.W.Frag} {mg : Str → Option Value} {Wc : WX} {sub : Str → Str → Bool}
theorem contS.quiet {Fr Hd : Hp} {μ : List Addr} {D : Ends} {x : Fl} {o : Option Nat} (c : contS K mg Wc Fr Hd μ D (endSlot o (quiet x))) : contS K mg W0 Fr Hd μ (endsAt o D) x := by
  cases x with
  | ex c ρ S => exact c.elim
  | bad => exact c.elim
  | rt r S =>
    cases o with
    | none => cases r <;> exact c
    | some i => cases r <;> exact c
  | nx ρ S =>
    cases o with
    | none => exact c
    | some i => exact fun F m s H l p r => c F m _ H l p r.setUn
  | bk ρ S =>
    cases o with
    | none => exact c
    | some i => exact fun F m s H l p r => c F m _ H l p r.setUn
  | ct ρ S =>
    cases o with
    | none => exact c
    | some i => exact fun F m s H l p r => c F m _ H l p r.setUn
theorem handle_ok {Hd : Hp} {D : Ends} {ds cs : List Str} (hs : Subs K mg sub ds cs) {c : Str} {C : Addr} (hd : c ∈ ds) (hC : mg c = some (.ref C)) : ∀ {ks : List CF} {l : List Cl}, ClF K mg ks l → (∀ k ∈ ks, k.c ∈ cs) → ∀ {Fr : Hp} {μ : List Addr} {ρ : List Sl} {S : List Ob} {σ : St} {H : Hp},
    R K Fr Hd μ ρ S σ H → contS K mg Wc Fr Hd μ D (handle sub c ρ S ks) → wCl K Wc D l (.ref C) none σ H
  | _, _, .nil, _, F, m, ρ, S, σ, H, r, q => q F m σ C H Le.refl (List.prefix_refl m) r hC
  | _, _, .cons (k := k) (C := C') hk t, hcs, F, m, ρ, S, σ, H, r, q => by
    refine ⟨sub c k.c, hs c hd k.c (hcs k List.mem_cons_self) C' C hC hk, fun e a ha => ?_, fun e => ?_⟩
    · unfold handle at q
      rw [if_pos e] at q
      refine ⟨rfl, c, C, rfl, hC, fun i ei hi => ?_, F, Hd, m, unSlot k.slot ρ, S, ?_, contS.quiet q⟩
      · have hi : i < (slotAt k.slot σ a).length := hi
        show (slotAt k.slot σ a)[i]? = some (some (.ref a))
        have ei : k.slot = some i := ei
        rw [ei] at hi ⊢
        exact List.getElem?_set_self (by simpa [slotAt] using hi)
      show R K F Hd m (unSlot k.slot ρ) S (slotAt k.slot σ a) H
      cases k.slot with
      | none => exact r
      | some i => exact r.setUn
    · unfold handle at q
      rw [if_neg (by rw [e]; exact Bool.false_ne_true)] at q
      exact handle_ok hs hd hC t (fun k hk => hcs k (List.mem_cons_of_mem _ hk)) r q
theorem try_imp {fb : FT} {ks : List CF} {l : List Cl} {ds cs : List Str} (hs : Subs K mg sub ds cs) (hc : ∀ k ∈ ks, k.c ∈ cs) (hl : ClF K mg ks l) {D : Ends} {σ : St} {H : Hp} (h : liftS K mg Wc (fTry sub ds fb ks) D σ H) : liftS K mg (wCl K Wc D l) fb D σ H := by
  obtain ⟨F, Hd, m, ρ, S, r, c⟩ := h
  refine ⟨F, Hd, m, ρ, S, r, ?_⟩
  unfold fTry at c
  cases q : fb ρ S with
  | nx ρ1 S1 => rw [q] at c; exact c
  | bk ρ1 S1 => rw [q] at c; exact c
  | ct ρ1 S1 => rw [q] at c; exact c
  | rt x S1 => rw [q] at c; cases x <;> exact c
  | bad => rw [q] at c; exact c
  | ex x ρ1 S1 =>
    rw [q] at c
    have c : contS K mg Wc F Hd m D (if x ∈ ds then handle sub x ρ1 S1 ks else .bad) := c
    split at c
    · rename_i hd
      exact fun F1 m1 σ1 C H1 l1 p1 r1 hC => handle_ok (Hd := Hd) hs hd hC hl hc r1 (contS.mono l1 p1 c)
    · exact c.elim
end
/-! ### suites that look at the caught error -/
def putV (l : List (Nat × V)) (s : St) : St := l.foldl (fun s p => s.set p.1 (some p.2)) s
def putD (l : List (Nat × PyData)) (ρ : List Sl) : List Sl := l.foldl (fun ρ p => ρ.set p.1 (.w (.d p.2))) ρ
/-- an expression that is v whatever the rest, the caught error at a in slot i -/
def EE (X : Cx) (i : Nat) (a : Addr) (e : Expr) (v : V) : Prop := PE X e fun s h Q => s[i]? = some (some (.ref a)) ∧ Q v h
def ET (X : Cx) (i : Nat) (a : Addr) (e : Expr) (b : Bool) : Prop := PT X e fun s h Q => s[i]? = some (some (.ref a)) ∧ Q b h
def EW (X : Cx) (i : Nat) (a : Addr) (e : Expr) (b : Bool) : Prop := PW X e fun s h Q => s[i]? = some (some (.ref a)) ∧ Q b h
def ES (X : Cx) (i : Nat) (a : Addr) (st : Stmt) (l : List (Nat × V)) : Prop := (∀ p ∈ l, p.1 ≠ i) ∧ PS X st fun D s h => s[i]? = some (some (.ref a)) ∧ D.nx (putV l s) h
def ESs (X : Cx) (i : Nat) (a : Addr) (st : List Stmt) (l : List (Nat × V)) : Prop := (∀ p ∈ l, p.1 ≠ i) ∧ PSs X st fun D s h => s[i]? = some (some (.ref a)) ∧ D.nx (putV l s) h
theorem putV_get {i : Nat} : ∀ {l : List (Nat × V)} {s : St}, (∀ p ∈ l, p.1 ≠ i) → (putV l s)[i]? = s[i]?
  | [], _, _ => rfl
  | p :: r, s, h => by
    show (putV r (s.set p.1 (some p.2)))[i]? = _
    rw [putV_get fun q hq => h q (List.mem_cons_of_mem _ hq), List.getElem?_set_ne (h p List.mem_cons_self)]
theorem putV_app (l m : List (Nat × V)) (s : St) : putV (l ++ m) s = putV m (putV l s) := by unfold putV; rw [List.foldl_append]
section
variable {X : Cx} {i : Nat} {a : Addr} {e e2 : Expr} {es : List Expr} {pos p : Pos} {v : V} {b b2 : Bool} {st : Stmt} {sts : List Stmt} {l m : List (Nat × V)}
theorem ee_c (h : PE X e (tC v)) : EE X i a e v := PE.imp h fun _ _ _ q => q.2
theorem ee_isi {x n : Str} {D E : Addr} {oe : Obj} {pn : List (Addr × Obj)} {p1 p2 : Pos} (C : ExcC X.K D) (hz : Zc (.ref D) none oe) (hf : ∃ vs, oe.data = .fields vs) (hN : X.N[i]? = some n) (hv : Vis X.env.scope n) (hk : PySem.W.kitOne X.K (.ref D) (.ref E) = some b)
    (hg : Gl X "isinstance") (hm : X.mg "isinstance" = none) (hgx : Gl X x) (hmx : X.mg x = some (.ref E)) (hdb : (x == ("__debug__" : Str)) = false := by decide) (hdn : (n == ("__debug__" : Str)) = false := by decide) (hcd : (n == ("__classdict__" : Str)) = false := by decide)
    (hs : starEach [.Name n p1, .Name x p2] (X.suite a ((a, oe) :: pn)).env = (false, eval (.Name n p1) (X.suite a ((a, oe) :: pn)).env) :: starEach [.Name x p2] (X.suite a ((a, oe) :: pn)).env := by rfl)
    (hs2 : starEach [.Name x p2] (X.suite a ((a, oe) :: pn)).env = (false, eval (.Name x p2) (X.suite a ((a, oe) :: pn)).env) :: starEach [] (X.suite a ((a, oe) :: pn)).env := by rfl) (hpl : (backTo pos (starEach [.Name x p2] (X.suite a ((a, oe) :: pn)).env)).any (·.1) = false := by rfl) :
    EE (X.suite a ((a, oe) :: pn)) i a (.Call (.Name "isinstance" p) [.Name n p1, .Name x p2] [] pos) (.bl b) :=
  PE.imp (pe_callB (X := X.suite a ((a, oe) :: pn)) (call_isE C hz hf) hg hm (by decide +kernel) (pa_cons (pe_var hN hv hdn hcd) (pa_cons (pe_glob (v := .ref E) hgx hmx rfl hdb) pa_nil hs2) hs) (he := hs) (hpl := hpl)) fun s h Q q =>
    ⟨_, q.1, .ref E, .ref E, b, rfl, fun u hu => hu, hk, q.2⟩
theorem ee_isiT {T n : Str} {t : String} {D : Addr} {oe : Obj} {pn : List (Addr × Obj)} {p1 p2 : Pos} (C : ExcC X.K D) (hz : Zc (.ref D) none oe) (hf : ∃ vs, oe.data = .fields vs) (hN : X.N[i]? = some n) (hv : Vis X.env.scope n) (hk : PySem.W.kitOne X.K (.ref D) (.type t) = some b)
    (hg : Gl X "isinstance") (hm : X.mg "isinstance" = none) (hgT : Gl X T) (hmT : X.mg T = none) (hvT : bootBuiltins T = some (.type t)) (hnT : T ≠ "__name__" := by decide) (hdT : (T == ("__debug__" : Str)) = false := by decide) (hdn : (n == ("__debug__" : Str)) = false := by decide) (hcd : (n == ("__classdict__" : Str)) = false := by decide)
    (hs : starEach [.Name n p1, .Name T p2] (X.suite a ((a, oe) :: pn)).env = (false, eval (.Name n p1) (X.suite a ((a, oe) :: pn)).env) :: starEach [.Name T p2] (X.suite a ((a, oe) :: pn)).env := by rfl)
    (hs2 : starEach [.Name T p2] (X.suite a ((a, oe) :: pn)).env = (false, eval (.Name T p2) (X.suite a ((a, oe) :: pn)).env) :: starEach [] (X.suite a ((a, oe) :: pn)).env := by rfl) (hpl : (backTo pos (starEach [.Name T p2] (X.suite a ((a, oe) :: pn)).env)).any (·.1) = false := by rfl) :
    EE (X.suite a ((a, oe) :: pn)) i a (.Call (.Name "isinstance" p) [.Name n p1, .Name T p2] [] pos) (.bl b) :=
  PE.imp (pe_callB (X := X.suite a ((a, oe) :: pn)) (call_isE C hz hf) hg hm (by decide +kernel) (pa_cons (pe_var hN hv hdn hcd) (pa_cons (pe_bltn (v := .ty t) hgT hmT hvT rfl hnT hdT) pa_nil hs2) hs) (he := hs) (hpl := hpl)) fun s h Q q =>
    ⟨_, q.1, .ty t, .type t, b, rfl, fun u hu => hu, hk, q.2⟩
theorem et_v (h : EE X i a e (.bl b)) (he : ∀ whole, isTrue e X.env whole = (do let v ← whole; standAt e.pos; holding [v] (truthy v)) := by intro _; rfl) : ET X i a e b := PT.imp (pt_val h he) fun _ _ _ q => ⟨q.1, b, rfl, q.2⟩
theorem et_not (h : ET X i a e b) : ET X i a (.UnaryOp .Not e pos) (!b) := PT.imp (pt_not h) fun _ _ _ q => q
theorem ew_and1 (h : ET X i a e b) : EW X i a (.BoolOp .And [e] pos) b := pw_and1 h
theorem ew_and (h : ET X i a e b) (k : EW X i a (.BoolOp .And (e2 :: es) pos) b2) : EW X i a (.BoolOp .And (e :: e2 :: es) pos) (b && b2) := PW.imp (pw_and h k) fun _ _ Q q => ⟨q.1, by
  cases b with
  | true => rw [if_pos rfl]; exact q
  | false => rw [if_neg Bool.false_ne_true]; exact q.2⟩
theorem ew_or1 (h : ET X i a e b) : EW X i a (.BoolOp .Or [e] pos) b := pw_or1 h
theorem ew_or (h : ET X i a e b) (k : EW X i a (.BoolOp .Or (e2 :: es) pos) b2) : EW X i a (.BoolOp .Or (e :: e2 :: es) pos) (b || b2) := PW.imp (pw_or h k) fun _ _ Q q => ⟨q.1, by
  cases b with
  | true => rw [if_pos rfl]; exact q.2
  | false => rw [if_neg Bool.false_ne_true]; exact q⟩
theorem ee_if {c : Expr} {w : V} (h : ET X i a c b) (h1 : EE X i a e v) (h2 : EE X i a e2 w) : EE X i a (.IfExp c e e2 pos) (if b = true then v else w) := PE.imp (pe_ifExp h h1 h2) fun _ _ Q q => ⟨q.1, by
  cases b with
  | true => rw [if_pos rfl] at q ⊢; exact q
  | false => rw [if_neg Bool.false_ne_true] at q ⊢; exact q⟩
theorem es_set {j : Nat} {x : Str} {p' : Pos} (hj : j ≠ i) (hN : X.N.Nodup) (hi : X.N[j]? = some x) (hx : Loc X.env.scope x) (he : EE X i a e v) (hs : swapsWith e (some (.Name x p')) pos.line X.env = pure false := by rfl) (hf : X.fn x = true ∨ X.env.scope.names.lookup x = some .local := by first | exact .inl rfl | exact .inr rfl | assumption) :
    ES X i a (.Assign [.Name x p'] e pos) [(j, v)] := ⟨fun p hp => by rw [List.mem_singleton] at hp; rw [hp]; exact hj, PS.imp (ps_set hN hi hx he hs hf) fun _ _ _ q => q⟩
theorem es_nil : ESs X i a [] [] := ⟨fun p hp => (nomatch hp), PSs.imp pss_nil fun _ _ _ q => q.2⟩
theorem es_cons (h : ES X i a st l) (k : ESs X i a sts m) : ESs X i a (st :: sts) (l ++ m) := ⟨fun p hp => (List.mem_append.mp hp).elim (h.1 p) (k.1 p), PSs.imp (pss_cons h.2 k.2) fun D s _ q => ⟨q.1, by rw [putV_get h.1]; exact q.1, by rw [← putV_app]; exact q.2⟩⟩
theorem es_if {c : Expr} {s1 s2 : List Stmt} (h : ET X i a c b) (h1 : ESs X i a s1 l) (h2 : ESs X i a s2 m) : ES X i a (.If c s1 s2 pos) (if b = true then l else m) := by
  constructor
  · cases b with
    | true => exact h1.1
    | false => exact h2.1
  · refine PS.imp (ps_if h h1.2 h2.2) fun D s _ q => ⟨q.1, ?_⟩
    cases b with
    | true => rw [if_pos rfl] at q ⊢; exact q
    | false => rw [if_neg Bool.false_ne_true] at q ⊢; exact q
end
/-- the constants that a suite stores -/
def fPut (l : List (Nat × PyData)) : FT := fun ρ S => .nx (putD l ρ) S
inductive PutRel (K : PySem.W.Frag) : List (Nat × PyData) → List (Nat × V) → Prop
  | nil : PutRel K [] []
  | cons {i : Nat} {d : PyData} {v : V} {l : List (Nat × PyData)} {m : List (Nat × V)} : (∀ F : Hp, Dp K F v d) → PutRel K l m → PutRel K ((i, d) :: l) ((i, v) :: m)
theorem put_ok {K : PySem.W.Frag} {Fr Hd : Hp} {μ : List Addr} {S : List Ob} {H : Hp} : ∀ {l : List (Nat × PyData)} {m : List (Nat × V)} {ρ : List Sl} {σ : St}, PutRel K l m → R K Fr Hd μ ρ S σ H → R K Fr Hd μ (putD l ρ) S (putV m σ) H
  | _, _, _, _, .nil, r => r
  | _, _, ρ, σ, .cons (i := i) (d := d) (v := v) (l := l) (m := m) h t, r => put_ok (l := l) (m := m) t (r.setW (i := i) (x := .d d) (v := v) (h Fr))

section
variable {X : Cx} {Wc : WX} {body : List Stmt} {e₀ : ExceptHandler} {es : List ExceptHandler} {pos : Pos} {fb : FT} {ks : List CF} {sub : Str → Str → Bool} {ds cs : List Str}
/-- the text's clauses with their functions -/
inductive HdF (X : Cx) : List ExceptHandler → List CF → Prop
  | nil : HdF X [] []
  | plain {x : Str} {C : Addr} {f : Str → FT} {b : Stmt} {bs : List Stmt} {q q' : Pos} {es : List ExceptHandler} {ks : List CF} (hg : Gl X x) (hm : X.mg x = some (.ref C)) (hd : (x == ("__debug__" : Str)) = false)
      (hb : ∀ (c : Str) (a : Addr) (o : Obj) (D : Addr) (pn : List (Addr × Obj)), X.mg c = some (.ref D) → Zc (.ref D) none o → (∃ vs, o.data = .fields vs) → PSs (X.suite a ((a, o) :: pn)) (b :: bs) (LS (X.suite a ((a, o) :: pn)) W0 (f c))) (r : HdF X es ks) :
      HdF X (.ExceptHandler (some (.Name x q)) none (b :: bs) q' :: es) (⟨x, none, f⟩ :: ks)
  | named {x n : Str} {i : Nat} {C : Addr} {f : Str → FT} {b : Stmt} {bs : List Stmt} {q q' : Pos} {es : List ExceptHandler} {ks : List CF} (hg : Gl X x) (hm : X.mg x = some (.ref C)) (hd : (x == ("__debug__" : Str)) = false) (hi : X.N[i]? = some n) (hn : X.env.kindOf n = some .local)
      (hb : ∀ (c : Str), f c = fNever ∨ ∃ (l : List (Nat × PyData)) (m : List (Nat × V)), f c = fPut l ∧ PutRel X.K l m ∧ ∀ (a : Addr) (o : Obj) (D : Addr) (pn : List (Addr × Obj)), X.mg c = some (.ref D) → Zc (.ref D) none o → (∃ vs, o.data = .fields vs) → ESs (X.suite a ((a, o) :: pn)) i a (b :: bs) m) (r : HdF X es ks) :
      HdF X (.ExceptHandler (some (.Name x q)) (some n) (b :: bs) q' :: es) (⟨x, some i, f⟩ :: ks)
theorem hdF_ok {es : List ExceptHandler} {ks : List CF} (h : HdF X es ks) : ∃ l, ClsOk X es l ∧ ClF X.K X.mg ks l := by
  induction h with
  | nil => exact ⟨[], .nil, .nil⟩
  | @plain x C f b bs q q' es ks hg hm hd hb r ih =>
    obtain ⟨l, h1, h2⟩ := ih
    refine ⟨_, .cons (.plain (c := .ref C) (ts := tCl X.K X.mg none f) ⟨hg, hd, .inl hm⟩ fun a o cls d pn hz hf => ⟨fun pins s σ H D I z => ?_⟩) h1, .cons (k := ⟨x, none, f⟩) hm h2⟩
    obtain ⟨rfl, c, C', rfl, hc, _, z⟩ := z
    exact (hb c a o C' pn hc hz hf).run pins s σ H D I z
  | @named x n i C f b bs q q' es ks hg hm hd hi hn hb r ih =>
    obtain ⟨l, h1, h2⟩ := ih
    refine ⟨_, .cons (.named (c := .ref C) (ts := tCl X.K X.mg (some i) f) ⟨hg, hd, .inl hm⟩ hi hn fun a o cls d pn hz hf => ⟨fun pins s σ H D I z => ?_⟩) h1, .cons (k := ⟨x, some i, f⟩) hm h2⟩
    obtain ⟨rfl, c, C', rfl, hc, hsl, F, Hd, mu, ρ, S, r0, c0⟩ := z
    rcases hb c with e | ⟨l0, m0, e, hr, hb⟩
    · rw [e] at c0; exact c0.elim
    · rw [e] at c0
      refine (hb a o C' pn hc hz hf).2.run pins s σ H D I ⟨hsl i rfl ?_, ?_⟩
      · have e1 := I.len
        have e2 := (List.getElem?_eq_some_iff.mp hi).1
        have e1 : σ.length = X.N.length := e1
        omega
      · exact c0 F mu _ H Le.refl (List.prefix_refl mu) (put_ok hr r0)
/-- try: .. except A [as e]: .. except B: .. -/
theorem s_try (hs : X.stack = X.env :: X.outer) (hf : X.env.frame = some X.env.locals) (hN : X.N.Nodup) (tk : Takes X Wc) (hsub : Subs X.K X.mg sub ds cs) (hcs : ∀ k ∈ ks, k.c ∈ cs)
    (hb : ∀ (W : WX) (pn : List (Addr × Obj)) (xe : Value → Shared → Prop), Takes (X.tr pn xe) W → PassesOwn (model X.prog X.w) X.A X.env xe → PSs (X.tr pn xe) body (LS (X.tr pn xe) W fb))
    (hk : HdF X (e₀ :: es) ks) : PS X (.Try body (e₀ :: es) [] [] pos) (LS X Wc (fTry sub ds fb ks)) := by
  obtain ⟨l, h1, h2⟩ := hdF_ok hk
  exact PS.imp (ps_try_cl (tb := fun W => liftS X.K X.mg W fb) hs hf hN tk hb h1) fun D σ H h => try_imp hsub hcs h2 h
end
end L2.Q
/-! Layer Q, part K: lists that change: append, pop, extend; several names at once; x op= y. -/
namespace L2.Q
open PySem PySem.Spec PyProof.Rows

/-! ### a hidden new object while more is reckoned -/
section
variable {K : PySem.W.Frag} {mg : Str → Option Value} {Wc : WX} {α β γ δ : Type} {rep : Rep α β} {rep2 : Rep γ δ} {Fr Fr' Hd : Hp} {μ μ' : List Addr} {ρ : List Sl} {S : List Ob} {σ : St} {H : Hp} {Q : β → Hp → Prop} {Q2 : δ → Hp → Prop} {q : Addr} {ho : HO}
theorem unhid (f : Free Fr' Hd μ' ρ σ q) (r : R K Fr (upd Hd q ho) μ ρ S σ H) : R K Fr Hd μ ρ S σ H ∧ H q = some ho ∧ Free Fr Hd μ ρ σ q := by
  have hH := r.b.hd q ho upd_same
  refine ⟨r.unhide (Le.upd f.hd), hH.1, hH.2, f.hd, fun hm => ?_, f.ow⟩
  obtain ⟨_, _, _, h9, _⟩ := r.b.muH hm
  rw [upd_same] at h9; cases h9
theorem stepSH {f : List Sl → List Ob → Res α} {k : α → List Ob → Fl} {D : Ends} (r : R K Fr Hd μ ρ S σ H) (hp : H q = some ho) (fr : Free Fr Hd μ ρ σ q) (c : contS K mg Wc Fr Hd μ D (fl (f ρ S) ρ k))
    (hk : ∀ Fr' μ' a b S1 H1, Le Fr Fr' → μ <+: μ' → R K Fr' Hd μ' ρ S1 σ H1 → H1 q = some ho → Free Fr' Hd μ' ρ σ q → rep Fr' (upd Hd q ho) μ' ρ σ H1 a b → contS K mg Wc Fr' Hd μ' D (k a S1) → Q b H1) : lift K mg Wc rep f σ H Q := by
  refine ⟨Fr, upd Hd q ho, μ, ρ, S, r.hide hp fr, ?_⟩
  cases e : f ρ S with
  | ok a S1 =>
    rw [e] at c
    intro F m b H' l p r' q'
    obtain ⟨r1, h1, f1⟩ := unhid fr r'
    exact hk F m a b S1 H' l p r1 h1 f1 q' (contS.mono l p c)
  | err x S1 => rw [e] at c; exact fun F m C H' l p r' q' => c F m σ C H' l p (unhid fr r').1 q'
  | bad => rw [e] at c; exact c
theorem stepH {f : List Sl → List Ob → Res α} {k : α → List Ob → Res γ} (r : R K Fr Hd μ ρ S σ H) (hp : H q = some ho) (fr : Free Fr Hd μ ρ σ q) (c : cont K mg Wc rep2 Fr Hd μ ρ σ Q2 ((f ρ S).bind k))
    (hk : ∀ Fr' μ' a b S1 H1, Le Fr Fr' → μ <+: μ' → R K Fr' Hd μ' ρ S1 σ H1 → H1 q = some ho → Free Fr' Hd μ' ρ σ q → rep Fr' (upd Hd q ho) μ' ρ σ H1 a b → cont K mg Wc rep2 Fr' Hd μ' ρ σ Q2 (k a S1) → Q b H1) : lift K mg Wc rep f σ H Q := by
  refine ⟨Fr, upd Hd q ho, μ, ρ, S, r.hide hp fr, ?_⟩
  cases e : f ρ S with
  | ok a S1 =>
    rw [e] at c
    intro F m b H' l p r' q'
    obtain ⟨r1, h1, f1⟩ := unhid fr r'
    exact hk F m a b S1 H' l p r1 h1 f1 q' (cont.mono l p (fun _ _ z => z) c)
  | err x S1 => rw [e] at c; exact fun F m C H' l p r' q' => c F m C H' l p (unhid fr r').1 q'
  | bad => rw [e] at c; exact c
theorem free_set {p p1 : Addr} {i : Nat} {o : Ob} (f : Free Fr (upd Hd p1 ho) μ ρ σ p) (n : Hd p1 = none) : Free Fr Hd μ (ρ.set i (.own o)) (σ.set i (some (.ref p1))) p := by
  have np : p ≠ p1 := fun e => by have := f.hd; rw [e, upd_same] at this; cases this
  refine ⟨f.fr, none_le (Le.upd n) f.hd, f.mu, fun j ⟨⟨u, h1⟩, h2⟩ => ?_⟩
  by_cases z : i = j
  · subst z
    by_cases hi : i < σ.length
    · rw [List.getElem?_set_self hi] at h2; cases h2; exact np rfl
    · rw [List.getElem?_eq_none (by simpa using hi)] at h2; cases h2
  · rw [List.getElem?_set_ne z] at h1 h2
    exact f.ow j ⟨⟨u, h1⟩, h2⟩
theorem free_setW {p : Addr} {i : Nat} {x : W} {v : Option V} (f : Free Fr Hd μ ρ σ p) : Free Fr Hd μ (ρ.set i (.w x)) (σ.set i v) p := by
  refine ⟨f.fr, f.hd, f.mu, fun j ⟨⟨u, h1⟩, h2⟩ => ?_⟩
  by_cases z : i = j
  · subst z
    by_cases hi : i < ρ.length
    · rw [List.getElem?_set_self hi] at h1; cases h1
    · rw [List.getElem?_eq_none (by simpa using hi)] at h1; cases h1
  · rw [List.getElem?_set_ne z] at h1 h2
    exact f.ow j ⟨⟨u, h1⟩, h2⟩
/-- the object of an own slot is written -/
theorem R.putOwn (r : R K Fr Hd μ ρ S σ H) {i : Nat} {o o' : Ob} {a : Addr} (e : ρ[i]? = some (.own o)) (ea : σ[i]? = some (some (.ref a))) (h : RepO K Fr μ o' ho) : R K Fr Hd μ (ρ.set i (.own o')) S σ (L2.upd H a ho) := by
  have ow : Owns ρ σ i a := ⟨⟨o, e⟩, ea⟩
  have f := r.free_un ow
  have r1 := ((r.un i).upd (o := ho) f).setOwn (i := i) upd_same f h
  rw [set_at ea, List.set_set] at r1
  exact r1
end

/-! ### what a name takes -/
def repC (K : PySem.W.Frag) : Rep Sl V := fun Fr Hd μ ρ σ H c v => match c with
  | .un => False
  | .w x => RepW K Fr μ x v
  | .own o => ∃ p ho, v = .ref p ∧ H p = some ho ∧ RepO K Fr μ o ho ∧ Free Fr Hd μ ρ σ p
abbrev FC := List Sl → List Ob → Res Sl
abbrev LC (X : Cx) (Wc : WX) (f : FC) : TE := lift X.K X.mg Wc (repC X.K) f
def fCw (fa : FE) : FC := fun ρ S => (fa ρ S).bind fun x S1 => .ok (.w x) S1
def fCo (fo : FO) : FC := fun ρ S => (fo ρ S).bind fun o S1 => .ok (.own o) S1
section
variable {X : Cx} {Wc : WX} {a b c3 e e2 : Expr} {es : List Expr} {pos p : Pos} {fa fb : FE} {fo fo2 : FO} {f1 f2 f3 : FC} {g : FG} {own : List Nat}
theorem c_w (h : PE X e (LE X Wc fa)) : PE X e (LC X Wc (fCw fa)) := PE.imp h fun σ H Q h => by
  obtain ⟨F, D, m, ρ, S, r0, c⟩ := h
  refine step r0 c fun F1 m1 x v S1 H1 l1 p1 r1 e1 c1 => ?_
  exact c1 F1 m1 v H1 Le.refl (List.prefix_refl m1) r1 e1
theorem c_o (h : PE X e (LO X Wc fo)) : PE X e (LC X Wc (fCo fo)) := PE.imp h fun σ H Q h => by
  obtain ⟨F, D, m, ρ, S, r0, c⟩ := h
  refine step r0 c fun F1 m1 x v S1 H1 l1 p1 r1 e1 c1 => ?_
  exact c1 F1 m1 v H1 Le.refl (List.prefix_refl m1) r1 e1
theorem R.setC {Fr Hd : Hp} {μ : List Addr} {ρ : List Sl} {S : List Ob} {σ : St} {H : Hp} {i : Nat} {c : Sl} {v : V} (r : R X.K Fr Hd μ ρ S σ H) (e : repC X.K Fr Hd μ ρ σ H c v) : R X.K Fr Hd μ (ρ.set i c) S (σ.set i (some v)) H := by
  cases c with
  | un => exact e.elim
  | w x => exact r.setW e
  | own o => obtain ⟨p, ho, rfl, h1, h2, h3⟩ := e; exact r.setOwn h1 h3 h2
/-- a, b = e, f -/
def fPar (i j : Nat) (f1 f2 : FC) : FT := fun ρ S => fl (f1 ρ S) ρ fun c1 S1 => fl (f2 ρ S1) ρ fun c2 S2 => .nx ((ρ.set i c1).set j c2) S2
theorem par_imp {i j : Nat} {D : Ends} {σ : St} {H : Hp} (h : LS X Wc (fPar i j f1 f2) D σ H) : tPar i j (tCons (LC X Wc f1) (tCons (LC X Wc f2) tNil)) D σ H := by
  obtain ⟨F, Hd, m, ρ, S, r, c⟩ := h
  show LC X Wc f1 σ H _
  refine stepS r c fun F1 m1 k1 v1 S1 H1 l1 p1 r1 e1 c1 => ?_
  cases k1 with
  | un => exact e1.elim
  | w x =>
    refine stepS r1 c1 fun F2 m2 k2 v2 S2 H2 l2 p2 r2 e2 c2 => ?_
    refine ⟨v1, v2, rfl, ?_⟩
    have r3 := r2.setW (i := i) (RepW.mono l2 p2 e1)
    have e3 : repC X.K F2 Hd m2 (ρ.set i (.w x)) (σ.set i (some v1)) H2 k2 v2 := by
      cases k2 with
      | un => exact e2
      | w y => exact e2
      | own o => obtain ⟨q, ho, h0, h1, h2, h3⟩ := e2; exact ⟨q, ho, h0, h1, h2, free_setW h3⟩
    exact c2 F2 m2 _ H2 Le.refl (List.prefix_refl m2) (r3.setC e3)
  | own o =>
    obtain ⟨q, ho, rfl, h1, h2, h3⟩ := e1
    refine stepSH r1 h1 h3 c1 fun F2 m2 k2 v2 S2 H2 l2 p2 r2 hq fq e2 c2 => ?_
    refine ⟨.ref q, v2, rfl, ?_⟩
    have r3 := r2.setOwn (i := i) hq fq (h2.mono l2 p2)
    have e3 : repC X.K F2 Hd m2 (ρ.set i (.own o)) (σ.set i (some (.ref q))) H2 k2 v2 := by
      cases k2 with
      | un => exact e2
      | w y => exact e2
      | own o2 => obtain ⟨q2, ho2, h0, h1, h2, h3⟩ := e2; exact ⟨q2, ho2, h0, h1, h2, free_set h3 fq.hd⟩
    exact c2 F2 m2 _ H2 Le.refl (List.prefix_refl m2) (r3.setC e3)
theorem s_par {i j : Nat} {x y : Str} {px py pt : Pos} {kt k2 pt2} (hc : X.calm = true) (hN : X.N.Nodup) (hi : X.N[i]? = some x) (hj : X.N[j]? = some y) (hij : i ≠ j)
    (hx : X.env.scope.names.lookup x = some .local) (hy : X.env.scope.names.lookup y = some .local) (ha : PE X a (LC X Wc f1)) (hb : PE X b (LC X Wc f2))
    (hw : swappedStores [.Tuple [.Name x px, .Name y py] kt pt] (.Tuple [a, b] k2 pt2) X.env = pure (some [x, y]))
    (hs : swapsWithSole [.Tuple [.Name x px, .Name y py] kt pt] (.Tuple [a, b] k2 pt2) pos.line X.env = pure false := by rfl)
    (hs1 : starEach [a, b] X.env = (false, eval a X.env) :: starEach [b] X.env := by rfl) (hs2 : starEach [b] X.env = (false, eval b X.env) :: starEach [] X.env := by rfl) :
    PS X (.Assign [.Tuple [.Name x px, .Name y py] kt pt] (.Tuple [a, b] k2 pt2) pos) (LS X Wc (fPar i j f1 f2)) :=
  PS.imp (ps_par hc hN hi hj hij hx hy (pa_cons ha (pa_cons hb pa_nil hs2) hs1) hw hs) fun _ _ _ h => par_imp h
/-- a, b, c = e, f, g -/
def fPar3 (i j l : Nat) (f1 f2 f3 : FC) : FT := fun ρ S => fl (f1 ρ S) ρ fun c1 S1 => fl (f2 ρ S1) ρ fun c2 S2 => fl (f3 ρ S2) ρ fun c3 S3 => .nx (((ρ.set i c1).set j c2).set l c3) S3
theorem par3_imp {i j l : Nat} {D : Ends} {σ : St} {H : Hp} (h : LS X Wc (fPar3 i j l f1 f2 f3) D σ H) : tPar3 i j l (tCons (LC X Wc f1) (tCons (LC X Wc f2) (tCons (LC X Wc f3) tNil))) D σ H := by
  obtain ⟨F, Hd, m, ρ, S, r, c⟩ := h
  show LC X Wc f1 σ H _
  refine stepS r c fun F1 m1 k1 v1 S1 H1 l1 p1 r1 e1 c1 => ?_
  cases k1 with
  | un => exact e1.elim
  | w x =>
    refine stepS r1 c1 fun F2 m2 k2 v2 S2 H2 l2 p2 r2 e2 c2 => ?_
    cases k2 with
    | un => exact e2.elim
    | w y =>
      refine stepS r2 c2 fun F3 m3 k3 v3 S3 H3 l3 p3 r3 e3 c3 => ?_
      refine ⟨v1, v2, v3, rfl, ?_⟩
      have r4 := (r3.setW (i := i) (RepW.mono (l2.trans l3) (p2.trans p3) e1)).setW (i := j) (RepW.mono l3 p3 e2)
      refine c3 F3 m3 _ H3 Le.refl (List.prefix_refl m3) (r4.setC ?_)
      cases k3 with
      | un => exact e3
      | w y => exact e3
      | own o => obtain ⟨q, ho, h0, h1, h2, h3⟩ := e3; exact ⟨q, ho, h0, h1, h2, free_setW (free_setW h3)⟩
    | own o2 =>
      obtain ⟨q2, ho2, rfl, h21, h22, h23⟩ := e2
      refine stepSH r2 h21 h23 c2 fun F3 m3 k3 v3 S3 H3 l3 p3 r3 hq fq e3 c3 => ?_
      refine ⟨v1, .ref q2, v3, rfl, ?_⟩
      have r4 := (r3.setW (i := i) (RepW.mono (l2.trans l3) (p2.trans p3) e1)).setOwn (i := j) hq (free_setW fq) (h22.mono l3 p3)
      refine c3 F3 m3 _ H3 Le.refl (List.prefix_refl m3) (r4.setC ?_)
      cases k3 with
      | un => exact e3
      | w y => exact e3
      | own o => obtain ⟨q, ho, h0, h1, h2, h3⟩ := e3; exact ⟨q, ho, h0, h1, h2, free_set (free_setW h3) fq.hd⟩
  | own oA =>
    obtain ⟨q, ho, rfl, h11, h12, h13⟩ := e1
    refine stepSH r1 h11 h13 c1 fun F2 m2 k2 v2 S2 H2 l2 p2 r2 hq fq e2 c2 => ?_
    cases k2 with
    | un => exact e2.elim
    | w y =>
      refine stepSH r2 hq fq c2 fun F3 m3 k3 v3 S3 H3 l3 p3 r3 hq3 fq3 e3 c3 => ?_
      refine ⟨.ref q, v2, v3, rfl, ?_⟩
      have r4 := (r3.setOwn (i := i) hq3 fq3 (h12.mono (l2.trans l3) (p2.trans p3))).setW (i := j) (RepW.mono l3 p3 e2)
      refine c3 F3 m3 _ H3 Le.refl (List.prefix_refl m3) (r4.setC ?_)
      cases k3 with
      | un => exact e3
      | w y => exact e3
      | own o => obtain ⟨q, ho, h0, h1, h2, h3⟩ := e3; exact ⟨q, ho, h0, h1, h2, free_setW (free_set h3 fq.hd)⟩
    | own o2 =>
      obtain ⟨q2, ho2, rfl, h21, h22, h23⟩ := e2
      have r2h := r2.hide hq fq
      -- both hidden
      show lift X.K X.mg Wc (repC X.K) f3 σ H2 _
      refine ⟨F2, upd (upd Hd q ho) q2 ho2, m2, ρ, S2, r2h.hide h21 h23, ?_⟩
      have fin : ∀ {F3 : Hp} {m3 : List Addr} {S3 : List Ob} {H3 : Hp}, R X.K F3 (upd (upd Hd q ho) q2 ho2) m3 ρ S3 σ H3 → R X.K F3 (upd Hd q ho) m3 ρ S3 σ H3 ∧ H3 q2 = some ho2 ∧ Free F3 (upd Hd q ho) m3 ρ σ q2 := fun r3 => unhid h23 r3
      cases z : f3 ρ S2 with
      | bad => rw [z] at c2; exact c2.elim
      | err w S3 => rw [z] at c2; exact fun F3 m3 C H3 l3 p3 r3 hC => c2 F3 m3 σ C H3 l3 p3 (unhid fq (fin r3).1).1 hC
      | ok k3 S3 =>
        rw [z] at c2
        intro F3 m3 v3 H3 l3 p3 r3 e3
        obtain ⟨r3a, hq2, fq2⟩ := fin r3
        obtain ⟨r3b, hq3, fq3⟩ := unhid fq r3a
        refine ⟨.ref q, .ref q2, v3, rfl, ?_⟩
        have r4 := (r3b.setOwn (i := i) hq3 fq3 (h12.mono (l2.trans l3) (p2.trans p3))).setOwn (i := j) hq2 (free_set fq2 fq.hd) (h22.mono l3 p3)
        refine contS.mono (Wc := Wc) l3 p3 c2 F3 m3 _ H3 Le.refl (List.prefix_refl m3) (r4.setC ?_)
        cases k3 with
        | un => exact e3
        | w y => exact e3
        | own o =>
          obtain ⟨qq, hoo, h0, h1, h2, h3⟩ := e3
          have nd : upd Hd q ho q2 = none := fq2.hd
          have s1 : Free F3 (upd (upd Hd q2 ho2) q ho) m3 ρ σ qq := by
            refine ⟨h3.fr, ?_, h3.mu, h3.ow⟩
            have := h3.hd
            have n1 : qq ≠ q2 := fun e => by rw [e, upd_same] at this; cases this
            rw [upd_ne n1] at this
            have n2 : qq ≠ q := fun e => by rw [e, upd_same] at this; cases this
            rw [upd_ne n2] at this ⊢
            rw [upd_ne n1]; exact this
          have n3 : q2 ≠ q := fun e => by rw [e, upd_same] at nd; cases nd
          have hd2 : Hd q2 = none := by rw [upd_ne n3] at nd; exact nd
          have s2 := free_set (i := i) (o := oA) s1 (by rw [upd_ne n3.symm]; exact fq.hd)
          exact ⟨qq, hoo, h0, h1, h2, free_set s2 hd2⟩
theorem s_par3 {i j l : Nat} {x y z : Str} {px py pz pt : Pos} {kt k2 pt2} (hc : X.calm = true) (hN : X.N.Nodup) (hi : X.N[i]? = some x) (hj : X.N[j]? = some y) (hl : X.N[l]? = some z) (hij : i ≠ j) (hil : i ≠ l) (hjl : j ≠ l)
    (hx : X.env.scope.names.lookup x = some .local) (hy : X.env.scope.names.lookup y = some .local) (hz : X.env.scope.names.lookup z = some .local) (ha : PE X a (LC X Wc f1)) (hb : PE X b (LC X Wc f2)) (hc3 : PE X c3 (LC X Wc f3))
    (hw : swappedStores [.Tuple [.Name x px, .Name y py, .Name z pz] kt pt] (.Tuple [a, b, c3] k2 pt2) X.env = pure (some [x, y, z]))
    (hs : swapsWithSole [.Tuple [.Name x px, .Name y py, .Name z pz] kt pt] (.Tuple [a, b, c3] k2 pt2) pos.line X.env = pure false := by rfl)
    (hs0 : starEach [a, b, c3] X.env = (false, eval a X.env) :: starEach [b, c3] X.env := by rfl) (hs1 : starEach [b, c3] X.env = (false, eval b X.env) :: starEach [c3] X.env := by rfl) (hs2 : starEach [c3] X.env = (false, eval c3 X.env) :: starEach [] X.env := by rfl) :
    PS X (.Assign [.Tuple [.Name x px, .Name y py, .Name z pz] kt pt] (.Tuple [a, b, c3] k2 pt2) pos) (LS X Wc (fPar3 i j l f1 f2 f3)) :=
  PS.imp (ps_par3 hc hN hi hj hl hij hil hjl hx hy hz (pa_cons ha (pa_cons hb (pa_cons hc3 pa_nil hs2) hs1) hs0) hw hs) fun _ _ _ h => par3_imp h

/-! ### expressions that change an own list -/
abbrev FX := List Sl → List Ob → Res (W × List Sl)
def contX (K : PySem.W.Frag) (mg : Str → Option Value) (Wc : WX) (Fr Hd : Hp) (μ : List Addr) (ρ : List Sl) (σ : St) (Q : VK) : Res (W × List Sl) → Prop
  | .ok a S' => ∀ Fr' μ' v H', Le Fr Fr' → μ <+: μ' → R K Fr' Hd μ' a.2 S' σ H' → RepW K Fr' μ' a.1 v → Q v H'
  | .err c S' => ∀ Fr' μ' C H', Le Fr Fr' → μ <+: μ' → R K Fr' Hd μ' ρ S' σ H' → mg c = some (.ref C) → Wc (.ref C) none σ H'
  | .bad => False
abbrev LX (X : Cx) (Wc : WX) (f : FX) : TE := fun σ H Q => ∃ Fr Hd μ ρ S, R X.K Fr Hd μ ρ S σ H ∧ contX X.K X.mg Wc Fr Hd μ ρ σ Q (f ρ S)
theorem contX.mono {K : PySem.W.Frag} {mg : Str → Option Value} {Fr Fr' Hd : Hp} {μ μ' : List Addr} {ρ : List Sl} {σ : St} {Q : VK} {r : Res (W × List Sl)} (h1 : Le Fr Fr') (h2 : μ <+: μ') (c : contX K mg Wc Fr Hd μ ρ σ Q r) : contX K mg Wc Fr' Hd μ' ρ σ Q r := by
  cases r with
  | ok a S => exact fun F m b H' l p r e => c F m b H' (h1.trans l) (List.IsPrefix.trans h2 p) r e
  | err x S => exact fun F m C H' l p r e => c F m C H' (h1.trans l) (List.IsPrefix.trans h2 p) r e
  | bad => exact c
/-- x.append(e) -/
def fApp (i : Nat) (fa : FE) : FX := fun ρ S => match ρ[i]? with
  | some (.own (.lst xs)) => (fa ρ S).bind fun y S1 => if xs.length < 16777216 then .ok (.d .none, ρ.set i (.own (.lst (xs ++ [y])))) S1 else .bad
  | _ => .bad
theorem stepX {Fr Hd : Hp} {μ : List Addr} {ρ : List Sl} {S : List Ob} {σ : St} {H : Hp} {Q : VK} {α β : Type} {rep : Rep α β} {f : List Sl → List Ob → Res α} {k : α → List Ob → Res (W × List Sl)} {Q1 : β → Hp → Prop} (r : R X.K Fr Hd μ ρ S σ H) (c : contX X.K X.mg Wc Fr Hd μ ρ σ Q ((f ρ S).bind k))
    (hk : ∀ Fr' μ' a b S1 H1, Le Fr Fr' → μ <+: μ' → R X.K Fr' Hd μ' ρ S1 σ H1 → rep Fr' Hd μ' ρ σ H1 a b → contX X.K X.mg Wc Fr' Hd μ' ρ σ Q (k a S1) → Q1 b H1) : lift X.K X.mg Wc rep f σ H Q1 := by
  refine ⟨Fr, Hd, μ, ρ, S, r, ?_⟩
  cases e : f ρ S with
  | ok a S1 =>
    rw [e] at c
    exact fun F m b H' l p r' q => hk F m a b S1 H' l p r' q (contX.mono l p c)
  | err x S1 => rw [e] at c; exact c
  | bad => rw [e] at c; exact c
variable {apos cpos : Pos} {fr : FA}
theorem x_app {i : Nat} {x : Str} {p' : Pos} (hN : X.N[i]? = some x) (hv : Vis X.env.scope x) (ha : PE X e (LE X Wc fa)) (hd : (x == ("__debug__" : Str)) = false := by decide) (hcd : (x == ("__classdict__" : Str)) = false := by decide)
    (hbase : attributeBase (.Name x p') "append" X.env (eval (.Name x p') X.env) = eval (.Name x p') X.env := by rfl)
    (hfew : ((backTo cpos (starEach [e] X.env)).all (fun x => !x.1) && (backToKw cpos (keywordEach [] X.env)).all (fun x => x.1.isSome)
      && decide (([e] : List Expr).length + ([] : List Keyword).length + (if ([] : List Keyword).isEmpty then 0 else 1) < 30)) = true := by rfl)
    (hline : (apos.endLine == cpos.line) = true := by rfl) (hs : starEach [e] X.env = (false, eval e X.env) :: starEach [] X.env := by rfl) (hplain : (backTo cpos (starEach [] X.env)).any (·.1) = false := by rfl) :
    PE X (.Call (.Attribute (.Name x p') "append" apos) [e] [] cpos) (LX X Wc (fApp i fa)) :=
  PE.imp (pe_bm PySem.F.plainAttrs_list PySem.F.slot_list_append PySem.F.type_list_append mt_append (pe_var hN hv hd hcd) (pa_cons ha pa_nil hs) hbase hfew hline hs hplain) fun σ H Q h => by
  obtain ⟨F, D, m, ρ, S, r, c⟩ := h
  unfold fApp at c
  split at c
  · rename_i xs ex
    obtain ⟨a, vs, ea, h1, q1⟩ := own_lst r ex
    refine ⟨_, ea, .inl ⟨rfl, vs, .inl (.inl h1)⟩, ?_⟩
    refine stepX r c fun F1 m1 y v S1 H1 l1 p1 r1 ey c1 => ?_
    obtain ⟨a', vs', ea', h1', q1'⟩ := own_lst r1 ex
    rw [ea] at ea'
    cases ea'
    split at c1
    · rename_i hl
      refine ⟨a, vs', v, rfl, rfl, h1', by rw [← Paired.length q1', sizeLine_eq]; exact hl, ?_⟩
      exact c1 F1 m1 .non _ Le.refl (List.prefix_refl m1) (r1.putOwn ex ea ⟨_, rfl, Paired.snoc q1' ey⟩) Dp.non
    · exact c1.elim
  · exact c.elim
/-- x.pop() -/
def fPop (i : Nat) : FX := fun ρ S => match ρ[i]? with
  | some (.own (.lst xs)) => (match xs[xs.length - 1]? with
    | some y => .ok (y, ρ.set i (.own (.lst xs.dropLast))) S
    | none => .bad)
  | _ => .bad
theorem paired_dropLast {α β : Type} {F : α → β → Prop} : ∀ {l₁ : List α} {l₂ : List β}, Paired F l₁ l₂ → Paired F l₁.dropLast l₂.dropLast
  | _, _, .nil => .nil
  | [_], [_], .cons _ _ => .nil
  | _ :: _ :: _, _ :: _ :: _, .cons h t => .cons h (paired_dropLast t)
theorem paired_erase {α β : Type} {F : α → β → Prop} : ∀ {l₁ : List α} {l₂ : List β} (k : Nat), Paired F l₁ l₂ → Paired F (l₁.eraseIdx k) (l₂.eraseIdx k)
  | _, _, _, .nil => .nil
  | _ :: _, _ :: _, 0, .cons _ t => t
  | _ :: _, _ :: _, k + 1, .cons h t => .cons h (paired_erase k t)
theorem x_pop {i : Nat} {x : Str} {p' : Pos} (hN : X.N[i]? = some x) (hv : Vis X.env.scope x) (hd : (x == ("__debug__" : Str)) = false := by decide) (hcd : (x == ("__classdict__" : Str)) = false := by decide)
    (hbase : attributeBase (.Name x p') "pop" X.env (eval (.Name x p') X.env) = eval (.Name x p') X.env := by rfl) (hline : (apos.endLine == cpos.line) = true := by rfl) :
    PE X (.Call (.Attribute (.Name x p') "pop" apos) [] [] cpos) (LX X Wc (fPop i)) :=
  PE.imp (pe_bm0 PySem.F.plainAttrs_list PySem.F.slot_list_pop PySem.F.type_list_pop mt_pop (pe_var hN hv hd hcd) hbase hline) fun σ H Q h => by
  obtain ⟨F, D, m, ρ, S, r, c⟩ := h
  unfold fPop at c
  split at c
  · rename_i xs ex
    obtain ⟨a, vs, ea, h1, q1⟩ := own_lst r ex
    refine ⟨_, ea, .inl ⟨rfl, vs, .inl (.inl h1)⟩, ?_⟩
    split at c
    · rename_i y ey
      obtain ⟨v, ev, rv⟩ := paired_get q1 ey
      rw [Paired.length q1] at ev
      exact ⟨a, vs, v, rfl, rfl, h1, ev, c F m v _ Le.refl (List.prefix_refl m) (r.putOwn ex ea ⟨_, rfl, paired_dropLast q1⟩) rv⟩
    · exact c.elim
  · exact c.elim
/-- x.pop(e) -/
def fPopAt (i : Nat) (fa : FE) : FX := fun ρ S => match ρ[i]? with
  | some (.own (.lst xs)) => (fa ρ S).bind fun z S1 => match z with
    | .d (.int k) => (match ixN xs.length k with
      | some j => (match xs[j]? with
        | some y => if xs.length ≤ 16777216 then .ok (y, ρ.set i (.own (.lst (xs.eraseIdx j)))) S1 else .bad
        | none => .bad)
      | none => .bad)
    | _ => .bad
  | _ => .bad
theorem x_popAt {i : Nat} {x : Str} {p' : Pos} (hN : X.N[i]? = some x) (hv : Vis X.env.scope x) (ha : PE X e (LE X Wc fa)) (hd : (x == ("__debug__" : Str)) = false := by decide) (hcd : (x == ("__classdict__" : Str)) = false := by decide)
    (hbase : attributeBase (.Name x p') "pop" X.env (eval (.Name x p') X.env) = eval (.Name x p') X.env := by rfl)
    (hfew : ((backTo cpos (starEach [e] X.env)).all (fun x => !x.1) && (backToKw cpos (keywordEach [] X.env)).all (fun x => x.1.isSome)
      && decide (([e] : List Expr).length + ([] : List Keyword).length + (if ([] : List Keyword).isEmpty then 0 else 1) < 30)) = true := by rfl)
    (hline : (apos.endLine == cpos.line) = true := by rfl) (hs : starEach [e] X.env = (false, eval e X.env) :: starEach [] X.env := by rfl) (hplain : (backTo cpos (starEach [] X.env)).any (·.1) = false := by rfl) :
    PE X (.Call (.Attribute (.Name x p') "pop" apos) [e] [] cpos) (LX X Wc (fPopAt i fa)) :=
  PE.imp (pe_bm PySem.F.plainAttrs_list PySem.F.slot_list_pop PySem.F.type_list_pop mt_popAt (pe_var hN hv hd hcd) (pa_cons ha pa_nil hs) hbase hfew hline hs hplain) fun σ H Q h => by
  obtain ⟨F, D, m, ρ, S, r, c⟩ := h
  unfold fPopAt at c
  split at c
  · rename_i xs ex
    obtain ⟨a, vs, ea, h1, q1⟩ := own_lst r ex
    refine ⟨_, ea, .inl ⟨rfl, vs, .inl (.inl h1)⟩, ?_⟩
    refine stepX r c fun F1 m1 y v S1 H1 l1 p1 r1 ey c1 => ?_
    obtain ⟨a', vs', ea', h1', q1'⟩ := own_lst r1 ex
    rw [ea] at ea'
    cases ea'
    split at c1
    · rename_i k
      cases ey
      split at c1
      · rename_i j ej
        split at c1
        · rename_i z ez
          split at c1
          · rename_i hl
            obtain ⟨w, ew, rw'⟩ := paired_get q1' ez
            have el := Paired.length q1'
            obtain ⟨k1, k2, k3, k4⟩ := ixN_seq ej
            refine ⟨a, vs', k, j, w, rfl, rfl, h1', by omega, by omega, by rw [← el]; exact k1, ew, ?_⟩
            exact c1 F1 m1 w _ Le.refl (List.prefix_refl m1) (r1.putOwn ex ea ⟨_, rfl, paired_erase j q1'⟩) rw'
          · exact c1.elim
        · exact c1.elim
      · exact c1.elim
    · exact c1.elim
  · exact c.elim
/-- target = such an expression -/
def fAsgX (g : FG) (fx : FX) : FT := fun ρ S => fl (fx ρ S) ρ fun a S1 => setG (g a.1 a.2) S1 fun ρ1 S2 => .nx ρ1 S2
theorem s_asgX {tg : Expr} {fx : FX} (he : PE X e (LX X Wc fx)) (hg : PG X tg (liftG X.K own g)) (hs : swapsWithSole [tg] e pos.line X.env = pure false := by rfl) (hw : swappedStores [tg] e X.env = pure none := by rfl)
    (h1 : (assignEach [tg] X.env).map (·.2) = [assign tg X.env] := by rfl) : PS X (.Assign [tg] e pos) (LS X Wc (fAsgX g fx)) := PS.imp (ps_asg he hg hs hw h1) fun D σ H h => by
  obtain ⟨F, Hd, m, ρ, S, r, c⟩ := h
  refine ⟨F, Hd, m, ρ, S, r, ?_⟩
  unfold fAsgX at c
  cases z : fx ρ S with
  | bad => rw [z] at c; exact c.elim
  | err w S1 => rw [z] at c; exact fun F1 m1 C H1 l1 p1 r1 hC => c F1 m1 σ C H1 l1 p1 r1 hC
  | ok a S1 =>
    rw [z] at c
    intro F1 m1 v H1 l1 p1 r1 e1
    have c : contS X.K X.mg Wc F Hd m D (setG (g a.1 a.2) S1 fun ρ1 S2 => .nx ρ1 S2) := c
    cases q : g a.1 a.2 with
    | none => rw [q] at c; exact c.elim
    | some ρ1 =>
      rw [q] at c
      exact ⟨F1, Hd, m1, a.2, S1, a.1, r1, e1, ρ1, q, fun σ' _ r2 => c F1 m1 σ' H1 l1 p1 r2⟩
/-- such an expression as a statement -/
def fDropX (fx : FX) : FT := fun ρ S => fl (fx ρ S) ρ fun a S1 => .nx a.2 S1
theorem s_exprX {fx : FX} (he : PE X e (LX X Wc fx)) (hs : swapsWith e none pos.line X.env = pure false := by rfl) : PS X (.Expr e pos) (LS X Wc (fDropX fx)) := PS.imp (ps_expr he hs) fun D σ H h => by
  obtain ⟨F, Hd, m, ρ, S, r, c⟩ := h
  refine ⟨F, Hd, m, ρ, S, r, ?_⟩
  unfold fDropX at c
  cases z : fx ρ S with
  | bad => rw [z] at c; exact c.elim
  | err w S1 => rw [z] at c; exact fun F1 m1 C H1 l1 p1 r1 hC => c F1 m1 σ C H1 l1 p1 r1 hC
  | ok a S1 => rw [z] at c; exact fun F1 m1 v H1 l1 p1 r1 e1 => c F1 m1 σ H1 l1 p1 r1
/-- target = value, the target a tuple of names -/
def fAsg (g : FG) (fa : FE) : FT := fun ρ S => fl (fa ρ S) ρ fun x S1 => setG (g x ρ) S1 fun ρ1 S2 => .nx ρ1 S2
theorem s_asg {tg : Expr} (he : PE X e (LE X Wc fa)) (hg : PG X tg (liftG X.K own g)) (hs : swapsWithSole [tg] e pos.line X.env = pure false := by rfl) (hw : swappedStores [tg] e X.env = pure none := by rfl)
    (h1 : (assignEach [tg] X.env).map (·.2) = [assign tg X.env] := by rfl) : PS X (.Assign [tg] e pos) (LS X Wc (fAsg g fa)) := PS.imp (ps_asg he hg hs hw h1) fun D σ H h => by
  obtain ⟨F, Hd, m, ρ, S, r, c⟩ := h
  refine stepS r c fun F1 m1 x v S1 H1 l1 p1 r1 e1 c1 => ?_
  cases q : g x ρ with
  | none => rw [q] at c1; exact c1.elim
  | some ρ1 =>
    rw [q] at c1
    exact ⟨F1, Hd, m1, ρ, S1, x, r1, e1, ρ1, q, fun σ' _ r2 => c1 F1 m1 σ' H1 Le.refl (List.prefix_refl m1) r2⟩
/-- x op= e -/
def fAug (i : Nat) (op : W → W → List Ob → Res W) (fa : FE) : FT := fun ρ S => match ρ[i]? with
  | some (.w x) => fl (fa ρ S) ρ fun y S1 => fl (op x y S1) ρ fun z S2 => .nx (ρ.set i (.w z)) S2
  | _ => .bad
theorem s_aug {i : Nat} {x : Str} {op : Operator} {ti : TIp} {fop : W → W → List Ob → Res W} {pos' : Pos} (hN : X.N.Nodup) (hi : X.N[i]? = some x) (hx : Loc X.env.scope x) (he : PE X e (LE X Wc fa)) (ho : PIp X op ti) (hr : OpF X Wc ti fop) (hf : X.fn x = true ∨ X.env.scope.names.lookup x = some .local := by first | exact .inl rfl | exact .inr rfl | assumption) :
    PS X (.AugAssign (.Name x pos') op e pos) (LS X Wc (fAug i fop fa)) := PS.imp (ps_aug hN hi hx he ho hf) fun D σ H h => by
  obtain ⟨F, Hd, m, ρ, S, r, c⟩ := h
  unfold fAug at c
  split at c
  · rename_i x ex
    obtain ⟨u, eu, ru⟩ := r.s.sl i _ ex
    refine ⟨u, eu, ?_⟩
    refine stepS r c fun F1 m1 y v S1 H1 l1 p1 r1 ey c1 => ?_
    refine hr F1 Hd m1 ρ S1 σ H1 x y u v _ r1 (RepW.mono l1 p1 ru) ey ?_
    cases z : fop x y S1 with
    | bad => rw [z] at c1; exact c1.elim
    | err w S2 => rw [z] at c1; exact fun F2 m2 C H2 l2 p2 r2 hC => c1 F2 m2 σ C H2 l2 p2 r2 hC
    | ok w S2 => rw [z] at c1; exact fun F2 m2 v2 H2 l2 p2 r2 e2 => c1 F2 m2 _ H2 l2 p2 (r2.setW e2)
  · exact c.elim
theorem f_iadd : OpF X Wc (ipI fun i j => i + j) (oI yes fun i j => .int (i + j)) := f_int0 (g' := fun i j => .int (i + j)) fun _ _ _ => .int _
theorem f_isub : OpF X Wc (ipI fun i j => i - j) oSub := f_int0 (g' := fun i j => .int (i - j)) fun _ _ _ => .int _
/-- an own list + a list -/
def fAddO (i : Nat) (fb : FE) : FO := fun ρ S => match ρ[i]? with
  | some (.own (.lst xs)) => (fb ρ S).bind fun y S1 => match y with
    | .d (.list ys) => if xs.length + ys.length ≤ 16777216 then .ok (.lst (xs ++ ys.map .d)) S1 else .bad
    | _ => .bad
  | _ => .bad
theorem q_addO {i : Nat} {x : Str} {p' : Pos} (hN : X.N[i]? = some x) (hv : Vis X.env.scope x) (hb : PE X b (LE X Wc fb)) (hd : (x == ("__debug__" : Str)) = false := by decide) (hcd : (x == ("__classdict__" : Str)) = false := by decide) :
    PE X (.BinOp (.Name x p') .Add b pos) (LO X Wc (fAddO i fb)) := PE.imp (pe_op op_catS (pe_var hN hv hd hcd) hb) fun σ H Q h => by
  obtain ⟨F, D, m, ρ, S, r, c⟩ := h
  unfold fAddO at c
  split at c
  · rename_i xs ex
    obtain ⟨a, vs, ea, _, _⟩ := own_lst r ex
    refine ⟨_, ea, ?_⟩
    refine step r c fun F1 m1 y v S1 H1 l1 p1 r1 ey c1 => ?_
    obtain ⟨a', vs', ea', h1', q1'⟩ := own_lst r1 ex
    rw [ea] at ea'
    cases ea'
    split at c1
    · rename_i ys
      split at c1
      · rename_i hl
        cases ey with
        | @lst b us _ k1 k2 =>
          have e1 := Paired.length q1'
          have e2 := DpAll.len k2
          exact ⟨a, b, vs', us, rfl, rfl, .inl (.inl h1'), Le.sqL r1.b.fr k1, by rw [sizeLine_eq]; omega, fun q hq => new_lst r1 (paired_app q1' (rep_dats k2)) hq c1⟩
      · exact c1.elim
    · exact c1.elim
  · exact c.elim
/-- two lists, a new one -/
def oAddN (x y : W) (S : List Ob) : Res Ob := match x, y with
  | .d (.list xs), .d (.list ys) => if xs.length + ys.length ≤ 16777216 then .ok (.lst ((xs ++ ys).map .d)) S else .bad
  | _, _ => .bad
def fAddN (fa fb : FE) : FO := fun ρ S => (fa ρ S).bind fun x S1 => (fb ρ S1).bind fun y S2 => oAddN x y S2
theorem q_addN (ha : PE X a (LE X Wc fa)) (hb : PE X b (LE X Wc fb)) : PE X (.BinOp a .Add b pos) (LO X Wc (fAddN fa fb)) := PE.imp (pe_op op_catS ha hb) fun σ H Q h => by
  obtain ⟨F, D, m, ρ, S, r0, c⟩ := h
  refine step r0 c fun F1 m1 x v S1 H1 l1 p1 r1 e1 c1 => ?_
  refine step r1 c1 fun F2 m2 y u S2 H2 l2 p2 r2 e2 c2 => ?_
  have e1 := RepW.mono l2 p2 e1
  unfold oAddN at c2
  split at c2
  · rename_i xs ys
    split at c2
    · rename_i hl
      cases e1 with
      | @lst a vs _ h1 h2 =>
        cases e2 with
        | @lst b us _ k1 k2 =>
          have z1 := DpAll.len h2
          have z2 := DpAll.len k2
          exact ⟨a, b, vs, us, rfl, rfl, Le.sqL r2.b.fr h1, Le.sqL r2.b.fr k1, by rw [sizeLine_eq]; omega, fun q hq => new_lst r2 (rep_dats (dps_app h2 k2)) hq c2⟩
    · exact c2.elim
  · exact c2.elim
end
end L2.Q
/-! Layer Q, part L: the store's lists by method; own dicts; calls with keywords; defs by names. -/
namespace L2.Q
open PySem PySem.Spec PyProof.Rows

section
variable {X : Cx} {Wc : WX} {a b e e2 : Expr} {es : List Expr} {pos p apos cpos : Pos} {fa fb fc : FE} {fo fo2 : FO} {fr : FA}
/-! ### the store's lists -/
def isLst (x : W) (S : List Ob) : Bool := match x with
  | .ref n => (match S[n]? with
    | some (.lst _) => true
    | _ => false)
  | _ => false
theorem isLst_rep {Fr Hd : Hp} {μ : List Addr} {ρ : List Sl} {S : List Ob} {σ : St} {H : Hp} (r : R X.K Fr Hd μ ρ S σ H) {x : W} {v : V} (h : isLst x S = true) (e : RepW X.K Fr μ x v) :
    ∃ n a vs, x = .ref n ∧ v = .ref a ∧ μ[n]? = some a ∧ H a = some (.lst vs) := by
  cases x with
  | d x => cases h
  | ref n =>
    obtain ⟨a, ea, rfl⟩ := e
    unfold isLst at h
    dsimp only at h
    split at h
    · rename_i xs es
      obtain ⟨ho, h1, ⟨vs, rfl, q⟩, _⟩ := r.b.st n a _ ea es
      exact ⟨n, a, vs, rfl, rfl, ea, h1⟩
    · cases h
/-- x.append(e) -/
def appSt (x y : W) (S : List Ob) : Res W := match x with
  | .ref n => (match S[n]? with
    | some (.lst xs) => if xs.length < 16777216 then .ok (.d .none) (S.set n (.lst (xs ++ [y]))) else .bad
    | _ => .bad)
  | _ => .bad
def fAppS (fa fb : FE) : FE := fun ρ S => (fa ρ S).bind fun x S1 => if isLst x S1 = true then (fb ρ S1).bind fun y S2 => appSt x y S2 else .bad
theorem q_appS {o : Expr} (ho : PE X o (LE X Wc fa)) (ha : PE X e (LE X Wc fb))
    (hbase : attributeBase o "append" X.env (eval o X.env) = eval o X.env := by rfl)
    (hfew : ((backTo cpos (starEach [e] X.env)).all (fun x => !x.1) && (backToKw cpos (keywordEach [] X.env)).all (fun x => x.1.isSome)
      && decide (([e] : List Expr).length + ([] : List Keyword).length + (if ([] : List Keyword).isEmpty then 0 else 1) < 30)) = true := by rfl)
    (hline : (apos.endLine == cpos.line) = true := by rfl) (hs : starEach [e] X.env = (false, eval e X.env) :: starEach [] X.env := by rfl) (hplain : (backTo cpos (starEach [] X.env)).any (·.1) = false := by rfl) :
    PE X (.Call (.Attribute o "append" apos) [e] [] cpos) (LE X Wc (fAppS fa fb)) :=
  PE.imp (pe_bm PySem.F.plainAttrs_list PySem.F.slot_list_append PySem.F.type_list_append mt_append ho (pa_cons ha pa_nil hs) hbase hfew hline hs hplain) fun σ H Q h => by
  obtain ⟨F, D, m, ρ, S, r0, c⟩ := h
  refine step r0 c fun F1 m1 x v S1 H1 l1 p1 r1 e1 c1 => ?_
  split at c1
  · rename_i hx
    obtain ⟨n, a, vs, rfl, rfl, ea, h1⟩ := isLst_rep r1 hx e1
    refine ⟨.inl ⟨rfl, vs, .inl (.inl h1)⟩, ?_⟩
    refine step r1 c1 fun F2 m2 y u S2 H2 l2 p2 r2 e2 c2 => ?_
    have ea := pre_get p2 ea
    unfold appSt at c2
    dsimp only at c2
    split at c2
    · rename_i xs es
      split at c2
      · rename_i hl
        obtain ⟨ho, h2, ⟨us, rfl, q⟩, hfr, _⟩ := r2.b.st n a _ ea es
        refine ⟨a, us, u, rfl, rfl, h2, by rw [← Paired.length q, sizeLine_eq]; exact hl, ?_⟩
        exact c2 F2 m2 .non _ Le.refl (List.prefix_refl m2) (r2.put ea hfr ⟨_, rfl, Paired.snoc q e2⟩) Dp.non
      · exact c2.elim
    · exact c2.elim
  · exact c1.elim
/-- x.pop(e) -/
def popSt (x y : W) (S : List Ob) : Res W := match x, y with
  | .ref n, .d (.int k) => (match S[n]? with
    | some (.lst xs) => (match ixN xs.length k with
      | some j => (match xs[j]? with
        | some z => if xs.length ≤ 16777216 then .ok z (S.set n (.lst (xs.eraseIdx j))) else .bad
        | none => .bad)
      | none => .bad)
    | _ => .bad)
  | _, _ => .bad
def fPopS (fa fb : FE) : FE := fun ρ S => (fa ρ S).bind fun x S1 => if isLst x S1 = true then (fb ρ S1).bind fun y S2 => popSt x y S2 else .bad
theorem q_popS {o : Expr} (ho : PE X o (LE X Wc fa)) (ha : PE X e (LE X Wc fb))
    (hbase : attributeBase o "pop" X.env (eval o X.env) = eval o X.env := by rfl)
    (hfew : ((backTo cpos (starEach [e] X.env)).all (fun x => !x.1) && (backToKw cpos (keywordEach [] X.env)).all (fun x => x.1.isSome)
      && decide (([e] : List Expr).length + ([] : List Keyword).length + (if ([] : List Keyword).isEmpty then 0 else 1) < 30)) = true := by rfl)
    (hline : (apos.endLine == cpos.line) = true := by rfl) (hs : starEach [e] X.env = (false, eval e X.env) :: starEach [] X.env := by rfl) (hplain : (backTo cpos (starEach [] X.env)).any (·.1) = false := by rfl) :
    PE X (.Call (.Attribute o "pop" apos) [e] [] cpos) (LE X Wc (fPopS fa fb)) :=
  PE.imp (pe_bm PySem.F.plainAttrs_list PySem.F.slot_list_pop PySem.F.type_list_pop mt_popAt ho (pa_cons ha pa_nil hs) hbase hfew hline hs hplain) fun σ H Q h => by
  obtain ⟨F, D, m, ρ, S, r0, c⟩ := h
  refine step r0 c fun F1 m1 x v S1 H1 l1 p1 r1 e1 c1 => ?_
  split at c1
  · rename_i hx
    obtain ⟨n, a, vs, rfl, rfl, ea, h1⟩ := isLst_rep r1 hx e1
    refine ⟨.inl ⟨rfl, vs, .inl (.inl h1)⟩, ?_⟩
    refine step r1 c1 fun F2 m2 y u S2 H2 l2 p2 r2 e2 c2 => ?_
    have ea := pre_get p2 ea
    rcases rep_int e2 with ⟨k, rfl, rfl⟩ | nk
    · unfold popSt at c2
      dsimp only at c2
      split at c2
      · rename_i xs es
        split at c2
        · rename_i j ej
          split at c2
          · rename_i z ez
            split at c2
            · rename_i hl
              obtain ⟨ho, h2, ⟨us, rfl, q⟩, hfr, _⟩ := r2.b.st n a _ ea es
              obtain ⟨w, ew, rw'⟩ := paired_get q ez
              have el := Paired.length q
              obtain ⟨k1, k2, k3, k4⟩ := ixN_seq ej
              refine ⟨a, us, k, j, w, rfl, rfl, h2, by omega, by omega, by rw [← el]; exact k1, ew, ?_⟩
              exact c2 F2 m2 w _ Le.refl (List.prefix_refl m2) (r2.put ea hfr ⟨_, rfl, paired_erase j q⟩) rw'
            · exact c2.elim
          · exact c2.elim
        · exact c2.elim
      · exact c2.elim
    · unfold popSt at c2
      split at c2
      · exact absurd rfl (nk _)
      · exact c2.elim
  · exact c1.elim

/-! ### own dicts -/
def keyOf : W → Option Key
  | .d (.int i) => some (.inl i)
  | .d (.str z) => some (.inr z)
  | _ => none
theorem keyOf_rep {K : PySem.W.Frag} {Fr : Hp} {μ : List Addr} {x : W} {v : V} {k : Key} (h : keyOf x = some k) (e : RepW K Fr μ x v) : v = kV k := by
  cases x with
  | ref n => cases h
  | d x =>
    rcases rep_cases (μ := μ) e with ⟨rfl, rfl⟩ | ⟨b, rfl, rfl⟩ | ⟨i, rfl, rfl⟩ | ⟨z, rfl, rfl⟩ | ⟨a, vs, ds, rfl, rfl, h1, h2⟩ | ⟨a, vs, ds, rfl, rfl, h1, h2⟩
    · cases h
    · cases h
    · cases h; rfl
    · cases h; rfl
    · cases h
    · cases h
def valW (kvs : List (Key × W)) (k : Key) : Option W := (kvs.find? fun kv => decide (kv.1 = k)).map (·.2)
def putW (kvs : List (Key × W)) (k : Key) (v : W) : List (Key × W) :=
  if (kvs.any fun kv => decide (kv.1 = k)) = true then kvs.map (fun kv => if kv.1 = k then (kv.1, v) else kv) else kvs ++ [(k, v)]
theorem valW_rep {K : PySem.W.Frag} {Fr : Hp} {μ : List Addr} {k : Key} : ∀ {kvs : List (Key × W)} {vs : List (Key × V)}, RepKV K Fr μ kvs vs → (valW kvs k = none ∧ valV vs k = none) ∨ ∃ x v, valW kvs k = some x ∧ valV vs k = some v ∧ RepW K Fr μ x v
  | _, _, .nil => .inl ⟨rfl, rfl⟩
  | (k1, x) :: r, (k2, v) :: t, .cons h rest => by
    obtain ⟨e, q⟩ := h
    have e : k1 = k2 := e
    subst e
    by_cases z : k1 = k
    · refine .inr ⟨x, v, ?_, ?_, q⟩ <;> simp [valW, valV, List.find?_cons, z]
    · have ih := valW_rep (k := k) rest
      have e1 : valW ((k1, x) :: r) k = valW r k := by simp [valW, List.find?_cons, z]
      have e2 : valV ((k1, v) :: t) k = valV t k := by simp [valV, List.find?_cons, z]
      rw [e1, e2]; exact ih
theorem any_rep {K : PySem.W.Frag} {Fr : Hp} {μ : List Addr} {k : Key} : ∀ {kvs : List (Key × W)} {vs : List (Key × V)}, RepKV K Fr μ kvs vs → (kvs.any fun kv => decide (kv.1 = k)) = (vs.any fun kv => decide (kv.1 = k))
  | _, _, .nil => rfl
  | (k1, x) :: r, (k2, v) :: t, .cons h rest => by
    obtain ⟨e, q⟩ := h
    have e : k1 = k2 := e
    subst e
    rw [List.any_cons, List.any_cons, any_rep rest]
theorem map_rep {K : PySem.W.Frag} {Fr : Hp} {μ : List Addr} {k : Key} {y : W} {u : V} (hy : RepW K Fr μ y u) : ∀ {kvs : List (Key × W)} {vs : List (Key × V)}, RepKV K Fr μ kvs vs → RepKV K Fr μ (kvs.map fun kv => if kv.1 = k then (kv.1, y) else kv) (vs.map fun kv => if kv.1 = k then (kv.1, u) else kv)
  | _, _, .nil => .nil
  | (k1, x) :: r, (k2, v) :: t, .cons h rest => by
    obtain ⟨e, q⟩ := h
    have e : k1 = k2 := e
    subst e
    refine .cons ?_ (map_rep hy rest)
    by_cases z : k1 = k
    · dsimp only; rw [if_pos z, if_pos z]; exact ⟨rfl, hy⟩
    · dsimp only; rw [if_neg z, if_neg z]; exact ⟨rfl, q⟩
theorem putW_rep {K : PySem.W.Frag} {Fr : Hp} {μ : List Addr} {k : Key} {y : W} {u : V} (hy : RepW K Fr μ y u) {kvs : List (Key × W)} {vs : List (Key × V)} (h : RepKV K Fr μ kvs vs) : RepKV K Fr μ (putW kvs k y) (putK vs k u) := by
  unfold putW putK
  rw [any_rep h]
  split
  · exact map_rep hy h
  · exact Paired.snoc h ⟨rfl, hy⟩
theorem own_dct {Fr Hd : Hp} {μ : List Addr} {ρ : List Sl} {S : List Ob} {σ : St} {H : Hp} (r : R X.K Fr Hd μ ρ S σ H) {i : Nat} {xs : List (Key × W)} (e : ρ[i]? = some (.own (.dct xs))) :
    ∃ a vs, σ[i]? = some (some (.ref a)) ∧ H a = some (.dK vs) ∧ RepKV X.K Fr μ xs vs := by
  obtain ⟨a, ho, e1, h1, ⟨vs, rfl, q⟩, _⟩ := r.s.sl i _ e
  exact ⟨a, vs, e1, h1, q⟩
def fDnew : FO := fun _ S => .ok (.dct []) S
theorem q_dnew : PE X (.Dict [] [] pos) (LO X Wc fDnew) := PE.imp pe_dnewK fun σ H Q h => by
  obtain ⟨F, D, m, ρ, S, r, c⟩ := h
  intro q hq
  have f := r.new hq
  exact c F m (.ref q) _ Le.refl (List.prefix_refl m) (r.upd (o := .dK []) f) ⟨q, .dK [], rfl, upd_same, ⟨[], rfl, .nil⟩, f⟩
/-- d[e] -/
def getD (kvs : List (Key × W)) (y : W) (S : List Ob) : Res W := match keyOf y with
  | some k => (match valW kvs k with
    | some x => .ok x S
    | none => .bad)
  | none => .bad
def fDget (i : Nat) (fb : FE) : FE := fun ρ S => match ρ[i]? with
  | some (.own (.dct kvs)) => (fb ρ S).bind (getD kvs)
  | _ => .bad
theorem q_dget {i : Nat} {x : Str} {p' : Pos} (hu : X.A.units + 1 < cLine) (hN : X.N[i]? = some x) (hv : Vis X.env.scope x) (hb : PE X b (LE X Wc fb)) (hs : NoSl b := by exact fun _ _ => rfl) (hd : (x == ("__debug__" : Str)) = false := by decide) (hcd : (x == ("__classdict__" : Str)) = false := by decide) :
    PE X (.Subscript (.Name x p') b pos) (LE X Wc (fDget i fb)) := PE.imp (pe_dget hu (pe_var hN hv hd hcd) hb hs) fun σ H Q h => by
  obtain ⟨F, D, m, ρ, S, r, c⟩ := h
  unfold fDget at c
  split at c
  · rename_i kvs ex
    obtain ⟨a, vs, ea, _, _⟩ := own_dct r ex
    refine ⟨_, ea, ?_⟩
    refine step r c fun F1 m1 y v S1 H1 l1 p1 r1 ey c1 => ?_
    obtain ⟨a', vs', ea', h1', q1'⟩ := own_dct r1 ex
    rw [ea] at ea'
    cases ea'
    unfold getD at c1
    split at c1
    · rename_i k hk
      split at c1
      · rename_i x hx
        rcases valW_rep (k := k) q1' with ⟨e1, _⟩ | ⟨x', v', e1, e2, e3⟩
        · rw [hx] at e1; cases e1
        · rw [hx] at e1
          cases e1
          rw [keyOf_rep hk ey]
          exact ⟨a, v', rfl, e2 ▸ DGet.k h1', rt r1 c1 e3⟩
      · exact c1.elim
    · exact c1.elim
  · exact c.elim
/-- d.get(e, f) -/
def fDget2 (i : Nat) (fb fc : FE) : FE := fun ρ S => match ρ[i]? with
  | some (.own (.dct kvs)) => (fb ρ S).bind fun y S1 => (fc ρ S1).bind fun z S2 => (match keyOf y with
    | some k => .ok ((valW kvs k).getD z) S2
    | none => .bad)
  | _ => .bad
theorem q_dget2 {i : Nat} {x : Str} {p' : Pos} (hu : X.A.units + 1 < cLine) (hN : X.N[i]? = some x) (hv : Vis X.env.scope x) (hb : PE X b (LE X Wc fb)) (hc : PE X e (LE X Wc fc)) (m : M2 X (.Name x p') "get" apos b e cpos := by exact ⟨rfl, rfl, rfl, rfl⟩) (hd : (x == ("__debug__" : Str)) = false := by decide) (hcd : (x == ("__classdict__" : Str)) = false := by decide) :
    PE X (.Call (.Attribute (.Name x p') "get" apos) [b, e] [] cpos) (LE X Wc (fDget2 i fb fc)) := PE.imp (pe_dget2 hu (pe_var hN hv hd hcd) hb hc m) fun σ H Q h => by
  obtain ⟨F, D, m, ρ, S, r, c⟩ := h
  unfold fDget2 at c
  split at c
  · rename_i kvs ex
    obtain ⟨a, vs, ea, h0, _⟩ := own_dct r ex
    refine ⟨_, ea, a, rfl, .inl ⟨vs, .inl h0⟩, ?_⟩
    refine step r c fun F1 m1 y v S1 H1 l1 p1 r1 ey c1 => ?_
    refine step r1 c1 fun F2 m2 z u S2 H2 l2 p2 r2 ez c2 => ?_
    obtain ⟨a', vs', ea', h1', q1'⟩ := own_dct r2 ex
    rw [ea] at ea'
    cases ea'
    split at c2
    · rename_i k hk
      rw [keyOf_rep hk ey]
      refine ⟨_, DGet.k h1', ?_⟩
      rcases valW_rep (k := k) q1' with ⟨e1, e2⟩ | ⟨x', v', e1, e2, e3⟩
      · rw [e2]; rw [e1] at c2; exact rt r2 c2 ez
      · rw [e2]; rw [e1] at c2; exact rt r2 c2 e3
    · exact c2.elim
  · exact c.elim
/-- e in d, e not in d -/
def fDin (neg : Bool) (i : Nat) (fb : FE) : FE := fun ρ S => match ρ[i]? with
  | some (.own (.dct _)) => (fb ρ S).bind fun y S1 => (match ρ[i]?, keyOf y with
    | some (.own (.dct kvs)), some k => .ok (.d (.bool (neg ^^ (valW kvs k).isSome))) S1
    | _, _ => .bad)
  | _ => .bad
theorem din_imp {i : Nat} {neg : Bool} {σ : St} {H : Hp} {Q : VK} (h : LE X Wc (fDin neg i fb) σ H Q) : LE X Wc fb σ H fun y H1 => tVar i σ H1 fun x H2 => ∃ a o, x = .ref a ∧ DGet H2 a y o ∧ Q (.bl (neg ^^ o.isSome)) H2 := by
  obtain ⟨F, D, m, ρ, S, r, c⟩ := h
  unfold fDin at c
  split at c
  · rename_i kvs ex
    refine step r c fun F1 m1 y v S1 H1 l1 p1 r1 ey c1 => ?_
    obtain ⟨a, vs, ea, h1, q1⟩ := own_dct r1 ex
    rw [ex] at c1
    split at c1
    · rename_i kvs' k e1 hk
      cases e1
      refine ⟨_, ea, a, valV vs k, rfl, ?_, ?_⟩
      · rw [keyOf_rep hk ey]; exact DGet.k h1
      · rcases valW_rep (k := k) q1 with ⟨e1, e2⟩ | ⟨x', v', e1, e2, e3⟩
        · rw [e2]; rw [e1] at c1; exact rt r1 c1 (Dp.bl _)
        · rw [e2]; rw [e1] at c1; exact rt r1 c1 (Dp.bl _)
    · exact c1.elim
  · exact c.elim
theorem q_din {i : Nat} {x : Str} {p' : Pos} (hu : X.A.units + 1 < cLine) (hN : X.N[i]? = some x) (hv : Vis X.env.scope x) (hb : PE X b (LE X Wc fb)) (hd : (x == ("__debug__" : Str)) = false := by decide) (hcd : (x == ("__classdict__" : Str)) = false := by decide) :
    PE X (.Compare b [.In] [.Name x p'] pos) (LE X Wc (fDin false i fb)) := PE.imp (pe_cmp (pc_din hu hb (pe_var hN hv hd hcd)) rfl) fun σ H Q h => lift.imp (fun y H1 ⟨u, e1, a, o, e2, e3, q⟩ => ⟨u, e1, a, o, e2, e3, by rw [Bool.false_xor] at q; exact q⟩) (din_imp h)
theorem q_dnotin {i : Nat} {x : Str} {p' : Pos} (hu : X.A.units + 1 < cLine) (hN : X.N[i]? = some x) (hv : Vis X.env.scope x) (hb : PE X b (LE X Wc fb)) (hd : (x == ("__debug__" : Str)) = false := by decide) (hcd : (x == ("__classdict__" : Str)) = false := by decide) :
    PE X (.Compare b [.NotIn] [.Name x p'] pos) (LE X Wc (fDin true i fb)) := PE.imp (pe_cmp (pc_dnotin hu hb (pe_var hN hv hd hcd)) rfl) fun σ H Q h => lift.imp (fun y H1 ⟨u, e1, a, o, e2, e3, q⟩ => ⟨u, e1, a, o, e2, e3, by rw [Bool.true_xor] at q; exact q⟩) (din_imp h)
theorem t_din {i : Nat} {x : Str} {p' : Pos} (hu : X.A.units + 1 < cLine) (hN : X.N[i]? = some x) (hv : Vis X.env.scope x) (hb : PE X b (LE X Wc fb)) (hd : (x == ("__debug__" : Str)) = false := by decide) (hcd : (x == ("__classdict__" : Str)) = false := by decide) :
    PT X (.Compare b [.In] [.Name x p'] pos) (LB X Wc (fT (fDin false i fb))) := PT.imp (pt_cmp (pc_din hu hb (pe_var hN hv hd hcd)) rfl) fun σ H Q h => lift.imp (fun y H1 ⟨u, e1, a, o, e2, e3, q⟩ => ⟨u, e1, a, o, e2, e3, by rw [Bool.false_xor] at q; exact q⟩) (din_imp (t_imp h))
theorem t_dnotin {i : Nat} {x : Str} {p' : Pos} (hu : X.A.units + 1 < cLine) (hN : X.N[i]? = some x) (hv : Vis X.env.scope x) (hb : PE X b (LE X Wc fb)) (hd : (x == ("__debug__" : Str)) = false := by decide) (hcd : (x == ("__classdict__" : Str)) = false := by decide) :
    PT X (.Compare b [.NotIn] [.Name x p'] pos) (LB X Wc (fT (fDin true i fb))) := PT.imp (pt_cmp (pc_dnotin hu hb (pe_var hN hv hd hcd)) rfl) fun σ H Q h => lift.imp (fun y H1 ⟨u, e1, a, o, e2, e3, q⟩ => ⟨u, e1, a, o, e2, e3, by rw [Bool.true_xor] at q; exact q⟩) (din_imp (t_imp h))
/-- d[e] = v -/
def fDput (i : Nat) (fk fv : FE) : FT := fun ρ S => fl (fv ρ S) ρ fun v S1 => match ρ[i]? with
  | some (.own (.dct kvs)) => fl (fk ρ S1) ρ fun y S2 => (match keyOf y with
    | some k => if kvs.length < 16777216 then .nx (ρ.set i (.own (.dct (putW kvs k v)))) S2 else .bad
    | none => .bad)
  | _ => .bad
theorem s_dput {i : Nat} {x : Str} {p' pos' : Pos} {value : Expr} {fk fv : FE} (hu : X.A.units + 1 < cLine) (hN : X.N[i]? = some x) (hvs : Vis X.env.scope x) (hk : PE X e (LE X Wc fk)) (hv : PE X value (LE X Wc fv)) (hs : swapsWith value (some (.Subscript (.Name x p') e pos')) pos.line X.env = pure false := by rfl)
    (hd : (x == ("__debug__" : Str)) = false := by decide) (hcd : (x == ("__classdict__" : Str)) = false := by decide) :
    PS X (.Assign [.Subscript (.Name x p') e pos'] value pos) (LS X Wc (fDput i fk fv)) := PS.imp (ps_dput hu (pe_var hN hvs hd hcd) hk hv hs) fun D σ H h => by
  obtain ⟨F, Hd, m, ρ, S, r, c⟩ := h
  refine stepS r c fun F1 m1 v vv S1 H1 l1 p1 r1 e1 c1 => ?_
  split at c1
  · rename_i kvs ex
    obtain ⟨a, vs, ea, _, _⟩ := own_dct r1 ex
    refine ⟨_, ea, ?_⟩
    refine stepS r1 c1 fun F2 m2 y u S2 H2 l2 p2 r2 e2 c2 => ?_
    obtain ⟨a', vs', ea', h1', q1'⟩ := own_dct r2 ex
    rw [ea] at ea'
    cases ea'
    split at c2
    · rename_i k hk
      split at c2
      · rename_i hl
        rw [keyOf_rep hk e2]
        have el := Paired.length q1'
        exact ⟨a, _, rfl, DPut.k h1' (by rw [sizeLine_eq]; omega), c2 F2 m2 σ _ Le.refl (List.prefix_refl m2) (r2.putOwn ex ea ⟨_, rfl, putW_rep (RepW.mono l2 p2 e1) q1'⟩)⟩
      · exact c2.elim
    · exact c2.elim
  · exact c1.elim
/-- sorted(d): fewer than 64 keys, all ints -/
def intKeys : List (Key × W) → Option (List Int)
  | [] => some []
  | (.inl i, _) :: r => (intKeys r).map (i :: ·)
  | (.inr _, _) :: _ => none
theorem intKeys_map {K : PySem.W.Frag} {Fr : Hp} {μ : List Addr} : ∀ {kvs : List (Key × W)} {vs : List (Key × V)} {ks : List Int}, intKeys kvs = some ks → RepKV K Fr μ kvs vs → vs.map (·.1) = ks.map Sum.inl
  | [], _, _, h, .nil => by cases h; rfl
  | (.inl i, x) :: r, (k2, v) :: t, ks, h, .cons q rest => by
    unfold intKeys at h
    cases z : intKeys r with
    | none => rw [z] at h; cases h
    | some l =>
      rw [z] at h
      cases h
      have e : Sum.inl i = k2 := q.1
      rw [List.map_cons, List.map_cons, intKeys_map z rest, ← e]
  | (.inr i, x) :: r, _ :: _, ks, h, .cons q rest => by cases h
def fDsrt (i : Nat) : FO := fun ρ S => match ρ[i]? with
  | some (.own (.dct kvs)) => (match intKeys kvs with
    | some ks => if ks.length < 64 then .ok (.lst ((ks.mergeSort).map fun i => .d (.int i))) S else .bad
    | none => .bad)
  | _ => .bad
theorem sort_uniq {xs ys : List Int} (p : ys.Perm xs) (h : ys.Pairwise (· ≤ ·)) : ys = xs.mergeSort := by
  have s : (xs.mergeSort).Pairwise (fun a b => a ≤ b) := by
    have := List.pairwise_mergeSort (le := fun a b : Int => decide (a ≤ b)) (fun a b c h1 h2 => by simp only [decide_eq_true_eq] at *; omega) (fun a b => by simp only [Bool.or_eq_true, decide_eq_true_eq]; omega) xs
    exact this.imp fun h => of_decide_eq_true h
  exact List.Perm.eq_of_pairwise (fun _ _ _ _ a b => Int.le_antisymm a b) h s (p.trans (List.mergeSort_perm xs _).symm)
theorem q_dsrt {i : Nat} {x : Str} {p' : Pos} (hc : X.calm = true) (hg : Gl X "sorted") (hm : X.mg "sorted" = none) (hN : X.N[i]? = some x) (hv : Vis X.env.scope x) (hd : (x == ("__debug__" : Str)) = false := by decide) (hcd : (x == ("__classdict__" : Str)) = false := by decide)
    (hs : starEach [.Name x p'] X.env = (false, eval (.Name x p') X.env) :: starEach [] X.env := by rfl) (hpl : (backTo pos (starEach [] X.env)).any (·.1) = false := by rfl) :
    PE X (.Call (.Name "sorted" p) [.Name x p'] [] pos) (LO X Wc (fDsrt i)) :=
  PE.imp (pe_callB (call_sortedDI hc) hg hm (by decide +kernel) (pa_cons (pe_var hN hv hd hcd) pa_nil hs) (he := hs) (hpl := hpl)) fun σ H Q h => by
  obtain ⟨F, D, m, ρ, S, r, c⟩ := h
  unfold fDsrt at c
  split at c
  · rename_i kvs ex
    obtain ⟨a, vs, ea, h1, q1⟩ := own_dct r ex
    split at c
    · rename_i ks hk
      split at c
      · rename_i hl
        refine ⟨_, ea, a, vs, ks, rfl, .inl h1, intKeys_map hk q1, hl, fun ys q hp hy hq => ?_⟩
        rw [sort_uniq hp hy]
        refine new_lst r ?_ hq c
        have := rep_dats (K := X.K) (Fr := F) (μ := m) (ds := (ks.mergeSort).map PyData.int) (vs := (ks.mergeSort).map V.int) ?_
        · rw [List.map_map] at this; exact this
        · generalize ks.mergeSort = l
          induction l with
          | nil => exact .nil
          | cons x r ih => exact .cons (Dp.int _) ih
      · exact c.elim
    · exact c.elim
  · exact c.elim

/-! ### defs by names -/
abbrev FnP (K : PySem.W.Frag) (x : Str) (st : Stmt) (f : Addr) (fd : FuncData) : Prop := FunD K x x (defArgs st) (defBody st) (defScope st) [] [] f fd
theorem FnP.toFun {K : PySem.W.Frag} {x : Str} {st : Stmt} {f : Addr} {fd : FuncData} (F : FnP K x st f fd) : Fun K x x st f fd := by
  obtain ⟨oc, od, dV, kV, doc, pm, an, cdv, ct, osl, rfl, lk, hcd, hD, hK⟩ := F.ex
  rcases hD with ⟨_, rfl⟩ | ⟨e, _⟩
  · exact ⟨⟨oc, od, kV, doc, pm, an, cdv, ct, osl, rfl, lk, hcd⟩, F.kp⟩
  · exact absurd rfl e
/-- how a call with keywords in the parameters' order binds -/
def KwB (fd : FuncData) (ps ks : List Str) (n1 : Nat) : Prop := ∀ (s : Shared) (us ws : List Value), us.length = n1 → ws.length = ks.length → BindsTo s fd ⟨us, ks.zip ws⟩ (ps.zip (us ++ ws))
theorem FnP.kwb {K : PySem.W.Frag} {x : Str} {st : Stmt} {f : Addr} {fd : FuncData} {ps ks : List Str} {n1 : Nat} (F : FnP K x st f fd)
    (h : ∀ (kV doc pm : Value) (an : Option Addr) (cdv ct : Value) (us ws : List Value), us.length = n1 → ws.length = ks.length → bindArgs (PySem.W.fnOf x x (defArgs st) (defBody st) (defScope st) .none kV doc pm an cdv ct) ⟨us, ks.zip ws⟩ = pure (ps.zip (us ++ ws))) : KwB fd ps ks n1 := by
  obtain ⟨oc, od, dV, kV, doc, pm, an, cdv, ct, osl, rfl, lk, hcd, hD, hK⟩ := F.ex
  rcases hD with ⟨_, rfl⟩ | ⟨e, _⟩
  · exact fun s us ws h1 h2 => .of_eq (h kV doc pm an cdv ct us ws h1 h2)
  · exact absurd rfl e
variable {k : Nat} {f : Addr} {fd : FuncData} {ps ks : List Str} {m : FM} {x : Str} {kws : List Keyword}
theorem kw_run {n1 : Nat} {sp : Sp} {pins : List (Addr × Obj)} {σ : St} {H : Hp} {s : Shared} {Q : VK} {us ws : List Value} {vs zs : List V} (F : FnOk X.prog X.w X.K X.mg X.base (L2.CX X.prog X.w) k f fd ps sp) (hr : Room k X.A) (hb : KwB fd ps ks n1) (tk : Takes X Wc)
    (I : Inv X pins σ H s) (r : Vals vs us) (rz : Vals zs ws) (hv : vs.length = n1) (hl : zs.length = ks.length) (h : sp (vs ++ zs) H Q (WE Wc σ)) : wpAny (model X.prog X.w) X.A (call (.ref f) us (ks.zip ws)) (EP X pins σ Q) X.xe s := by
  have r2 := r.append rz
  have hl2 : (us ++ ws).length = ps.length := by rw [← r2.length]; exact F.len _ _ _ _ h
  have hl3 : ws.length = ks.length := by rw [← rz.length]; exact hl
  refine wpAny_call (codeAny_mono (F.run X.A X.stack s H ⟨us, ks.zip ws⟩ (us ++ ws) (vs ++ zs) Q (WE Wc σ) hr I.env0 (hb s us ws (by rw [← r.length]; exact hv) hl3) r2 h) fun r s' hq => ?_)
  cases r with
  | error e => exact passAt tk σ pins H s e s' I hq
  | ok fl =>
    cases fl with
    | ret u => exact I.after hq
    | next => exact False.elim hq
    | brk => exact False.elim hq
    | cont => exact False.elim hq
/-- the keywords' values -/
theorem k_nil : PK X [] (LA X Wc fNil) := ⟨fun pos pins s σ H Q I h => pk_nil.run pos pins s σ H Q I (by
  obtain ⟨F, D, m, ρ, S, r0, c⟩ := h
  exact c F m [] H Le.refl (List.prefix_refl m) r0 .nil)⟩
theorem k_cons {nm : Option Str} {kpos : Pos} (ha : PE X e (LE X Wc fa)) (hr : PK X kws (LA X Wc fr)) : PK X (⟨nm, e, kpos⟩ :: kws) (LA X Wc (fCons fa fr)) := ⟨fun pos pins s σ H Q I h => (pk_cons ha hr).run pos pins s σ H Q I (by
  obtain ⟨F, D, m, ρ, S, r0, c⟩ := h
  refine step r0 c fun F1 m1 x v S1 H1 l1 p1 r1 e1 c1 => ?_
  refine step r1 c1 fun F2 m2 xs vs S2 H2 l2 p2 r2 e2 c2 => ?_
  exact c2 F2 m2 _ H2 Le.refl (List.prefix_refl m2) r2 (.cons (RepW.mono l2 p2 e1) e2))⟩
def fApd (f g : FA) : FA := fun ρ S => (f ρ S).bind fun xs S1 => (g ρ S1).bind fun ys S2 => .ok (xs ++ ys) S2
variable {fk : FA}
/-- f(e, .., k = v, ..) -/
theorem kw_imp {n1 n2 : Nat} (hn : n1 + n2 = ps.length) (hl1 : LenN fr n1) (hl2 : LenN fk n2) {σ : St} {H : Hp} {Q : VK} (h : LE X Wc (fCall m (fApd fr fk)) σ H Q) :
    LA X Wc fr σ H fun vs H1 => LA X Wc fk σ H1 fun zs H2 => vs.length = n1 ∧ zs.length = n2 ∧ spOf X.K X.mg m ps.length (vs ++ zs) H2 Q (WE Wc σ) := by
  obtain ⟨F0, Hd, μ, ρ, S, r, c⟩ := h
  unfold fCall fApd at c
  rw [bind_assoc] at c
  refine ⟨F0, Hd, μ, ρ, S, r, ?_⟩
  cases q1 : fr ρ S with
  | bad => rw [q1] at c; exact c.elim
  | err z S1 => rw [q1] at c; exact c
  | ok ws S1 =>
    rw [q1] at c
    intro F1 m1 vs H1 l1 p1 r1 e1
    refine ⟨F1, Hd, m1, ρ, S1, r1, ?_⟩
    have c : cont X.K X.mg Wc (repE X.K) F0 Hd μ ρ σ Q (((fk ρ S1).bind fun ys S2 => .ok (ws ++ ys) S2).bind fun ws S1 => (m ws S1).bind rvW) := c
    rw [bind_assoc] at c
    cases q2 : fk ρ S1 with
    | bad => rw [q2] at c; exact c.elim
    | err z S2 => rw [q2] at c; exact fun F2 m2 C H2 l2 p2 r2 hC => c F2 m2 C H2 (l1.trans l2) (p1.trans p2) r2 hC
    | ok us S2 =>
      rw [q2] at c
      intro F2 m2 zs H2 l2 p2 r2 e2
      have g1 := Paired.length e1
      have g2 := Paired.length e2
      have g3 := hl1 _ _ _ _ q1
      have g4 := hl2 _ _ _ _ q2
      refine ⟨by omega, by omega, ?_⟩
      have ee : RepWs X.K F2 m2 (ws ++ us) (vs ++ zs) := paired_app (RepWs.mono l2 p2 e1) e2
      exact sp_call (by rw [List.length_append]; omega) r2 ee (cont.mono (l1.trans l2) (p1.trans p2) (fun _ _ z => z) c)
theorem q_callK {n1 n2 : Nat} (F : FnQ X.prog X.w X.K X.mg X.base k f fd ps m) (hr : Room k X.A) (hg : Gl X x) (hm : X.mg x = some (.ref f)) (hk : PySem.W.keepIn X.K (.ref f) = true) (hb : KwB fd ps ks n1) (tk : Takes X Wc)
    (hl1 : LenN fr n1) (hl2 : LenN fk n2) (hn : n1 + n2 = ps.length) (hn2 : n2 = ks.length) (ha : PA X (e :: es) (LA X Wc fr)) (hkw : PK X kws (LA X Wc fk))
    (hall : (backToKw pos (keywordEach kws X.env)).all (·.1.isSome) = true := by rfl) (hks : (backToKw pos (keywordEach kws X.env)).filterMap (·.1) = ks := by rfl)
    (hdb : (x == ("__debug__" : Str)) = false := by decide) (he : starEach (e :: es) X.env = (false, eval e X.env) :: starEach es X.env := by rfl)
    (hpl : ((backTo pos (starEach (e :: es) X.env)).any (·.1) || (backToKw pos (keywordEach kws X.env)).any (·.1.isNone)) = false := by rfl) :
    PE X (.Call (.Name x p) (e :: es) kws pos) (LE X Wc (fCall m (fApd fr fk))) := by
  refine ⟨fun pins s σ H Q I h => ?_⟩
  have h := kw_imp hn hl1 hl2 h
  refine wpAny_Call_Name_kw (ld_glob I hg hm ?_ hdb)
  refine PySem.W.callWith_KW (h₀ := X.base) I.ok.mod.kin hk hall (thn (ha.run pos pins s σ H _ I h) fun us s1 ⟨vs, H1, I1, r, q⟩ => ?_) hpl he
  refine thn (hkw.run pos pins s1 σ H1 _ I1 q) fun ws s2 ⟨zs, H2, I2, rz, hv, hz, q2⟩ => ⟨I2.kIn, ?_⟩
  rw [hks]
  exact kw_run F hr hb tk I2 r rz hv (hz.trans hn2) q2
/-- f(k = v, ..) -/
theorem q_callK0 {n2 : Nat} (F : FnQ X.prog X.w X.K X.mg X.base k f fd ps m) (hr : Room k X.A) (hg : Gl X x) (hm : X.mg x = some (.ref f)) (hk : PySem.W.keepIn X.K (.ref f) = true) (hb : KwB fd ps ks 0) (tk : Takes X Wc)
    (hl2 : LenN fk n2) (hn : n2 = ps.length) (hn2 : n2 = ks.length) (hkw : PK X kws (LA X Wc fk))
    (hall : (backToKw pos (keywordEach kws X.env)).all (·.1.isSome) = true := by rfl) (hks : (backToKw pos (keywordEach kws X.env)).filterMap (·.1) = ks := by rfl)
    (hdb : (x == ("__debug__" : Str)) = false := by decide)
    (hpl : ((backTo pos (starEach [] X.env)).any (·.1) || (backToKw pos (keywordEach kws X.env)).any (·.1.isNone)) = false := by rfl) :
    PE X (.Call (.Name x p) [] kws pos) (LE X Wc (fCall m (fApd fNil fk))) := by
  refine ⟨fun pins s σ H Q I h => ?_⟩
  have h := kw_imp (n1 := 0) (n2 := n2) (ps := ps) (by omega) ln_nil hl2 h
  obtain ⟨F0, Hd, μ, ρ, S, r, c⟩ := h
  have h := c F0 μ [] H Le.refl (List.prefix_refl μ) r .nil
  refine wpAny_Call_Name_kw (ld_glob I hg hm ?_ hdb)
  refine PySem.W.callWith_KW0 (h₀ := X.base) I.ok.mod.kin hk hall ?_ hpl
  refine thn (hkw.run pos pins s σ H _ I h) fun ws s2 ⟨zs, H2, I2, rz, hv, hz, q2⟩ => ⟨I2.kIn, ?_⟩
  rw [hks]
  exact kw_run (us := []) (vs := []) F hr hb tk I2 .nil rz hv (hz.trans hn2) q2
end
end L2.Q
/-! Layer Q, part M: a slot's object handed back; * of tuples; zip, enumerate; max, min. -/
namespace L2.Q
open PySem PySem.Spec PyProof.Rows

section
variable {X : Cx} {Wc : WX} {a b e e2 : Expr} {es : List Expr} {pos p apos cpos : Pos} {fa fb fc : FE} {fo fo2 : FO} {fl1 : FA} {fr : FA}
/-- return x, x's object its own -/
def fRetI (i : Nat) : FT := fun ρ S => match ρ[i]? with
  | some (.own o) => .rt (.own o) S
  | _ => .bad
theorem s_retI {i : Nat} {x : Str} {p' : Pos} (hN : X.N[i]? = some x) (hv : Vis X.env.scope x) (hd : (x == ("__debug__" : Str)) = false := by decide) (hcd : (x == ("__classdict__" : Str)) = false := by decide) : PS X (.Return (some (.Name x p')) pos) (LS X Wc (fRetI i)) :=
  PS.imp (ps_ret (pe_var hN hv hd hcd)) fun D σ H h => by
  obtain ⟨F, Hd, m, ρ, S, r, c⟩ := h
  unfold fRetI at c
  split at c
  · rename_i o eo
    obtain ⟨a, ho, e1, h1, h2, h3, h4, h5⟩ := r.s.sl i _ eo
    exact ⟨_, e1, c F m a ho H Le.refl (List.prefix_refl m) r.b h1 h2 h3 h4 h5⟩
  · exact c.elim
/-- * of ints, a tuple times an int -/
def oMulA : W → W → List Ob → Res W := fun x y S => match x, y with
  | .d (.tuple xs), .d (.int k) => if xs ≠ [] ∧ 2 ≤ k ∧ k ≤ 1000 ∧ xs.length ≤ 1000 then .ok (.d (.tuple (List.replicate k.toNat xs).flatten)) S else .bad
  | x, y => oMul x y S
theorem dps_rep {K : PySem.W.Frag} {F : Hp} {ds : List PyData} {vs : List V} (h : DpAll K F vs ds) : ∀ n : Nat, DpAll K F (List.replicate n vs).flatten (List.replicate n ds).flatten
  | 0 => .nil
  | n + 1 => by
    rw [List.replicate_succ, List.replicate_succ, List.flatten_cons, List.flatten_cons]
    exact dps_app h (dps_rep h n)
theorem f_mulA : OpF X Wc (fun x y H Q => rRepK X.K x y H Q ∨ rI CMulX (fun i j => .int (i * j)) x y H Q) oMulA := by
  intro Fr Hd μ ρ S σ H x y v u Q r ex ey c
  unfold oMulA at c
  split at c
  · rename_i xs k
    split at c
    · rename_i hh
      cases ey
      cases ex with
      | @tup a vs _ h1 h2 =>
        have el := DpAll.len h2
        exact .inl ⟨a, k, vs, rfl, rfl, Le.sqT r.b.fr h1, fun z => hh.1 (by subst z; cases h2; rfl), hh.2.1, hh.2.2.1, by rw [el]; exact hh.2.2.2, new_tup r (dps_rep h2 k.toNat) c⟩
    · exact c.elim
  · exact .inr (f_mul Fr Hd μ ρ S σ H _ _ v u Q r ex ey c)
theorem q_mul (ha : PE X a (LE X Wc fa)) (hb : PE X b (LE X Wc fb)) : PE X (.BinOp a .Mult b pos) (LE X Wc (fBin oMulA fa fb)) := q_op (OpR.or op_repK op_mulX) f_mulA ha hb

/-! ### zip, enumerate -/
def zipD : List PyData → List PyData → List W
  | x :: r, y :: s => .d (.tuple [x, y]) :: zipD r s
  | _, _ => []
theorem zipD_len : ∀ xs ys : List PyData, (zipD xs ys).length = min xs.length ys.length
  | [], _ => by simp [zipD]
  | _ :: _, [] => by simp [zipD]
  | x :: r, y :: s => by simp [zipD, zipD_len r s]
theorem zipD_get : ∀ (i : Nat) (xs ys : List PyData) (x y : PyData), xs[i]? = some x → ys[i]? = some y → (zipD xs ys)[i]? = some (.d (.tuple [x, y]))
  | 0, x' :: r, y' :: s, x, y, h, k => by simp at h k; subst h k; rfl
  | i + 1, x' :: r, y' :: s, x, y, h, k => by
    have h : r[i]? = some x := by simpa using h
    have k : s[i]? = some y := by simpa using k
    exact zipD_get i r s x y h k
  | _, [], _, _, _, h, _ => by simp at h
  | _, _ :: _, [], _, _, _, k => by simp at k
def zipV (x y : W) (S : List Ob) : Res (List W) := match x, y with
  | .d (.tuple xs), .d (.tuple ys) => if xs.length ≤ 16777216 then .ok (zipD xs ys) S else .bad
  | .d (.list xs), .d (.list ys) => if xs.length ≤ 16777216 then .ok (zipD xs ys) S else .bad
  | _, _ => .bad
def fZip (fa fb : FE) : FA := fun ρ S => (fa ρ S).bind fun x S1 => (fb ρ S1).bind fun y S2 => zipV x y S2
theorem dps_get {K : PySem.W.Frag} {F : Hp} {ds : List PyData} {vs : List V} {i : Nat} {v : V} (h : DpAll K F vs ds) (e : vs[i]? = some v) : ∃ d, ds[i]? = some d ∧ Dp K F v d := by
  have hi : i < ds.length := by rw [← DpAll.len h]; exact (List.getElem?_eq_some_iff.mp e).1
  obtain ⟨v', e1, e2⟩ := paired_get (rep_dats (μ := []) h) (i := i) (a := .d ds[i]) (by rw [List.getElem?_map, List.getElem?_eq_getElem hi]; rfl)
  rw [e] at e1
  cases e1
  exact ⟨_, List.getElem?_eq_getElem hi, e2⟩
theorem zip_yq {K : PySem.W.Frag} {Fr : Hp} {μ : List Addr} {xs ys : List PyData} {vs us : List V} (hx : DpAll K Fr vs xs) (hy : DpAll K Fr us ys) {i : Nat} {H : Hp} {v : V} {H' : Hp} (y : YPair (fun i => vs[i]?) (fun i => us[i]?) i H v H') : Yq K Fr μ (zipD xs ys) i H v H' := by
  obtain ⟨T, ob, x, z, rfl, hT, hob, rfl, e1, e2⟩ := y
  obtain ⟨d, k1, k2⟩ := dps_get hx e1
  obtain ⟨e, k3, k4⟩ := dps_get hy e2
  exact ⟨_, zipD_get _ _ _ _ _ k1 k3, .inr ⟨T, ob, _, _, rfl, hT, hob, rfl, rfl, .cons k2 (.cons k4 .nil)⟩⟩
theorem i_zip {elts : List Expr} {kk : Nat} {tpos : Pos} (hg : Gl X "zip") (hm : X.mg "zip" = none) (ha : PE X e (LE X Wc fa)) (hb : PE X e2 (LE X Wc fb))
    (hs : starEach [e, e2] X.env = (false, eval e X.env) :: starEach [e2] X.env := by rfl) (hs2 : starEach [e2] X.env = (false, eval e2 X.env) :: starEach [] X.env := by rfl) (hpl : (backTo pos (starEach [e2] X.env)).any (·.1) = false := by rfl) :
    PI X (.Tuple elts kk tpos) (.Call (.Name "zip" p) [e, e2] [] pos) (LI X Wc (fZip fa fb)) := PI.imp (pi_zipK hg hm (pa_cons ha (pa_cons hb pa_nil hs2) hs) hs hpl) fun σ H Q h => by
  obtain ⟨F, Hd, m, ρ, S, r, c⟩ := h
  refine stepI r c fun F1 m1 x v S1 H1 l1 p1 r1 e1 c1 => ?_
  refine stepI r1 c1 fun F2 m2 y u S2 H2 l2 p2 r2 e2 c2 => ?_
  have e1 := RepW.mono l2 p2 e1
  unfold zipV at c2
  split at c2
  · rename_i xs ys
    split at c2
    · rename_i hl
      cases e1 with
      | @tup a vs _ h1 h2 =>
        cases e2 with
        | @tup b us _ k1 k2 =>
          have z1 := DpAll.len h2
          have z2 := DpAll.len k2
          refine ⟨a, b, vs, us, rfl, .inr ⟨Le.sqT r2.b.fr h1, Le.sqT r2.b.fr k1, c2 F2 Hd m2 H2 _ Le.refl Le.refl (List.prefix_refl m2) r2 (Walk.mono (walk_zipK (by rw [zipD_len, z1, z2])) (fun H h => ⟨Le.sqT h.1 h1, Le.sqT h.1 k1⟩) fun i H v H' hi _ y => zip_yq h2 k2 y) ?_⟩⟩
          rw [zipD_len, sizeLine_eq]; omega
    · exact c2.elim
  · rename_i xs ys
    split at c2
    · rename_i hl
      cases e1 with
      | @lst a vs _ h1 h2 =>
        cases e2 with
        | @lst b us _ k1 k2 =>
          have z1 := DpAll.len h2
          have z2 := DpAll.len k2
          refine ⟨a, b, vs, us, rfl, .inl ⟨Le.sqL r2.b.fr h1, Le.sqL r2.b.fr k1, c2 F2 Hd m2 H2 _ Le.refl Le.refl (List.prefix_refl m2) r2 (Walk.mono (walk_zipK (by rw [zipD_len, z1, z2])) (fun H h => ⟨Le.sqL h.1 h1, Le.sqL h.1 k1⟩) fun i H v H' hi _ y => zip_yq h2 k2 y) ?_⟩⟩
          rw [zipD_len, sizeLine_eq]; omega
    · exact c2.elim
  · exact c2.elim
/-- enumerate of a list -/
def enumD (n : Nat) : List PyData → List W
  | x :: r => .d (.tuple [.int (n : Int), x]) :: enumD (n + 1) r
  | [] => []
theorem enumD_len : ∀ (n : Nat) (xs : List PyData), (enumD n xs).length = xs.length
  | _, [] => rfl
  | n, x :: r => by simp [enumD, enumD_len (n + 1) r]
theorem enumD_get : ∀ (i n : Nat) (xs : List PyData) (x : PyData), xs[i]? = some x → (enumD n xs)[i]? = some (.d (.tuple [.int ((n + i : Nat) : Int), x]))
  | 0, n, x' :: r, x, h => by simp at h; subst h; rfl
  | i + 1, n, x' :: r, x, h => by
    have h : r[i]? = some x := by simpa using h
    have := enumD_get i (n + 1) r x h
    rw [show n + 1 + i = n + (i + 1) by omega] at this
    exact this
  | _, _, [], _, h => by simp at h
def enumV (x : W) (S : List Ob) : Res (List W) := match x with
  | .d (.list xs) => if xs.length ≤ 16777216 then .ok (enumD 0 xs) S else .bad
  | _ => .bad
def fEnum (fa : FE) : FA := fun ρ S => (fa ρ S).bind enumV
theorem i_enum {elts : List Expr} {kk : Nat} {tpos : Pos} (hg : Gl X "enumerate") (hm : X.mg "enumerate" = none) (ha : PE X e (LE X Wc fa)) (hs1 : starEach [e] X.env = (false, eval e X.env) :: starEach [] X.env := by rfl) (hs : starEach [e] X.env = [(false, eval e X.env)] := by rfl) :
    PI X (.Tuple elts kk tpos) (.Call (.Name "enumerate" p) [e] [] pos) (LI X Wc (fEnum fa)) := PI.imp (pi_enumL hg hm (pa_cons ha pa_nil hs1) hs) fun σ H Q h => by
  obtain ⟨F, Hd, m, ρ, S, r, c⟩ := h
  refine stepI r c fun F1 m1 x v S1 H1 l1 p1 r1 e1 c1 => ?_
  unfold enumV at c1
  split at c1
  · rename_i xs
    split at c1
    · rename_i hl
      cases e1 with
      | @lst a vs _ h1 h2 =>
        have z1 := DpAll.len h2
        have hw := walk_enumL (K := X.K) (a := a) (xs := vs)
        rw [show vs.length = (enumD 0 xs).length by rw [enumD_len, z1]] at hw
        refine ⟨a, vs, rfl, Le.sqL r1.b.fr h1, c1 F1 Hd m1 H1 _ Le.refl Le.refl (List.prefix_refl m1) r1 (Walk.mono hw (fun H h => Le.sqL h.1 h1) fun i H v H' hi _ y => ?_) ?_⟩
        · obtain ⟨T, ob, x, z, rfl, hT, hob, rfl, e1, e2⟩ := y
          cases e1
          obtain ⟨d, k1, k2⟩ := dps_get h2 e2
          have := enumD_get i 0 xs d k1
          rw [Nat.zero_add] at this
          exact ⟨_, this, .inr ⟨T, ob, _, _, rfl, hT, hob, rfl, rfl, .cons (Dp.int _) (.cons k2 .nil)⟩⟩
        · rw [enumD_len, sizeLine_eq]; exact hl
    · exact c1.elim
  · exact c1.elim
/-- max, min of a list of ints -/
def maxL : List Int → Option Int
  | [] => none
  | x :: r => some (r.foldl max x)
def minL : List Int → Option Int
  | [] => none
  | x :: r => some (r.foldl min x)
theorem foldl_max (r : List Int) : ∀ x, (∀ y ∈ x :: r, y ≤ r.foldl max x) ∧ r.foldl max x ∈ x :: r := by
  induction r with
  | nil => intro x; simp
  | cons y r ih =>
    intro x
    obtain ⟨h1, h2⟩ := ih (max x y)
    rw [List.foldl_cons]
    refine ⟨fun z hz => ?_, ?_⟩
    · have hm := h1 (max x y) (List.mem_cons_self ..)
      rcases List.mem_cons.mp hz with rfl | hz
      · omega
      · rcases List.mem_cons.mp hz with rfl | hz
        · omega
        · exact h1 z (List.mem_cons_of_mem _ hz)
    · rcases List.mem_cons.mp h2 with e | e
      · rw [e]
        by_cases q : x ≤ y
        · rw [Int.max_eq_right q]; simp
        · rw [Int.max_eq_left (by omega)]; simp
      · simp [e]
theorem foldl_min (r : List Int) : ∀ x, (∀ y ∈ x :: r, r.foldl min x ≤ y) ∧ r.foldl min x ∈ x :: r := by
  induction r with
  | nil => intro x; simp
  | cons y r ih =>
    intro x
    obtain ⟨h1, h2⟩ := ih (min x y)
    rw [List.foldl_cons]
    refine ⟨fun z hz => ?_, ?_⟩
    · have hm := h1 (min x y) (List.mem_cons_self ..)
      rcases List.mem_cons.mp hz with rfl | hz
      · omega
      · rcases List.mem_cons.mp hz with rfl | hz
        · omega
        · exact h1 z (List.mem_cons_of_mem _ hz)
    · rcases List.mem_cons.mp h2 with e | e
      · rw [e]
        by_cases q : x ≤ y
        · rw [Int.min_eq_left q]; simp
        · rw [Int.min_eq_right (by omega)]; simp
      · simp [e]
def onIo (f : List Int → Option Int) (xs : List W) (S : List Ob) : Res W := match intsW xs with
  | some ns => (match f ns with
    | some i => .ok (.d (.int i)) S
    | none => .bad)
  | none => .bad
def fMaxL (f : FA) : FE := fun ρ S => (f ρ S).bind (onIo maxL)
def fMinL (f : FA) : FE := fun ρ S => (f ρ S).bind (onIo minL)
theorem q_maxL (hc : X.calm = true) (hg : Gl X "max") (hm : X.mg "max" = none) (h : PE X e (LL X Wc fl1)) (hs : starEach [e] X.env = (false, eval e X.env) :: starEach [] X.env := by rfl) (hpl : (backTo pos (starEach [] X.env)).any (·.1) = false := by rfl) : PE X (.Call (.Name "max" p) [e] [] pos) (LE X Wc (fMaxL fl1)) :=
  PE.imp (pe_callB (cr_max hc) hg hm (by decide +kernel) (pa_cons h pa_nil hs) (he := hs) (hpl := hpl)) fun σ H Q h => by
  obtain ⟨F, D, m, ρ, S, r0, c⟩ := h
  refine step r0 c fun F1 m1 xs v S1 H1 l1 p1 r1 e1 c1 => ?_
  obtain ⟨a, vs, rfl, e2, e3⟩ := e1
  unfold onIo at c1
  cases z : intsW xs with
  | none => rw [z] at c1; exact c1.elim
  | some bs =>
    rw [z] at c1
    rw [intsW_rep z e3] at e2
    cases bs with
    | nil => exact c1.elim
    | cons x r =>
      refine ⟨a, x :: r, rfl, e2, Nat.succ_pos _, fun m hm hy => ?_⟩
      obtain ⟨h1, h2⟩ := foldl_max r x
      have : m = r.foldl max x := by have := hy _ h2; have := h1 m hm; omega
      subst this
      exact rt r1 c1 (Dp.int _)
theorem q_minL (hc : X.calm = true) (hg : Gl X "min") (hm : X.mg "min" = none) (h : PE X e (LL X Wc fl1)) (hs : starEach [e] X.env = (false, eval e X.env) :: starEach [] X.env := by rfl) (hpl : (backTo pos (starEach [] X.env)).any (·.1) = false := by rfl) : PE X (.Call (.Name "min" p) [e] [] pos) (LE X Wc (fMinL fl1)) :=
  PE.imp (pe_callB (cr_min hc) hg hm (by decide +kernel) (pa_cons h pa_nil hs) (he := hs) (hpl := hpl)) fun σ H Q h => by
  obtain ⟨F, D, m, ρ, S, r0, c⟩ := h
  refine step r0 c fun F1 m1 xs v S1 H1 l1 p1 r1 e1 c1 => ?_
  obtain ⟨a, vs, rfl, e2, e3⟩ := e1
  unfold onIo at c1
  cases z : intsW xs with
  | none => rw [z] at c1; exact c1.elim
  | some bs =>
    rw [z] at c1
    rw [intsW_rep z e3] at e2
    cases bs with
    | nil => exact c1.elim
    | cons x r =>
      refine ⟨a, x :: r, rfl, e2, Nat.succ_pos _, fun m hm hy => ?_⟩
      obtain ⟨h1, h2⟩ := foldl_min r x
      have : m = r.foldl min x := by have := hy _ h2; have := h1 m hm; omega
      subst this
      exact rt r1 c1 (Dp.int _)
end
end L2.Q
/-! Layer Q, part N: the scope of a comprehension by a test; a head with any tests of the written part; the law's end. -/
namespace L2.Q
open PySem PySem.Spec PyProof.Rows

/-! ### a comprehension's scope -/
def blkB (N : List Str) (sc scope : Scope) (own : List (Str × Nat)) : Bool :=
  decide (scope.kind = .function) && (scope.names.all (fun y => decide (scope.names.lookup y.1 = some y.2)) && (own.all (fun p => decide (N[p.2]? = some p.1)) &&
    (scope.names.all (fun y => !decide (y.2 = .free) || (decide (sc.names.lookup y.1 = some .cell) || decide (sc.names.lookup y.1 = some .free))) &&
      scope.names.all (fun y => !(decide (y.2 = .local) || decide (y.2 = .cell)) || (decide (y.1 ∈ own.map (·.1)) || decide (y.1 ∉ N))))))
theorem blk_of {N : List Str} {sc scope : Scope} {own : List (Str × Nat)} (h : blkB N sc scope own = true) : BlkOk N sc scope own := by
  unfold blkB at h
  simp only [Bool.and_eq_true, List.all_eq_true, Bool.or_eq_true, decide_eq_true_eq, Bool.not_eq_true', Bool.or_eq_false_iff, decide_eq_false_iff_not] at h
  obtain ⟨h1, h2, h3, h4, h5⟩ := h
  refine ⟨h1, h2, h3, fun y hy e => ?_, fun y hy e => ?_⟩
  · rcases h4 y hy with k | k
    · exact absurd e k
    · exact k
  · rcases h5 y hy with k | k
    · rcases e with e | e
      · exact absurd e k.1
      · exact absurd e k.2
    · exact k
section
variable {X : Cx} {Wc : WX} {a b c : Expr} {fa fb fc : FE} {pos : Pos}
/-- a < b < c as a test -/
theorem t_chainI {op op' : CmpOp} {C C' : Int → Int → Bool} {g g' : Int → Int → Bool} (ho : OpR X (compareOp op) (rI0 fun i j => .bl (g i j))) (ho' : OpR X (compareOp op') (rI0 fun i j => .bl (g' i j)))
    (ha : PE X a (LE X Wc fa)) (hb : PE X b (LE X Wc fb)) (hc : PE X c (LE X Wc fc)) (hm : lastMarks [op, op'] [b, c] = false := by rfl) :
    PT X (.Compare a [op, op'] [b, c] pos) (LB X Wc (fT (fChain (oI C fun i j => .bool (g i j)) (oI C' fun i j => .bool (g' i j)) fa fb fc))) := PT.imp (pt_chain ho ho' ha hb hc hm) fun σ H Q h => by
  have h := t_imp h
  obtain ⟨F, D, m, ρ, S, r0, c⟩ := h
  refine step r0 c fun F1 m1 x v S1 H1 l1 p1 r1 e1 c1 => ?_
  refine step r1 c1 fun F2 m2 y u S2 H2 l2 p2 r2 e2 c2 => ?_
  have e1' := RepW.mono l2 p2 e1
  rcases rep_int e1' with ⟨i, rfl, rfl⟩ | n
  · rcases rep_int e2 with ⟨j, rfl, rfl⟩ | n
    · unfold oI at c2
      dsimp only at c2
      split at c2
      · refine ⟨i, j, rfl, rfl, g i j, rfl, ?_⟩
        have c2 : cont X.K X.mg Wc (repE X.K) F2 D m2 ρ σ (fun x H => ∃ k, x = V.bl k ∧ Q k H) (if g i j = true then (fc ρ S2).bind fun z S4 => oI C' (fun i j => .bool (g' i j)) (.d (.int j)) z S4 else .ok (.d (.bool false)) S2) := c2
        split at c2
        · rename_i hg
          rw [if_pos hg]
          refine step r2 c2 fun F3 m3 z w S3 H3 l3 p3 r3 e3 c3 => ?_
          exact f_int0 (X := X) (Wc := Wc) (g := fun i j => .bool (g' i j)) (g' := fun i j => .bl (g' i j)) (fun _ _ _ => .bl _) F3 D m3 ρ S3 σ H3 (.d (.int j)) z (.int j) w _ r3 (Dp.int _) e3 c3
        · rename_i hg
          rw [if_neg hg]
          exact rt r2 c2 (Dp.bl _)
      · exact c2.elim
    · rw [oI_bad (.inr n)] at c2; exact c2.elim
  · rw [oI_bad (.inl n)] at c2; exact c2.elim
end

/-! ### a head -/
abbrev FbT := PySem.W.Frag → Bool
def obsB (fb : List FbT) (fn : List He.DefD) (K : PySem.W.Frag) : He.AlD := (fb.all (fun f => f K) && fn.all (fun d => d.ok K), fn.map fun d => He.fnW K d.at_)
def SaysB (fb : List FbT) (fn : List He.DefD) (K : PySem.W.Frag) : Prop := obsB fb fn K = He.valD fn
def obsBG (n : Nat) (fb : List FbT) (fn : List He.DefD) (g : Addr → Option Obj) : He.AlD := obsB fb fn (He.frG g (He.asD g n))
def hookB (n : Nat) (fb : List FbT) (fn : List He.DefD) : PySem.W.Hook where
  α := He.AlD
  obs := fun s => obsBG n fb fn s.heap.get?
  val := fun _ => He.valD fn
  says := fun _ h => ∃ K : PySem.W.Frag, K.In h ∧ SaysB fb fn K
  of := fun _ _ e => ⟨_, He.frG_in, e⟩
  keeps := fun _ _ _ ⟨K, hK, c⟩ k => ⟨K, PySem.W.Frag.In.keeps hK k, c⟩
theorem obsBG_eq {n : Nat} {fb : List FbT} {fn : List He.DefD} {g : Addr → Option Obj} {s : Shared} (h : ∀ a, g a = s.heap.get? a) : obsBG n fb fn g = (hookB n fb fn).obs s := by
  have e : g = s.heap.get? := funext h
  rw [e] <;> rfl
section
variable {fb : List FbT} {fn : List He.DefD} {K : PySem.W.Frag}
theorem SaysB.fact (c : SaysB fb fn K) (i : Nat) {f : FbT} (h : fb[i]? = some f := by rfl) : f K = true := by
  have c1 := (He.ba (show (fb.all (fun f => f K) && fn.all (fun d => d.ok K)) = true from congrArg (fun z : He.AlD => z.1) c)).1
  exact List.all_eq_true.mp c1 f (List.mem_of_getElem? h)
theorem SaysB.def_ (c : SaysB fb fn K) (i : Nat) {d : He.DefD} (h : fn[i]? = some d := by rfl) : ∃ fd, FunD K d.name d.qual d.params d.body d.scope (d.dvs K) (d.kws K) (He.fAd K d.at_) fd := by
  have c2 := (He.ba (show (fb.all (fun f => f K) && fn.all (fun d => d.ok K)) = true from congrArg (fun z : He.AlD => z.1) c)).2
  have e : fn.map (fun d => He.fnW K d.at_) = fn.map He.DefD.val := congrArg (fun z : He.AlD => z.2) c
  have e2 : (fn.map fun d => He.fnW K d.at_)[i]? = (fn.map He.DefD.val)[i]? := by rw [e]
  rw [List.getElem?_map, List.getElem?_map, h] at e2
  exact He.DefD.funD (Option.some.inj e2) (List.all_eq_true.mp c2 d (List.mem_of_getElem? h))
end
/-- a def of the top, by its statement -/
def topD (x : Str) (st : Stmt) : He.DefD := ⟨(x, none), x, x, defArgs st, defBody st, defScope st, [], []⟩
/-- tests of the written part -/
def fcGlo (x : Str) : FbT := fun K => (He.Fa.glo x).ok K
def fcFree (x : Str) : FbT := fun K => (He.Fa.free x).ok K
def fcInt (x : Str) (i : Int) : FbT := fun K => (He.Fa.int x i).ok K
def fcExc (x : Str) : FbT := fun K => (He.Fa.exc x).ok K
/-- the class c is caught by except d, is an instance of d: b -/
def fcSub (c d : Str) (b : Bool) : FbT := fun K => decide (PySem.W.exmOne K (.ref (He.ga K c)) (.ref (He.ga K d)) = some b)
def fcIs (c d : Str) (b : Bool) : FbT := fun K => decide (PySem.W.kitOne K (.ref (He.ga K c)) (.ref (He.ga K d)) = some b)
def fcIsV (c : Str) (t : String) (b : Bool) : FbT := fun K => decide (PySem.W.kitOne K (.ref (He.ga K c)) (.type t) = some b)
/-- what isinstance asks of a caught error's class -/
def fcEx (c : Str) : FbT := fun K => decide (PySem.W.findIn K (.ref (He.ga K c)) "__getattribute__" = some (some (.builtin "BaseException.__getattribute__"))) && (decide (PySem.W.findIn K (.ref (He.ga K c)) "__getattr__" = some none) &&
  (decide (PySem.W.subIn K (.ref (He.ga K c)) (.type "BaseException") = some true) && (PySem.W.hasDictIn K (He.ga K c) && (decide (PySem.W.findIn K (.ref (He.ga K c)) "__class__" = some (some (.builtin "object.__class__"))) &&
    (decide (PySem.W.specialIn K (.builtin "object.__class__") "__get__" = some (some (.builtin "getset_descriptor.__get__"))) && (decide (PySem.W.takesIn K (.builtin "object.__class__") = some true) && decide (PySem.W.mroIn K (He.ga K c) (.type "object") = some true)))))))
theorem fcEx_ok {K : PySem.W.Frag} {c : Str} (h : fcEx c K = true) : ExcC K (He.ga K c) := by
  unfold fcEx at h
  simp only [Bool.and_eq_true, decide_eq_true_eq] at h
  obtain ⟨h1, h2, h3, h4, h5, h6, h7, h8⟩ := h
  exact ⟨h1, h2, h3, h4, h5, h6, h7, h8⟩
/-! ### the end -/
/-- the promise of the law's function: True at each script -/
def spLawQ (K : PySem.W.Frag) (mg : Str → Option Value) (m : FM) : Sp := spOf K mg m 1
theorem law_sp {K : PySem.W.Frag} {mg : Str → Option Value} {m : FM} (hm : ∀ ns : List Int, ns.length ≤ 63 → (∀ z ∈ ns, Builtin.Int.intBits z ≤ 1048576) → ∃ S, m [.d (.list (ns.map .int))] [] = .ok (.w (.d (.bool true))) S)
    (H : Hp) (a : Addr) (ns : List Int) (hl : ns.length ≤ 63) (hb : ∀ z ∈ ns, Builtin.Int.intBits z ≤ 1048576) (hS : SqL K H a (ns.map V.int)) : spLawQ K mg m [.ref a] H (fun v _ => v = .bl true) fun _ _ _ => False := by
  obtain ⟨S, e⟩ := hm ns hl hb
  have hd : DpAll K H (ns.map V.int) (ns.map PyData.int) := by
    clear hS hl hb e
    induction ns with
    | nil => exact .nil
    | cons x r ih => exact .cons (Dp.int _) ih
  refine ⟨rfl, H, fun _ => none, [], [.d (.list (ns.map .int))], [], ⟨Le.refl, fun a o e => (nomatch e), rfl, fun n a o e => by simp at e, List.nodup_nil⟩, .cons (Dp.lst hS hd) .nil, ?_⟩
  rw [e]
  intro Fr' μ' v H' _ _ _ rv
  cases rv
  rfl
theorem walk_ofEB {l : PySem.W.OpenLaw} {n k : Nat} {q : Program} {loose : List Str} {XP : (Str → Option Value) → Heap → Prop} {YP : World → Heap → Prop} {d : DefRec} {x : Str}
    (hn : l.most = some n) (hn2 : n ≤ sizeLine) (hdf : d.params.defaults = []) (hr : Room k callerA)
    (F : ∀ (w : World) (mg : Str → Option Value) (fa : Addr) (h : Heap), YP w h → h.Ns mainGlobals mg → mg d.name = some (.ref fa) →
      ∃ (K : PySem.W.Frag) (fd : FuncData) (sp : Sp), K.In h ∧ (∀ (s : Shared) (u : Value), BindsTo s fd ⟨[u], []⟩ [(x, u)]) ∧
        (∀ (H : Hp) (a : Addr) (ns : List Int), ns.length ≤ n → (∀ z ∈ ns, Builtin.Int.intBits z ≤ 1048576) → Only H → SqL K H a (ns.map V.int) → sp [.ref a] H (fun v _ => v = .bl true) fun _ _ _ => False) ∧
        ∀ base : Heap, K.In base → base.Ns mainGlobals mg → FnOk l.prog w K mg base (L2.CX l.prog w) k fa fd [x] sp) :
    PySem.W.WalkO q loose XP YP l.row.toRowW d [] (fun f vs => PySem.call f vs) := by
  refine Att.attach_callB hn hdf fun w s₀ s₁ mg mb fa o pm cd doc a vs ns G Y ho hd hcd hmg hobj hints hlen hbits hg => ?_
  obtain ⟨K, fd, sp, KX, hb, hsp, hF⟩ := F w mg fa _ Y G.T.g hmg
  exact law_call KX G.T.g G.T.b G.T.builtins G.T.nolimit hg hobj hints (Nat.le_trans hlen hn2) hr hF hb (fun H hO hS => hsp H a ns hlen hbits hO hS) fun H e s' h => by
    obtain ⟨_, _, _, _, _, _, _, _, _, _, _, _, h⟩ := h
    exact h
end L2.Q
/-! Layer Q, part O: mirrors reckoned by simp. -/
namespace L2.Q
open PySem PySem.Spec PyProof.Rows

section
variable {α β : Type} {ρ : List Sl} {S S' : List Ob} {xs : List W} {i j : Nat} {fa fb fc : FE} {fo fo2 : FO} {fr fi fl1 : FA} {x y : W} {a b : Int} {t ta tb : FB} {f g : FT} {op op' : W → W → List Ob → Res W}
@[simp] theorem e_ok (a : α) (k : α → List Ob → Res β) : (Res.ok a S).bind k = k a S := rfl
@[simp] theorem e_err (c : Str) (k : α → List Ob → Res β) : (Res.err c S : Res α).bind k = .err c S := rfl
@[simp] theorem e_flok (a : α) (k : α → List Ob → Fl) : fl (Res.ok a S) ρ k = k a S := rfl
@[simp] theorem e_flerr (c : Str) (k : α → List Ob → Fl) : fl (Res.err c S : Res α) ρ k = .ex c ρ S := rfl
@[simp] theorem e_var : fVar i ρ S = (match ρ[i]? with | some (.w x) => .ok x S | _ => .bad) := rfl
@[simp] theorem e_c (d : PyData) : fC d ρ S = .ok (.d d) S := rfl
@[simp] theorem e_bin : fBin op fa fb ρ S = (fa ρ S).bind fun x S1 => (fb ρ S1).bind fun y S2 => op x y S2 := rfl
@[simp] theorem e_un (op : W → List Ob → Res W) : fUn op fa ρ S = (fa ρ S).bind fun x S1 => op x S1 := rfl
@[simp] theorem e_toB (c : Bool) : toB (.d (.bool c)) S = .ok c S := rfl
@[simp] theorem e_T : fT fa ρ S = (fa ρ S).bind toB := rfl
@[simp] theorem e_And : fAnd ta tb ρ S = (ta ρ S).bind fun c S1 => if c = true then tb ρ S1 else .ok false S1 := rfl
@[simp] theorem e_Or : fOr ta tb ρ S = (ta ρ S).bind fun c S1 => if c = true then .ok true S1 else tb ρ S1 := rfl
@[simp] theorem e_Not : fNot ta ρ S = (ta ρ S).bind fun c S1 => .ok (!c) S1 := rfl
@[simp] theorem e_AndV : fAndV fa fb ρ S = ((fa ρ S).bind toB).bind fun c S1 => if c = true then fb ρ S1 else .ok (.d (.bool false)) S1 := rfl
@[simp] theorem e_OrV : fOrV fa fb ρ S = ((fa ρ S).bind toB).bind fun c S1 => if c = true then .ok (.d (.bool true)) S1 else fb ρ S1 := rfl
@[simp] theorem e_NotV : fNotV fa ρ S = ((fa ρ S).bind toB).bind fun c S1 => .ok (.d (.bool (!c))) S1 := rfl
@[simp] theorem e_If : fIf t fa fb ρ S = (t ρ S).bind fun c S1 => if c = true then fa ρ S1 else fb ρ S1 := rfl
@[simp] theorem e_Nil : fNil ρ S = .ok [] S := rfl
@[simp] theorem e_Cons : fCons fa fr ρ S = (fa ρ S).bind fun x S1 => (fr ρ S1).bind fun xs S2 => .ok (x :: xs) S2 := rfl
@[simp] theorem e_Tup : fTup fr ρ S = (fr ρ S).bind mkTup := rfl
@[simp] theorem e_dats0 : dats [] = some [] := rfl
@[simp] theorem e_dats1 (d : PyData) (r : List W) : dats (.d d :: r) = (dats r).map (d :: ·) := rfl
@[simp] theorem e_mkTup (xs : List W) : mkTup xs S = (match dats xs with | some ds => .ok (.d (.tuple ds)) S | none => .bad) := rfl
theorem dats_map : ∀ ds : List PyData, dats (ds.map .d) = some ds
  | [] => rfl
  | d :: r => by show (dats (r.map .d)).map (d :: ·) = _; rw [dats_map r]; rfl
@[simp] theorem e_datsm (ds : List PyData) : dats (ds.map .d) = some ds := dats_map ds
@[simp] theorem e_datsc {γ : Type} (f : γ → PyData) (l : List γ) : dats (l.map (W.d ∘ f)) = some (l.map f) := by rw [← List.map_map]; exact dats_map _
@[simp] theorem e_datsf {γ : Type} (f : γ → PyData) (l : List γ) : dats (l.map fun x => W.d (f x)) = some (l.map f) := e_datsc f l
@[simp] theorem e_datsa : ∀ xs ys : List W, dats (xs ++ ys) = (dats xs).bind fun a => (dats ys).map (a ++ ·)
  | [], ys => by simp
  | .d x :: r, ys => by
    rw [List.cons_append, e_dats1, e_dats1, e_datsa r ys]
    cases dats r with
    | none => rfl
    | some a => cases dats ys <;> rfl
  | .ref _ :: _, ys => rfl
@[simp] theorem e_Nx : fNx ρ S = .nx ρ S := rfl
@[simp] theorem e_Seq : fSeq f g ρ S = thenF (f ρ S) g := rfl
@[simp] theorem e_thenN : thenF (.nx ρ S) g = g ρ S := rfl
@[simp] theorem e_thenR (r : Rv) : thenF (.rt r S) g = .rt r S := rfl
@[simp] theorem e_thenX (c : Str) : thenF (.ex c ρ S) g = .ex c ρ S := rfl
@[simp] theorem e_thenB : thenF (.bk ρ S) g = .bk ρ S := rfl
@[simp] theorem e_thenC : thenF (.ct ρ S) g = .ct ρ S := rfl
@[simp] theorem e_Bk : fBk ρ S = .bk ρ S := rfl
@[simp] theorem e_Ct : fCt ρ S = .ct ρ S := rfl
@[simp] theorem e_Set : fSet i fa ρ S = fl (fa ρ S) ρ fun x S1 => .nx (ρ.set i (.w x)) S1 := rfl
@[simp] theorem e_SetO : fSetO i fo ρ S = fl (fo ρ S) ρ fun o S1 => .nx (ρ.set i (.own o)) S1 := rfl
@[simp] theorem e_Drop : fDrop fa ρ S = fl (fa ρ S) ρ fun _ S1 => .nx ρ S1 := rfl
@[simp] theorem e_Ret : fRet fa ρ S = fl (fa ρ S) ρ fun x S1 => .rt (.w x) S1 := rfl
@[simp] theorem e_RetO : fRetO fo ρ S = fl (fo ρ S) ρ fun x S1 => .rt (.own x) S1 := rfl
@[simp] theorem e_RetN : fRetN ρ S = .rt (.w (.d .none)) S := rfl
@[simp] theorem e_IfS : fIfS t f g ρ S = fl (t ρ S) ρ fun c S1 => if c = true then f ρ S1 else g ρ S1 := rfl
@[simp] theorem e_Raise (c : Str) : fRaise c ρ S = .ex c ρ S := rfl
@[simp] theorem e_Call (m : FM) : fCall m fr ρ S = (fr ρ S).bind fun ws S1 => (m ws S1).bind rvW := rfl
@[simp] theorem e_CallO (m : FM) : fCallO m fr ρ S = (fr ρ S).bind fun ws S1 => (m ws S1).bind rvO := rfl
@[simp] theorem e_rvW : rvW (.w x) S = .ok x S := rfl
@[simp] theorem e_rvWo (o : Ob) : rvW (.own o) S = (match frz o with | some x => .ok x S | none => .bad) := rfl
@[simp] theorem e_rvO (o : Ob) : rvO (.own o) S = .ok o S := rfl
@[simp] theorem e_frz (xs : List W) : frz (.lst xs) = (dats xs).map fun ds => .d (.list ds) := rfl
@[simp] theorem e_runF (n : Nat) (ws : List W) : runF n f ws S = outF (f (start0 n ws) S) := rfl
@[simp] theorem e_outR (r : Rv) : outF (.rt r S) = .ok r S := rfl
@[simp] theorem e_outN : outF (.nx ρ S) = .ok (.w (.d .none)) S := rfl
@[simp] theorem e_outX (c : Str) : outF (.ex c ρ S) = .err c S := rfl
@[simp] theorem e_gN (w : W) : gN i w ρ = some (ρ.set i (.w w)) := rfl
@[simp] theorem e_gsN : gsN [] ρ = some ρ := rfl
@[simp] theorem e_gsC (g : FG) (gs : FGs) (d : PyData) (r : List PyData) : gsC g gs (d :: r) ρ = (g (.d d) ρ).bind (gs r) := rfl
@[simp] theorem e_gT (n : Nat) (gs : FGs) (xs : List PyData) : gT n gs (.d (.tuple xs)) ρ = if xs.length = n then gs xs ρ else none := rfl
@[simp] theorem e_setG (k : List Sl → List Ob → Fl) : setG (some ρ) S k = k ρ S := rfl
@[simp] theorem e_Asg (g : FG) : fAsg g fa ρ S = fl (fa ρ S) ρ fun x S1 => setG (g x ρ) S1 fun ρ1 S2 => .nx ρ1 S2 := rfl
@[simp] theorem e_AsgX (g : FG) (fx : FX) : fAsgX g fx ρ S = fl (fx ρ S) ρ fun a S1 => setG (g a.1 a.2) S1 fun ρ1 S2 => .nx ρ1 S2 := rfl
@[simp] theorem e_DropX (fx : FX) : fDropX fx ρ S = fl (fx ρ S) ρ fun a S1 => .nx a.2 S1 := rfl
@[simp] theorem e_Cw : fCw fa ρ S = (fa ρ S).bind fun x S1 => .ok (.w x) S1 := rfl
@[simp] theorem e_Co : fCo fo ρ S = (fo ρ S).bind fun o S1 => .ok (.own o) S1 := rfl
@[simp] theorem e_Par (f1 f2 : FC) : fPar i j f1 f2 ρ S = fl (f1 ρ S) ρ fun c1 S1 => fl (f2 ρ S1) ρ fun c2 S2 => .nx ((ρ.set i c1).set j c2) S2 := rfl
@[simp] theorem e_Par3 (l : Nat) (f1 f2 f3 : FC) : fPar3 i j l f1 f2 f3 ρ S = fl (f1 ρ S) ρ fun c1 S1 => fl (f2 ρ S1) ρ fun c2 S2 => fl (f3 ρ S2) ρ fun c3 S3 => .nx (((ρ.set i c1).set j c2).set l c3) S3 := rfl
@[simp] theorem e_Fz : fFz fo ρ S = (fo ρ S).bind fun o S1 => match frz o with | some x => .ok x S1 | none => .bad := rfl
@[simp] theorem e_NewL : fNewL fr ρ S = (fr ρ S).bind fun xs S1 => .ok (.lst xs) S1 := rfl
@[simp] theorem e_It : fIt fa ρ S = (fa ρ S).bind seqOf := rfl
@[simp] theorem e_seqT (ds : List PyData) : seqOf (.d (.tuple ds)) S = .ok (ds.map .d) S := rfl
@[simp] theorem e_seqL (ds : List PyData) : seqOf (.d (.list ds)) S = .ok (ds.map .d) S := rfl
@[simp] theorem e_Len : fLen fl1 ρ S = (fl1 ρ S).bind fun xs S1 => .ok (.d (.int xs.length)) S1 := rfl
@[simp] theorem e_Lv : fLv fa ρ S = (fa ρ S).bind lstV := rfl
@[simp] theorem e_lstV (ds : List PyData) : lstV (.d (.list ds)) S = .ok (ds.map .d) S := rfl
@[simp] theorem e_ItO : fItO fo ρ S = (fo ρ S).bind lstOf := rfl
@[simp] theorem e_lstOf (xs : List W) : lstOf (.lst xs) S = .ok xs S := rfl
@[simp] theorem e_TupL : fTupL fl1 ρ S = (fl1 ρ S).bind mkTup := rfl
@[simp] theorem e_Own : fOwn i ρ S = (match ρ[i]? with | some (.own (.lst xs)) => .ok xs S | some (.w (.d (.list ds))) => .ok (ds.map .d) S | _ => .bad) := rfl
@[simp] theorem e_All : fAll fl1 ρ S = (fl1 ρ S).bind (onB fun bs => bs.all id) := rfl
@[simp] theorem e_Any : fAny fl1 ρ S = (fl1 ρ S).bind (onB fun bs => bs.any id) := rfl
@[simp] theorem e_Sum : fSum fl1 ρ S = (fl1 ρ S).bind (onI List.sum) := rfl
theorem bools_map : ∀ bs : List Bool, bools (bs.map fun b => .d (.bool b)) = some bs
  | [] => rfl
  | b :: r => by show (bools (r.map fun b => .d (.bool b))).map (b :: ·) = _; rw [bools_map r]; rfl
theorem intsW_map : ∀ ns : List Int, intsW (ns.map fun i => .d (.int i)) = some ns
  | [] => rfl
  | b :: r => by show (intsW (r.map fun i => .d (.int i))).map (b :: ·) = _; rw [intsW_map r]; rfl
theorem e_onB (k : List Bool → Bool) (bs : List Bool) : onB k (bs.map fun b => .d (.bool b)) S = .ok (.d (.bool (k bs))) S := by unfold onB; rw [bools_map]
theorem e_onI (k : List Int → Int) (ns : List Int) : onI k (ns.map fun i => .d (.int i)) S = .ok (.d (.int (k ns))) S := by unfold onI; rw [intsW_map]
/-! operators -/
theorem e_oI (C : Int → Int → Bool) (g : Int → Int → PyData) : oI C g (.d (.int a)) (.d (.int b)) S = if C a b = true then .ok (.d (g a b)) S else .bad := rfl
@[simp] theorem e_oIy (g : Int → Int → PyData) : oI yes g (.d (.int a)) (.d (.int b)) S = .ok (.d (g a b)) S := rfl
@[simp] theorem e_add : oAddA (.d (.int a)) (.d (.int b)) S = .ok (.d (.int (a + b))) S := rfl
@[simp] theorem e_addT (xs ys : List PyData) : oAddA (.d (.tuple xs)) (.d (.tuple ys)) S = if xs.length + ys.length ≤ 16777216 then .ok (.d (.tuple (xs ++ ys))) S else .bad := rfl
@[simp] theorem e_addL (xs ys : List PyData) : oAddA (.d (.list xs)) (.d (.list ys)) S = if xs.length + ys.length ≤ 16777216 then .ok (.d (.list (xs ++ ys))) S else .bad := rfl
@[simp] theorem e_mul : oMulA (.d (.int a)) (.d (.int b)) S = if mulC a b = true then .ok (.d (.int (a * b))) S else .bad := rfl
@[simp] theorem e_div : oDiv (.d (.int a)) (.d (.int b)) S = if divC a b = true then .ok (.d (.int (a / b))) S else .bad := rfl
@[simp] theorem e_mod : oMod (.d (.int a)) (.d (.int b)) S = if modC a b = true then .ok (.d (.int (a % b))) S else .bad := rfl
@[simp] theorem e_pow : oPow (.d (.int a)) (.d (.int b)) S = if powC a b = true then .ok (.d (.int (a ^ b.toNat))) S else .bad := rfl
@[simp] theorem e_neg : oNeg (.d (.int a)) S = .ok (.d (.int (-a))) S := rfl
@[simp] theorem e_abs : oAbs (.d (.int a)) S = .ok (.d (.int (if a < 0 then -a else a))) S := rfl
@[simp] theorem e_isN : oIsN x S = .ok (.d (.bool (isNon x))) S := rfl
@[simp] theorem e_notN : oNotN x S = .ok (.d (.bool (!isNon x))) S := rfl
@[simp] theorem e_toI : toI (.d (.int a)) S = .ok (.d (.int a)) S := rfl
@[simp] theorem e_toIb (c : Bool) : toI (.d (.bool c)) S = .ok (.d (.int (if c then 1 else 0))) S := rfl
@[simp] theorem e_Int : fInt fa ρ S = (fa ρ S).bind toI := rfl
theorem e_eqD (neg : Bool) (d e : PyData) (h1 : SeqAt.shaped d = true) (h2 : SeqAt.shaped e = true) : oEqS neg (.d d) (.d e) S = .ok (.d (.bool (neg ^^ PyData.eqv d e))) S := by
  show (if SeqAt.shaped d && SeqAt.shaped e then Res.ok (W.d (.bool (neg ^^ PyData.eqv d e))) S else .bad) = _
  rw [h1, h2]; rfl
@[simp] theorem e_eqI (neg : Bool) : oEqS neg (.d (.int a)) (.d (.int b)) S = .ok (.d (.bool (neg ^^ decide (a = b)))) S := by
  rw [e_eqD neg _ _ rfl rfl]; rfl
@[simp] theorem e_ixT (xs : List PyData) (k : Int) : oIx (.d (.tuple xs)) (.d (.int k)) S = (match atI xs k with | some z => .ok (.d z) S | none => .bad) := rfl
@[simp] theorem e_ixL (xs : List PyData) (k : Int) : oIx (.d (.list xs)) (.d (.int k)) S = (match atI xs k with | some z => .ok (.d z) S | none => .bad) := rfl
@[simp] theorem e_ixR (n : Nat) (k : Int) : oIx (.ref n) (.d (.int k)) S = (match S[n]? with | some (.lst xs) => (match atI xs k with | some z => .ok z S | none => .bad) | _ => .bad) := rfl
@[simp] theorem e_at0 (x : α) (xs : List α) : atI (x :: xs) 0 = some x := by unfold atI ixN; simp
theorem atI_nat {xs : List α} {k : Nat} {z : α} (h : xs[k]? = some z) : atI xs (k : Int) = some z := by
  have hk := (List.getElem?_eq_some_iff.mp h).1
  unfold atI ixN
  rw [if_pos (by omega), if_pos (by omega)]
  exact h
@[simp] theorem e_at1 (x y : α) (xs : List α) : atI (x :: y :: xs) 1 = some y := atI_nat (k := 1) rfl
@[simp] theorem e_at2 (x y z : α) (xs : List α) : atI (x :: y :: z :: xs) 2 = some z := atI_nat (k := 2) rfl
/-! kinds -/
def isiR (T : String) (x : W) (S : List Ob) : Res W := match (wTy x S).bind fun t => kitB t T with
  | some b => .ok (.d (.bool b)) S
  | none => .bad
@[simp] theorem e_isi (T : String) : fIsi T fa ρ S = (fa ρ S).bind (isiR T) := rfl
def isInt : PyData → Bool
  | .int _ => true
  | .bool _ => true
  | _ => false
def isBool : PyData → Bool
  | .bool _ => true
  | _ => false
def isTup : PyData → Bool
  | .tuple _ => true
  | _ => false
def isList : PyData → Bool
  | .list _ => true
  | _ => false
def isStr : PyData → Bool
  | .str _ => true
  | _ => false
@[simp] theorem e_isInt (d : PyData) : isiR "int" (.d d) S = .ok (.d (.bool (isInt d))) S := by cases d <;> rfl
@[simp] theorem e_isBool (d : PyData) : isiR "bool" (.d d) S = .ok (.d (.bool (isBool d))) S := by cases d <;> rfl
@[simp] theorem e_isTup (d : PyData) : isiR "tuple" (.d d) S = .ok (.d (.bool (isTup d))) S := by cases d <;> rfl
@[simp] theorem e_isList (d : PyData) : isiR "list" (.d d) S = .ok (.d (.bool (isList d))) S := by cases d <;> rfl
@[simp] theorem e_isStr (d : PyData) : isiR "str" (.d d) S = .ok (.d (.bool (isStr d))) S := by cases d <;> rfl
/-! sources, slices, own lists, dicts -/
@[simp] theorem e_Rng1 : fRng1 fa ρ S = (fa ρ S).bind rng1 := rfl
@[simp] theorem e_rng1 : rng1 (.d (.int a)) S = if -(2 ^ 62) ≤ a ∧ a ≤ 16777216 then .ok (rngL 0 a.toNat) S else .bad := rfl
@[simp] theorem e_Chain : fChain op op' fa fb fc ρ S = (fa ρ S).bind fun x S1 => (fb ρ S1).bind fun y S2 => ((op x y S2).bind toB).bind fun c S3 => if c = true then (fc ρ S3).bind fun z S4 => op' y z S4 else .ok (.d (.bool false)) S3 := rfl
@[simp] theorem e_NoP : fNoP ρ S = .ok none S := rfl
@[simp] theorem e_P : fP fa ρ S = (fa ρ S).bind fun x S1 => match x with | .d (.int i) => .ok (some i) S1 | _ => .bad := rfl
@[simp] theorem e_Cut (fl fh : FP) : fCut fa fl fh ρ S = (fa ρ S).bind fun x S1 => (fl ρ S1).bind fun lo S2 => (fh ρ S2).bind fun hi S3 => cutOf x lo hi S3 := rfl
@[simp] theorem e_cutT (xs : List PyData) (lo hi : Option Int) : cutOf (.d (.tuple xs)) lo hi S = .ok (.d (.tuple (cut xs lo hi))) S := rfl
@[simp] theorem e_cutL (xs : List PyData) (lo hi : Option Int) : cutOf (.d (.list xs)) lo hi S = .ok (.d (.list (cut xs lo hi))) S := rfl
@[simp] theorem e_CmpO (neg : Bool) : fCmpO neg i fb ρ S = (match ρ[i]? with | some (.own (.lst xs)) => (fb ρ S).bind (cmpO neg xs) | some (.w (.d (.list ds))) => (fb ρ S).bind (cmpO neg (ds.map .d)) | _ => .bad) := rfl
@[simp] theorem e_IxO : fIxO i fb ρ S = (match ρ[i]? with | some (.own (.lst xs)) => (fb ρ S).bind (ixO xs) | some (.w x) => (fb ρ S).bind fun y S1 => oIx x y S1 | _ => .bad) := rfl
@[simp] theorem e_App : fApp i fa ρ S = (match ρ[i]? with | some (.own (.lst xs)) => (fa ρ S).bind fun y S1 => if xs.length < 16777216 then .ok (.d .none, ρ.set i (.own (.lst (xs ++ [y])))) S1 else .bad | _ => .bad) := rfl
@[simp] theorem e_Pop : fPop i ρ S = (match ρ[i]? with | some (.own (.lst xs)) => (match xs[xs.length - 1]? with | some y => .ok (y, ρ.set i (.own (.lst xs.dropLast))) S | none => .bad) | _ => .bad) := rfl
@[simp] theorem e_PopAt : fPopAt i fa ρ S = (match ρ[i]? with | some (.own (.lst xs)) => (fa ρ S).bind fun z S1 => (match z with | .d (.int k) => (match ixN xs.length k with | some j => (match xs[j]? with | some y => if xs.length ≤ 16777216 then .ok (y, ρ.set i (.own (.lst (xs.eraseIdx j)))) S1 else .bad | none => .bad) | none => .bad) | _ => .bad) | _ => .bad) := rfl
@[simp] theorem e_Aug : fAug i op fa ρ S = (match ρ[i]? with | some (.w x) => fl (fa ρ S) ρ fun y S1 => fl (op x y S1) ρ fun z S2 => .nx (ρ.set i (.w z)) S2 | _ => .bad) := rfl
@[simp] theorem e_AddO : fAddO i fb ρ S = (match ρ[i]? with | some (.own (.lst xs)) => (fb ρ S).bind fun y S1 => (match y with | .d (.list ys) => if xs.length + ys.length ≤ 16777216 then .ok (.lst (xs ++ ys.map .d)) S1 else .bad | _ => .bad) | _ => .bad) := rfl
@[simp] theorem e_AddN : fAddN fa fb ρ S = (fa ρ S).bind fun x S1 => (fb ρ S1).bind fun y S2 => oAddN x y S2 := rfl
@[simp] theorem e_addN (xs ys : List PyData) : oAddN (.d (.list xs)) (.d (.list ys)) S = if xs.length + ys.length ≤ 16777216 then .ok (.lst ((xs ++ ys).map .d)) S else .bad := rfl
@[simp] theorem e_Rep : fRep fo fb ρ S = (fo ρ S).bind fun o S1 => (fb ρ S1).bind fun y S2 => oRep o y S2 := rfl
@[simp] theorem e_oRep (xs : List W) : oRep (.lst xs) (.d (.int a)) S = if -(2 ^ 63) ≤ a ∧ a < 2 ^ 63 ∧ xs.length * a.toNat ≤ 16777216 then .ok (.lst (List.replicate a.toNat xs).flatten) S else .bad := rfl
@[simp] theorem e_Sto : fSto fo ρ S = (fo ρ S).bind fun o S1 => .ok (.ref S1.length) (S1 ++ [o]) := rfl
@[simp] theorem e_SetIx : fSetIx fa fb fc ρ S = fl (fa ρ S) ρ fun v S1 => fl (fb ρ S1) ρ fun x S2 => fl (fc ρ S2) ρ fun y S3 => setIxS v x y ρ S3 := rfl
@[simp] theorem e_setIx (v : W) (n : Nat) : setIxS v (.ref n) (.d (.int a)) ρ S = (match S[n]? with | some (.lst xs) => (match ixN xs.length a with | some j => .nx ρ (S.set n (.lst (xs.set j v))) | none => .bad) | _ => .bad) := rfl
@[simp] theorem e_PopS : fPopS fa fb ρ S = (fa ρ S).bind fun x S1 => if isLst x S1 = true then (fb ρ S1).bind fun y S2 => popSt x y S2 else .bad := rfl
@[simp] theorem e_AppS : fAppS fa fb ρ S = (fa ρ S).bind fun x S1 => if isLst x S1 = true then (fb ρ S1).bind fun y S2 => appSt x y S2 else .bad := rfl
@[simp] theorem e_isLst (n : Nat) : isLst (.ref n) S = (match S[n]? with | some (.lst _) => true | _ => false) := rfl
@[simp] theorem e_Dnew : fDnew ρ S = .ok (.dct []) S := rfl
@[simp] theorem e_Dget : fDget i fb ρ S = (match ρ[i]? with | some (.own (.dct kvs)) => (fb ρ S).bind (getD kvs) | _ => .bad) := rfl
@[simp] theorem e_getD (kvs : List (Key × W)) : getD kvs (.d (.int a)) S = (match valW kvs (.inl a) with | some x => .ok x S | none => .bad) := rfl
@[simp] theorem e_Dget2 : fDget2 i fb fc ρ S = (match ρ[i]? with | some (.own (.dct kvs)) => (fb ρ S).bind fun y S1 => (fc ρ S1).bind fun z S2 => (match keyOf y with | some k => .ok ((valW kvs k).getD z) S2 | none => .bad) | _ => .bad) := rfl
@[simp] theorem e_keyI : keyOf (.d (.int a)) = some (.inl a) := rfl
@[simp] theorem e_Dput : fDput i fa fb ρ S = fl (fb ρ S) ρ fun v S1 => (match ρ[i]? with | some (.own (.dct kvs)) => fl (fa ρ S1) ρ fun y S2 => (match keyOf y with | some k => if kvs.length < 16777216 then .nx (ρ.set i (.own (.dct (putW kvs k v)))) S2 else .bad | none => .bad) | _ => .bad) := rfl
@[simp] theorem e_Dsrt : fDsrt i ρ S = (match ρ[i]? with | some (.own (.dct kvs)) => (match intKeys kvs with | some ks => if ks.length < 64 then .ok (.lst ((ks.mergeSort).map fun i => .d (.int i))) S else .bad | none => .bad) | _ => .bad) := rfl
@[simp] theorem e_Frz (n : Nat) : fFrz n f ρ S = (match ρ[n]? with | some (.own o) => (match frz o with | some x => f (ρ.set n (.w x)) S | none => .bad) | _ => f ρ S) := rfl
@[simp] theorem e_RetI : fRetI i ρ S = (match ρ[i]? with | some (.own o) => .rt (.own o) S | _ => .bad) := rfl
@[simp] theorem e_Apd (fk : FA) : fApd fr fk ρ S = (fr ρ S).bind fun xs S1 => (fk ρ S1).bind fun ys S2 => .ok (xs ++ ys) S2 := rfl
@[simp] theorem e_Srt : fSrt fl1 ρ S = (fl1 ρ S).bind srt := rfl
@[simp] theorem e_minI : oMin (.d (.int a)) (.d (.int b)) S = .ok (.d (.int (if b < a then b else a))) S := rfl
/-! loops -/
theorem e_For (g : FG) (h : fi ρ S = .ok xs S') : fFor fi g f ρ S = forL g f xs ρ S' := by unfold fFor; rw [h]; rfl
theorem for_nil (g : FG) : forL g f [] ρ S = .nx ρ S := rfl
theorem for_cons (g : FG) (w : W) (r : List W) : forL g f (w :: r) ρ S = setG (g w ρ) S fun ρ1 S1 => turnF (f ρ1 S1) (forL g f r) := rfl
@[simp] theorem e_turnN (k : List Sl → List Ob → Fl) : turnF (.nx ρ S) k = k ρ S := rfl
@[simp] theorem e_turnC (k : List Sl → List Ob → Fl) : turnF (.ct ρ S) k = k ρ S := rfl
@[simp] theorem e_turnB (k : List Sl → List Ob → Fl) : turnF (.bk ρ S) k = .nx ρ S := rfl
@[simp] theorem e_turnR (r : Rv) (k : List Sl → List Ob → Fl) : turnF (.rt r S) k = .rt r S := rfl
@[simp] theorem e_turnX (c : Str) (k : List Sl → List Ob → Fl) : turnF (.ex c ρ S) k = .ex c ρ S := rfl
/-- a for whose turns go on: P holds of the slots and the store behind each turn -/
theorem for_inv (g : FG) (P : Nat → List Sl → List Ob → Prop) : ∀ (xs : List W) (n : Nat) (ρ : List Sl) (S : List Ob), P n ρ S →
    (∀ i x ρ S, xs[i]? = some x → P (n + i) ρ S → ∃ ρ2 S2, setG (g x ρ) S f = .nx ρ2 S2 ∧ P (n + i + 1) ρ2 S2) → ∃ ρ' S', forL g f xs ρ S = .nx ρ' S' ∧ P (n + xs.length) ρ' S'
  | [], n, ρ, S, h, _ => ⟨ρ, S, rfl, h⟩
  | x :: r, n, ρ, S, h, k => by
    obtain ⟨ρ2, S2, e, p⟩ := k 0 x ρ S rfl h
    obtain ⟨ρ3, S3, e3, p3⟩ := for_inv g P r (n + 1) ρ2 S2 p fun i y ρ S hy hp => by
      have := k (i + 1) y ρ S (by simpa using hy) (by rw [show n + (i + 1) = n + 1 + i by omega]; exact hp)
      rw [show n + (i + 1) + 1 = n + 1 + i + 1 by omega] at this
      exact this
    refine ⟨ρ3, S3, ?_, ?_⟩
    · rw [for_cons]
      cases q : g x ρ with
      | none => rw [q] at e; cases e
      | some ρ1 =>
        rw [q] at e
        have e : f ρ1 S = .nx ρ2 S2 := e
        rw [e_setG, e, e_turnN]
        exact e3
    · rw [show n + (x :: r).length = n + 1 + r.length by simp; omega]; exact p3
/-- a comprehension whose tests and items change nothing -/
theorem lc_pure (g : FG) (t : FB) (fe : FE) (ρ : List Sl) (S : List Ob) (p : W → Bool) (y : W → W) : ∀ xs : List W, (∀ x ∈ xs, ∃ ρ1, g x ρ = some ρ1 ∧ t ρ1 S = .ok (p x) S ∧ (p x = true → fe ρ1 S = .ok (y x) S)) → lcL g t fe ρ xs S = .ok ((xs.filter p).map y) S
  | [], _ => rfl
  | x :: r, h => by
    obtain ⟨ρ1, e1, e2, e3⟩ := h x (List.mem_cons_self ..)
    have ih := lc_pure g t fe ρ S p y r fun z hz => h z (List.mem_cons_of_mem _ hz)
    unfold lcL
    simp only [e1, e2]
    cases q : p x with
    | true => simp only [e3 q, if_true, ih, e_ok, List.filter_cons_of_pos q, List.map_cons]
    | false => simp only [Bool.false_eq_true, if_false, ih]; rw [List.filter_cons_of_neg (by rw [q]; exact Bool.false_ne_true)]
theorem e_Lc (own : List Nat) (g : FG) (fe : FE) (h : fi ρ S = .ok xs S') (ho : own.any (fun i => isOwn ρ[i]?) = false) : fLc fi own g t fe ρ S = (lcL g t fe (unset ρ own) xs S').bind fun ys S2 => .ok (.lst ys) S2 := by
  unfold fLc; rw [h]; simp only [e_ok, ho, Bool.false_eq_true, if_false]
theorem e_While (n : Nat) : fWhile n t f ρ S = whileN t f n ρ S := rfl
theorem while_succ (n : Nat) : whileN t f (n + 1) ρ S = fl (t ρ S) ρ fun c S1 => if c = true then turnF (f ρ S1) (whileN t f n) else .nx ρ S1 := rfl
/-! what == may be asked of -/
def shp (k : Nat) (d : PyData) : Prop := PyData.canLay0 d = true ∧ PyData.depth d ≤ k
theorem shaped_of {d : PyData} (h : shp 64 d) : SeqAt.shaped d = true := by unfold SeqAt.shaped; rw [h.1, decide_eq_true h.2]; rfl
theorem shp_mono {d : PyData} {k l : Nat} (h : shp k d) (hl : k ≤ l) : shp l d := ⟨h.1, Nat.le_trans h.2 hl⟩
theorem shp_int (k : Nat) (i : Int) : shp k (.int i) := ⟨rfl, Nat.zero_le _⟩
theorem shp_bool (k : Nat) (i : Bool) : shp k (.bool i) := ⟨rfl, Nat.zero_le _⟩
theorem shp_non (k : Nat) : shp k .none := ⟨rfl, Nat.zero_le _⟩
theorem shp_all {k : Nat} : ∀ {ds : List PyData}, (∀ d ∈ ds, shp k d) → PyData.canLayAll0 ds = true ∧ PyData.depthAll ds ≤ k
  | [], _ => ⟨by simp only [PyData.canLayAll0], by simp only [PyData.depthAll]; omega⟩
  | d :: r, h => by
    have h1 := h d (List.mem_cons_self ..)
    have h2 := shp_all fun x hx => h x (List.mem_cons_of_mem _ hx)
    have e1 := h1.2
    have e2 := h2.2
    refine ⟨by simp only [PyData.canLayAll0, h1.1, h2.1, Bool.and_self], by simp only [PyData.depthAll]; omega⟩
theorem shp_list {k : Nat} {ds : List PyData} (h : ∀ d ∈ ds, shp k d) : shp (k + 1) (.list ds) := by
  obtain ⟨h1, h2⟩ := shp_all h
  exact ⟨by simp only [PyData.canLay0, h1], by simp only [PyData.depth]; omega⟩
theorem shp_tup {k : Nat} {ds : List PyData} (h : ∀ d ∈ ds, shp k d) : shp (k + 1) (.tuple ds) := by
  obtain ⟨h1, h2⟩ := shp_all h
  exact ⟨by simp only [PyData.canLay0, h1], by simp only [PyData.depth]; omega⟩
@[simp] theorem eqv_nil (xs : List PyData) : PyData.eqv (.list xs) (.list []) = xs.isEmpty := by cases xs <;> simp [PyData.eqv, PyData.eqvAll]
theorem mem_ints {d : PyData} {cs : List Int} (h : d ∈ cs.map PyData.int) : ∃ i, d = .int i := by
  obtain ⟨i, _, e⟩ := List.mem_map.mp h
  exact ⟨i, e.symm⟩
theorem shp_ints (cs : List Int) : shp 1 (.list (cs.map .int)) := shp_list fun d h => by obtain ⟨i, rfl⟩ := mem_ints h; exact shp_int _ _
theorem dats_ints (cs : List Int) : dats (cs.map fun i => W.d (.int i)) = some (cs.map .int) := by
  have := dats_map (cs.map PyData.int)
  rw [List.map_map] at this
  exact this
/-- two values compared -/
theorem e_eqS (neg : Bool) {d e : PyData} (h1 : asD x S = some d) (h2 : asD y S = some e) (k1 : shp 64 d) (k2 : shp 64 e) : oEqS neg x y S = .ok (.d (.bool (neg ^^ PyData.eqv d e))) S := by
  unfold oEqS; rw [h1, h2]; simp only [shaped_of k1, shaped_of k2, Bool.and_self, if_true]
end
end L2.Q
/-! Layer Q, part P: xs[::-1]. -/
namespace L2.Q
open PySem PySem.Spec PyProof.Rows
section
variable {prog : Program} {w : World} {A : Around} {E : Value → Shared → Prop} {s : Shared}
theorem adjust_rev (n : Nat) : Builtin.Slice.sliceAdjust none none (-1) (n : Int) = ((n : Int) - 1, -1) := by
  unfold Builtin.Slice.sliceAdjust
  simp
theorem places_rev (n : Nat) : Builtin.Slice.slicePlaces ((n : Int) - 1) (-1) (-1) = n := by
  unfold Builtin.Slice.slicePlaces
  have h1 : ¬ ((-1 : Int) > 0) := by omega
  simp only [h1, if_false]
  split
  · rw [show ((n : Int) - 1 - -1 - 1) / - -1 = (n : Int) - 1 by rw [show (- -1 : Int) = 1 by decide, Int.ediv_one]; omega]
    omega
  · omega
theorem sliceApplied_rev {sl : Addr} {vl vu vs : Value} {n : Nat} {Q : Int × Int × Nat → Shared → Prop} (hs : s.heap.IsSliceOf sl vl vu vs) (pl : IsPart vl none) (pu : IsPart vu none) (ps : IsPart vs (some (-1)))
    (h : Q ((n : Int) - 1, -1, n) s) : wpAny (model prog w) A (Builtin.Slice.sliceApplied (.ref sl) (pure (n : Int))) Q E s := by
  obtain ⟨os, hos, hcs, hds⟩ := id hs
  unfold Builtin.Slice.sliceApplied Builtin.Slice.sliceFields
  refine wpAny_bind (wpAny_bind (wpAny_field hos hds (x := vl) rfl (wpAny_bind (wpAny_field hos hds (x := vu) rfl (wpAny_bind (wpAny_field hos hds (x := vs) rfl (wpAny_pure ?_)))))))
  refine wpAny_bind (HT.slicePart_ ps ?_)
  show wpAny _ _ (if ((-1 : Int) == 0) = true then _ else _) _ _ s
  rw [if_neg (by decide)]
  refine wpAny_bind (HT.slicePart_ pl (wpAny_bind (HT.slicePart_ pu (wpAny_bind (wpAny_pure ?_)))))
  show wpAny _ _ (match Builtin.Slice.sliceAdjust none none (-1) (n : Int) with | (lo, hi) => pure (lo, (-1 : Int), Builtin.Slice.slicePlaces lo hi (-1))) _ _ s
  rw [adjust_rev n]
  show wpAny _ _ (pure ((n : Int) - 1, (-1 : Int), Builtin.Slice.slicePlaces ((n : Int) - 1) (-1) (-1))) _ _ s
  rw [places_rev]
  exact wpAny_pure h
theorem pick_rev (xs : Array Value) : ((List.range xs.size).filterMap fun (m : Nat) => xs[((xs.size : Int) - 1 + (m : Int) * -1).toNat]?).toArray = xs.toList.reverse.toArray := by
  have e : (List.range xs.size).filterMap (fun (m : Nat) => xs[((xs.size : Int) - 1 + (m : Int) * -1).toNat]?) = ((List.range xs.size).map fun k => xs.size - 1 - k).filterMap (xs[·]?) := by
    rw [List.filterMap_map]
    have g : ∀ l : List Nat, (∀ m ∈ l, m < xs.size) → l.filterMap (fun (m : Nat) => xs[((xs.size : Int) - 1 + (m : Int) * -1).toNat]?) = l.filterMap ((xs[·]?) ∘ fun k => xs.size - 1 - k) := by
      intro l hl
      induction l with
      | nil => rfl
      | cons m r ih =>
        have := hl m (List.mem_cons_self ..)
        have ih := ih fun z hz => hl z (List.mem_cons_of_mem _ hz)
        have q : ((xs.size : Int) - 1 + (m : Int) * -1).toNat = xs.size - 1 - m := by omega
        rw [List.filterMap_cons, List.filterMap_cons, ih, q]
        rfl
    exact g _ fun m hm => List.mem_range.mp hm
  rw [e, PySem.W.krv_range, List.filterMap_reverse, PySem.W.krv_all]
theorem getItem_tuple_rev {t sl : Addr} {items : Array Value} {vl vu vs : Value} {Q : Value → Shared → Prop} (ht : IsTup s.heap t items) (hs : s.heap.IsSliceOf sl vl vu vs) (pl : IsPart vl none) (pu : IsPart vu none) (ps : IsPart vs (some (-1)))
    (h : Q (.ref s.heap.objs.size) { s with heap := s.heap.push { cls := .type "tuple", data := .seq items.toList.reverse.toArray } })
    (hsz : items.size ≤ sizeLine) : wpAny (model prog w) A (getItem (.ref t) (.ref sl)) Q E s := by
  have htake : sizeOk (.seq items.toList.reverse.toArray) := by
    show items.toList.reverse.toArray.size ≤ sizeLine
    rw [List.size_toArray, List.length_reverse, Array.length_toList]
    exact hsz
  obtain ⟨os, hos, hcs, hds⟩ := id hs
  have hTs : s.TypeIs (.ref sl) "slice" := ⟨os, hos, hcs⟩
  unfold getItem
  try with_reducible refine wpAny_holding ?_
  first | refine wpAny_bind (wpAny_pure ?_) | skip
  refine wpAny_bind (wpAny_sequenceKey ht.typeIs (by decide) ?_)
  refine wpAny_bind (wpAny_callSpecial?_slot (name := Str.ofString "__getitem__") ht.typeIs PyProof.Rows.slot_tuple_getitem
    (wpAny_call_entry PyProof.Rows.slot_tuple_getitem ht.typeIs entry_tuple_getitem ?_ (args_tuple_getitem _ _)))
  show wpAny _ _ (Builtin.Tuple.tupleItemsOf (.ref t) >>= _) _ _ s
  refine wpAny_bind (tupleItemsOf_ ht ?_)
  refine wpAny_bind (wpAny_typeOf hTs ?_)
  rw [if_pos (by decide)]
  refine wpAny_bind (sliceApplied_rev hs pl pu ps ?_)
  have hno : ¬ (((items.size : Int) - 1 == 0 && (-1 : Int) == 1 && items.size == items.size) = true) := by
    intro q
    rw [Bool.and_eq_true, Bool.and_eq_true] at q
    exact absurd q.1.2 (by decide)
  show wpAny _ _ (if ((items.size : Int) - 1 == 0 && (-1 : Int) == 1 && items.size == items.size) = true then _ else _) _ _ s
  rw [if_neg hno, pick_rev]
  first
    | exact wpAny_bind (m := Builtin.Tuple.tupleExact _) (wpAny_newObj_type (wpAny_pure ⟨_, rfl, wpAny_pure h⟩) htake)
    | exact wpAny_bind (m := Builtin.Tuple.tupleExact _) (wpAny_newObj_type (wpAny_bind (wpAny_pure (wpAny_pure ⟨_, rfl, wpAny_pure h⟩))) htake)
    | exact wpAny_bind (wpAny_bind (m := Builtin.Tuple.tupleExact _) (wpAny_newObj_type (wpAny_pure (wpAny_pure ⟨_, rfl, wpAny_pure h⟩)) htake))
    | exact wpAny_bind (wpAny_bind (m := Builtin.Tuple.tupleExact _) (wpAny_newObj_type (wpAny_pure ⟨_, rfl, wpAny_pure h⟩) htake))
end
section
variable {X : Cx}
def tRevT (K : PySem.W.Frag) (te : TE) : TE := fun σ H Q => te σ H fun x H1 => ∃ a xs, x = .ref a ∧ L2.SqT K H1 a xs ∧ NT Q H1 xs.reverse
theorem pe_revT {e : Expr} {te : TE} {k : Nat} {p1 p2 p3 pos : Pos} (he : PE X e te) : PE X (.Subscript e (.Slice none none (some (.UnaryOp .USub (.Constant (.int 1) k p1) p2)) p3) pos) (tRevT X.K te) := by
  refine ⟨fun pins s σ H Q I h => ?_⟩
  refine Subscript_ (thn (he.run pins s σ H _ I h) fun v s1 ⟨x, H1, I1, r1, q1⟩ => ?_)
  obtain ⟨a, xs, ex, hx, q⟩ := q1
  subst ex
  cases r1
  have hst : PO X (some (.UnaryOp .USub (.Constant (.int 1) k p1) p2)) (tPart (tUn (rU fun i => .int (-i)) (tC (.int 1)))) := po_some (pe_un un_neg pe_int)
  refine wpAny_Slice (thn (po_none.run pins s1 σ H1 (fun o H2 => o = none ∧ H2 = H1) I1 ⟨rfl, rfl⟩) fun vl s2 ⟨l, H2, I2, pl, el, e2⟩ => ?_)
  subst el e2
  refine thn (po_none.run pins s2 σ H2 (fun o H3 => o = none ∧ H3 = H2) I2 ⟨rfl, rfl⟩) fun vu s3 ⟨u, H3, I3, pu, eu, e3⟩ => ?_
  subst eu e3
  refine thn (hst.run pins s3 σ H3 (fun o H4 => o = some (-1) ∧ H4 = H3) I3 ⟨1, rfl, -1, rfl, rfl, rfl⟩) fun vs s4 ⟨o, H4, I4, ps, eo, e4⟩ => ?_
  subst eo e4
  have I5 : Inv X pins σ H4 { s4 with heap := s4.heap.push { cls := .type "slice", data := .fields #[vl, vu, vs] } } := I4.kept (t' := s4.toks) fun b ob q => Heap.get?_push_of_some _ q
  obtain ⟨its, r, ht, hz⟩ := I5.tuple hx
  have hlen : its.toArray.size = xs.length := by rw [List.size_toArray]; exact r.length.symm
  show wpAny (model X.prog X.w) X.A (subscriptTail e (.Slice none none (some (.UnaryOp .USub (.Constant (.int 1) k p1) p2)) p3) (.ref a) (.ref s4.heap.objs.size)) (EP X pins σ Q) X.xe { s4 with heap := s4.heap.push { cls := .type "slice", data := .fields #[vl, vu, vs] } }
  refine tail_any (ops := [.ref a, .ref s4.heap.objs.size]) ht.typeIs (PyProof.Rows.slot_tuple_getitem.lookup) ?_ (by with_unfolding_all rfl)
  refine getItem_tuple_rev ht (Heap.IsSliceOf.new _ vl vu vs) pl pu ps ?_ (by rw [hlen]; exact hz)
  exact ep_tup I5 r.reverse (by rw [List.length_reverse]; exact hz) q
end
section
variable {X : Cx} {Wc : WX} {a : Expr} {fa : FE} {k : Nat} {p1 p2 p3 pos : Pos}
def revT (x : W) (S : List Ob) : Res W := match x with
  | .d (.tuple xs) => .ok (.d (.tuple xs.reverse)) S
  | _ => .bad
def fRevT (fa : FE) : FE := fun ρ S => (fa ρ S).bind revT
theorem dps_rev {K : PySem.W.Frag} {F : Hp} {ds : List PyData} {vs : List V} (h : DpAll K F vs ds) : DpAll K F vs.reverse ds.reverse := by
  induction ds generalizing vs with
  | nil => cases h; exact .nil
  | cons d r ih =>
    cases h with
    | cons h1 h2 =>
      rw [List.reverse_cons, List.reverse_cons]
      exact dps_app (ih h2) (.cons h1 .nil)
theorem q_revT (ha : PE X a (LE X Wc fa)) : PE X (.Subscript a (.Slice none none (some (.UnaryOp .USub (.Constant (.int 1) k p1) p2)) p3) pos) (LE X Wc (fRevT fa)) := PE.imp (pe_revT ha) fun σ H Q h => by
  obtain ⟨F, D, m, ρ, S, r0, c⟩ := h
  refine step r0 c fun F1 m1 x v S1 H1 l1 p1 r1 e1 c1 => ?_
  cases x with
  | ref n => exact c1.elim
  | d x =>
    rcases rep_cases (μ := m1) e1 with ⟨rfl, rfl⟩ | ⟨b, rfl, rfl⟩ | ⟨i, rfl, rfl⟩ | ⟨z, rfl, rfl⟩ | ⟨a, vs, ds, rfl, rfl, h1, h2⟩ | ⟨a, vs, ds, rfl, rfl, h1, h2⟩
    · exact c1.elim
    · exact c1.elim
    · exact c1.elim
    · exact c1.elim
    · exact c1.elim
    · exact ⟨a, vs, rfl, Le.sqT r1.b.fr h1, new_tup r1 (dps_rev h2) c1⟩
@[simp] theorem e_RevT {ρ : List Sl} {S : List Ob} : fRevT fa ρ S = (fa ρ S).bind revT := rfl
@[simp] theorem e_revT {S : List Ob} (xs : List PyData) : revT (.d (.tuple xs)) S = .ok (.d (.tuple xs.reverse)) S := rfl
end
end L2.Q
/-! Layer Q, part Q: enumerate of a tuple. -/
namespace L2.Q
open PySem PySem.Spec PyProof.Rows
section
variable {prog : Program} {w : World} {A : Around} {E : Value → Shared → Prop} {s : Shared}
abbrev enumOb (n : Nat) : Obj := { cls := .type "enumerate", data := .fields #[.none, .bool false, .ref n, rawInt 0, .none, .none] }
theorem enum_made {v : Value} {o : Obj} {G : Heap → Prop} (B : Begins v o G) :
    Meets (Builtin.«enumerate.__new__» ⟨[.type "enumerate", v], []⟩) (fun _ R s => G s.heap ∧ R (.ok (.ret (.ref (s.heap.push o).objs.size))) { s with heap := (s.heap.push o).push (enumOb s.heap.objs.size) }) :=
  .of_wp fun prog w A R s h => by
    obtain ⟨hp, g, d, tk, os⟩ := s
    obtain ⟨h1, h⟩ := h
    have sub := sub_enumerate
    have it : ∀ {A' : Around} {E' : Value → Shared → Prop} {Q : Value → Shared → Prop}, Q (.ref hp.objs.size) ⟨hp.push o, g, d, tk, os⟩ → wpAny (model prog w) A' (pyIter v) Q E' ⟨hp, g, d, tk, os⟩ := fun q => B.iter prog w _ _ ⟨hp, g, d, tk, os⟩ _ h1 q
    wp_walk using it
    refine wpAny_stack_any fun st => wpAny_pure ?_
    split
    · rename_i c _ _ _ _ _
      cases (c == Value.type "enumerate") <;> (wp_walk using it) <;> exact ⟨_, rfl, h⟩
    · wp_walk using it
      exact ⟨_, rfl, h⟩
theorem enum_call {v : Value} {o : Obj} {G : Heap → Prop} {Q : Value → Shared → Prop} (B : Begins v o G) (h1 : G s.heap)
    (h : ∀ h', IsEnum h' (s.heap.objs.size + 1) s.heap.objs.size 0 .none → h'.get? s.heap.objs.size = some o → (∀ b o', s.heap.get? b = some o' → h'.get? b = some o') → Q (.ref (s.heap.objs.size + 1)) { s with heap := h' }) :
    wpAny (model prog w) A (call (.type "enumerate") [v]) Q E s := by
  refine callType_new F.called_enumerate (by decide) (F.typeCall_enumerate_1 _) (F.newCall_enumerate_1 _) (fun x => F.args_object_init_2 x _) F.entry_enumerate_new (enum_made B) ⟨h1, ?_⟩
  have z : (s.heap.push o).objs.size = s.heap.objs.size + 1 := Heap.size_push ..
  show _ ∧ _
  rw [z]
  have e : IsEnum ((s.heap.push o).push (enumOb s.heap.objs.size)) (s.heap.objs.size + 1) s.heap.objs.size 0 .none := by
    have := Heap.get?_push_size (s.heap.push o) (o := enumOb s.heap.objs.size) rfl
    rw [z] at this
    exact this
  exact ⟨⟨_, e, rfl⟩, h _ e (Heap.get?_push_of_some _ (Heap.get?_push_size _ B.free)) fun b o' x => Heap.get?_push_of_some _ (Heap.get?_push_of_some _ x)⟩
theorem enum_endT {e it t : Addr} {i : Int} {k : Nat} {items : Array Value} {old : Value} {Q : Option Value → Shared → Prop} (hh : A.handled = none) (he : IsEnum s.heap e it i old) (hit : s.heap.IsTupleIter it t k) (ht : s.heap.IsTuple t items) (hx : items[k]? = none)
    (hQ : ∀ h', Heap.ExtBut it s.heap h' → Q none { s with heap := h' }) : wpAny (model prog w) A (pyNext (.ref e)) Q E s := by
  have ty : s.TypeIs (.ref e) "enumerate" := ⟨_, he, rfl⟩
  unfold pyNext
  refine wpAny_bind (wpAny_attempt (wpAny_callSpecial?_slot (name := Str.ofString "__next__") ty F.slot_enumerate_next (wpAny_call_entry F.slot_enumerate_next ty F.entry_enumerate_next ?_ (F.args_enumerate_next_1 _))))
  refine wpAny_bind (m := field (.ref e) 2) (wpAny_field he rfl (x := .ref it) rfl ?_)
  refine wpAny_bind (wpAny_nextOf_tuple_end hh hit ht hx fun h' x hk hc => ?_)
  obtain ⟨o, ho, hc⟩ := hc
  exact wpAny_bind (wpAny_isInstance (T := "StopIteration") (b := true) ⟨o, ho, hc⟩ isSubtype_stop (wpAny_pure (hQ _ hk)))
end
/-- the tuple at a, each item in a new pair -/
def IteT (K : PySem.W.Frag) (a : Addr) : It :=
  ⟨fun i H => ∃ (xs : List V) (x : V), L2.SqT K H a xs ∧ xs[i]? = some x,
    fun i H v H' => ∃ T ob x, v = .ref T ∧ H T = none ∧ Obj.dict ob = none ∧ H' = upd H T (.frz ob (.tup [.int (i : Nat), x])) ∧ ∀ xs, L2.SqT K H a xs → xs[i]? = some x,
    fun i H => ∃ xs : List V, L2.SqT K H a xs ∧ xs.length ≤ i⟩
theorem turn_enumT {P : Program} {w : World} {K : PySem.W.Frag} {elts : List Expr} {kk : Nat} {tpos : Pos} (a e it : Addr) :
    Turn P w K (.Tuple elts kk tpos) (IteT K a) [e, it] e (fun i h => (∃ old, IsEnum h e it ((i : Nat) : Int) old) ∧ h.IsTupleIter it a i ∧ e ≠ it ∧ a ≠ it ∧ e ≠ a) where
  mem := by simp
  obj := fun i h st b hb => by
    obtain ⟨⟨old, he⟩, ⟨o, ho, hc, hd⟩, _⟩ := st
    rcases (show b = e ∨ b = it by simpa using hb) with rfl | rfl
    · exact ⟨_, he, fun v q => nomatch q⟩
    · exact ⟨o, ho, fun v q => by rw [hd] at q; cases q⟩
  keep := fun i h h' st k => by
    obtain ⟨⟨old, he⟩, hi, r⟩ := st
    exact ⟨⟨old, k e (by simp) _ he⟩, hi.at fun o q => k it (by simp) o q, r⟩
  item := by
    intro X hP hw hK hc i pins s σ H E I hf st hg
    subst hP hw hK
    obtain ⟨⟨old, he⟩, hit, n1, n2, n3⟩ := st
    obtain ⟨xs, x, hq, hx⟩ := hg
    obtain ⟨its, rv, p, hz⟩ := I.tuple hq
    obtain ⟨u, hu, ru⟩ := rv.get hx
    have le := Heap.lt_size he
    have li : it < s.heap.objs.size := by obtain ⟨_, q, _⟩ := hit; exact Heap.lt_size q
    have hd := I.ok.hd hc
    have D := Draws.tuple (prog := X.prog) (w := X.w) (A := X.A.in1) hd it a n2 its.toArray
    refine wpAny_pyNext_enum_itemD D he ⟨hit, p⟩ (by have := (List.getElem?_eq_some_iff.mp hu).1; simpa using this) n1 (by simp [n1, n3]) fun y h' tk hy eo ht hT hs hk => ?_
    have hy : its[i]? = some y := by simpa using hy
    rw [hu] at hy
    cases hy
    refine ⟨_, rfl, wpAny_letOwnedTupleGo_enum (s := { s with heap := h', toks := tk + 1 }) eo fun h'' e2 sb => ?_⟩
    have I1 := pair_laid (ch := [e, it]) (t' := tk + 1) (x := .int (i : Nat)) I (fun b o hb q => (sb.2 b (fun z => hb (by simp [z]))).trans (hk b o (fun z => hb (by simp [z])) (fun z => hb (by simp [z])) q)) hf ((sb.2 _ (Nat.ne_of_gt le)).trans hT) ⟨_, rfl⟩ ru
    refine ⟨.ref s.heap.objs.size, _, I1, rfl, ⟨_, _, x, rfl, I.hok.fresh (Nat.le_refl _), rfl, rfl, fun ys hy => by rw [I.tuple_inj hy hq]; exact hx⟩, ⟨⟨u, ?_⟩, ht.1.at fun o q => (sb.2 it (Ne.symm n1)).trans q, n1, n2, n3⟩, pair_out I hf fun b hb => ?_⟩
    · rw [show ((i + 1 : Nat) : Int) = (i : Int) + 1 by omega]
      exact e2
    · rcases (show b = e ∨ b = it by simpa using hb) with rfl | rfl
      · exact le
      · exact li
  done := by
    intro X hP hw hK hc i pins s σ H E I hf st hg
    subst hP hw hK
    obtain ⟨⟨old, he⟩, hit, n1, n2, n3⟩ := st
    obtain ⟨xs, hq, hx⟩ := hg
    obtain ⟨its, rv, p, hz⟩ := I.tuple hq
    obtain ⟨f0, f1, f2, f3, f4, f5⟩ := hf it (by simp)
    have hl := rv.length
    exact enum_endT (I.ok.hd hc) he hit p (by simp; omega) fun h' eb => ⟨rfl, I.turned (t' := s.toks) (fun b o hb q => eb b o hb q) f0 f1 f3 f4 f5⟩
  self := fun A i s Q E st h => let ⟨⟨_, he⟩, _⟩ := st; wpAny_pyIter_enum he h
theorem walk_enumT {K : PySem.W.Frag} {a : Addr} {xs : List V} : Walk (IteT K a) xs.length (fun H => L2.SqT K H a xs) (YPair (fun i => some (.int (i : Nat))) (fun i => xs[i]?)) := by
  refine ⟨fun i _ hi q => ⟨xs, xs[i], q, by simp [hi]⟩, fun _ q => ⟨xs, q, Nat.le_refl _⟩, fun i H v H' _ q y => ?_⟩
  obtain ⟨T, ob, x, k1, k2, k3, k4, k5⟩ := y
  exact ⟨T, ob, .int (i : Nat), x, k1, k2, k3, k4, rfl, k5 xs q⟩
def iEnumA (K : PySem.W.Frag) (ta : TA) : TI := fun σ H R => ta σ H fun vs H1 => ∃ a xs, vs = [.ref a] ∧ ((SqL K H1 a xs ∧ R (IteL K a) H1) ∨ (L2.SqT K H1 a xs ∧ R (IteT K a) H1))
theorem pi_enumA {X : Cx} {e : Expr} {ta : TA} {p pos tpos : Pos} {elts : List Expr} {kk : Nat} (hg : Gl X "enumerate") (hm : X.mg "enumerate" = none) (ha : PA X [e] ta) (hs : starEach [e] X.env = [(false, eval e X.env)] := by rfl) :
    PI X (.Tuple elts kk tpos) (.Call (.Name "enumerate" p) [e] [] pos) (iEnumA X.K ta) := by
  refine ⟨fun pins s σ H R I h => ?_⟩
  refine Call_ (ld_blt I hg hm boot_enumerate (PyProof.Rows.callWith_type1 (thn (ha.run pos pins s σ H _ I h) fun us s1 ⟨vs, H1, I1, r1, q1⟩ => ?_) hs rfl))
  obtain ⟨a, xs, ex, q1⟩ := q1
  subst ex
  cases r1 with
  | cons r rr =>
    cases rr
    cases r
    have fresh : ∀ b, b ∈ [s1.heap.objs.size + 1, s1.heap.objs.size] → FpOk X pins H1 b := fun b hb => by
      have hle : s1.heap.objs.size ≤ b := by
        rcases (show b = s1.heap.objs.size + 1 ∨ b = s1.heap.objs.size by simpa using hb) with z | z
        · rw [z]; exact Nat.le_add_right _ _
        · rw [z]; exact Nat.le_refl _
      exact I1.fpOk hle (I1.hok.fresh hle)
    rcases q1 with ⟨hq, q⟩ | ⟨hq, q⟩
    · obtain ⟨its, rv, p', hz⟩ := I1.list hq
      refine call_enumerate_list p'.isList fun h' he hit hsz hk => wpAny_pyIter_enum he ?_
      exact ⟨s1.heap.objs.size + 1, [s1.heap.objs.size + 1, s1.heap.objs.size], _, _, H1, rfl, I1.kept (t' := s1.toks) hk, turn_enumL a (s1.heap.objs.size + 1) s1.heap.objs.size, ⟨⟨.none, he⟩, hit, Nat.succ_ne_self _⟩, fresh, q⟩
    · obtain ⟨its, rv, p', hz⟩ := I1.tuple hq
      have la : a < s1.heap.objs.size := by obtain ⟨o, ho, _⟩ := id p'; exact Heap.lt_size ho
      refine enum_call (begins_tuple a its.toArray) p' fun h' he hit hk => wpAny_pyIter_enum he ?_
      exact ⟨s1.heap.objs.size + 1, [s1.heap.objs.size + 1, s1.heap.objs.size], _, _, H1, rfl, I1.kept (t' := s1.toks) hk, turn_enumT a (s1.heap.objs.size + 1) s1.heap.objs.size,
        ⟨⟨.none, he⟩, ⟨_, hit, rfl, rfl⟩, Nat.succ_ne_self _, Nat.ne_of_lt la, Nat.ne_of_gt (Nat.lt_succ_of_lt la)⟩, fresh, q⟩
section
variable {X : Cx} {Wc : WX} {e : Expr} {fa : FE} {p pos : Pos}
def enumA (x : W) (S : List Ob) : Res (List W) := match x with
  | .d (.list xs) => if xs.length ≤ 16777216 then .ok (enumD 0 xs) S else .bad
  | .d (.tuple xs) => if xs.length ≤ 16777216 then .ok (enumD 0 xs) S else .bad
  | _ => .bad
def fEnumA (fa : FE) : FA := fun ρ S => (fa ρ S).bind enumA
theorem enum_yq {K : PySem.W.Frag} {Fr : Hp} {μ : List Addr} {xs : List PyData} {vs : List V} (hx : DpAll K Fr vs xs) {i : Nat} {H : Hp} {v : V} {H' : Hp} (y : YPair (fun i => some (.int (i : Nat))) (fun i => vs[i]?) i H v H') : Yq K Fr μ (enumD 0 xs) i H v H' := by
  obtain ⟨T, ob, x, z, rfl, hT, hob, rfl, e1, e2⟩ := y
  cases e1
  obtain ⟨d, k1, k2⟩ := dps_get hx e2
  have := enumD_get i 0 xs d k1
  rw [Nat.zero_add] at this
  exact ⟨_, this, .inr ⟨T, ob, _, _, rfl, hT, hob, rfl, rfl, .cons (Dp.int _) (.cons k2 .nil)⟩⟩
theorem i_enumA {elts : List Expr} {kk : Nat} {tpos : Pos} (hg : Gl X "enumerate") (hm : X.mg "enumerate" = none) (ha : PE X e (LE X Wc fa)) (hs1 : starEach [e] X.env = (false, eval e X.env) :: starEach [] X.env := by rfl) (hs : starEach [e] X.env = [(false, eval e X.env)] := by rfl) :
    PI X (.Tuple elts kk tpos) (.Call (.Name "enumerate" p) [e] [] pos) (LI X Wc (fEnumA fa)) := PI.imp (pi_enumA hg hm (pa_cons ha pa_nil hs1) hs) fun σ H Q h => by
  obtain ⟨F, Hd, m, ρ, S, r, c⟩ := h
  refine stepI r c fun F1 m1 x v S1 H1 l1 p1 r1 e1 c1 => ?_
  unfold enumA at c1
  split at c1
  · rename_i xs
    split at c1
    · rename_i hl
      cases e1 with
      | @lst a vs _ h1 h2 =>
        have hw := walk_enumL (K := X.K) (a := a) (xs := vs)
        rw [show vs.length = (enumD 0 xs).length by rw [enumD_len, DpAll.len h2]] at hw
        exact ⟨a, vs, rfl, .inl ⟨Le.sqL r1.b.fr h1, c1 F1 Hd m1 H1 _ Le.refl Le.refl (List.prefix_refl m1) r1 (Walk.mono hw (fun H h => Le.sqL h.1 h1) fun i H v H' hi _ y => enum_yq h2 y) (by rw [enumD_len, sizeLine_eq]; exact hl)⟩⟩
    · exact c1.elim
  · rename_i xs
    split at c1
    · rename_i hl
      cases e1 with
      | @tup a vs _ h1 h2 =>
        have hw := walk_enumT (K := X.K) (a := a) (xs := vs)
        rw [show vs.length = (enumD 0 xs).length by rw [enumD_len, DpAll.len h2]] at hw
        exact ⟨a, vs, rfl, .inr ⟨Le.sqT r1.b.fr h1, c1 F1 Hd m1 H1 _ Le.refl Le.refl (List.prefix_refl m1) r1 (Walk.mono hw (fun H h => Le.sqT h.1 h1) fun i H v H' hi _ y => enum_yq h2 y) (by rw [enumD_len, sizeLine_eq]; exact hl)⟩⟩
    · exact c1.elim
  · exact c1.elim
@[simp] theorem e_EnumA {ρ : List Sl} {S : List Ob} : fEnumA fa ρ S = (fa ρ S).bind enumA := rfl
@[simp] theorem e_enumT {S : List Ob} (xs : List PyData) : enumA (.d (.tuple xs)) S = if xs.length ≤ 16777216 then .ok (enumD 0 xs) S else .bad := rfl
@[simp] theorem e_enumL {S : List Ob} (xs : List PyData) : enumA (.d (.list xs)) S = if xs.length ≤ 16777216 then .ok (enumD 0 xs) S else .bad := rfl
end
end L2.Q
/-! Layer Q, part R: a, b = e, f and a, b, c = e, f, g by way of a tuple (some name is a cell). -/
namespace L2.Q
open PySem PySem.Spec PyProof.Rows
section
variable {X : Cx} {Wc : WX} {a b c3 : Expr} {pos : Pos} {f1 f2 f3 : FC}
/-- where the continuation goes on at a heap with one more object -/
theorem more_nx {D : Ends} {Fr Hd : Hp} {μ : List Addr} {ρ : List Sl} {S : List Ob} {σ : St} {H : Hp} {p : Addr} {o : HO} (r : R X.K Fr Hd μ ρ S σ H) (hp : H p = none) (c : contS X.K X.mg Wc Fr Hd μ D (.nx ρ S)) : D.nx σ (upd H p o) :=
  c Fr μ σ _ Le.refl (List.prefix_refl μ) (r.upd (r.new hp))
theorem parT_imp {i j : Nat} {D : Ends} {σ : St} {H : Hp} (h : LS X Wc (fPar i j f1 f2) D σ H) : tAsg (tTup (tCons (LC X Wc f1) (tCons (LC X Wc f2) tNil))) (gTup X.K 2 (gCons (gName i) (gCons (gName j) gNil))) D σ H := by
  obtain ⟨F, Hd, m, ρ, S, r, c⟩ := h
  show LC X Wc f1 σ H _
  refine stepS r c fun F1 m1 k1 v1 S1 H1 l1 p1 r1 e1 c1 => ?_
  cases k1 with
  | un => exact e1.elim
  | w x =>
    refine stepS r1 c1 fun F2 m2 k2 v2 S2 H2 l2 p2 r2 e2 c2 => ?_
    refine ⟨by show 2 ≤ sizeLine; decide, fun p hp => ⟨p, [v1, v2], rfl, .inl (.inl upd_same), rfl, v1, [v2], rfl, v2, [], rfl, rfl, ?_⟩⟩
    have r3 := r2.setW (i := i) (RepW.mono l2 p2 e1)
    have e3 : repC X.K F2 Hd m2 (ρ.set i (.w x)) (σ.set i (some v1)) H2 k2 v2 := by
      cases k2 with
      | un => exact e2
      | w y => exact e2
      | own o => obtain ⟨q, ho, h0, h1, h2, h3⟩ := e2; exact ⟨q, ho, h0, h1, h2, free_setW h3⟩
    exact more_nx (r3.setC e3) hp c2
  | own o =>
    obtain ⟨q, ho, rfl, h1, h2, h3⟩ := e1
    refine stepSH r1 h1 h3 c1 fun F2 m2 k2 v2 S2 H2 l2 p2 r2 hq fq e2 c2 => ?_
    refine ⟨by show 2 ≤ sizeLine; decide, fun p hp => ⟨p, [.ref q, v2], rfl, .inl (.inl upd_same), rfl, .ref q, [v2], rfl, v2, [], rfl, rfl, ?_⟩⟩
    have r3 := r2.setOwn (i := i) hq fq (h2.mono l2 p2)
    have e3 : repC X.K F2 Hd m2 (ρ.set i (.own o)) (σ.set i (some (.ref q))) H2 k2 v2 := by
      cases k2 with
      | un => exact e2
      | w y => exact e2
      | own o2 => obtain ⟨q2, ho2, h0, h1, h2, h3⟩ := e2; exact ⟨q2, ho2, h0, h1, h2, free_set h3 fq.hd⟩
    exact more_nx (r3.setC e3) hp c2
theorem s_parT {i j : Nat} {x y : Str} {px py pt : Pos} {kt k2 pt2} (hc : X.calm = true) (hN : X.N.Nodup) (hi : X.N[i]? = some x) (hj : X.N[j]? = some y) (hx : Loc X.env.scope x) (hy : Loc X.env.scope y) (ha : PE X a (LC X Wc f1)) (hb : PE X b (LC X Wc f2))
    (hfx : X.fn x = true ∨ X.env.scope.names.lookup x = some .local := by first | exact .inl rfl | exact .inr rfl | assumption) (hfy : X.fn y = true ∨ X.env.scope.names.lookup y = some .local := by first | exact .inl rfl | exact .inr rfl | assumption)
    (hw : swappedStores [.Tuple [.Name x px, .Name y py] kt pt] (.Tuple [a, b] k2 pt2) X.env = pure none := by rfl)
    (hs : swapsWithSole [.Tuple [.Name x px, .Name y py] kt pt] (.Tuple [a, b] k2 pt2) pos.line X.env = pure false := by rfl)
    (hs1 : starEach [a, b] X.env = (false, eval a X.env) :: starEach [b] X.env := by rfl) (hs2 : starEach [b] X.env = (false, eval b X.env) :: starEach [] X.env := by rfl)
    (hn : (assignEach [.Name x px, .Name y py] X.env).length = 2 := by rfl) (hst : (assignEach [.Name x px, .Name y py] X.env).findIdx? (·.1) = none := by rfl)
    (h1 : (assignEach [.Tuple [.Name x px, .Name y py] kt pt] X.env).map (·.2) = [assign (.Tuple [.Name x px, .Name y py] kt pt) X.env] := by rfl) :
    PS X (.Assign [.Tuple [.Name x px, .Name y py] kt pt] (.Tuple [a, b] k2 pt2) pos) (LS X Wc (fPar i j f1 f2)) :=
  PS.imp (ps_asg (pe_tup (pa_cons ha (pa_cons hb pa_nil hs2) hs1)) (pg_tup hc (pgs_cons (pg_name hN hi hx hfx) (pgs_cons (pg_name hN hj hy hfy) pgs_nil)) hn hst) hs hw h1) fun _ _ _ h => parT_imp h
end
/-! ### sorted(set(xs)) of ints -/
/-- a new set -/
abbrev setOb (w : World) : Obj := { cls := .type "set", dict := none, data := .set #[] 0 (.fresh 0 0 (!w.params.followText "set-order")) }
section
variable {P : Program} {w : World} {A : Around} {E : Value → Shared → Prop} {s : Shared}
/-- set(l), l a list of ints -/
theorem set_of_ints {l : Addr} {items : Array Value} (ns : List Int) {Q : Value → Shared → Prop} (hh : A.handled = none) (hl : s.heap.IsList l items) (hit : IntsAre items.toList ns) (hb : ns.length + 1 < scanBound)
    (h : ∀ (h' : Heap) (tk c : Nat), SetR w h' s.heap.objs.size (fun j => decide (j ∈ ns)) c → c ≤ ns.length → (∀ b o, s.heap.get? b = some o → h'.get? b = some o) → Q (.ref s.heap.objs.size) { s with heap := h', toks := tk }) : wpAny (model P w) A (call (.type "set") [.ref l]) Q E s := by
  have isz : items.size = ns.length := by have q := IntsAre.length hit; rw [Array.length_toList] at q; exact q
  obtain ⟨c, tl, mro⟩ := F.called_set.mro
  have made := F.called_set.made
  have sub := F.called_set.sub
  refine wpAny_call (codeAny_of_tree ?_); show wpAny _ _ (callAny (.type "set") _) _ _ _
  refine wpAny_pure ⟨Code.quiet_builtin _ (by decide +kernel), codeAny_builtin F.entry_type_call ?_⟩; rw [Around.under_plain (weight_type_call_type "set" [.ref l] []) rfl]
  have c1 := F.called_set.notType
  have c2 := F.called_set.canCreate
  have c3 := F.typeCall_set_1 (.ref l)
  repeat (any_goals (first | assumption | wp_step))
  refine codeAny_mono (code_set_led1 (.ref l) (E := E) (Q₁ := fun obj s1 => obj = .ref s.heap.objs.size ∧ s1 = { s with heap := s.heap.push (setOb w) }) ⟨rfl, rfl⟩) fun r s1 hr => ?_
  cases r with
  | error e => exact hr
  | ok fl =>
    cases fl with
    | ret obj =>
      obtain ⟨rfl, rfl⟩ := hr
      have at0 : (s.heap.push (setOb w)).get? s.heap.objs.size = some (setOb w) := Heap.get?_push_size _ rfl
      have ty : Shared.TypeIs { s with heap := s.heap.push (setOb w) } (.ref s.heap.objs.size) "set" := ⟨_, at0, rfl⟩
      have i1 := F.called_set.init.lookup
      have i2 := F.called_set.init.bind (.ref s.heap.objs.size)
      repeat (any_goals (first | assumption | wp_step))
      refine codeAny_mono (codeAny_call_builtin (R := wants (fun r s2 => r = .none ∧ ∃ h' tk c, s2 = { s with heap := h', toks := tk } ∧ SetR w h' s.heap.objs.size (fun j => decide (j ∈ ns)) c ∧ c ≤ ns.length ∧ (∀ b o, s.heap.get? b = some o → h'.get? b = some o)) E) F.called_set.init.plain F.entry_set_init (check_set_init_1 ty ?_)) fun r2 s2 hr2 => ?_
      · obtain ⟨ol, gl, cl, nl, dl⟩ := hl
        obtain ⟨oc, od, oo, os⟩ := ol
        simp only at cl dl
        subst cl dl
        have gl' : (s.heap.push (setOb w)).get? l = some { cls := .type "list", dict := od, data := .seq items nl, slots := os } := Heap.get?_push_of_some _ gl
        have b1 := F.sub_list_set
        have b2 := F.sub_list_frozenset
        have b3 : (Value.type "list" == Value.type "dict") = false := by decide
        have is1 : (s.heap.push (setOb w)).IsList l items := ⟨_, gl', rfl, nl, rfl⟩
        unfold Builtin.«set.__init__» noKeywords Builtin.Frozenset.updateFrom
        generalize hPI : pyIter = PI
        wp_walk
        subst hPI
        refine wpAny_pyIter_list is1 (wpAny_bind (wpAny_runValue ?_))
        have lt : l < s.heap.objs.size := Heap.lt_size gl
        have hh3 : A.in1.in1.in1.handled = none := by simp [hh]
        have nI : l ≠ (s.heap.push (setOb w)).objs.size := by rw [Heap.size_push]; exact Nat.ne_of_lt (Nat.lt_succ_of_lt lt)
        have nS : s.heap.objs.size ∉ [(s.heap.push (setOb w)).objs.size, l] := by
          rw [Heap.size_push]
          simp only [List.mem_cons, List.mem_singleton, List.not_mem_nil, or_false, not_or]
          exact ⟨Nat.ne_of_lt (Nat.lt_succ_self _), Nat.ne_of_gt lt⟩
        have val : ∀ (i : Nat) (v : Value), items[i]? = some v → ∃ k t, ns[i]? = some k ∧ v = .int k t := fun i v hv => by
          have hi : i < ns.length := by rw [← isz]; exact (Array.getElem?_eq_some_iff.mp hv).1
          obtain ⟨t, e⟩ := PyProof.Rows.IntsAre.int_at hit i v (by rw [Array.getElem?_toList]; exact hv)
          refine ⟨ns[i], t, List.getElem?_eq_getElem hi, ?_⟩
          rw [e, List.getD_eq_getElem?_getD, List.getElem?_eq_getElem hi]
          rfl
        refine set_update_ints ((Walks.list hh3 _ l nI items).toS) s.heap.objs.size nS ns isz hb val (items.size - 0) 0 _ (by omega) (Nat.zero_le _) ⟨⟨_, Heap.get?_push_size _ rfl, rfl, rfl⟩, (is1.push _)⟩ ?z0 ?z1
        case z0 => exact ⟨0, Nat.le_refl 0, setR_new_at (Heap.get?_push_of_some _ at0)⟩
        case z1 =>
          intro s' c' hm hc' hS'
          obtain ⟨h', g2, d', tk', os'⟩ := s'
          have eg : g2 = s.gens := hm.gens
          have ed : d' = s.drawn := hm.drawn
          have eo : os' = s.os := hm.os
          subst eg ed eo
          show wpAny _ _ _ _ _ _
          refine wpAny_pure (show wpAny _ _ (ret Value.none) _ _ _ from ?_)
          rw [isz] at hc'
          refine wpAny_pure ⟨rfl, h', tk', c', rfl, hS', hc', fun b o e => ?_⟩
          have lb : b < s.heap.objs.size := Heap.lt_size e
          have nb : b ≠ (s.heap.push (setOb w)).objs.size := by rw [Heap.size_push]; exact Nat.ne_of_lt (Nat.lt_succ_of_lt lb)
          exact hm.heap b o (by simp only [List.mem_cons, List.mem_singleton, List.not_mem_nil, or_false, not_or]; exact ⟨Nat.ne_of_lt lb, nb⟩) (Heap.get?_push_of_some _ (Heap.get?_push_of_some _ e))
      · cases r2 with
        | error e => exact hr2
        | ok f2 =>
          cases f2 with
          | ret r =>
            obtain ⟨rfl, h', tk, c', rfl, hS', hc', hk'⟩ := hr2
            repeat (any_goals (first | assumption | wp_step))
            exact h _ _ _ hS' hc' hk'
          | _ => exact hr2.elim
    | _ => exact hr.elim
end
/-- the different ones of ns, rising -/
def insU (k : Int) : List Int → List Int
  | [] => [k]
  | x :: r => if k < x then k :: x :: r else if k = x then x :: r else x :: insU k r
def sset : List Int → List Int
  | [] => []
  | k :: r => insU k (sset r)
theorem mem_insU (k j : Int) : ∀ l : List Int, j ∈ insU k l ↔ j = k ∨ j ∈ l
  | [] => by simp [insU]
  | x :: r => by
    unfold insU
    split
    · simp
    · split
      · rename_i e; subst e; simp
      · rw [List.mem_cons, mem_insU k j r, List.mem_cons]
        constructor
        · rintro (h | h | h)
          · exact .inr (.inl h)
          · exact .inl h
          · exact .inr (.inr h)
        · rintro (h | h | h)
          · exact .inr (.inl h)
          · exact .inl h
          · exact .inr (.inr h)
theorem insU_lt (k : Int) : ∀ {l : List Int}, l.Pairwise (· < ·) → (insU k l).Pairwise (· < ·)
  | [], _ => by simp [insU]
  | x :: r, h => by
    have h' := List.pairwise_cons.mp h
    unfold insU
    split
    · rename_i q
      refine List.pairwise_cons.mpr ⟨fun y hy => ?_, h⟩
      rcases List.mem_cons.mp hy with rfl | hy
      · exact q
      · have := h'.1 y hy; omega
    · split
      · exact h
      · refine List.pairwise_cons.mpr ⟨fun y hy => ?_, insU_lt k h'.2⟩
        rcases (mem_insU k y r).mp hy with rfl | hy
        · omega
        · exact h'.1 y hy
theorem mem_sset (j : Int) : ∀ l : List Int, j ∈ sset l ↔ j ∈ l
  | [] => by simp [sset]
  | k :: r => by unfold sset; rw [mem_insU, mem_sset j r, List.mem_cons]
theorem sset_lt : ∀ l : List Int, (sset l).Pairwise (· < ·)
  | [] => List.Pairwise.nil
  | k :: r => insU_lt k (sset_lt r)
theorem rise_one : ∀ {xs ys : List Int}, xs.Pairwise (· < ·) → ys.Pairwise (· < ·) → (∀ k, k ∈ xs ↔ k ∈ ys) → xs = ys
  | [], [], _, _, _ => rfl
  | [], y :: s, _, _, h => absurd ((h y).mpr (List.mem_cons_self ..)) (by simp)
  | x :: r, [], _, _, h => absurd ((h x).mp (List.mem_cons_self ..)) (by simp)
  | x :: r, y :: s, hx, hy, h => by
    have hx' := List.pairwise_cons.mp hx
    have hy' := List.pairwise_cons.mp hy
    have e : x = y := by
      rcases List.mem_cons.mp ((h x).mp (List.mem_cons_self ..)) with e | m
      · exact e
      · rcases List.mem_cons.mp ((h y).mpr (List.mem_cons_self ..)) with e | m2
        · exact e.symm
        · have := hy'.1 x m
          have := hx'.1 y m2
          omega
    subst e
    rw [rise_one hx'.2 hy'.2 fun k => ?_]
    constructor
    · intro hk
      rcases List.mem_cons.mp ((h k).mp (List.mem_cons_of_mem _ hk)) with e | m
      · have := hx'.1 k hk; omega
      · exact m
    · intro hk
      rcases List.mem_cons.mp ((h k).mpr (List.mem_cons_of_mem _ hk)) with e | m
      · have := hy'.1 k hk; omega
      · exact m
section
variable {X : Cx} {Wc : WX} {e : Expr} {fl1 : FA} {p p2 pos pos2 : Pos}
def rSetOfI (K : PySem.W.Frag) (w : World) : List V → Hp → VK → Prop := fun vs H Q => ∃ (a : Addr) (ns : List Int), vs = [V.ref a] ∧ SqL K H a (ns.map V.int) ∧ ns.length ≤ 1000 ∧ ∀ (c : Nat) (q : Addr), c ≤ ns.length → H q = none → Q (.ref q) (upd H q (SetO w q (fun j => decide (j ∈ ns)) c))
theorem cr_setOfI (hc : X.calm = true) : CallR X (.type "set") (rSetOfI X.K X.w) := by
  intro pins s σ H vs us Q I r h
  obtain ⟨a, ns, rfl, hs, hl, q⟩ := h
  obtain ⟨its, rv, li, hz⟩ := I.list hs
  rw [Vals.ref1 r]
  refine set_of_ints ns (I.ok.hd hc) li.isList (by simpa using intsAre_of rv) (by unfold scanBound; omega) fun h' tk c hS hcl hk => ?_
  exact ⟨.ref _, upd H s.heap.objs.size (SetO X.w s.heap.objs.size (fun j => decide (j ∈ ns)) c), I.laid (t' := tk) hk (Nat.le_refl _) (setO_new hS), rfl, q c _ hcl (I.hok.fresh (Nat.le_refl _))⟩
def srtSet (xs : List W) (S : List Ob) : Res W := match intsW xs with
  | some ns => if ns.length < 64 then .ok (.d (.list ((sset ns).map .int))) S else .bad
  | none => .bad
def fSSet (f : FA) : FE := fun ρ S => (f ρ S).bind srtSet
theorem dps_ints {K : PySem.W.Frag} {F : Hp} : ∀ ns : List Int, DpAll K F (ns.map V.int) (ns.map .int)
  | [] => .nil
  | k :: r => .cons (Dp.int _) (dps_ints r)
theorem q_sset (hc : X.calm = true) (hg : Gl X "sorted") (hm : X.mg "sorted" = none) (hg2 : Gl X "set") (hm2 : X.mg "set" = none) (h : PE X e (LL X Wc fl1))
    (hs : starEach [e] X.env = (false, eval e X.env) :: starEach [] X.env := by rfl) (hpl : (backTo pos2 (starEach [] X.env)).any (·.1) = false := by rfl)
    (hs2 : starEach [.Call (.Name "set" p2) [e] [] pos2] X.env = (false, eval (.Call (.Name "set" p2) [e] [] pos2) X.env) :: starEach [] X.env := by rfl) (hpl2 : (backTo pos (starEach [] X.env)).any (·.1) = false := by rfl) :
    PE X (.Call (.Name "sorted" p) [.Call (.Name "set" p2) [e] [] pos2] [] pos) (LE X Wc (fSSet fl1)) :=
  PE.imp (pe_callB (cr_sortedSet hc) hg hm (by decide +kernel) (pa_cons (pe_callTy (cr_setOfI hc) hg2 hm2 (by decide +kernel) (pa_cons h pa_nil hs) (he := hs) (hpl := hpl)) pa_nil hs2) (he := hs2) (hpl := hpl2)) fun σ H Q h => by
  obtain ⟨F, D, m, ρ, S, r0, c⟩ := h
  refine step r0 c fun F1 m1 xs v S1 H1 l1 p1 r1 e1 c1 => ?_
  obtain ⟨a, vs, rfl, e2, e3⟩ := e1
  unfold srtSet at c1
  split at c1
  · rename_i ns ens
    split at c1
    · rename_i hl
      have ev := intsW_rep ens e3
      subst ev
      refine ⟨a, ns, rfl, e2, by omega, fun c q hcl hq => ?_⟩
      refine ⟨q, _, c, rfl, upd_same, by omega, fun ys q2 hys hmem hlen hq2 => ?_⟩
      have ey : ys = sset ns := rise_one hys (sset_lt ns) fun k => by rw [hmem k, mem_sset, decide_eq_true_eq]
      rw [ey]
      exact new_lstV (r1.upd (r1.new hq)) (dps_ints _) hq2 c1
    · exact c1.elim
  · exact c1.elim
end
section
variable {ρ : List Sl} {S : List Ob} {fl1 : FA}
@[simp] theorem e_SSet : fSSet fl1 ρ S = (fl1 ρ S).bind srtSet := rfl
theorem e_srtSet (ns : List Int) (h : ns.length < 64) : srtSet (ns.map fun i => .d (.int i)) S = .ok (.d (.list ((sset ns).map .int))) S := by
  unfold srtSet
  rw [intsW_map]
  dsimp only
  rw [if_pos h]
end
/-! ### a list in the store, as it stands -/
def seqS (x : W) (S : List Ob) : Res (List W) := match x with
  | .ref n => (match S[n]? with
    | some (.lst xs) => .ok xs S
    | _ => .bad)
  | x => seqOf x S
def fItS (fa : FE) : FA := fun ρ S => (fa ρ S).bind seqS
section
variable {X : Cx} {Wc : WX} {e : Expr} {fa : FE}
theorem qs_s (h : PE X e (LE X Wc fa)) : PE X e (LQ X Wc (fItS fa)) := PE.imp h fun σ H Q h => by
  obtain ⟨F, D, m, ρ, S, r0, c⟩ := h
  refine step r0 c fun F1 m1 x v S1 H1 l1 p1 r1 e1 c1 => ?_
  cases x with
  | ref n =>
    obtain ⟨a, ea, rfl⟩ := e1
    unfold seqS at c1
    dsimp only at c1
    split at c1
    · rename_i xs es
      obtain ⟨ho, h1, ⟨vs, rfl, q⟩, _⟩ := r1.b.st n a _ ea es
      exact c1 F1 m1 _ H1 Le.refl (List.prefix_refl m1) r1 ⟨a, vs, rfl, .inl (.inl (.inl h1)), q⟩
    · exact c1.elim
  | d x =>
    cases x with
    | tuple xs =>
      cases e1 with
      | @tup a vs _ hs ha => exact c1 F1 m1 _ H1 Le.refl (List.prefix_refl m1) r1 ⟨a, vs, rfl, .inr (Le.sqT r1.b.fr hs), rep_dats ha⟩
    | list xs =>
      cases e1 with
      | @lst a vs _ hs ha => exact c1 F1 m1 _ H1 Le.refl (List.prefix_refl m1) r1 ⟨a, vs, rfl, .inl (Le.sqL r1.b.fr hs), rep_dats ha⟩
    | none => exact c1.elim
    | bool b => exact c1.elim
    | int i => exact c1.elim
    | str z => exact c1.elim
    | dict z => exact c1.elim
end
section
variable {ρ : List Sl} {S : List Ob} {fa : FE}
@[simp] theorem e_ItS : fItS fa ρ S = (fa ρ S).bind seqS := rfl
@[simp] theorem e_seqS (n : Nat) : seqS (.ref n) S = (match S[n]? with | some (.lst xs) => .ok xs S | _ => .bad) := rfl
end
end L2.Q
/-! Layer Q, part S: x in a tuple or list of flat items; own[i] = v; sorted of at most one item. -/
namespace L2.Q
open PySem PySem.Spec PyProof.Rows
def flatD : PyData → Bool
  | .none => true
  | .bool _ => true
  | .int _ => true
  | .str _ => true
  | _ => false
def flV : PyData → V
  | .bool b => .bl b
  | .int i => .int i
  | .str s => .str s
  | _ => .non
def eqF (x y : PyData) : Bool := eqV (flV x) (flV y)
theorem flat_rep {K : PySem.W.Frag} {Fr : Hp} {x : PyData} {v : V} (r : Dp K Fr v x) (h : flatD x = true) : v = flV x ∧ flatV v = true := by
  cases x with
  | none => cases r; exact ⟨rfl, rfl⟩
  | bool b => cases r; exact ⟨rfl, rfl⟩
  | int i => cases r; exact ⟨rfl, rfl⟩
  | str s => cases r; exact ⟨rfl, rfl⟩
  | list _ => cases h
  | tuple _ => cases h
  | dict _ => cases h
theorem flats_rep {K : PySem.W.Frag} {Fr : Hp} : ∀ {ds : List PyData} {vs : List V}, DpAll K Fr vs ds → ds.all flatD = true → vs = ds.map flV ∧ vs.all flatV = true
  | [], _, .nil, _ => ⟨rfl, rfl⟩
  | d :: r, _, .cons h t, e => by
    rw [List.all_cons, Bool.and_eq_true] at e
    obtain ⟨e1, e2⟩ := flat_rep h e.1
    obtain ⟨e3, e4⟩ := flats_rep t e.2
    subst e1 e3
    exact ⟨rfl, by rw [List.all_cons, e2, e4]; rfl⟩
def inD (x : PyData) (ds : List PyData) : Bool := ds.any fun y => eqF y x
def itemsD : PyData → Option (List PyData)
  | .tuple ds => some ds
  | .list ds => some ds
  | _ => none
def oIn : W → W → List Ob → Res W := fun x y S => match x, y with
  | .d x, .d y => (match itemsD y with
    | some ds => if flatD x && ds.all flatD then .ok (.d (.bool (inD x ds))) S else .bad
    | none => .bad)
  | _, _ => .bad
section
variable {X : Cx} {Wc : WX} {a b e : Expr} {fa fb : FE} {pos p : Pos} {fl1 : FA}
theorem f_in : OpF X Wc (rIn X.K false) oIn := by
  intro Fr Hd μ ρ S σ H x y v u Q r ex ey c
  unfold oIn at c
  split at c
  · rename_i x y
    split at c
    · rename_i ds ei
      split at c
      · rename_i hh
        rw [Bool.and_eq_true] at hh
        obtain ⟨e1, e2⟩ := flat_rep ex hh.1
        have go : ∀ {p : Addr} {vs : List V}, (SqL X.K H p vs ∨ L2.SqT X.K H p vs) → DpAll X.K Fr vs ds → u = .ref p → rIn X.K false v u H Q := fun {p vs} hs hd eu => by
          obtain ⟨e3, e4⟩ := flats_rep hd hh.2
          refine ⟨p, vs, eu, hs, e2, e4, ?_⟩
          have : inV v vs = inD x ds := by
            unfold inV inD
            rw [e3, e1, List.any_map]
            rfl
          rw [show (if false = true then !inV v vs else inV v vs) = inD x ds from this]
          exact rt r c (Dp.bl _)
        cases y with
        | tuple ys => cases ei; cases ey with | @tup a vs _ h1 h2 => exact go (.inr (Le.sqT r.b.fr h1)) h2 rfl
        | list ys => cases ei; cases ey with | @lst a vs _ h1 h2 => exact go (.inl (Le.sqL r.b.fr h1)) h2 rfl
        | none => cases ei
        | bool _ => cases ei
        | int _ => cases ei
        | str _ => cases ei
        | dict _ => cases ei
      · exact c.elim
    · exact c.elim
  · exact c.elim
theorem q_in (ha : PE X a (LE X Wc fa)) (hb : PE X b (LE X Wc fb)) (hm : behindInMarks .In b = false := by rfl) : PE X (.Compare a [.In] [b] pos) (LE X Wc (fBin oIn fa fb)) := q_cmp op_in_seq f_in ha hb hm
theorem t_in (ha : PE X a (LE X Wc fa)) (hb : PE X b (LE X Wc fb)) (hm : behindInMarks .In b = false := by rfl) : PT X (.Compare a [.In] [b] pos) (LB X Wc (fT (fBin oIn fa fb))) := q_tc op_in_seq f_in ha hb hm
/-! own[i] = v -/
def fPutO (i : Nat) (fv fy : FE) : FT := fun ρ S => fl (fv ρ S) ρ fun v S1 => match ρ[i]? with
  | some (.own (.lst xs)) => fl (fy ρ S1) ρ fun y S2 => (match y with
    | .d (.int k) => (match ixN xs.length k with
      | some j => .nx (ρ.set i (.own (.lst (xs.set j v)))) S2
      | none => .bad)
    | _ => .bad)
  | _ => .bad
theorem s_putO {i : Nat} {x : Str} {p' : Pos} {k v : Expr} {fv fy : FE} {tpos : Pos} (hN : X.N[i]? = some x) (hvis : Vis X.env.scope x) (hv : PE X v (LE X Wc fv)) (hk : PE X k (LE X Wc fy)) (hd : (x == ("__debug__" : Str)) = false := by decide) (hcd : (x == ("__classdict__" : Str)) = false := by decide)
    (hs : swapsWithSole [.Subscript (.Name x p') k tpos] v pos.line X.env = pure false := by rfl) (hw : swappedStores [.Subscript (.Name x p') k tpos] v X.env = pure none := by rfl)
    (h1 : (assignEach [.Subscript (.Name x p') k tpos] X.env).map (·.2) = [assign (.Subscript (.Name x p') k tpos) X.env] := by rfl) (ha : ∀ v, assign (.Subscript (.Name x p') k tpos) X.env v = (do
      let ov ← holding [v] (eval (.Name x p') X.env)
      let iv ← holding [v, ov] (eval k X.env)
      standAt tpos
      holding [v, ov, iv] (setItem ov iv v)
      release [v, ov, iv] []) := by intro _; rfl) : PS X (.Assign [.Subscript (.Name x p') k tpos] v pos) (LS X Wc (fPutO i fv fy)) :=
  PS.imp (ps_asg hv (pg_sub (pe_var hN hvis hd hcd) hk set_list ha) hs hw h1) fun D σ H h => by
  obtain ⟨F, Hd, m, ρ, S, r, c⟩ := h
  refine stepS r c fun F1 m1 w vv S1 H1 l1 p1 r1 e1 c1 => ?_
  split at c1
  · rename_i xs ex
    obtain ⟨q, vs, eq0, _, _⟩ := own_lst r1 ex
    refine ⟨_, eq0, ?_⟩
    refine stepS r1 c1 fun F2 m2 y vy S2 H2 l2 p2 r2 e2 c2 => ?_
    obtain ⟨q', vs', eq1, hq, rw'⟩ := own_lst r2 ex
    rw [eq0] at eq1
    cases eq1
    split at c2
    · rename_i k
      cases e2
      split at c2
      · rename_i j ej
        refine ⟨q, vs', k, j, rfl, rfl, hq, by rw [← Paired.length rw']; exact ej, ?_⟩
        exact c2 F2 m2 σ _ Le.refl (List.prefix_refl m2) (r2.putOwn ex eq0 ⟨_, rfl, paired_set (RepW.mono l2 p2 e1) j rw'⟩)
      · exact c2.elim
    · exact c2.elim
  · exact c1.elim
/-! sorted of at most one item, or as before -/
def rSort1 (K : PySem.W.Frag) : List V → Hp → VK → Prop := fun vs H Q => ∃ (a : Addr) (xs : List V), vs = [V.ref a] ∧ SqL K H a xs ∧ xs.length ≤ 1 ∧ ∀ p, H p = none → Q (.ref p) (upd H p (.lst xs))
theorem swo_no {α : Type} : SrtO.Swo fun (_ _ : α) => false := ⟨fun _ _ h => (nomatch h), fun _ _ _ _ _ => rfl⟩
theorem cr_sort1 : CallR X (.builtin "sorted") (rSort1 X.K) := by
  intro pins s σ H vs us Q I r h
  obtain ⟨a, xs, rfl, hs, hl, q⟩ := h
  obtain ⟨its, rv, li, hz⟩ := I.list hs
  rw [Vals.ref1 r]
  have el := rv.length
  refine SrtO.sorted_ord (swo_no (α := Value)) li.isList (by omega) (fun h2 => by omega) fun out _ hb => ?_
  have eo : out = its := by
    have hp := hb.perm
    match its, out, hp, el with
    | [], [], _, _ => rfl
    | [], _ :: _, hp, _ => exact absurd hp.length_eq (by simp)
    | [x], out, hp, _ => exact List.perm_singleton.mp hp
    | _ :: _ :: _, _, _, el => simp at el; omega
  subst eo
  obtain ⟨ep, he'⟩ := PyProof.Rows.sortedAll_at s.heap out out.toArray
  exact ⟨.ref _, upd H (s.heap.objs.size + 1) (.lst xs), I.laid (t' := s.toks) (fun _ _ => PyProof.Rows.sortedAll_old) (Nat.le_succ _) ⟨by rw [sizeLine_eq]; omega, out, ep, rv, he'⟩, rfl, q _ (I.hok.fresh (Nat.le_succ _))⟩
theorem callR_or {f : Value} {r1 r2 : List V → Hp → VK → Prop} (h1 : CallR X f r1) (h2 : CallR X f r2) : CallR X f (fun vs H Q => r1 vs H Q ∨ r2 vs H Q) := fun pins s σ H xs us Q I r h => h.elim (fun h => h1 pins s σ H xs us Q I r h) fun h => h2 pins s σ H xs us Q I r h
def srtA (xs : List W) (S : List Ob) : Res W := match dats xs with
  | some ds => if ds.length ≤ 1 then .ok (.d (.list ds)) S else srt xs S
  | none => .bad
def fSrtA (f : FA) : FE := fun ρ S => (f ρ S).bind srtA
theorem q_srtA (hu : X.A.units + 200 < cLine) (hg : Gl X "sorted") (hm : X.mg "sorted" = none) (h : PE X e (LL X Wc fl1)) (hs : starEach [e] X.env = (false, eval e X.env) :: starEach [] X.env := by rfl) (hpl : (backTo pos (starEach [] X.env)).any (·.1) = false := by rfl) : PE X (.Call (.Name "sorted" p) [e] [] pos) (LE X Wc (fSrtA fl1)) :=
  PE.imp (pe_callB (callR_or cr_sort1 (cr_srt hu)) hg hm (by decide +kernel) (pa_cons h pa_nil hs) (he := hs) (hpl := hpl)) fun σ H Q h => by
  obtain ⟨F, D, m, ρ, S, r0, c⟩ := h
  refine step r0 c fun F1 m1 xs v S1 H1 l1 p1 r1 e1 c1 => ?_
  obtain ⟨a, vs, rfl, e2, e3⟩ := e1
  unfold srtA at c1
  cases z : dats xs with
  | none => rw [z] at c1; exact c1.elim
  | some ds =>
    rw [z] at c1
    dsimp only at c1
    have hd := dats_rep z e3
    split at c1
    · rename_i hl
      exact .inl ⟨a, vs, rfl, e2, by rw [DpAll.len hd]; exact hl, fun q hq => new_lstV r1 hd hq c1⟩
    · unfold srt at c1
      rw [z] at c1
      dsimp only at c1
      split at c1
      · rename_i hh
        exact .inr ⟨a, vs, ds, F1, rfl, e2, r1.b.fr, hd, alikes_ok hh.1, sortable_ok hh.2.1, fun d hd => of_decide_eq_true (List.all_eq_true.mp hh.2.2 d hd), fun ys q hys hq => new_lstV r1 hys hq c1⟩
      · exact c1.elim
end
section
variable {ρ : List Sl} {S : List Ob} {fl1 : FA} {fv fy : FE} {i : Nat} {x : PyData} {ds : List PyData}
@[simp] theorem e_SrtA : fSrtA fl1 ρ S = (fl1 ρ S).bind srtA := rfl
@[simp] theorem e_PutO : fPutO i fv fy ρ S = fl (fv ρ S) ρ fun v S1 => (match ρ[i]? with
  | some (.own (.lst xs)) => fl (fy ρ S1) ρ fun y S2 => (match y with
    | .d (.int k) => (match ixN xs.length k with
      | some j => .nx (ρ.set i (.own (.lst (xs.set j v)))) S2
      | none => .bad)
    | _ => .bad)
  | _ => .bad) := rfl
theorem e_inT (h : flatD x = true) (h2 : ds.all flatD = true) : oIn (.d x) (.d (.tuple ds)) S = .ok (.d (.bool (inD x ds))) S := by
  show (if flatD x && ds.all flatD then Res.ok (W.d (.bool (inD x ds))) S else .bad) = _
  rw [h, h2]; rfl
theorem e_inL (h : flatD x = true) (h2 : ds.all flatD = true) : oIn (.d x) (.d (.list ds)) S = .ok (.d (.bool (inD x ds))) S := by
  show (if flatD x && ds.all flatD then Res.ok (W.d (.bool (inD x ds))) S else .bad) = _
  rw [h, h2]; rfl
end
/-! a global that is a tuple of texts -/
def strV : Value → Option Str
  | .str s _ => some s
  | _ => none
def fcStrs (x : Str) (ss : List Str) : FbT := fun K => match K.lookup (He.ga K x) with
  | some o => (decide (o.cls = Value.type "tuple") && o.dict.isNone) && (match o.data with
    | .seq its _ => decide (its.toList.map strV = ss.map some)
    | _ => false)
  | none => false
theorem strs_vals : ∀ {ss : List Str} {us : List Value}, us.map strV = ss.map some → Vals (ss.map V.str) us
  | [], [], _ => .nil
  | [], _ :: _, h => by simp at h
  | _ :: _, [], h => by simp at h
  | s :: r, u :: us, h => by
    rw [List.map_cons, List.map_cons, List.cons.injEq] at h
    refine .cons ?_ (strs_vals h.2)
    have h1 := h.1
    cases u <;> simp [strV] at h1
    subst h1
    exact ⟨_, rfl⟩
theorem dps_strs {K : PySem.W.Frag} {F : Hp} : ∀ ss : List Str, DpAll K F (ss.map V.str) (ss.map .str)
  | [] => .nil
  | k :: r => .cons (Dp.str _) (dps_strs r)
theorem fcStrs_ok {K : PySem.W.Frag} {x : Str} {ss : List Str} (hl : ss.length ≤ 1000) (h : fcStrs x ss K = true) (F : Hp) : Dp K F (.ref (He.ga K x)) (.tuple (ss.map .str)) := by
  unfold fcStrs at h
  split at h
  · rename_i o eo
    rw [Bool.and_eq_true] at h
    obtain ⟨h1, h2⟩ := h
    rw [Bool.and_eq_true] at h1
    split at h2
    · rename_i its n ed
      have e := of_decide_eq_true h2
      have hz : its.size ≤ sizeLine := by
        have := congrArg List.length e
        rw [List.length_map, List.length_map, Array.length_toList] at this
        rw [sizeLine_eq]; omega
      exact Dp.tup (.inr ⟨o, its, n, eo, of_decide_eq_true h1.1, Option.isNone_iff_eq_none.mp h1.2, ed, hz, strs_vals e⟩) (dps_strs ss)
    · cases h2
  · cases h
end L2.Q
/-! Layer Q, part T: a tuple times 1, times 0 or less. -/
namespace L2.Q
open PySem PySem.Spec PyProof.Rows
abbrev tupOb (items : Array Value) (n : Nat) (dd : Option Addr) (sl : Array (Option Value)) : Obj := { cls := .type "tuple", dict := dd, data := .seq items n, slots := sl }
theorem tup_once (l : Addr) (items : Array Value) (n : Nat) (dd : Option Addr) (sl : Array (Option Value)) (u : Tok) :
    Meets (Builtin.«tuple.__mul__» ⟨[.ref l, .int 1 u], []⟩) (fun _ R s => s.heap.get? l = some { cls := .type "tuple", dict := dd, data := .seq items n, slots := sl } ∧ R (.ok (.ret (Value.ref l))) s) :=
  .of_wp fun prog w A R s h => by
    obtain ⟨hp, g, d, tk, os⟩ := s
    obtain ⟨hl, h⟩ := h
    have f1 := AutoSeq1.idx_int
    have c0 : (decide ((1 : Int) < -(2 ^ 63)) || decide ((1 : Int) ≥ 2 ^ 63)) = false := by decide
    have c1 : (items.isEmpty || (1 : Int) == 1) = true := by rw [show ((1 : Int) == 1) = true from rfl, Bool.or_true]
    wp_walk using wpAny_loadPart' hl
    repeat (first
      | (refine wpAny_ite_false (decide_eq_false (by rw [c0]; exact Bool.false_ne_true)) ?_; wp_walk using wpAny_loadPart' hl)
      | (refine wpAny_ite_true (decide_eq_true c1) ?_; wp_walk using wpAny_loadPart' hl))
    exact ⟨_, rfl, h⟩
theorem tup_none (l : Addr) (items : Array Value) (n : Nat) (dd : Option Addr) (sl : Array (Option Value)) (x : Int) (u : Tok) (c0 : (decide (x < -(2 ^ 63)) || decide (x ≥ 2 ^ 63)) = false) (c1 : (items.isEmpty || x == 1) = false) (c2 : (decide (x ≤ 0) || items.isEmpty) = true) :
    Meets (Builtin.«tuple.__mul__» ⟨[.ref l, .int x u], []⟩) (fun _ R s => s.heap.get? l = some { cls := .type "tuple", dict := dd, data := .seq items n, slots := sl } ∧ R (.ok (.ret (Value.ref s.heap.objs.size))) { s with heap := s.heap.push { cls := .type "tuple", data := .seq #[] }, toks := s.toks }) :=
  .of_wp fun prog w A R s h => by
    obtain ⟨hp, g, d, tk, os⟩ := s
    obtain ⟨hl, h⟩ := h
    have f1 := AutoSeq1.idx_int
    wp_walk using wpAny_loadPart' hl
    repeat (first
      | (refine wpAny_ite_false (decide_eq_false (by rw [c0]; exact Bool.false_ne_true)) ?_; wp_walk using wpAny_loadPart' hl)
      | (refine wpAny_ite_false (decide_eq_false (by rw [c1]; exact Bool.false_ne_true)) ?_; wp_walk using wpAny_loadPart' hl)
      | (refine wpAny_ite_true (decide_eq_true c2) ?_; wp_walk using wpAny_loadPart' hl))
    exact ⟨_, rfl, h⟩
def rRepS (K : PySem.W.Frag) : R2 := fun x y H Q => ∃ l k xs, x = .ref l ∧ y = .int k ∧ L2.SqT K H l xs ∧ ((k = 1 ∧ Q (.ref l) H) ∨ (k ≤ 0 ∧ -1000 ≤ k ∧ xs ≠ [] ∧ NT Q H []))
section
variable {X : Cx}
theorem op_repS : OpR X (binaryOp .Mult) (rRepS X.K) := by
  intro pins s σ H x y v u Q I rx ry h
  obtain ⟨l, k, xs, rfl, rfl, hT, h⟩ := h
  cases rx
  obtain ⟨t, rfl⟩ := ry
  obtain ⟨its, r, ⟨⟨cls, dd, data, sl⟩, ho, hc, n, hd⟩, hs⟩ := I.tuple hT
  simp only at hc hd
  subst hc hd
  rcases h with ⟨rfl, q⟩ | ⟨h1, h2, hne, q⟩
  · exact wpAny_binaryOp_repeat_ref (T := "tuple") (U := "int") (by decide) ⟨_, ho, rfl⟩ (fun s' => typeIs_int s' 1 t) noFill_tuple_mul F.fills_int_mul F.slot_int_rmul repeat_tuple F.slot_int_index.lookup
      (call_meets F.slot_int_rmul (typeIs_int s 1 t) F.entry_int_rmul (F.args_int_rmul_2 _ _) (int_rmul_tuple 1 t l its.toArray n dd sl)
        ⟨ho, rfl, ⟨_, ho, rfl⟩, call_meets F.slot_tuple_mul ⟨_, ho, rfl⟩ F.entry_tuple_mul (F.args_tuple_mul_2 _ _) (tup_once l its.toArray n dd sl t) ⟨ho, .ref l, H, I, rfl, q⟩⟩)
  · have hn : its ≠ [] := fun e => hne (by
      have := r.length
      rw [e] at this
      exact List.eq_nil_of_length_eq_zero this)
    have hi : its.toArray.isEmpty = false := by
      cases its with
      | nil => exact absurd rfl hn
      | cons a b => rfl
    have c0 : (decide (k < -(2 ^ 63)) || decide (k ≥ 2 ^ 63)) = false := by rw [decide_eq_false (by omega), decide_eq_false (by omega)]; rfl
    have c1 : (its.toArray.isEmpty || k == 1) = false := by rw [hi, Bool.false_or]; exact beq_eq_false_iff_ne.mpr (by omega)
    have c2 : (decide (k ≤ 0) || its.toArray.isEmpty) = true := by rw [decide_eq_true h1]; rfl
    refine wpAny_binaryOp_repeat_ref (T := "tuple") (U := "int") (by decide) ⟨_, ho, rfl⟩ (fun s' => typeIs_int s' k t) noFill_tuple_mul F.fills_int_mul F.slot_int_rmul repeat_tuple F.slot_int_index.lookup
      (call_meets F.slot_int_rmul (typeIs_int s k t) F.entry_int_rmul (F.args_int_rmul_2 _ _) (int_rmul_tuple k t l its.toArray n dd sl)
        ⟨ho, rfl, ⟨_, ho, rfl⟩, call_meets F.slot_tuple_mul ⟨_, ho, rfl⟩ F.entry_tuple_mul (F.args_tuple_mul_2 _ _) (tup_none l its.toArray n dd sl k t c0 c1 c2) ⟨ho, ?_⟩⟩)
    exact ep_tup (xs := []) I .nil (by rw [sizeLine_eq]; simp) q
end
/-- * of ints, a tuple times any small int -/
def oMulT : W → W → List Ob → Res W := fun x y S => match x, y with
  | .d (.tuple xs), .d (.int k) => if xs ≠ [] ∧ -1000 ≤ k ∧ k ≤ 1000 ∧ xs.length ≤ 1000 then .ok (.d (.tuple (List.replicate k.toNat xs).flatten)) S else .bad
  | x, y => oMul x y S
section
variable {X : Cx} {Wc : WX} {a b : Expr} {fa fb : FE} {pos : Pos}
theorem f_mulT : OpF X Wc (fun x y H Q => rRepS X.K x y H Q ∨ (rRepK X.K x y H Q ∨ rI CMulX (fun i j => .int (i * j)) x y H Q)) oMulT := by
  intro Fr Hd μ ρ S σ H x y v u Q r ex ey c
  unfold oMulT at c
  split at c
  · rename_i xs k
    split at c
    · rename_i hh
      obtain ⟨h0, h1, h2, h3⟩ := hh
      by_cases k2 : 2 ≤ k
      · refine .inr (f_mulA (Wc := Wc) Fr Hd μ ρ S σ H _ _ v u Q r ex ey ?_)
        have e : oMulA (.d (.tuple xs)) (.d (.int k)) S = .ok (.d (.tuple (List.replicate k.toNat xs).flatten)) S := if_pos ⟨h0, k2, h2, h3⟩
        rw [e]
        exact c
      · left
        cases ey
        have ex' := ex
        cases ex with
        | @tup a vs _ g1 g2 =>
          by_cases k1 : k = 1
          · subst k1
            have e : (List.replicate (1 : Int).toNat xs).flatten = xs := by simp
            rw [e] at c
            exact ⟨a, 1, vs, rfl, rfl, Le.sqT r.b.fr g1, .inl ⟨rfl, rt r c ex'⟩⟩
          · have e : (List.replicate k.toNat xs).flatten = [] := by rw [show k.toNat = 0 by omega]; rfl
            rw [e] at c
            exact ⟨a, k, vs, rfl, rfl, Le.sqT r.b.fr g1, .inr ⟨by omega, h1, fun z => h0 (by subst z; cases g2; rfl), new_tup r DpAll.nil c⟩⟩
    · exact c.elim
  · exact .inr (.inr (f_mul (Wc := Wc) Fr Hd μ ρ S σ H _ _ v u Q r ex ey c))
theorem q_mulT (ha : PE X a (LE X Wc fa)) (hb : PE X b (LE X Wc fb)) : PE X (.BinOp a .Mult b pos) (LE X Wc (fBin oMulT fa fb)) := q_op (OpR.or op_repS (OpR.or op_repK op_mulX)) f_mulT ha hb
@[simp] theorem e_mulT {a b : Int} {S : List Ob} : oMulT (.d (.int a)) (.d (.int b)) S = if mulC a b = true then .ok (.d (.int (a * b))) S else .bad := rfl
theorem e_mulTt {xs : List PyData} {k : Int} {S : List Ob} (h : xs ≠ [] ∧ -1000 ≤ k ∧ k ≤ 1000 ∧ xs.length ≤ 1000) : oMulT (.d (.tuple xs)) (.d (.int k)) S = .ok (.d (.tuple (List.replicate k.toNat xs).flatten)) S := if_pos h
end
end L2.Q
/-! Layer Q, part U: list comprehensions of two clauses, the second source a value. -/
namespace L2.Q
open PySem PySem.Spec PyProof.Rows
def lcL2 (own1 : List Nat) (g : FG) (t : FB) (fi1 : FA) (g1 : FG) (t1 : FB) (fe : FE) (ρ : List Sl) : List W → List Ob → Res (List W)
  | [], S => .ok [] S
  | x :: r, S => match g x ρ with
    | none => .bad
    | some ρ1 => match t ρ1 S with
      | .ok c S1 => if c = true then (match fi1 ρ1 S1 with
          | .ok xs S2 => (match lcL g1 t1 fe (unset ρ1 own1) xs S2 with
            | .ok ys S3 => (lcL2 own1 g t fi1 g1 t1 fe ρ r S3).bind fun zs S4 => .ok (ys ++ zs) S4
            | _ => .bad)
          | _ => .bad) else lcL2 own1 g t fi1 g1 t1 fe ρ r S1
      | _ => .bad
def capL (ys : List W) (S : List Ob) : Res Ob := if ys.length ≤ 1000000 then .ok (.lst ys) S else .bad
def fLc2 (fi : FA) (own own1 : List Nat) (g : FG) (t : FB) (fi1 : FA) (g1 : FG) (t1 : FB) (fe : FE) : FO := fun ρ S => (fi ρ S).bind fun xs S1 =>
  if own.any (fun i => isOwn ρ[i]?) = true then .bad else (lcL2 own1 g t fi1 g1 t1 fe (unset ρ own) xs S1).bind capL
/-- a walk by its turns, whatever a turn is -/
theorem it_any {J : It} {n : Nat} {G : Hp → Prop} {Y : Nat → Hp → V → Hp → Prop} (w : Walk J n G Y) {B : (Hp → Prop) → V → Hp → Prop} {Hs : Hp} {Qd : Hp → Prop} (Pv : Nat → Hp → Prop) (h0 : Pv 0 Hs) (hG : ∀ i H, i ≤ n → Pv i H → G H)
    (hs : ∀ i x H H', i < n → Pv i H → Y i H x H' → B (Pv (i + 1)) x H') (hd : ∀ H, Pv n H → Qd H) :
    ∃ W : Nat → Nat → Hp → Prop, (∃ m, W 0 m Hs) ∧ ∀ i m H, W i m H → (J.stop i H ∧ Qd H) ∨ (J.go i H ∧ ∃ Nx : Hp → Prop, (∀ H', Nx H' → ∃ m', m' < m ∧ W (i + 1) m' H') ∧ ∀ x H', J.yld i H x H' → B Nx x H') := by
  refine ⟨fun i m H => m = n - i ∧ i ≤ n ∧ Pv i H, ⟨n, by simp, Nat.zero_le _, h0⟩, ?_⟩
  rintro i m H ⟨rfl, hi, p⟩
  have q := hG i H hi p
  by_cases hlt : i < n
  · refine .inr ⟨w.goes i H hlt q, Pv (i + 1), fun H' p' => ⟨n - (i + 1), by omega, rfl, hlt, p'⟩, fun x H' y => hs i x H H' hlt p (w.yields i H x H' hlt q y)⟩
  · have e : i = n := by omega
    subst e
    exact .inl ⟨w.stops H q, hd H p⟩
section
variable {X : Cx} {Wc : WX} {elt tg iter tg1 iter1 : Expr} {ifs ifs1 : List Expr} {scope : Scope} {own : List (Str × Nat)} {pos : Pos} {fi : FA} {g g1 : FG} {t t1 : FB} {fe fa1 : FE}
def kSeq (K : PySem.W.Frag) (R : It → Hp → Prop) : V → Hp → Prop := fun x H1 => ∃ a, x = .ref a ∧ ((∃ xs, SqL K H1 a xs ∧ (xs.length ≤ sizeLine → R (Itl K a) H1)) ∨ (∃ xs, L2.SqT K H1 a xs ∧ (xs.length ≤ sizeLine → R (Itt K a) H1)))
def iSeq2 (K : PySem.W.Frag) (tl : TE) : TI := fun σ H R => tl σ H (kSeq K R)
theorem pi_seq2 {tl : TE} {l : Expr} (hl : PE X l tl) : PI X tg l (iSeq2 X.K tl) := pi_seq hl
/-- a value that is walked: only frozen objects are asked of -/
theorem seq_in {K : PySem.W.Frag} {F : Hp} {m : List Addr} {ρ : List Sl} {S : List Ob} {σ : St} {Hd H : Hp} {w : W} {v : V} {xs : List W} {S2 : List Ob} (r : R K F Hd m ρ S σ H) (e : RepW K F m w v) (hs : seqOf w S = .ok xs S2) {Q : It → Hp → Prop}
    (hq : ∀ J, S2 = S → Walk J xs.length (fun H => Le F H) (Yq K F m xs) → xs.length ≤ sizeLine → Q J H) :
    kSeq K Q v H := by
  cases w with
  | ref n => cases hs
  | d x =>
    cases x with
    | tuple ds =>
      cases hs
      cases e with
      | @tup a vs _ hs ha =>
        have hw := walk_tup (K := K) (a := a) (xs := vs)
        rw [show vs.length = (ds.map W.d).length by simp [DpAll.len ha]] at hw
        exact ⟨a, rfl, .inr ⟨vs, Le.sqT r.b.fr hs, fun hz => hq _ rfl (hw.mono (fun H h => Le.sqT h hs) fun i H v H' hi _ y => yq_at (rep_dats ha) hi y) (by simpa [DpAll.len ha] using hz)⟩⟩
    | list ds =>
      cases hs
      cases e with
      | @lst a vs _ hs ha =>
        have hw := walk_list (K := K) (a := a) (xs := vs)
        rw [show vs.length = (ds.map W.d).length by simp [DpAll.len ha]] at hw
        exact ⟨a, rfl, .inl ⟨vs, Le.sqL r.b.fr hs, fun hz => hq _ rfl (hw.mono (fun H h => Le.sqL h hs) fun i H v H' hi _ y => yq_at (rep_dats ha) hi y) (by simpa [DpAll.len ha] using hz)⟩⟩
    | none => cases hs
    | bool b => cases hs
    | int i => cases hs
    | str z => cases hs
    | dict z => cases hs
theorem back1 {own : List Nat} {g : FG} (hgo : GO own g) {K : PySem.W.Frag} {F Hd H : Hp} {m : List Addr} {ρ ρ3 : List Sl} {σ σ3 : St} {S : List Ob} {x : W} (q : g x (unset ρ own) = some ρ3) (w3 : wipe σ3 own = wipe (wipe σ own) own) (r5 : R K F Hd m ρ3 S σ3 H) : R K F Hd m (unset ρ own) S (wipe σ own) H := by
  have r6 := r5.wiped own
  have e1 : unset ρ3 own = unset ρ own := by
    rw [hgo _ _ _ q]
    apply List.ext_getElem?
    intro j
    rw [unset_get, unset_len, unset_get]
    split <;> rfl
  have e2 : wipe σ3 own = wipe σ own := by
    rw [w3]
    apply List.ext_getElem?
    intro j
    rw [wipe_get, wipe_length, wipe_get]
    split <;> rfl
  rw [e1, e2] at r6
  exact r6
theorem wipe_wipe (σ : St) (own : List Nat) : wipe (wipe σ own) own = wipe σ own := by
  apply List.ext_getElem?
  intro j
  rw [wipe_get, wipe_length, wipe_get]
  split <;> rfl
theorem unset_unset (ρ : List Sl) (own : List Nat) : unset (unset ρ own) own = unset ρ own := by
  apply List.ext_getElem?
  intro j
  rw [unset_get, unset_len, unset_get]
  split <;> rfl
theorem unset_sub {ρ : List Sl} {own own1 : List Nat} (h : ∀ i ∈ own1, i ∈ own) : unset (unset ρ own1) own = unset ρ own := by
  apply List.ext_getElem?
  intro j
  by_cases hj : j ∈ own
  · simp only [unset_get, unset_len, if_pos hj]
  · simp only [unset_get, if_neg hj, if_neg fun z => hj (h j z)]
theorem wipe_sub {σ : St} {own own1 : List Nat} (h : ∀ i ∈ own1, i ∈ own) : wipe (wipe σ own1) own = wipe σ own := by
  apply List.ext_getElem?
  intro j
  by_cases hj : j ∈ own
  · simp only [wipe_get, wipe_length, if_pos hj]
  · simp only [wipe_get, if_neg hj, if_neg fun z => hj (h j z)]
theorem lc2_imp {σ : St} {H : Hp} {Q : VK} {own1 : List Nat} (hv : ∀ i ∈ own1, i ∈ own.map (·.2)) (hgo : GO (own.map (·.2)) g) (hgo1 : GO own1 g1) (h : LO X Wc (fLc2 fi (own.map (·.2)) own1 g t (fIt fa1) g1 t1 fe) σ H Q) :
    tLc2 (LI X Wc fi) (liftG X.K (own.map (·.2)) g) (LB X W0 t) (iSeq2 X.K (LE X W0 fa1)) (liftG X.K own1 g1) (LB X W0 t1) (LE X W0 fe) (own.map (·.2)) own1 σ H Q := by
  obtain ⟨F, Hd, m, ρ, S, r, c⟩ := h
  refine ⟨F, Hd, m, ρ, S, r, ?_⟩
  unfold fLc2 at c
  generalize own.map (·.2) = own at hv hgo c ⊢
  cases e : fi ρ S with
  | bad => rw [e] at c; exact c.elim
  | err z S1 => rw [e] at c; exact c
  | ok xs S1 =>
    rw [e] at c
    intro F1 Hd1 m1 H1 J l1 d1 p1 r1 wk hxs D nD
    have c : cont X.K X.mg Wc (repO X.K) F Hd m ρ σ Q (if own.any (fun i => isOwn ρ[i]?) = true then .bad else (lcL2 own1 g t (fIt fa1) g1 t1 fe (unset ρ own) xs S1).bind capL) := c
    cases hno : own.any (fun i => isOwn ρ[i]?) with
    | true => rw [if_pos hno] at c; exact c.elim
    | false =>
      rw [if_neg (by rw [hno]; exact Bool.false_ne_true)] at c
      have noerr : ∀ (xs : List W) (S : List Ob) c S', lcL2 own1 g t (fIt fa1) g1 t1 fe (unset ρ own) xs S ≠ .err c S' := by
        intro xs
        induction xs with
        | nil => intro S c S' q; cases q
        | cons x rs ih =>
          intro S c S' q
          unfold lcL2 at q
          split at q
          · cases q
          · split at q
            · split at q
              · split at q
                · split at q
                  · cases q2 : lcL2 own1 g t (fIt fa1) g1 t1 fe (unset ρ own) rs ‹List Ob› with
                    | ok a b => simp only [q2] at q; cases q
                    | err a b => exact ih _ _ _ q2
                    | bad => simp only [q2] at q; cases q
                  · cases q
                · cases q
              · exact ih _ _ _ q
            · cases q
      cases ez : lcL2 own1 g t (fIt fa1) g1 t1 fe (unset ρ own) xs S1 with
      | bad => rw [ez] at c; exact c.elim
      | err a b => exact (noerr _ _ _ _ ez).elim
      | ok zs Sz =>
      rw [ez] at c
      have c : cont X.K X.mg Wc (repO X.K) F Hd m ρ σ Q (capL zs Sz) := c
      unfold capL at c
      by_cases hz : zs.length ≤ 1000000
      case neg => rw [if_neg hz] at c; exact c.elim
      rw [if_pos hz] at c
      have hsz : ∀ n : Nat, n < 1000000 → n < sizeLine := fun n hn => by rw [sizeLine_eq]; omega
      have fD := r1.new nD
      refine it_any wk (fun i H => ∃ F2 m2 S2 ys vs rest, Le F1 F2 ∧ m1 <+: m2 ∧ R X.K F2 (upd Hd1 D (.lst vs)) m2 (unset ρ own) S2 (wipe σ own) H ∧ RepWs X.K F2 m2 ys vs ∧ ys ++ rest = zs ∧
        lcL2 own1 g t (fIt fa1) g1 t1 fe (unset ρ own) (xs.drop i) S2 = .ok rest Sz) ?_ ?_ ?_ ?_
      · refine ⟨F1, m1, S1, [], [], zs, Le.refl, List.prefix_refl m1, ?_, .nil, rfl, ez⟩
        exact ((r1.upd fD).hide upd_same fD).wiped _
      · rintro i H2 hi ⟨F2, m2, S2, ys, vs, rest, l2, p2, r2, e2, n2, c2⟩
        refine ⟨l2.trans r2.b.fr, fun a o q => (r2.b.hd a o ?_).1⟩
        rw [upd_ne (ne_of_none q fD.hd)]
        exact q
      · rintro i v H2 H3 hi ⟨F2, m2, S2, ys, vs, rest, l2, p2, r2, e2, n2, c2⟩ y
        obtain ⟨F3, x, ex, l3, r3, e3⟩ := yield_ok r2 l2 p2 y
        rw [List.drop_eq_getElem_cons hi] at c2
        have ex' : xs[i] = x := by rw [List.getElem?_eq_getElem hi] at ex; exact Option.some.inj ex
        rw [ex'] at c2
        unfold lcL2 at c2
        cases q : g x (unset ρ own) with
        | none => simp only [q] at c2; cases c2
        | some ρ3 =>
          simp only [q] at c2
          refine ⟨F3, upd Hd1 D (.lst vs), m2, unset ρ own, S2, x, r3, e3, ρ3, q, fun σ3 w3 r4 => ⟨w3.trans (wipe_wipe _ _), F3, upd Hd1 D (.lst vs), m2, ρ3, S2, r4, ?_⟩⟩
          rw [wipe_wipe] at w3
          have w3' : wipe σ3 own = wipe (wipe σ own) own := w3.trans (wipe_wipe _ _).symm
          cases q2 : t ρ3 S2 with
          | bad => simp only [q2] at c2; cases c2
          | err z S4 => simp only [q2] at c2; cases c2
          | ok b S4 =>
            simp only [q2] at c2
            rintro F4 m4 b' H4 l4 p4 r5 rfl
            cases b with
            | false =>
              rw [if_neg Bool.false_ne_true] at c2 ⊢
              exact ⟨F4, m4, S4, ys, vs, rest, l2.trans (l3.trans l4), p2.trans p4, back1 hgo q w3' r5, e2.mono (l3.trans l4) p4, n2, c2⟩
            | true =>
              rw [if_pos rfl] at c2 ⊢
              refine ⟨F4, upd Hd1 D (.lst vs), m4, ρ3, S4, r5, ?_⟩
              have hfi : fIt fa1 ρ3 S4 = (fa1 ρ3 S4).bind seqOf := rfl
              rw [hfi] at c2
              cases q3 : fa1 ρ3 S4 with
              | bad => simp only [q3] at c2; cases c2
              | err z S5 => simp only [q3] at c2; cases c2
              | ok w S5 =>
                simp only [q3, bind_ok] at c2
                cases q4 : seqOf w S5 with
                | bad => simp only [q4] at c2; cases c2
                | err z S5 => simp only [q4] at c2; cases c2
                | ok us S6 =>
                simp only [q4] at c2
                cases q5 : lcL g1 t1 fe (unset ρ3 own1) us S6 with
                | bad => simp only [q5] at c2; cases c2
                | err z S5 => simp only [q5] at c2; cases c2
                | ok os S7 =>
                simp only [q5] at c2
                cases q6 : lcL2 own1 g t (fIt fa1) g1 t1 fe (unset ρ own) (xs.drop (i + 1)) S7 with
                | bad => simp only [q6] at c2; cases c2
                | err a b => simp only [q6] at c2; cases c2
                | ok rest2 S8 =>
                have c3 : rest = os ++ rest2 ∧ Sz = S8 := by
                  simp only [q6, bind_ok] at c2
                  cases c2
                  exact ⟨rfl, rfl⟩
                obtain ⟨c3, rfl⟩ := c3
                subst c3
                intro F5 m5 v5 H5 l5 p5 r6 e6
                refine seq_in r6 e6 q4 fun J1 hS wk1 hus => ?_
                subst hS
                refine it_any wk1 (fun j H => ∃ F6 m6 S6 ys2 vs2 rest3, Le F5 F6 ∧ m5 <+: m6 ∧ R X.K F6 (upd Hd1 D (.lst vs2)) m6 (unset ρ3 own1) S6 (wipe σ3 own1) H ∧ RepWs X.K F6 m6 ys2 vs2 ∧ ys2 ++ rest3 = ys ++ os ∧
                  lcL g1 t1 fe (unset ρ3 own1) (us.drop j) S6 = .ok rest3 S7) ?_ ?_ ?_ ?_
                · exact ⟨F5, m5, S6, ys, vs, os, Le.refl, List.prefix_refl m5, r6.wiped _, e2.mono (l3.trans (l4.trans l5)) (p4.trans p5), rfl, q5⟩
                · rintro j H6 hj ⟨F6, m6, S9, ys2, vs2, rest3, l6, p6, r7, e7, n7, c7⟩
                  exact l6.trans r7.b.fr
                · rintro j v7 H6 H7 hj ⟨F6, m6, S9, ys2, vs2, rest3, l6, p6, r7, e7, n7, c7⟩ y7
                  obtain ⟨F7, x7, ex7, l7, r8, e8⟩ := yield_ok r7 l6 p6 y7
                  rw [List.drop_eq_getElem_cons hj] at c7
                  have ex7' : us[j] = x7 := by rw [List.getElem?_eq_getElem hj] at ex7; exact Option.some.inj ex7
                  rw [ex7'] at c7
                  unfold lcL at c7
                  cases k1 : g1 x7 (unset ρ3 own1) with
                  | none => simp only [k1] at c7; cases c7
                  | some ρ7 =>
                  simp only [k1] at c7
                  refine ⟨F7, upd Hd1 D (.lst vs2), m6, unset ρ3 own1, S9, x7, r8, e8, ρ7, k1, fun σ7 w7 r9 => ⟨w7.trans (wipe_wipe _ _), F7, upd Hd1 D (.lst vs2), m6, ρ7, S9, r9, ?_⟩⟩
                  cases k2 : t1 ρ7 S9 with
                  | bad => simp only [k2] at c7; cases c7
                  | err z S4 => simp only [k2] at c7; cases c7
                  | ok b S10 =>
                  simp only [k2] at c7
                  rintro F8 m8 b' H8 l8 p8 r10 rfl
                  cases b with
                  | false =>
                    rw [if_neg Bool.false_ne_true] at c7 ⊢
                    exact ⟨F8, m8, S10, ys2, vs2, rest3, l6.trans (l7.trans l8), p6.trans p8, back1 hgo1 k1 w7 r10, e7.mono (l7.trans l8) p8, n7, c7⟩
                  | true =>
                    rw [if_pos rfl] at c7 ⊢
                    refine ⟨F8, upd Hd1 D (.lst vs2), m8, ρ7, S10, r10, ?_⟩
                    cases k3 : fe ρ7 S10 with
                    | bad => simp only [k3] at c7; cases c7
                    | err z S5 => simp only [k3] at c7; cases c7
                    | ok w9 S11 =>
                    simp only [k3] at c7
                    cases k4 : lcL g1 t1 fe (unset ρ3 own1) (us.drop (j + 1)) S11 with
                    | bad => simp only [k4] at c7; cases c7
                    | err a b => simp only [k4] at c7; cases c7
                    | ok rest4 S12 =>
                    simp only [k4, bind_ok] at c7
                    cases c7
                    intro F9 m9 v9 H9 l9 p9 r11 e9
                    have hlv := Paired.length e7
                    have hcap : vs2.length < 1000000 := by
                      have a1 : zs.length = ys.length + (os.length + rest2.length) := by rw [← n2]; simp
                      have a2 : ys2.length + (rest4.length + 1) = ys.length + os.length := by
                        have := congrArg List.length n7
                        simpa using this
                      omega
                    refine ⟨vs2, (r11.b.hd D _ upd_same).1, hsz _ hcap, F9, m9, S11, ys2 ++ [w9], vs2 ++ [v9], rest4, l6.trans (l7.trans (l8.trans l9)), p6.trans (p8.trans p9), hide_upd (back1 hgo1 k1 w7 r11) fD.hd, ?_, by rw [← n7]; simp, k4⟩
                    exact Paired.snoc (e7.mono (l7.trans (l8.trans l9)) (p8.trans p9)) e9
                · rintro H6 ⟨F6, m6, S9, ys2, vs2, rest3, l6, p6, r7, e7, n7, c7⟩
                  rw [List.drop_length] at c7
                  cases c7
                  rw [List.append_nil] at n7
                  refine ⟨F6, m6, S7, ys2, vs2, rest2, l2.trans (l3.trans (l4.trans (l5.trans l6))), p2.trans (p4.trans (p5.trans p6)), ?_, e7, by rw [n7, ← n2]; simp, q6⟩
                  have r8 := r7.wiped own
                  rw [unset_sub hv, wipe_sub hv] at r8
                  have e1 : unset ρ3 own = unset ρ own := by rw [hgo _ _ _ q, unset_unset]
                  rw [e1, w3] at r8
                  exact r8
      · rintro H2 ⟨F2, m2, S2, ys, vs, rest, l2, p2, r2, e2, n2, c2⟩
        rw [List.drop_length] at c2
        cases c2
        rw [List.append_nil] at n2
        subst n2
        obtain ⟨h1, h2⟩ := r2.b.hd D _ upd_same
        have r3 : R X.K F2 Hd1 m2 (unset ρ own) Sz (wipe σ own) H2 := r2.unhide (Le.upd fD.hd)
        have r4 := R.unwipe r1 hno l2 p2 r3
        have r5 := r4.unhide d1
        have hm : D ∉ m2 := fun hm => by
          obtain ⟨_, _, _, h4, _⟩ := r2.b.muH hm
          rw [upd_same] at h4; cases h4
        have ho : ∀ i, ¬ Owns ρ σ i D := fun i q => by
          obtain ⟨_, h3, _⟩ := r1.owns q
          rw [nD] at h3; cases h3
        exact c F2 m2 (.ref D) H2 (l1.trans l2) (p1.trans p2) r5 ⟨D, .lst vs, rfl, h1, ⟨vs, rfl, e2⟩, h2, none_le d1 fD.hd, hm, ho⟩
/-- [elt for tg in iter if .. for tg1 in iter1 if ..], a new list; iter1 a value -/
theorem q_lc2 {own1 : List Nat} (hc : X.calm = true) (hN : X.N.Nodup) (hgo : GO (own.map (·.2)) g) (hgo1 : GO own1 g1) (hv : ∀ i ∈ own1, i ∈ own.map (·.2)) (hi : PI X tg iter (LI X Wc fi)) (ok : BlkOk X.N X.env.scope scope own)
    (hg : ∀ (s : Shared) (H : Hp) (C : Addr) (cl : List (Str × Addr)) (fp : List Addr), PG (X.blk s H scope (compEnvC scope cl C X.env) fp) tg (liftG X.K (own.map (·.2)) g))
    (ht : ∀ (s : Shared) (H : Hp) (C : Addr) (cl : List (Str × Addr)) (fp : List Addr), PTs (X.blk s H scope (compEnvC scope cl C X.env) fp) ifs (LB X W0 t))
    (hi1 : ∀ (s : Shared) (H : Hp) (C : Addr) (cl : List (Str × Addr)) (fp : List Addr), PE (X.blk s H scope (compEnvC scope cl C X.env) fp) iter1 (LE X W0 fa1))
    (hg1 : ∀ (s : Shared) (H : Hp) (C : Addr) (cl : List (Str × Addr)) (fp : List Addr), PG (X.blk s H scope (compEnvC scope cl C X.env) fp) tg1 (liftG X.K own1 g1))
    (ht1 : ∀ (s : Shared) (H : Hp) (C : Addr) (cl : List (Str × Addr)) (fp : List Addr), PTs (X.blk s H scope (compEnvC scope cl C X.env) fp) ifs1 (LB X W0 t1))
    (he : ∀ (s : Shared) (H : Hp) (C : Addr) (cl : List (Str × Addr)) (fp : List Addr), PE (X.blk s H scope (compEnvC scope cl C X.env) fp) elt (LE X W0 fe)) (hs : ∀ x, foldedSetIterable iter X.env x = pure x := by intro _; rfl) (hs1 : ∀ env x, foldedSetIterable iter1 env x = pure x := by intro _ _; rfl) :
    PE X (.ListComp elt [⟨tg, iter, ifs, 0⟩, ⟨tg1, iter1, ifs1, 0⟩] scope pos) (LO X Wc (fLc2 fi (own.map (·.2)) own1 g t (fIt fa1) g1 t1 fe)) := PE.imp (pe_lc2 hc hN hi ok hv hg ht (fun s H C cl fp => pi_seq2 (hi1 s H C cl fp)) hg1 ht1 he hs hs1) fun _ _ _ h => lc2_imp hv hgo hgo1 h
theorem s_setLc2 {own1 : List Nat} {i : Nat} {y : Str} {py spos : Pos} (hc : X.calm = true) (hN : X.N.Nodup) (hy : X.N[i]? = some y) (hyl : X.env.scope.names.lookup y = some .local)
    (hsw : swapsWith (.ListComp elt [⟨tg, iter, ifs, 0⟩, ⟨tg1, iter1, ifs1, 0⟩] scope pos) (some (.Name y py)) spos.line X.env = pure true) (hgo : GO (own.map (·.2)) g) (hgo1 : GO own1 g1) (hv : ∀ i ∈ own1, i ∈ own.map (·.2)) (hi : PI X tg iter (LI X Wc fi)) (ok : BlkOk X.N X.env.scope scope own)
    (hg : ∀ (s : Shared) (H : Hp) (C : Addr) (cl : List (Str × Addr)) (fp : List Addr), PG (X.blk s H scope (compEnvC scope cl C X.env) fp) tg (liftG X.K (own.map (·.2)) g))
    (ht : ∀ (s : Shared) (H : Hp) (C : Addr) (cl : List (Str × Addr)) (fp : List Addr), PTs (X.blk s H scope (compEnvC scope cl C X.env) fp) ifs (LB X W0 t))
    (hi1 : ∀ (s : Shared) (H : Hp) (C : Addr) (cl : List (Str × Addr)) (fp : List Addr), PE (X.blk s H scope (compEnvC scope cl C X.env) fp) iter1 (LE X W0 fa1))
    (hg1 : ∀ (s : Shared) (H : Hp) (C : Addr) (cl : List (Str × Addr)) (fp : List Addr), PG (X.blk s H scope (compEnvC scope cl C X.env) fp) tg1 (liftG X.K own1 g1))
    (ht1 : ∀ (s : Shared) (H : Hp) (C : Addr) (cl : List (Str × Addr)) (fp : List Addr), PTs (X.blk s H scope (compEnvC scope cl C X.env) fp) ifs1 (LB X W0 t1))
    (he : ∀ (s : Shared) (H : Hp) (C : Addr) (cl : List (Str × Addr)) (fp : List Addr), PE (X.blk s H scope (compEnvC scope cl C X.env) fp) elt (LE X W0 fe)) (hs : ∀ x, foldedSetIterable iter X.env x = pure x := by intro _; rfl) (hs1 : ∀ env x, foldedSetIterable iter1 env x = pure x := by intro _ _; rfl) :
    PS X (.Assign [.Name y py] (.ListComp elt [⟨tg, iter, ifs, 0⟩, ⟨tg1, iter1, ifs1, 0⟩] scope pos) spos) (LS X Wc (fSetO i (fLc2 fi (own.map (·.2)) own1 g t (fIt fa1) g1 t1 fe))) := PS.imp (ps_setLc2 hc hN hy hyl hsw hi ok hv hg ht (fun s H C cl fp => pi_seq2 (hi1 s H C cl fp)) hg1 ht1 he hs hs1) fun D σ H h => by
  have q := setO_imp h
  exact lc2_imp hv hgo hgo1 q
end
section
variable {ρ : List Sl} {S S' : List Ob} {fi : FA} {xs : List W}
/-- what a comprehension of two clauses gives, when nothing changes the store -/
theorem lc2_pure (own1 : List Nat) (g : FG) (t : FB) (fi1 : FA) (g1 : FG) (t1 : FB) (fe : FE) (ρ : List Sl) (S : List Ob) (p : W → Bool) (y : W → List W) : ∀ xs : List W, (∀ x ∈ xs, ∃ ρ1, g x ρ = some ρ1 ∧ t ρ1 S = .ok (p x) S ∧ (p x = true → ∃ us, fi1 ρ1 S = .ok us S ∧ lcL g1 t1 fe (unset ρ1 own1) us S = .ok (y x) S)) → lcL2 own1 g t fi1 g1 t1 fe ρ xs S = .ok ((xs.filter p).flatMap y) S
  | [], _ => rfl
  | x :: r, h => by
    obtain ⟨ρ1, e1, e2, e3⟩ := h x (List.mem_cons_self ..)
    have ih := lc2_pure own1 g t fi1 g1 t1 fe ρ S p y r fun z hz => h z (List.mem_cons_of_mem _ hz)
    unfold lcL2
    simp only [e1, e2]
    cases q : p x with
    | true =>
      obtain ⟨us, e4, e5⟩ := e3 q
      simp only [e4, e5, if_true, ih, e_ok, List.filter_cons_of_pos q, List.flatMap_cons]
    | false => simp only [Bool.false_eq_true, if_false, ih]; rw [List.filter_cons_of_neg (by rw [q]; exact Bool.false_ne_true)]
theorem e_Lc2 (own own1 : List Nat) (g : FG) (t : FB) (fi1 : FA) (g1 : FG) (t1 : FB) (fe : FE) (h : fi ρ S = .ok xs S') (ho : own.any (fun i => isOwn ρ[i]?) = false) : fLc2 fi own own1 g t fi1 g1 t1 fe ρ S = (lcL2 own1 g t fi1 g1 t1 fe (unset ρ own) xs S').bind capL := by
  unfold fLc2; rw [h]; simp only [e_ok, ho, Bool.false_eq_true, if_false]
theorem e_cap {ys : List W} (h : ys.length ≤ 1000000) : capL ys S = .ok (.lst ys) S := if_pos h
end
end L2.Q
/-! Layer Q, part V: reversed(..) walked. -/
namespace L2.Q
open PySem PySem.Spec PyProof.Rows RT
section
variable {X : Cx} {Wc : WX} {e tg : Expr} {fa : FE} {p p2 pos : Pos}
/-! ### reversed(x), walked -/
def revOf (x : W) (S : List Ob) : Res (List W) := match x with
  | .d (.tuple xs) => if xs.length ≤ 1000000 then .ok (xs.reverse.map .d) S else .bad
  | .d (.list xs) => if xs.length ≤ 1000000 then .ok (xs.reverse.map .d) S else .bad
  | _ => .bad
def fRevA (fa : FE) : FA := fun ρ S => (fa ρ S).bind revOf
theorem walk_revT {K : PySem.W.Frag} {a : Addr} {xs : List V} : Walk (ItvT K a xs.length) xs.length (fun H => L2.SqT K H a xs) (fun i H x H' => H' = H ∧ xs[xs.length - 1 - i]? = some x) :=
  ⟨fun i _ hi q => ⟨hi, xs, xs[xs.length - 1 - i]'(by omega), q, by simp [show xs.length - 1 - i < xs.length by omega]⟩, fun _ _ => Nat.le_refl _, fun _ _ _ _ _ q y => ⟨y.1, y.2 xs q⟩⟩
theorem yq_rev {K : PySem.W.Frag} {Fr : Hp} {μ : List Addr} {ds : List PyData} {vs : List V} (ha : DpAll K Fr vs ds) {i : Nat} {H : Hp} {v : V} {H' : Hp} (hi : i < vs.length) (y : H' = H ∧ vs[vs.length - 1 - i]? = some v) : Yq K Fr μ (ds.reverse.map .d) i H v H' := by
  obtain ⟨e1, e2⟩ := y
  have el := DpAll.len ha
  have hj : vs.length - 1 - i < (ds.map W.d).length := by rw [List.length_map]; omega
  obtain ⟨v', e, q⟩ := paired_get (rep_dats (μ := μ) ha) (List.getElem?_eq_getElem hj)
  rw [e] at e2
  cases e2
  refine ⟨_, ?_, .inl ⟨e1, q⟩⟩
  have hi2 : i < ds.length := by omega
  rw [List.getElem?_map, List.getElem?_reverse hi2, show ds.length - 1 - i = vs.length - 1 - i by omega, ← List.getElem?_map]
  exact List.getElem?_eq_getElem hj
theorem i_revA (hg : Gl X "reversed") (hm : X.mg "reversed" = none) (h : PE X e (LE X Wc fa)) (hs : starEach [e] X.env = (false, eval e X.env) :: starEach [] X.env := by rfl) : PI X tg (.Call (.Name "reversed" p) [e] [] pos) (LI X Wc (fRevA fa)) := PI.imp (pi_revA hg hm h hs) fun σ H Q h => by
  obtain ⟨F, Hd, m, ρ, S, r, c⟩ := h
  refine stepI r c fun F1 m1 x v S1 H1 l1 p1 r1 e1 c1 => ?_
  cases x with
  | ref n => exact c1.elim
  | d x =>
    cases x with
    | tuple xs =>
      cases e1 with
      | @tup a vs _ hs ha =>
        unfold revOf at c1
        dsimp only at c1
        split at c1
        · rename_i hl
          have el := DpAll.len ha
          have ee : vs.length = (xs.reverse.map W.d).length := by simp [el]
          have hw := walk_revT (K := X.K) (a := a) (xs := vs)
          refine ⟨a, vs, rfl, .inr ⟨Le.sqT r1.b.fr hs, c1 F1 Hd m1 H1 _ Le.refl Le.refl (List.prefix_refl m1) r1 ?_ (by rw [sizeLine_eq]; simp; omega)⟩⟩
          rw [← ee]
          exact hw.mono (fun H h => Le.sqT h.1 hs) fun i H v H' hi _ y => yq_rev ha hi y
        · exact c1.elim
    | list xs =>
      cases e1 with
      | @lst a vs _ hs ha =>
        unfold revOf at c1
        dsimp only at c1
        split at c1
        · rename_i hl
          have el := DpAll.len ha
          have ee : vs.length = (xs.reverse.map W.d).length := by simp [el]
          have hw := walk_rev (K := X.K) (a := a) (xs := vs)
          refine ⟨a, vs, rfl, .inl ⟨Le.sqL r1.b.fr hs, c1 F1 Hd m1 H1 _ Le.refl Le.refl (List.prefix_refl m1) r1 ?_ (by rw [sizeLine_eq]; simp; omega)⟩⟩
          rw [← ee]
          exact hw.mono (fun H h => Le.sqL h.1 hs) fun i H v H' hi _ y => yq_rev ha hi y
        · exact c1.elim
    | none => exact c1.elim
    | bool b => exact c1.elim
    | int i => exact c1.elim
    | str z => exact c1.elim
    | dict z => exact c1.elim
/-! ### a slice of a list in the store -/
def cutOfS (x : W) (lo hi : Option Int) (S : List Ob) : Res W := match x with
  | .ref n => (match S[n]? with
    | some (.lst xs) => (match dats xs with
      | some ds => .ok (.d (.list (cut ds lo hi))) S
      | none => .bad)
    | _ => .bad)
  | _ => .bad
def fCutS (fa : FE) (fl fh : FP) : FE := fun ρ S => (fa ρ S).bind fun x S1 => (fl ρ S1).bind fun lo S2 => (fh ρ S2).bind fun hi S3 => cutOfS x lo hi S3
theorem q_cutS {a : Expr} {lo hi : Option Expr} {flo fhi : FP} (ha : PE X a (LE X Wc fa)) (hl : PO X lo (LP X Wc flo)) (hh : PO X hi (LP X Wc fhi)) : PE X (.Subscript a (.Slice lo hi none p2) pos) (LE X Wc (fCutS fa flo fhi)) :=
  PE.imp (pe_slice (SlR.or sl_tupK (SlR.or sl_list sl_str)) ha hl hh) fun σ H Q h => by
  obtain ⟨F, D, m, ρ, S, r0, c⟩ := h
  refine step r0 c fun F1 m1 x v S1 H1 l1 p1 r1 e1 c1 => ?_
  refine step r1 c1 fun F2 m2 lo u S2 H2 l2 p2 r2 e2 c2 => ?_
  cases e2
  refine step r2 c2 fun F3 m3 hi u S3 H3 l3 p3 r3 e3 c3 => ?_
  cases e3
  have e1 := RepW.mono (l2.trans l3) (p2.trans p3) e1
  cases x with
  | d x => exact c3.elim
  | ref n =>
    obtain ⟨a, ea, rfl⟩ := e1
    unfold cutOfS at c3
    dsimp only at c3
    split at c3
    · rename_i xs es
      split at c3
      · rename_i ds hds
        obtain ⟨ho, h1, ⟨vs, rfl, h2⟩, _⟩ := r3.b.st n a _ ea es
        exact .inr (.inl ⟨a, vs, rfl, .inl (.inl h1), fun q hq => new_lstV r3 (dps_cut lo hi (dats_rep hds h2)) hq c3⟩)
      · exact c3.elim
    · exact c3.elim
end
section
variable {ρ : List Sl} {S : List Ob} {fa : FE}
@[simp] theorem e_CutS (fl fh : FP) : fCutS fa fl fh ρ S = (fa ρ S).bind fun x S1 => (fl ρ S1).bind fun lo S2 => (fh ρ S2).bind fun hi S3 => cutOfS x lo hi S3 := rfl
theorem e_cutOfS {n : Nat} {ds : List PyData} {lo hi : Option Int} (h : S[n]? = some (.lst (ds.map .d))) : cutOfS (.ref n) lo hi S = .ok (.d (.list (cut ds lo hi))) S := by
  unfold cutOfS
  dsimp only
  rw [h]
  dsimp only
  rw [e_datsm]
@[simp] theorem e_RevA : fRevA fa ρ S = (fa ρ S).bind revOf := rfl
theorem e_revOf {xs : List PyData} (h : xs.length ≤ 1000000) : revOf (.d (.tuple xs)) S = .ok (xs.reverse.map .d) S := if_pos h
end
end L2.Q
/-! Layer Q, part W: dicts of the store (that change, that no longer change), loops over what no longer changes. -/
namespace L2.Q
open PySem PySem.Spec PyProof.Rows
section
variable {X : Cx} {Wc : WX} {o e b tg : Expr} {fa fb fc : FE} {pos apos cpos : Pos}
def dctS (x : W) (S : List Ob) : Option (List (Key × W)) := match x with
  | .ref n => (match S[n]? with
    | some (.dct kvs) => some kvs
    | some (.fdc kvs) => some kvs
    | _ => none)
  | _ => none
theorem dctS_rep {Fr Hd : Hp} {μ : List Addr} {ρ : List Sl} {S : List Ob} {σ : St} {H : Hp} (r : R X.K Fr Hd μ ρ S σ H) {x : W} {v : V} {kvs : List (Key × W)} (h : dctS x S = some kvs) (e : RepW X.K Fr μ x v) :
    ∃ a vs, v = .ref a ∧ Rd H a (.dK vs) ∧ RepKV X.K Fr μ kvs vs := by
  cases x with
  | d x => cases h
  | ref n =>
    obtain ⟨a, ea, rfl⟩ := e
    unfold dctS at h
    dsimp only at h
    split at h
    · rename_i ys es
      cases h
      obtain ⟨ho, h1, ⟨vs, rfl, q⟩, _⟩ := r.b.st n a _ ea es
      exact ⟨a, vs, rfl, .inl h1, q⟩
    · rename_i ys es
      cases h
      obtain ⟨ho, h1, ⟨od, vs, rfl, q⟩, _⟩ := r.b.st n a _ ea es
      exact ⟨a, vs, rfl, .inr ⟨od, h1⟩, q⟩
    · cases h
theorem DGet.rd {H : Hp} {a : Addr} {kvs : List (Key × V)} {k : Key} (e : Rd H a (.dK kvs)) : DGet H a (kV k) (valV kvs k) := .inl ⟨kvs, k, e, rfl, rfl⟩
/-- d[e] -/
def getS (x y : W) (S : List Ob) : Res W := match dctS x S with
  | some kvs => getD kvs y S
  | none => .bad
def fSget (fa fb : FE) : FE := fun ρ S => (fa ρ S).bind fun x S1 => (fb ρ S1).bind fun y S2 => getS x y S2
theorem q_sget (hu : X.A.units + 1 < cLine) (ha : PE X o (LE X Wc fa)) (hb : PE X b (LE X Wc fb)) (hs : NoSl b := by exact fun _ _ => rfl) : PE X (.Subscript o b pos) (LE X Wc (fSget fa fb)) := PE.imp (pe_dget hu ha hb hs) fun σ H Q h => by
  obtain ⟨F, D, m, ρ, S, r, c⟩ := h
  refine step r c fun F1 m1 x v S1 H1 l1 p1 r1 ex c1 => ?_
  refine step r1 c1 fun F2 m2 y u S2 H2 l2 p2 r2 ey c2 => ?_
  unfold getS at c2
  split at c2
  · rename_i kvs hd
    obtain ⟨a, vs, rfl, h1, q1⟩ := dctS_rep r2 hd (RepW.mono l2 p2 ex)
    unfold getD at c2
    split at c2
    · rename_i k hk
      split at c2
      · rename_i z hz
        rcases valW_rep (k := k) q1 with ⟨e1, _⟩ | ⟨x', v', e1, e2, e3⟩
        · rw [hz] at e1; cases e1
        · rw [hz] at e1
          cases e1
          rw [keyOf_rep hk ey]
          exact ⟨a, v', rfl, e2 ▸ DGet.rd h1, rt r2 c2 e3⟩
      · exact c2.elim
    · exact c2.elim
  · exact c2.elim
/-- d.get(e) -/
def get1S (x y : W) (S : List Ob) : Res W := match dctS x S, keyOf y with
  | some kvs, some k => .ok ((valW kvs k).getD (.d .none)) S
  | _, _ => .bad
def fSget1 (fa fb : FE) : FE := fun ρ S => (fa ρ S).bind fun x S1 => if (dctS x S1).isSome = true then (fb ρ S1).bind fun y S2 => get1S x y S2 else .bad
theorem isD_rd {H : Hp} {a : Addr} {vs : List (Key × V)} (h : Rd H a (.dK vs)) : IsD H a := .inl ⟨vs, h⟩
theorem q_sget1 (hu : X.A.units + 1 < cLine) (ha : PE X o (LE X Wc fa)) (hb : PE X b (LE X Wc fb)) (m : M1 X o "get" apos b cpos := by exact ⟨rfl, rfl, rfl, rfl⟩) : PE X (.Call (.Attribute o "get" apos) [b] [] cpos) (LE X Wc (fSget1 fa fb)) := PE.imp (pe_dget1 hu ha hb m) fun σ H Q h => by
  obtain ⟨F, D, m, ρ, S, r, c⟩ := h
  refine step r c fun F1 m1 x v S1 H1 l1 p1 r1 ex c1 => ?_
  split at c1
  · rename_i hi
    obtain ⟨kv0, hd0⟩ := Option.isSome_iff_exists.mp hi
    obtain ⟨a, vs0, rfl, h0, _⟩ := dctS_rep r1 hd0 ex
    refine ⟨a, rfl, isD_rd h0, ?_⟩
    refine step r1 c1 fun F2 m2 y u S2 H2 l2 p2 r2 ey c2 => ?_
    unfold get1S at c2
    split at c2
    · rename_i kvs k hd hk
      obtain ⟨a', vs, ea, h1, q1⟩ := dctS_rep r2 hd (RepW.mono l2 p2 ex)
      cases ea
      rw [keyOf_rep hk ey]
      refine ⟨_, DGet.rd h1, ?_⟩
      rcases valW_rep (k := k) q1 with ⟨e1, e2⟩ | ⟨x', v', e1, e2, e3⟩
      · rw [e2]; rw [e1] at c2; exact rt r2 c2 Dp.non
      · rw [e2]; rw [e1] at c2; exact rt r2 c2 e3
    · exact c2.elim
  · exact c1.elim
/-- d.get(e, f) -/
def get2S (x y z : W) (S : List Ob) : Res W := match dctS x S, keyOf y with
  | some kvs, some k => .ok ((valW kvs k).getD z) S
  | _, _ => .bad
def fSget2 (fa fb fc : FE) : FE := fun ρ S => (fa ρ S).bind fun x S1 => if (dctS x S1).isSome = true then (fb ρ S1).bind fun y S2 => (fc ρ S2).bind fun z S3 => get2S x y z S3 else .bad
theorem q_sget2 (hu : X.A.units + 1 < cLine) (ha : PE X o (LE X Wc fa)) (hb : PE X b (LE X Wc fb)) (hc : PE X e (LE X Wc fc)) (m : M2 X o "get" apos b e cpos := by exact ⟨rfl, rfl, rfl, rfl⟩) : PE X (.Call (.Attribute o "get" apos) [b, e] [] cpos) (LE X Wc (fSget2 fa fb fc)) := PE.imp (pe_dget2 hu ha hb hc m) fun σ H Q h => by
  obtain ⟨F, D, m, ρ, S, r, c⟩ := h
  refine step r c fun F1 m1 x v S1 H1 l1 p1 r1 ex c1 => ?_
  split at c1
  · rename_i hi
    obtain ⟨kv0, hd0⟩ := Option.isSome_iff_exists.mp hi
    obtain ⟨a, vs0, rfl, h0, _⟩ := dctS_rep r1 hd0 ex
    refine ⟨a, rfl, isD_rd h0, ?_⟩
    refine step r1 c1 fun F2 m2 y u S2 H2 l2 p2 r2 ey c2 => ?_
    refine step r2 c2 fun F3 m3 z w S3 H3 l3 p3 r3 ez c3 => ?_
    unfold get2S at c3
    split at c3
    · rename_i kvs k hd hk
      obtain ⟨a', vs, ea, h1, q1⟩ := dctS_rep r3 hd (RepW.mono (l2.trans l3) (List.IsPrefix.trans p2 p3) ex)
      cases ea
      rw [keyOf_rep hk ey]
      refine ⟨_, DGet.rd h1, ?_⟩
      rcases valW_rep (k := k) q1 with ⟨e1, e2⟩ | ⟨x', v', e1, e2, e3⟩
      · rw [e2]; rw [e1] at c3; exact rt r3 c3 ez
      · rw [e2]; rw [e1] at c3; exact rt r3 c3 e3
    · exact c3.elim
  · exact c1.elim
/-- e in d, e not in d -/
def inS (neg : Bool) (y x : W) (S : List Ob) : Res W := match dctS x S, keyOf y with
  | some kvs, some k => .ok (.d (.bool (neg ^^ (valW kvs k).isSome))) S
  | _, _ => .bad
def fSin (neg : Bool) (fb fa : FE) : FE := fun ρ S => (fb ρ S).bind fun y S1 => (fa ρ S1).bind fun x S2 => inS neg y x S2
theorem sin_imp {neg : Bool} {σ : St} {H : Hp} {Q : VK} (h : LE X Wc (fSin neg fb fa) σ H Q) : LE X Wc fb σ H fun y H1 => LE X Wc fa σ H1 fun x H2 => ∃ a o, x = .ref a ∧ DGet H2 a y o ∧ Q (.bl (neg ^^ o.isSome)) H2 := by
  obtain ⟨F, D, m, ρ, S, r, c⟩ := h
  refine step r c fun F1 m1 y u S1 H1 l1 p1 r1 ey c1 => ?_
  refine step r1 c1 fun F2 m2 x v S2 H2 l2 p2 r2 ex c2 => ?_
  unfold inS at c2
  split at c2
  · rename_i kvs k hd hk
    obtain ⟨a, vs, rfl, h1, q1⟩ := dctS_rep r2 hd ex
    refine ⟨a, valV vs k, rfl, ?_, ?_⟩
    · rw [keyOf_rep hk ey]; exact DGet.rd h1
    · rcases valW_rep (k := k) q1 with ⟨e1, e2⟩ | ⟨x', v', e1, e2, e3⟩
      · rw [e2]; rw [e1] at c2; exact rt r2 c2 (Dp.bl _)
      · rw [e2]; rw [e1] at c2; exact rt r2 c2 (Dp.bl _)
  · exact c2.elim
theorem q_sin (hu : X.A.units + 1 < cLine) (hb : PE X b (LE X Wc fb)) (ha : PE X o (LE X Wc fa)) (hm : behindInMarks .In o = false := by rfl) : PE X (.Compare b [.In] [o] pos) (LE X Wc (fSin false fb fa)) := PE.imp (pe_cmp (pc_din hu hb ha) hm) fun σ H Q h => by
  have := sin_imp h
  simp only [Bool.false_xor] at this
  exact this
theorem q_snotin (hu : X.A.units + 1 < cLine) (hb : PE X b (LE X Wc fb)) (ha : PE X o (LE X Wc fa)) (hm : behindInMarks .NotIn o = false := by rfl) : PE X (.Compare b [.NotIn] [o] pos) (LE X Wc (fSin true fb fa)) := PE.imp (pe_cmp (pc_dnotin hu hb ha) hm) fun σ H Q h => by
  have := sin_imp h
  simp only [Bool.true_xor] at this
  exact this
theorem t_sin (hu : X.A.units + 1 < cLine) (hb : PE X b (LE X Wc fb)) (ha : PE X o (LE X Wc fa)) (hm : behindInMarks .In o = false := by rfl) : PT X (.Compare b [.In] [o] pos) (LB X Wc (fT (fSin false fb fa))) := PT.imp (pt_cmp (pc_din hu hb ha) hm) fun σ H Q h => by
  have := sin_imp (t_imp h)
  simp only [Bool.false_xor] at this
  exact this
theorem t_snotin (hu : X.A.units + 1 < cLine) (hb : PE X b (LE X Wc fb)) (ha : PE X o (LE X Wc fa)) (hm : behindInMarks .NotIn o = false := by rfl) : PT X (.Compare b [.NotIn] [o] pos) (LB X Wc (fT (fSin true fb fa))) := PT.imp (pt_cmp (pc_dnotin hu hb ha) hm) fun σ H Q h => by
  have := sin_imp (t_imp h)
  simp only [Bool.true_xor] at this
  exact this
/-- d[e] = v -/
def putS (v x y : W) (ρ : List Sl) (S : List Ob) : Fl := match x with
  | .ref n => (match S[n]?, keyOf y with
    | some (.dct kvs), some k => if kvs.length < 16777216 then .nx ρ (S.set n (.dct (putW kvs k v))) else .bad
    | _, _ => .bad)
  | _ => .bad
def fSput (fv fx fy : FE) : FT := fun ρ S => fl (fv ρ S) ρ fun v S1 => fl (fx ρ S1) ρ fun x S2 => fl (fy ρ S2) ρ fun y S3 => putS v x y ρ S3
theorem s_sput {value : Expr} {pos' : Pos} {fv : FE} (hu : X.A.units + 1 < cLine) (ho : PE X o (LE X Wc fa)) (hk : PE X e (LE X Wc fb)) (hv : PE X value (LE X Wc fv)) (hs : swapsWith value (some (.Subscript o e pos')) pos.line X.env = pure false := by rfl) :
    PS X (.Assign [.Subscript o e pos'] value pos) (LS X Wc (fSput fv fa fb)) := PS.imp (ps_dput hu ho hk hv hs) fun D σ H h => by
  obtain ⟨F, Hd, m, ρ, S, r, c⟩ := h
  refine stepS r c fun F1 m1 v vv S1 H1 l1 p1 r1 e1 c1 => ?_
  refine stepS r1 c1 fun F2 m2 x w S2 H2 l2 p2 r2 e2 c2 => ?_
  refine stepS r2 c2 fun F3 m3 y u S3 H3 l3 p3 r3 e3 c3 => ?_
  cases x with
  | d x => exact c3.elim
  | ref n =>
    obtain ⟨a, ea, rfl⟩ := RepW.mono l3 p3 e2
    unfold putS at c3
    dsimp only at c3
    split at c3
    · rename_i kvs k es hk
      split at c3
      · rename_i hl
        obtain ⟨ho, h1, ⟨vs, rfl, q⟩, hfr, _⟩ := r3.b.st n a _ ea es
        have el := Paired.length q
        rw [keyOf_rep hk e3]
        exact ⟨a, _, rfl, DPut.k h1 (by rw [sizeLine_eq]; omega), c3 F3 m3 σ _ Le.refl (List.prefix_refl m3) (r3.put ea hfr ⟨_, rfl, putW_rep (RepW.mono (l2.trans l3) (List.IsPrefix.trans p2 p3) e1) q⟩)⟩
      · exact c3.elim
    · exact c3.elim
/-- x not in xs -/
def oNIn : W → W → List Ob → Res W := fun x y S => match x, y with
  | .d x, .d y => (match itemsD y with
    | some ds => if flatD x && ds.all flatD then .ok (.d (.bool (!inD x ds))) S else .bad
    | none => .bad)
  | _, _ => .bad
theorem f_nin : OpF X Wc (rIn X.K true) oNIn := by
  intro Fr Hd μ ρ S σ H x y v u Q r ex ey c
  unfold oNIn at c
  split at c
  · rename_i x y
    split at c
    · rename_i ds ei
      split at c
      · rename_i hh
        rw [Bool.and_eq_true] at hh
        obtain ⟨e1, e2⟩ := flat_rep ex hh.1
        have go : ∀ {p : Addr} {vs : List V}, (SqL X.K H p vs ∨ L2.SqT X.K H p vs) → DpAll X.K Fr vs ds → u = .ref p → rIn X.K true v u H Q := fun {p vs} hs hd eu => by
          obtain ⟨e3, e4⟩ := flats_rep hd hh.2
          refine ⟨p, vs, eu, hs, e2, e4, ?_⟩
          have : inV v vs = inD x ds := by
            unfold inV inD
            rw [e3, e1, List.any_map]
            rfl
          rw [show (if true = true then !inV v vs else inV v vs) = !inD x ds from by rw [this]; rfl]
          exact rt r c (Dp.bl _)
        cases y with
        | tuple ys => cases ei; cases ey with | @tup a vs _ h1 h2 => exact go (.inr (Le.sqT r.b.fr h1)) h2 rfl
        | list ys => cases ei; cases ey with | @lst a vs _ h1 h2 => exact go (.inl (Le.sqL r.b.fr h1)) h2 rfl
        | none => cases ei
        | bool _ => cases ei
        | int _ => cases ei
        | str _ => cases ei
        | dict _ => cases ei
      · exact c.elim
    · exact c.elim
  · exact c.elim
theorem q_nin {a : Expr} (ha : PE X a (LE X Wc fa)) (hb : PE X b (LE X Wc fb)) (hm : behindInMarks .NotIn b = false := by rfl) : PE X (.Compare a [.NotIn] [b] pos) (LE X Wc (fBin oNIn fa fb)) := q_cmp op_notIn_seq f_nin ha hb hm
theorem t_nin {a : Expr} (ha : PE X a (LE X Wc fa)) (hb : PE X b (LE X Wc fb)) (hm : behindInMarks .NotIn b = false := by rfl) : PT X (.Compare a [.NotIn] [b] pos) (LB X Wc (fT (fBin oNIn fa fb))) := q_tc op_notIn_seq f_nin ha hb hm
/-- x.extend(a new list) -/
def fExt (i : Nat) (fo : FO) : FX := fun ρ S => match ρ[i]? with
  | some (.own (.lst xs)) => (fo ρ S).bind fun o S1 => (match o with
    | .lst ys => if xs.length + ys.length ≤ 16777216 then .ok (.d .none, ρ.set i (.own (.lst (xs ++ ys)))) S1 else .bad
    | _ => .bad)
  | _ => .bad
theorem x_ext {i : Nat} {x : Str} {p' : Pos} {fo : FO} (hN : X.N[i]? = some x) (hv : Vis X.env.scope x) (ha : PE X e (LO X Wc fo)) (hd : (x == ("__debug__" : Str)) = false := by decide) (hcd : (x == ("__classdict__" : Str)) = false := by decide)
    (hbase : attributeBase (.Name x p') "extend" X.env (eval (.Name x p') X.env) = eval (.Name x p') X.env := by rfl)
    (hfew : ((backTo cpos (starEach [e] X.env)).all (fun x => !x.1) && (backToKw cpos (keywordEach [] X.env)).all (fun x => x.1.isSome)
      && decide (([e] : List Expr).length + ([] : List Keyword).length + (if ([] : List Keyword).isEmpty then 0 else 1) < 30)) = true := by rfl)
    (hline : (apos.endLine == cpos.line) = true := by rfl) (hs : starEach [e] X.env = (false, eval e X.env) :: starEach [] X.env := by rfl) (hplain : (backTo cpos (starEach [] X.env)).any (·.1) = false := by rfl) :
    PE X (.Call (.Attribute (.Name x p') "extend" apos) [e] [] cpos) (LX X Wc (fExt i fo)) :=
  PE.imp (pe_bm PySem.F.plainAttrs_list PySem.F.slot_list_extend PySem.F.type_list_extend mt_extend (pe_var hN hv hd hcd) (pa_cons ha pa_nil hs) hbase hfew hline hs hplain) fun σ H Q h => by
  obtain ⟨F, D, m, ρ, S, r, c⟩ := h
  unfold fExt at c
  split at c
  · rename_i xs ex
    obtain ⟨a, vs, ea, h1, q1⟩ := own_lst r ex
    refine ⟨_, ea, .inl ⟨rfl, vs, .inl (.inl h1)⟩, ?_⟩
    refine stepX r c fun F1 m1 o v S1 H1 l1 p1 r1 ey c1 => ?_
    obtain ⟨a', vs', ea', h1', q1'⟩ := own_lst r1 ex
    rw [ea] at ea'
    cases ea'
    obtain ⟨p, ho, rfl, k1, k2, k3⟩ := ey
    split at c1
    · rename_i ys
      obtain ⟨us, rfl, q2⟩ := k2
      split at c1
      · rename_i hl
        refine ⟨a, p, vs', us, rfl, rfl, h1', k1, by rw [← Paired.length q1', ← Paired.length q2, sizeLine_eq]; exact hl, ?_⟩
        exact c1 F1 m1 .non _ Le.refl (List.prefix_refl m1) (r1.putOwn ex ea ⟨_, rfl, paired_app q1' q2⟩) Dp.non
      · exact c1.elim
    · exact c1.elim
  · exact c.elim
/-- name = [..] on one line, into the store -/
theorem setS_imp {i : Nat} {fo : FO} {D : Ends} {σ : St} {H : Hp} (h : LS X Wc (fSet i (fSto fo)) D σ H) : tAsg (LO X Wc fo) (gName i) D σ H := by
  obtain ⟨F, Hd, m, ρ, S, r, c⟩ := h
  have e : fSet i (fSto fo) ρ S = fl (fo ρ S) ρ fun o S1 => .nx (ρ.set i (.w (.ref S1.length))) (S1 ++ [o]) := by
    show fl ((fo ρ S).bind _) ρ _ = _
    cases fo ρ S <;> rfl
  rw [e] at c
  refine stepS r c fun F1 m1 x v S1 H1 l1 p1 r1 e1 c1 => ?_
  obtain ⟨p, ho, rfl, h1, h2, h3⟩ := e1
  refine c1 F1 (m1 ++ [p]) _ H1 Le.refl (List.prefix_append m1 [p]) ((r1.sto h1 h2 h3).setW ⟨p, ?_, rfl⟩)
  rw [← r1.b.len]
  simp
theorem s_setLcS {i : Nat} {y : Str} {py spos : Pos} {elt iter : Expr} {ifs : List Expr} {scope : Scope} {own : List (Str × Nat)} {fi : FA} {g : FG} {t : FB} {fe : FE} (hc : X.calm = true) (hN : X.N.Nodup) (hy : X.N[i]? = some y) (hyl : X.env.scope.names.lookup y = some .local)
    (hsw : swapsWith (.ListComp elt [⟨tg, iter, ifs, 0⟩] scope pos) (some (.Name y py)) spos.line X.env = pure true) (hgo : GO (own.map (·.2)) g) (hi : PI X tg iter (LI X Wc fi)) (ok : BlkOk X.N X.env.scope scope own)
    (hg : ∀ (s : Shared) (H : Hp) (C : Addr) (cl : List (Str × Addr)) (fp : List Addr), PG (X.blk s H scope (compEnvC scope cl C X.env) fp) tg (liftG X.K (own.map (·.2)) g))
    (ht : ∀ (s : Shared) (H : Hp) (C : Addr) (cl : List (Str × Addr)) (fp : List Addr), PTs (X.blk s H scope (compEnvC scope cl C X.env) fp) ifs (LB X W0 t))
    (he : ∀ (s : Shared) (H : Hp) (C : Addr) (cl : List (Str × Addr)) (fp : List Addr), PE (X.blk s H scope (compEnvC scope cl C X.env) fp) elt (LE X W0 fe)) (hs : ∀ x, foldedSetIterable iter X.env x = pure x := by intro _; rfl) :
    PS X (.Assign [.Name y py] (.ListComp elt [⟨tg, iter, ifs, 0⟩] scope pos) spos) (LS X Wc (fSet i (fSto (fLc fi (own.map (·.2)) g t fe)))) := PS.imp (ps_setLc hc hN hy hyl hsw hi ok hg ht he hs) fun D σ H h => by
  have q := setS_imp h
  exact lc_imp hgo q
end
section
variable {ρ : List Sl} {S : List Ob} {fa fb fc fv fx fy : FE} {fo : FO}
@[simp] theorem e_Sget : fSget fa fb ρ S = (fa ρ S).bind fun x S1 => (fb ρ S1).bind fun y S2 => getS x y S2 := rfl
@[simp] theorem e_Sget1 : fSget1 fa fb ρ S = (fa ρ S).bind fun x S1 => if (dctS x S1).isSome = true then (fb ρ S1).bind fun y S2 => get1S x y S2 else .bad := rfl
@[simp] theorem e_Sget2 : fSget2 fa fb fc ρ S = (fa ρ S).bind fun x S1 => if (dctS x S1).isSome = true then (fb ρ S1).bind fun y S2 => (fc ρ S2).bind fun z S3 => get2S x y z S3 else .bad := rfl
@[simp] theorem e_Sin {neg : Bool} : fSin neg fb fa ρ S = (fb ρ S).bind fun y S1 => (fa ρ S1).bind fun x S2 => inS neg y x S2 := rfl
@[simp] theorem e_Sput : fSput fv fx fy ρ S = fl (fv ρ S) ρ fun v S1 => fl (fx ρ S1) ρ fun x S2 => fl (fy ρ S2) ρ fun y S3 => putS v x y ρ S3 := rfl
@[simp] theorem e_Ext {i : Nat} {xs : List W} (h : ρ[i]? = some (.own (.lst xs))) : fExt i fo ρ S = (fo ρ S).bind fun o S1 => (match o with
    | .lst ys => if xs.length + ys.length ≤ 16777216 then .ok (.d .none, ρ.set i (.own (.lst (xs ++ ys)))) S1 else .bad
    | _ => .bad) := by
  unfold fExt
  rw [h]
theorem dctS_at {n : Nat} {kvs : List (Key × W)} (h : S[n]? = some (.dct kvs)) : dctS (.ref n) S = some kvs := by
  unfold dctS
  dsimp only
  rw [h]
theorem e_getS {n : Nat} {kvs : List (Key × W)} {k : Int} {x : W} (h : S[n]? = some (.dct kvs)) (hx : valW kvs (.inl k) = some x) : getS (.ref n) (.d (.int k)) S = .ok x S := by
  unfold getS
  rw [dctS_at h]
  show getD kvs (.d (.int k)) S = _
  unfold getD keyOf
  dsimp only
  rw [hx]
theorem e_get1S {n : Nat} {kvs : List (Key × W)} {k : Int} (h : S[n]? = some (.dct kvs)) : get1S (.ref n) (.d (.int k)) S = .ok ((valW kvs (.inl k)).getD (.d .none)) S := by
  unfold get1S
  rw [dctS_at h]
  rfl
theorem e_get2S {n : Nat} {kvs : List (Key × W)} {k : Int} {z : W} (h : S[n]? = some (.dct kvs)) : get2S (.ref n) (.d (.int k)) z S = .ok ((valW kvs (.inl k)).getD z) S := by
  unfold get2S
  rw [dctS_at h]
  rfl
theorem e_inS {n : Nat} {neg : Bool} {kvs : List (Key × W)} {k : Int} (h : S[n]? = some (.dct kvs)) : inS neg (.d (.int k)) (.ref n) S = .ok (.d (.bool (neg ^^ (valW kvs (.inl k)).isSome))) S := by
  unfold inS
  rw [dctS_at h]
  rfl
theorem e_putS {n : Nat} {kvs : List (Key × W)} {k : Int} {v : W} (h : S[n]? = some (.dct kvs)) (hl : kvs.length < 16777216) : putS v (.ref n) (.d (.int k)) ρ S = .nx ρ (S.set n (.dct (putW kvs (.inl k) v))) := by
  unfold putS
  dsimp only
  rw [h]
  exact if_pos hl
theorem e_ninT {x : PyData} {ds : List PyData} (h : flatD x = true) (h2 : ds.all flatD = true) : oNIn (.d x) (.d (.tuple ds)) S = .ok (.d (.bool (!inD x ds))) S := by
  show (if flatD x && ds.all flatD then Res.ok (W.d (.bool (!inD x ds))) S else .bad) = _
  rw [h, h2]; rfl
theorem e_ninL {x : PyData} {ds : List PyData} (h : flatD x = true) (h2 : ds.all flatD = true) : oNIn (.d x) (.d (.list ds)) S = .ok (.d (.bool (!inD x ds))) S := by
  show (if flatD x && ds.all flatD then Res.ok (W.d (.bool (!inD x ds))) S else .bad) = _
  rw [h, h2]; rfl
end
end L2.Q
/-! Layer Q, part X: defs that call themselves; texts: x[i], in, <, +, for, len. -/
namespace L2.Q
open PySem PySem.Spec PyProof.Rows
/-- a reading that says nothing is kept by every def -/
theorem fnq_bad {P : Program} {w : World} {K : PySem.W.Frag} {mg : Str → Option Value} {base : Heap} {k : Nat} {f : Addr} {fd : FuncData} {ps : List Str} : FnQ P w K mg base k f fd ps (fun _ _ => .bad) :=
  ⟨fun vs H Q E h => h.1, fun A outer s H args us vs Q E hr e hb r h => by
    obtain ⟨_, Fr, Hd, μ, ws, S, b, e, c⟩ := h
    exact c.elim⟩
section
variable {X : Cx} {Wc : WX} {a b e : Expr} {fa fb : FE} {pos p : Pos}
/-! ### texts -/
abbrev ch1 (c : Nat) : Str := ⟨#[c]⟩
def oIxZ : W → W → List Ob → Res W := fun x y S => match x, y with
  | .d (.str z), .d (.int i) => (match atI z.cps.toList i with
    | some c => if z.length ≤ 16777216 then .ok (.d (.str (ch1 c))) S else .bad
    | none => .bad)
  | x, y => oIx x y S
theorem f_ixZ : OpF X Wc (rIx X.K) oIxZ := by
  intro Fr Hd μ ρ S σ H x y v u Q r ex ey c
  unfold oIxZ at c
  split at c
  · rename_i z i
    split at c
    · rename_i k hk
      split at c
      · rename_i hl
        cases ex
        cases ey
        exact .inr (.inr ⟨z, i, k, rfl, rfl, by rw [sizeLine_eq]; exact hl, hk, rt r c (Dp.str _)⟩)
      · exact c.elim
    · exact c.elim
  · exact f_ix (Wc := Wc) Fr Hd μ ρ S σ H _ _ v u Q r ex ey c
theorem q_ixZ (ha : PE X a (LE X Wc fa)) (hb : PE X b (LE X Wc fb)) (hs : PlainIx b := by exact fun _ _ => rfl) : PE X (.Subscript a b pos) (LE X Wc (fBin oIxZ fa fb)) := PE.imp (pe_ix ix_seq ha hb hs) fun _ _ _ h => bin_imp f_ixZ h
/-- x in y of texts: at some place -/
def isIn (i j : Str) : Bool := !(Builtin.Str.occurrences j i 0 j.length 1).isEmpty
def oInZ : W → W → List Ob → Res W := fun x y S => match x, y with
  | .d (.str i), .d (.str j) => .ok (.d (.bool (isIn i j))) S
  | x, y => oIn x y S
def oNInZ : W → W → List Ob → Res W := fun x y S => match x, y with
  | .d (.str i), .d (.str j) => .ok (.d (.bool (!isIn i j))) S
  | x, y => oNIn x y S
theorem f_inZ : OpF X Wc (fun x y H Q => (∃ i j, x = .str i ∧ y = .str j ∧ Q (.bl (!(Builtin.Str.occurrences j i 0 j.length 1).isEmpty)) H) ∨ rIn X.K false x y H Q) oInZ := by
  intro Fr Hd μ ρ S σ H x y v u Q r ex ey c
  unfold oInZ at c
  split at c
  · rename_i i j
    cases ex
    cases ey
    exact .inl ⟨i, j, rfl, rfl, rt r c (Dp.bl _)⟩
  · exact .inr (f_in (Wc := Wc) Fr Hd μ ρ S σ H _ _ v u Q r ex ey c)
theorem f_ninZ : OpF X Wc (fun x y H Q => (∃ i j, x = .str i ∧ y = .str j ∧ Q (.bl (!(!(Builtin.Str.occurrences j i 0 j.length 1).isEmpty))) H) ∨ rIn X.K true x y H Q) oNInZ := by
  intro Fr Hd μ ρ S σ H x y v u Q r ex ey c
  unfold oNInZ at c
  split at c
  · rename_i i j
    cases ex
    cases ey
    exact .inl ⟨i, j, rfl, rfl, rt r c (Dp.bl _)⟩
  · exact .inr (f_nin (Wc := Wc) Fr Hd μ ρ S σ H _ _ v u Q r ex ey c)
theorem q_inZ (ha : PE X a (LE X Wc fa)) (hb : PE X b (LE X Wc fb)) (hm : behindInMarks .In b = false := by rfl) : PE X (.Compare a [.In] [b] pos) (LE X Wc (fBin oInZ fa fb)) := q_cmp (OpR.or op_in_str op_in_seq) f_inZ ha hb hm
theorem t_inZ (ha : PE X a (LE X Wc fa)) (hb : PE X b (LE X Wc fb)) (hm : behindInMarks .In b = false := by rfl) : PT X (.Compare a [.In] [b] pos) (LB X Wc (fT (fBin oInZ fa fb))) := q_tc (OpR.or op_in_str op_in_seq) f_inZ ha hb hm
theorem q_ninZ (ha : PE X a (LE X Wc fa)) (hb : PE X b (LE X Wc fb)) (hm : behindInMarks .NotIn b = false := by rfl) : PE X (.Compare a [.NotIn] [b] pos) (LE X Wc (fBin oNInZ fa fb)) := q_cmp (OpR.or op_notIn_str op_notIn_seq) f_ninZ ha hb hm
theorem t_ninZ (ha : PE X a (LE X Wc fa)) (hb : PE X b (LE X Wc fb)) (hm : behindInMarks .NotIn b = false := by rfl) : PT X (.Compare a [.NotIn] [b] pos) (LB X Wc (fT (fBin oNInZ fa fb))) := q_tc (OpR.or op_notIn_str op_notIn_seq) f_ninZ ha hb hm
/-- < -/
def oLtZ : W → W → List Ob → Res W := fun x y S => match x, y with
  | .d (.str i), .d (.str j) => .ok (.d (.bool (decide (i.cps.toList < j.cps.toList)))) S
  | x, y => oLt x y S
theorem f_ltZ : OpF X Wc (fun x y H Q => (∃ i j, x = .str i ∧ y = .str j ∧ Q (.bl (decide (i.cps.toList < j.cps.toList))) H) ∨ rI0 (fun i j => .bl (decide (i < j))) x y H Q) oLtZ := by
  intro Fr Hd μ ρ S σ H x y v u Q r ex ey c
  unfold oLtZ at c
  split at c
  · rename_i i j
    cases ex
    cases ey
    exact .inl ⟨i, j, rfl, rfl, rt r c (Dp.bl _)⟩
  · exact .inr (f_lt (Wc := Wc) Fr Hd μ ρ S σ H _ _ v u Q r ex ey c)
theorem q_ltZ (ha : PE X a (LE X Wc fa)) (hb : PE X b (LE X Wc fb)) : PE X (.Compare a [.Lt] [b] pos) (LE X Wc (fBin oLtZ fa fb)) := q_cmp (OpR.or op_lt_str op_lt) f_ltZ ha hb (nomark _)
theorem t_ltZ (ha : PE X a (LE X Wc fa)) (hb : PE X b (LE X Wc fb)) : PT X (.Compare a [.Lt] [b] pos) (LB X Wc (fT (fBin oLtZ fa fb))) := q_tc (OpR.or op_lt_str op_lt) f_ltZ ha hb (nomark _)
/-- + -/
def oAddZ : W → W → List Ob → Res W := fun x y S => match x, y with
  | .d (.str i), .d (.str j) => if i.length + j.length ≤ 16777216 then .ok (.d (.str (i ++ j))) S else .bad
  | x, y => oAddA x y S
theorem f_addZ : OpF X Wc (fun x y H Q => (∃ i j, x = .str i ∧ y = .str j ∧ i.length + j.length ≤ sizeLine ∧ Q (.str (i ++ j)) H) ∨ (rCatS X.K x y H Q ∨ (rI0 (fun i j => .int (i + j)) x y H Q ∨ rCatK X.K x y H Q))) oAddZ := by
  intro Fr Hd μ ρ S σ H x y v u Q r ex ey c
  unfold oAddZ at c
  split at c
  · rename_i i j
    split at c
    · rename_i hl
      cases ex
      cases ey
      exact .inl ⟨i, j, rfl, rfl, by rw [sizeLine_eq]; exact hl, rt r c (Dp.str _)⟩
    · exact c.elim
  · exact .inr (f_addA (Wc := Wc) Fr Hd μ ρ S σ H _ _ v u Q r ex ey c)
theorem q_addZ (ha : PE X a (LE X Wc fa)) (hb : PE X b (LE X Wc fb)) : PE X (.BinOp a .Add b pos) (LE X Wc (fBin oAddZ fa fb)) := q_op (OpR.or op_add_str (OpR.or op_catS op_addQ)) f_addZ ha hb
/-- for c in text -/
def chrOf (x : W) (S : List Ob) : Res (List W) := match x with
  | .d (.str z) => if z.cps.size ≤ 16777216 then .ok (z.cps.toList.map fun c => .d (.str (ch1 c))) S else .bad
  | _ => .bad
def fChr (fa : FE) : FA := fun ρ S => (fa ρ S).bind chrOf
theorem i_chr {tg l : Expr} (h : PE X l (LE X Wc fa)) : PI X tg l (LI X Wc (fChr fa)) := PI.imp (pi_str h) fun σ H Q h => by
  obtain ⟨F, Hd, m, ρ, S, r, c⟩ := h
  refine stepI r c fun F1 m1 x v S1 H1 l1 p1 r1 e1 c1 => ?_
  unfold chrOf at c1
  split at c1
  · rename_i z
    split at c1
    · rename_i hl
      cases e1
      refine ⟨z, rfl, c1 F1 Hd m1 H1 _ Le.refl Le.refl (List.prefix_refl m1) r1 ?_ (by rw [List.length_map, sizeLine_eq]; simpa using hl)⟩
      have hw := walk_str (z := z)
      rw [show (z.cps.toList.map fun c => W.d (.str (ch1 c))).length = z.cps.size by simp]
      refine Walk.mono hw (fun _ _ => True.intro) fun i H v H' hi _ y => ?_
      obtain ⟨rfl, c, hc, rfl⟩ := y
      refine ⟨.d (.str (ch1 c)), ?_, .inl ⟨rfl, Dp.str _⟩⟩
      rw [List.getElem?_map]
      have : z.cps.toList[i]? = some c := by rw [← hc]; simp
      rw [this]; rfl
    · exact c1.elim
  · exact c1.elim
/-- len of a text -/
theorem q_lenS (hg : Gl X "len") (hm : X.mg "len" = none) (h : PE X e (LE X Wc fa)) (hs : starEach [e] X.env = (false, eval e X.env) :: starEach [] X.env := by rfl) (hpl : (backTo pos (starEach [] X.env)).any (·.1) = false := by rfl) : PE X (.Call (.Name "len" p) [e] [] pos) (LE X Wc (fLenS fa)) :=
  PE.imp (pe_callB call_len_str hg hm PySem.boot_len (pa_cons h pa_nil hs) (he := hs) (hpl := hpl)) fun σ H Q h => by
  obtain ⟨F, D, m, ρ, S, r0, c⟩ := h
  refine step r0 c fun F1 m1 x v S1 H1 l1 p1 r1 e1 c1 => ?_
  split at c1
  · rename_i z
    split at c1
    · rename_i hl
      cases e1
      exact ⟨z, rfl, by rw [sizeLine_eq]; exact hl, rt r1 c1 (Dp.int _)⟩
    · exact c1.elim
  · exact c1.elim
end
def fcStr (x z : Str) : FbT := fun K => (He.Fa.str x z).ok K
section
variable {S : List Ob} {ρ : List Sl} {fa : FE}
@[simp] theorem e_Chr : fChr fa ρ S = (fa ρ S).bind chrOf := rfl
@[simp] theorem e_LenS : fLenS fa ρ S = (fa ρ S).bind fun x S1 => match x with
  | .d (.str z) => if z.length ≤ 16777216 then .ok (.d (.int z.length)) S1 else .bad
  | _ => .bad := rfl
@[simp] theorem e_inZs (i j : Str) : oInZ (.d (.str i)) (.d (.str j)) S = .ok (.d (.bool (isIn i j))) S := rfl
@[simp] theorem e_ninZs (i j : Str) : oNInZ (.d (.str i)) (.d (.str j)) S = .ok (.d (.bool (!isIn i j))) S := rfl
@[simp] theorem e_ltZs (i j : Str) : oLtZ (.d (.str i)) (.d (.str j)) S = .ok (.d (.bool (decide (i.cps.toList < j.cps.toList)))) S := rfl
theorem e_inZt {x : PyData} {ds : List PyData} (h : flatD x = true) (h2 : ds.all flatD = true) : oInZ (.d x) (.d (.tuple ds)) S = .ok (.d (.bool (inD x ds))) S := by
  have : oInZ (.d x) (.d (.tuple ds)) S = oIn (.d x) (.d (.tuple ds)) S := by cases x <;> rfl
  rw [this, e_inT h h2]
theorem e_ninZt {x : PyData} {ds : List PyData} (h : flatD x = true) (h2 : ds.all flatD = true) : oNInZ (.d x) (.d (.tuple ds)) S = .ok (.d (.bool (!inD x ds))) S := by
  have : oNInZ (.d x) (.d (.tuple ds)) S = oNIn (.d x) (.d (.tuple ds)) S := by cases x <;> rfl
  rw [this, e_ninT h h2]
theorem e_ninZl {x : PyData} {ds : List PyData} (h : flatD x = true) (h2 : ds.all flatD = true) : oNInZ (.d x) (.d (.list ds)) S = .ok (.d (.bool (!inD x ds))) S := by
  have : oNInZ (.d x) (.d (.list ds)) S = oNIn (.d x) (.d (.list ds)) S := by cases x <;> rfl
  rw [this, e_ninL h h2]
end
end L2.Q
/-! Layer Q, part Y: instances of the program's classes: fields, methods, made anew. -/
namespace L2.Q
open PySem PySem.Spec PyProof.Rows
/-! ### fields -/
def putFw (f : Str) (v : W) : List (Str × W) → List (Str × W)
  | [] => [(f, v)]
  | (g, x) :: r => if g = f then (g, v) :: r else (g, x) :: putFw f v r
def fldOf (f : Str) : List (Str × W) → Option W
  | [] => none
  | (g, x) :: r => if g = f then some x else fldOf f r
section
variable {K : PySem.W.Frag} {Fr : Hp} {μ : List Addr}
theorem putF_rep {f : Str} {x : W} {v : V} (e : RepW K Fr μ x v) : ∀ {fs : List (Str × W)} {vs : List (Str × V)}, RepFs K Fr μ fs vs → RepFs K Fr μ (putFw f x fs) (putF f v vs)
  | _, _, .nil => .cons ⟨rfl, e⟩ .nil
  | (g, y) :: r, (g', u) :: t, .cons ⟨q, w⟩ h => by
    have q : g = g' := q
    subst q
    show RepFs K Fr μ (if g = f then (g, x) :: r else (g, y) :: putFw f x r) (if g = f then (g, v) :: t else (g, u) :: putF f v t)
    by_cases hg : g = f
    · rw [if_pos hg, if_pos hg]; exact .cons ⟨rfl, e⟩ h
    · rw [if_neg hg, if_neg hg]; exact .cons ⟨rfl, w⟩ (putF_rep e h)
theorem fld_some {f : Str} {x : W} : ∀ {fs : List (Str × W)} {vs : List (Str × V)}, RepFs K Fr μ fs vs → fldOf f fs = some x → ∃ v, vs.lookup f = some v ∧ RepW K Fr μ x v
  | _, _, .nil, e => by cases e
  | (g, y) :: r, (g', u) :: t, .cons ⟨q, w⟩ h, e => by
    have q : g = g' := q
    subst q
    have e : (if g = f then some y else fldOf f r) = some x := e
    by_cases hg : g = f
    · rw [if_pos hg] at e
      cases e
      exact ⟨u, by rw [List.lookup, show (f == g) = true from beq_iff_eq.mpr hg.symm], w⟩
    · rw [if_neg hg] at e
      obtain ⟨v, h1, h2⟩ := fld_some h e
      exact ⟨v, by rw [List.lookup, show (f == g) = false from beq_eq_false_iff_ne.mpr fun z => hg z.symm]; exact h1, h2⟩
theorem fld_none {f : Str} : ∀ {fs : List (Str × W)} {vs : List (Str × V)}, RepFs K Fr μ fs vs → fldOf f fs = none → vs.lookup f = none
  | _, _, .nil, _ => rfl
  | (g, y) :: r, (g', u) :: t, .cons ⟨q, w⟩ h, e => by
    have q : g = g' := q
    subst q
    have e : (if g = f then some y else fldOf f r) = none := e
    by_cases hg : g = f
    · rw [if_pos hg] at e; cases e
    · rw [if_neg hg] at e
      rw [List.lookup, show (f == g) = false from beq_eq_false_iff_ne.mpr fun z => hg z.symm]
      exact fld_none h e
end
/-! ### e.f, e.f = v -/
def insAt (c : Str) (x : W) (S : List Ob) : Option (Nat × List (Str × W)) := match x with
  | .ref n => (match S[n]? with
    | some (.ins c' fs) => if c' = c then some (n, fs) else none
    | _ => none)
  | _ => none
section
variable {X : Cx} {Wc : WX} {o e b value : Expr} {fa fb fv : FE} {pos apos cpos pos' : Pos} {c f : Str}
theorem insAt_rep {Fr Hd : Hp} {μ : List Addr} {ρ : List Sl} {S : List Ob} {σ : St} {H : Hp} (r : R X.K Fr Hd μ ρ S σ H) {x : W} {v : V} {n : Nat} {fs : List (Str × W)} (h : insAt c x S = some (n, fs)) (e : RepW X.K Fr μ x v) :
    ∃ a dx vs, x = .ref n ∧ v = .ref a ∧ μ[n]? = some a ∧ S[n]? = some (.ins c fs) ∧ H a = some (.ins (He.ga X.K c) dx vs) ∧ RepFs X.K Fr μ fs vs ∧ Fr a = none := by
  cases x with
  | d x => cases h
  | ref k =>
    obtain ⟨a, ea, rfl⟩ := e
    unfold insAt at h
    dsimp only at h
    split at h
    · rename_i c' fs' es
      split at h
      · rename_i hc
        subst hc
        cases h
        obtain ⟨ho, h1, ⟨dx, vs, rfl, q⟩, hf, _⟩ := r.b.st _ a _ ea es
        exact ⟨a, dx, vs, rfl, rfl, ea, es, h1, q, hf⟩
      · cases h
    · cases h
def fldW (c f : Str) (x : W) (S : List Ob) : Res W := match insAt c x S with
  | some (_, fs) => (match fldOf f fs with
    | some w => .ok w S
    | none => .bad)
  | none => .bad
def fFld (c f : Str) (fa : FE) : FE := fun ρ S => (fa ρ S).bind (fldW c f)
theorem q_fld (hc : Cls X.K (He.ga X.K c)) (hn : NoAttr X.K (He.ga X.K c) f) (ha : PE X e (LE X Wc fa)) (hb : attributeBase e f X.env (eval e X.env) = eval e X.env := by rfl) : PE X (.Attribute e f pos) (LE X Wc (fFld c f fa)) := PE.imp (pe_fld ha hb) fun σ H Q h => by
  obtain ⟨F, D, m, ρ, S, r, c0⟩ := h
  refine step r c0 fun F1 m1 x v S1 H1 l1 p1 r1 ex c1 => ?_
  unfold fldW at c1
  split at c1
  · rename_i n fs hi
    obtain ⟨a, dx, vs, rfl, rfl, ea, es, h1, q, hf⟩ := insAt_rep r1 hi ex
    split at c1
    · rename_i w hw
      obtain ⟨v, h2, h3⟩ := fld_some q hw
      exact ⟨a, _, dx, vs, v, rfl, h1, hc, hn, h2, rt r1 c1 h3⟩
    · exact c1.elim
  · exact c1.elim
/-- o.f = v -/
def setF (c f : Str) (v x : W) (ρ : List Sl) (S : List Ob) : Fl := match insAt c x S with
  | some (n, fs) => if fs.length < 900 then .nx ρ (S.set n (.ins c (putFw f v fs))) else .bad
  | none => .bad
def fPutF (c f : Str) (fv fa : FE) : FT := fun ρ S => fl (fv ρ S) ρ fun v S1 => fl (fa ρ S1) ρ fun x S2 => setF c f v x ρ S2
theorem s_fld (hc : Cls X.K (He.ga X.K c)) (hn : NoAttr X.K (He.ga X.K c) f) (ha : PE X o (LE X Wc fa)) (hv : PE X value (LE X Wc fv)) (hs : swapsWith value (some (.Attribute o f pos')) pos.line X.env = pure false := by rfl) :
    PS X (.Assign [.Attribute o f pos'] value pos) (LS X Wc (fPutF c f fv fa)) := PS.imp (ps_fld ha hv hs) fun D σ H h => by
  obtain ⟨F, Hd, m, ρ, S, r, c0⟩ := h
  refine stepS r c0 fun F1 m1 v vv S1 H1 l1 p1 r1 e1 c1 => ?_
  refine stepS r1 c1 fun F2 m2 x w S2 H2 l2 p2 r2 e2 c2 => ?_
  unfold setF at c2
  split at c2
  · rename_i n fs hi
    obtain ⟨a, dx, vs, rfl, rfl, ea, es, h1, q, hf⟩ := insAt_rep r2 hi e2
    split at c2
    · rename_i hl
      have el := Paired.length q
      exact ⟨a, _, dx, vs, rfl, h1, hc, hn, by omega, c2 F2 m2 σ _ Le.refl (List.prefix_refl m2) (r2.putT ea hf ⟨dx, _, rfl, putF_rep (RepW.mono l2 p2 e1) q⟩ rfl)⟩
    · exact c2.elim
  · exact c2.elim
end
/-! ### o.f, o.g, .. = a tuple -/
def gAttr (K : PySem.W.Frag) (to : TE) (f : Str) : TG := fun v σ H Q => to σ H fun x H1 => ∃ a C dx fs, x = .ref a ∧ H1 a = some (.ins C dx fs) ∧ Cls K C ∧ NoAttr K C f ∧ fs.length < 1000 ∧ Q σ (upd H1 a (.ins C dx (putF f v fs)))
theorem pg_attr {X : Cx} {o : Expr} {to : TE} {f : Str} {pos : Pos} (ho : PE X o to) : PG X (.Attribute o f pos) (gAttr X.K to f) := by
  refine ⟨fun pins s σ H v u Q I r h => ?_⟩
  rw [assign_Attribute]
  refine wpAny_bind (wpAny_holding (thn (ho.run pins s σ H _ I h) fun ov s1 ⟨x, H1, I1, r1, a, C, dx, fs, ex, ea, c, n, l, q1⟩ => ?_))
  subst ex
  obtain rfl : ov = Value.ref a := r1
  refine wpAny_bind (wpAny_standAt (wpAny_bind (wpAny_holding (setattr_ok I1 ea c n l r fun s2 I2 => ?_))))
  exact wpAny_release ⟨σ, _, I2, q1⟩
/-- the targets o.f, one after another, take values -/
def putsF (c : Str) (n : Nat) : List Str → List W → List Ob → Option (List Ob)
  | [], [], S => some S
  | f :: fs, v :: vs, S => (match S[n]? with
    | some (.ins c' xs) => if c' = c ∧ xs.length < 900 then putsF c n fs vs (S.set n (.ins c (putFw f v xs))) else none
    | _ => none)
  | _, _, _ => none
section
variable {X : Cx} {Wc : WX} {o e b value : Expr} {fa fb fv : FE} {pos apos cpos pos' : Pos} {c f : Str}
def gAttrs (X : Cx) (Wc : WX) (fa : FE) : List Str → TGs
  | [] => gNil
  | f :: fs => gCons (gAttr X.K (LE X Wc fa) f) (gAttrs X Wc fa fs)
/-- the targets that a name's fields are -/
def attrs (x : Str) : List (Str × Pos × Pos) → List Expr
  | [] => []
  | (f, p, q) :: r => .Attribute (.Name x q) f p :: attrs x r
theorem pgs_attrs {x : Str} (ha : ∀ q : Pos, PE X (.Name x q) (LE X Wc fa)) (hs : ∀ (f : Str) (p q : Pos) (r : List (Str × Pos × Pos)), (assignEach (.Attribute (.Name x q) f p :: attrs x r) X.env).map (·.2) = assign (.Attribute (.Name x q) f p) X.env :: (assignEach (attrs x r) X.env).map (·.2) := by intro f p q r; rfl) :
    ∀ ts : List (Str × Pos × Pos), PGs X (attrs x ts) (gAttrs X Wc fa (ts.map (·.1)))
  | [] => pgs_nil
  | (f, p, q) :: r => pgs_cons (pg_attr (ha q)) (pgs_attrs ha hs r) (hs f p q r)
/-- the receiver is a variable: it stays what it is -/
theorem gAttrs_imp {i n : Nat} (hc : Cls X.K (He.ga X.K c)) {Hd : Hp} {ρ : List Sl} {σ : St} {Q : St → Hp → Prop} (hi : ρ[i]? = some (.w (.ref n))) : ∀ {fs : List Str} {ws : List W} {vs : List V} {Fr : Hp} {μ : List Addr} {S S' : List Ob} {H : Hp}, (∀ f ∈ fs, NoAttr X.K (He.ga X.K c) f) → R X.K Fr Hd μ ρ S σ H →
    RepWs X.K Fr μ ws vs → putsF c n fs ws S = some S' → (∀ F m H', Le Fr F → μ <+: m → R X.K F Hd m ρ S' σ H' → Q σ H') → gAttrs X Wc (fVar i) fs vs σ H Q
  | [], [], _, Fr, μ, S, S', H, _, r, .nil, h, k => by cases h; exact ⟨rfl, k Fr μ H Le.refl (List.prefix_refl μ) r⟩
  | [], _ :: _, _, _, _, _, _, _, _, _, _, h, _ => by cases h
  | _ :: _, [], _, _, _, _, _, _, _, _, _, h, _ => by cases h
  | f :: fs, w :: ws, _ :: vs, Fr, μ, S, S', H, hn, r, .cons e er, h, k => by
    refine ⟨_, vs, rfl, ?_⟩
    unfold putsF at h
    split at h
    · rename_i c' xs es
      split at h
      · rename_i hh
        have hcc : c = c' := hh.1.symm
        subst hcc
        have hl := hh.2
        refine ⟨Fr, Hd, μ, ρ, S, r, ?_⟩
        have ev : fVar i ρ S = .ok (.ref n) S := by unfold fVar; rw [hi]
        rw [ev]
        intro F1 m1 v H1 l1 p1 r1 e1
        obtain ⟨a1, ea1, rfl⟩ := e1
        obtain ⟨ho, h1, ⟨dx, us, rfl, q⟩, hf, _⟩ := r1.b.st _ a1 _ ea1 es
        have el := Paired.length q
        refine ⟨a1, _, dx, us, rfl, h1, hc, hn f (List.mem_cons_self ..), by omega, ?_⟩
        exact gAttrs_imp hc hi (fun g hg => hn g (List.mem_cons_of_mem _ hg)) (r1.putT (o := .ins c (putFw f w xs)) ea1 hf ⟨dx, _, rfl, putF_rep (RepW.mono l1 p1 e) q⟩ rfl) (RepWs.mono l1 p1 er) h fun F2 m2 H2 l2 p2 r2 => k F2 m2 H2 (l1.trans l2) (p1.trans p2) r2
      · cases h
    · cases h
theorem fa_nil {p : Str → Prop} : ∀ f ∈ ([] : List Str), p f := fun f h => nomatch h
theorem fa_cons {p : Str → Prop} {a : Str} {l : List Str} (h : p a) (t : ∀ f ∈ l, p f) : ∀ f ∈ a :: l, p f := fun f hf => by
  rcases List.mem_cons.mp hf with rfl | hf
  · exact h
  · exact t f hf
def refAt (i : Nat) (ρ : List Sl) : Option Nat := match ρ[i]? with
  | some (.w (.ref n)) => some n
  | _ => none
/-- x.f, x.g, .. = a tuple as data, x a variable -/
def fPutsD (c : Str) (i : Nat) (fs : List Str) (fv : FE) : FT := fun ρ S => fl (fv ρ S) ρ fun v S1 => match v, refAt i ρ with
  | .d (.tuple ds), some n => (match putsF c n fs (ds.map .d) S1 with
    | some S2 => if ds.length = fs.length then .nx ρ S2 else .bad
    | none => .bad)
  | _, _ => .bad
theorem refAt_ok {i n : Nat} {ρ : List Sl} (h : refAt i ρ = some n) : ρ[i]? = some (.w (.ref n)) := by
  unfold refAt at h
  split at h
  · rename_i k e; cases h; exact e
  · cases h
theorem puts_len {n : Nat} : ∀ {fs : List Str} {ws : List W} {S S' : List Ob}, putsF c n fs ws S = some S' → ws.length = fs.length
  | [], [], _, _, _ => rfl
  | [], _ :: _, _, _, h => by cases h
  | _ :: _, [], _, _, h => by cases h
  | f :: fs, w :: ws, S, S', h => by
    unfold putsF at h
    split at h
    · split at h
      · rw [List.length_cons, List.length_cons, puts_len h]
      · cases h
    · cases h
theorem dpa_rep {K : PySem.W.Frag} {F : Hp} {μ : List Addr} : ∀ {ds : List PyData} {vs : List V}, DpAll K F vs ds → RepWs K F μ (ds.map .d) vs
  | [], _, .nil => .nil
  | _ :: _, _, .cons q1 q2 => .cons q1 (dpa_rep q2)
theorem attrs_len (X : Cx) (x : Str) (hs : ∀ (f : Str) (p q : Pos) (r : List (Str × Pos × Pos)), (assignEach (.Attribute (.Name x q) f p :: attrs x r) X.env).map (·.2) = assign (.Attribute (.Name x q) f p) X.env :: (assignEach (attrs x r) X.env).map (·.2)) : ∀ ts : List (Str × Pos × Pos), ((assignEach (attrs x ts) X.env).map (·.2)).length = ts.length
  | [] => rfl
  | (f, p, q) :: r => by
    show ((assignEach (.Attribute (.Name x q) f p :: attrs x r) X.env).map (·.2)).length = _
    rw [hs f p q r, List.length_cons, attrs_len X x hs r, List.length_cons]
theorem s_asgF {i k : Nat} {x : Str} {ts : List (Str × Pos × Pos)} {tpos : Pos} {es : List Expr} (hcl : X.calm = true) (hc : Cls X.K (He.ga X.K c)) (hn : ∀ f ∈ ts.map (·.1), NoAttr X.K (He.ga X.K c) f) (ha : ∀ q : Pos, PE X (.Name x q) (LE X Wc (fVar i))) (hv : PE X value (LE X Wc fv)) (hes : es = attrs x ts)
    (hst : (assignEach es X.env).findIdx? (·.1) = none := by rfl) (hs : swapsWithSole [.Tuple es k tpos] value pos.line X.env = pure false := by rfl) (hw : swappedStores [.Tuple es k tpos] value X.env = pure none := by rfl)
    (h1 : (assignEach [.Tuple es k tpos] X.env).map (·.2) = [assign (.Tuple es k tpos) X.env] := by rfl) :
    PS X (.Assign [.Tuple es k tpos] value pos) (LS X Wc (fPutsD c i (ts.map (·.1)) fv)) := by
  subst hes
  have hs2 : ∀ (f : Str) (p q : Pos) (r : List (Str × Pos × Pos)), (assignEach (.Attribute (.Name x q) f p :: attrs x r) X.env).map (·.2) = assign (.Attribute (.Name x q) f p) X.env :: (assignEach (attrs x r) X.env).map (·.2) := by intro f p q r; rfl
  have hl : (assignEach (attrs x ts) X.env).length = ts.length := by rw [← attrs_len X x hs2 ts, List.length_map]
  refine PS.imp (ps_asg hv (pg_tup hcl (pgs_attrs ha hs2 ts) hl hst) hs hw h1) fun D σ H h => ?_
  obtain ⟨F, Hd, m, ρ, S, r, c0⟩ := h
  refine stepS r c0 fun F1 m1 v vv S1 H1 l1 p1 r1 e1 c1 => ?_
  split at c1
  · rename_i ds n hr
    split at c1
    · rename_i S2 hp
      split at c1
      · rename_i hld
        cases e1 with
        | @tup a vs _ t1 t2 =>
          have hrep : RepWs X.K F1 m1 (ds.map .d) vs := by
            exact dpa_rep t2
          have hlv : vs.length = ts.length := by
            have := Paired.length hrep
            rw [List.length_map] at this hld
            omega
          refine ⟨a, vs, rfl, Le.sqT r1.b.fr t1, hlv, ?_⟩
          exact gAttrs_imp hc (refAt_ok hr) hn r1 hrep hp fun F2 m2 H2 l2 p2 r2 => c1 F2 m2 σ H2 l2 p2 r2
      · exact c1.elim
    · exact c1.elim
  · exact c1.elim
end
/-! ### methods, new instances -/
section
variable {X : Cx} {Wc : WX} {k : Nat} {f fI : Addr} {fd : FuncData} {ps : List Str} {m : FM} {c x meth : Str} {p pos apos : Pos} {o e : Expr} {es : List Expr} {fr : FA} {fa : FE} {sp : Sp} {E : St → XK} {C : Addr} {ta : TE} {t : TA}
def tMethS (C : Addr) (meth : Str) (sp : Sp) (E : St → XK) (ta : TE) (t : TA) : TE := fun σ H Q => ta σ H fun x H1 => ∃ a dx fs, x = .ref a ∧ H1 a = some (.ins C dx fs) ∧ fs.lookup meth = none ∧ t σ H1 fun vs H2 => sp (x :: vs) H2 Q (E σ)
theorem pe_methS {pl : Sem Bool} (he : PE X o ta) (c : Cls X.K C) (hm : Meth X.K C meth f) (F : FnOk X.prog X.w X.K X.mg X.base (L2.CX X.prog X.w) k f fd ps sp) (hr : Room k X.A) (hb : Binds X.K fd ps []) (hx : ∀ σ, PassesAt (L2.CX X.prog X.w) X σ (E σ)) (ha : PA X (e :: es) t)
    (hst : starEach (e :: es) X.env = (false, eval e X.env) :: starEach es X.env := by rfl) (hpl : (backTo pos (starEach es X.env)).any (·.1) = false := by rfl)
    (ht : eval (.Call (.Attribute o meth apos) (e :: es) [] pos) X.env = (do
      let ov ← eval o X.env
      standAt apos.atName
      let (f, first) ← holding [ov] (getMethod ov meth pl)
      callWith pos f first (backTo pos (starEach (e :: es) X.env)) (backToKw pos (keywordEach [] X.env))) := by rfl) :
    PE X (.Call (.Attribute o meth apos) (e :: es) [] pos) (tMethS C meth sp E ta t) := by
  refine ⟨fun pins s σ H Q I h => ?_⟩
  refine PySem.W.methodCall_KW (pl := pl) (thn (he.run pins s σ H _ I h) fun u s1 ⟨x, H1, I1, rx, a, dx, fs, ex, ea, l, q⟩ => ?_) ht
  subst ex
  obtain rfl : u = Value.ref a := rx
  refine getmeth_ok I1 ea c hm l ?_
  refine PySem.W.callWith_K (first := [.ref a]) (h₀ := X.base) I.ok.mod.kin hm.kp (thn (ha.run pos pins s1 σ H1 _ I1 q) fun us s2 ⟨vs, H2, I2, r, q2⟩ => ⟨I2.kIn, ?_⟩) hst hpl
  exact run_fnS (us := .ref a :: us) (vs := .ref a :: vs) F hr hb (hx σ) I2 (.cons rfl r) q2
theorem pe_meth0S {pl : Sem Bool} (he : PE X o ta) (c : Cls X.K C) (hm : Meth X.K C meth f) (F : FnOk X.prog X.w X.K X.mg X.base (L2.CX X.prog X.w) k f fd ps sp) (hr : Room k X.A) (hb : Binds X.K fd ps []) (hx : ∀ σ, PassesAt (L2.CX X.prog X.w) X σ (E σ))
    (ht : eval (.Call (.Attribute o meth apos) [] [] pos) X.env = (do
      let ov ← eval o X.env
      standAt apos.atName
      let (f, first) ← holding [ov] (getMethod ov meth pl)
      callWith pos f first (backTo pos (starEach [] X.env)) (backToKw pos (keywordEach [] X.env))) := by rfl) :
    PE X (.Call (.Attribute o meth apos) [] [] pos) (tMethS C meth sp E ta tNil) := by
  refine ⟨fun pins s σ H Q I h => ?_⟩
  refine PySem.W.methodCall_KW (pl := pl) (thn (he.run pins s σ H _ I h) fun u s1 ⟨x, H1, I1, rx, a, dx, fs, ex, ea, l, q⟩ => ?_) ht
  subst ex
  obtain rfl : u = Value.ref a := rx
  refine getmeth_ok I1 ea c hm l ?_
  exact PySem.W.callWith_K0 (first := [.ref a]) I1.kIn hm.kp (run_fnS (us := [.ref a]) (vs := [.ref a]) F hr hb (hx σ) I1 (.cons rfl .nil) q)
def isMeth (c meth : Str) (x : W) (S : List Ob) : Bool := match insAt c x S with
  | some (_, fs) => (fldOf meth fs).isNone
  | none => false
def fMeth (c meth : Str) (m : FM) (fa : FE) (fr : FA) : FE := fun ρ S => (fa ρ S).bind fun x S1 => if isMeth c meth x S1 = true then (fr ρ S1).bind fun ws S2 => (m (x :: ws) S2).bind rvW else .bad
theorem meth_imp {n : Nat} (hl : LenN fr n) (hn : n + 1 = ps.length) {σ : St} {H : Hp} {Q : VK} (h : LE X Wc (fMeth c meth m fa fr) σ H Q) : tMethS (He.ga X.K c) meth (spOf X.K X.mg m ps.length) (WE Wc) (LE X Wc fa) (LA X Wc fr) σ H Q := by
  obtain ⟨F, D, μ, ρ, S, r, c0⟩ := h
  refine step r c0 fun F1 m1 x v S1 H1 l1 p1 r1 ex c1 => ?_
  split at c1
  · rename_i hi
    unfold isMeth at hi
    split at hi
    · rename_i n' fs hi2
      obtain ⟨a, dx, vs, rfl, rfl, ea, es, h1, q, hf⟩ := insAt_rep r1 hi2 ex
      refine ⟨a, dx, vs, rfl, h1, fld_none q (Option.isNone_iff_eq_none.mp hi), ?_⟩
      refine ⟨F1, D, m1, ρ, S1, r1, ?_⟩
      cases q1 : fr ρ S1 with
      | bad => rw [q1] at c1; exact c1.elim
      | err z S2 => rw [q1] at c1; exact c1
      | ok ws S2 =>
        rw [q1] at c1
        intro F2 m2 us H2 l2 p2 r2 e2
        refine sp_call (ws := .ref n' :: ws) ?_ r2 (.cons (RepW.mono l2 p2 ex) e2) (cont.mono l2 p2 (fun _ _ z => z) c1)
        rw [List.length_cons, ← Paired.length e2, hl _ _ _ _ q1, hn]
    · cases hi
  · exact c1.elim
theorem q_meth {n : Nat} (hc : Cls X.K (He.ga X.K c)) (hm : Meth X.K (He.ga X.K c) meth f) (F : FnQ X.prog X.w X.K X.mg X.base k f fd ps m) (hr : Room k X.A) (hb : Binds X.K fd ps []) (tk : Takes X Wc) (hl : LenN fr n) (hn : n + 1 = ps.length) (ho : PE X o (LE X Wc fa)) (ha : PA X (e :: es) (LA X Wc fr)) {pl : Sem Bool}
    (hst : starEach (e :: es) X.env = (false, eval e X.env) :: starEach es X.env := by rfl) (hpl : (backTo pos (starEach es X.env)).any (·.1) = false := by rfl)
    (ht : eval (.Call (.Attribute o meth apos) (e :: es) [] pos) X.env = (do
      let ov ← eval o X.env
      standAt apos.atName
      let (f, first) ← holding [ov] (getMethod ov meth pl)
      callWith pos f first (backTo pos (starEach (e :: es) X.env)) (backToKw pos (keywordEach [] X.env))) := by rfl) :
    PE X (.Call (.Attribute o meth apos) (e :: es) [] pos) (LE X Wc (fMeth c meth m fa fr)) :=
  PE.imp (pe_methS (E := WE Wc) ho hc hm F hr hb (fun σ => passAt tk σ) ha hst hpl ht) fun σ H Q h => meth_imp hl hn h
theorem q_meth0 (hc : Cls X.K (He.ga X.K c)) (hm : Meth X.K (He.ga X.K c) meth f) (F : FnQ X.prog X.w X.K X.mg X.base k f fd ps m) (hr : Room k X.A) (hb : Binds X.K fd ps []) (tk : Takes X Wc) (hn : 1 = ps.length) (ho : PE X o (LE X Wc fa)) {pl : Sem Bool}
    (ht : eval (.Call (.Attribute o meth apos) [] [] pos) X.env = (do
      let ov ← eval o X.env
      standAt apos.atName
      let (f, first) ← holding [ov] (getMethod ov meth pl)
      callWith pos f first (backTo pos (starEach [] X.env)) (backToKw pos (keywordEach [] X.env))) := by rfl) :
    PE X (.Call (.Attribute o meth apos) [] [] pos) (LE X Wc (fMeth c meth m fa fNil)) :=
  PE.imp (pe_meth0S (E := WE Wc) ho hc hm F hr hb (fun σ => passAt tk σ) ht) fun σ H Q h => by
  obtain ⟨F0, D, μ, ρ, S, r, c0⟩ := h
  refine step r c0 fun F1 m1 x v S1 H1 l1 p1 r1 ex c1 => ?_
  split at c1
  · rename_i hi
    unfold isMeth at hi
    split at hi
    · rename_i n' fs hi2
      obtain ⟨a, dx, vs, rfl, rfl, ea, es, h1, q, hf⟩ := insAt_rep r1 hi2 ex
      refine ⟨a, dx, vs, rfl, h1, fld_none q (Option.isNone_iff_eq_none.mp hi), ?_⟩
      exact sp_call (ws := [.ref n']) hn r1 (.cons ex .nil) c1
    · cases hi
  · exact c1.elim
/-- C(..) -/
def tMakeS (C : Addr) (sp : Sp) (E : St → XK) (t : TA) : TE := fun σ H Q => t σ H fun vs H1 => ∀ x dx, H1 x = none → H1 dx = none → dx ≠ x →
  sp (.ref x :: vs) (upd (upd H1 dx (.own x)) x (.ins C dx [])) (fun v H2 => v = .non ∧ Q (.ref x) H2) (E σ)
theorem run_makeS {pins : List (Addr × Obj)} {σ : St} {H : Hp} {s : Shared} {Q : VK} {us : List Value} {vs : List V} (M : Mk X.K C fI) (F : FnOk X.prog X.w X.K X.mg X.base (L2.CX X.prog X.w) k fI fd ps sp) (hr : Room (k + 1) X.A) (hb : Binds X.K fd ps [])
    (hx : PassesAt (L2.CX X.prog X.w) X σ (E σ)) (I : Inv X pins σ H s) (r : Vals vs us)
    (h : ∀ x dx, H x = none → H dx = none → dx ≠ x → sp (.ref x :: vs) (upd (upd H dx (.own x)) x (.ins C dx [])) (fun v H2 => v = .non ∧ Q (.ref x) H2) (E σ)) :
    wpAny (model X.prog X.w) X.A (call (.ref C) us) (EP X pins σ Q) X.xe s := by
  have hq := h (s.heap.objs.size + 1) s.heap.objs.size (I.hok.fresh (Nat.le_succ _)) (I.hok.fresh (Nat.le_refl _)) (Nat.ne_of_lt (Nat.lt_succ_self _))
  have I2 := Inv.made (C := C) I
  have r2 : Vals (V.ref (s.heap.objs.size + 1) :: vs) (Value.ref (s.heap.objs.size + 1) :: us) := .cons rfl r
  have hl : (Value.ref (s.heap.objs.size + 1) :: us).length = ps.length := by
    have e := r2.length
    rw [F.len _ _ _ _ hq] at e
    exact e.symm
  have b := hb _ (Value.ref (s.heap.objs.size + 1) :: us) I2.kIn (by rw [List.append_nil]; exact hl)
  rw [List.append_nil] at b
  refine wpAny_call (make_map (f := fI) I.kIn M.makes M.init (beq_iff_eq.mp M.fn) (codeAny_mono (F.run _ X.stack _ _ ⟨Value.ref (s.heap.objs.size + 1) :: us, []⟩ (Value.ref (s.heap.objs.size + 1) :: us) _ _ (E σ) (hr.make C us [])
    (I2.env0.make C us []) b r2 hq) fun r s' hq' => ?_))
  cases r with
  | error e => exact hx pins _ _ e s' I2 hq'
  | ok fl =>
    cases fl with
    | ret u =>
      obtain ⟨v, H', I3, rv, ev, q3⟩ := I2.after hq'
      subst ev
      exact ⟨rv, ⟨V.ref (s.heap.objs.size + 1), H', I3, rfl, q3⟩⟩
    | next => exact False.elim hq'
    | brk => exact False.elim hq'
    | cont => exact False.elim hq'
theorem pe_makeS (M : Mk X.K C fI) (F : FnOk X.prog X.w X.K X.mg X.base (L2.CX X.prog X.w) k fI fd ps sp) (hr : Room (k + 1) X.A) (hg : Gl X x) (hm : X.mg x = some (.ref C)) (hb : Binds X.K fd ps []) (hx : ∀ σ, PassesAt (L2.CX X.prog X.w) X σ (E σ))
    (ha : PA X (e :: es) t) (hdb : (x == ("__debug__" : Str)) = false := by decide) (he : starEach (e :: es) X.env = (false, eval e X.env) :: starEach es X.env := by rfl) (hpl : (backTo pos (starEach es X.env)).any (·.1) = false := by rfl) :
    PE X (.Call (.Name x p) (e :: es) [] pos) (tMakeS C sp E t) := by
  refine ⟨fun pins s σ H Q I h => ?_⟩
  refine wpAny_Call_Name_kw (ld_glob I hg hm ?_ hdb)
  refine PySem.W.callWith_K (h₀ := X.base) I.ok.mod.kin M.kp (thn (ha.run pos pins s σ H _ I h) fun us s1 ⟨vs, H1, I1, r, q⟩ => ⟨I1.kIn, ?_⟩) he hpl
  exact run_makeS M F hr hb (hx σ) I1 r q
def mkW (n : Nat) (x : Rv) (S : List Ob) : Res W := match x with
  | .w (.d .none) => .ok (.ref n) S
  | _ => .bad
def fMake (c : Str) (m : FM) (fr : FA) : FE := fun ρ S => (fr ρ S).bind fun ws S1 => (m (.ref S1.length :: ws) (S1 ++ [.ins c []])).bind (mkW S1.length)
theorem q_make {n : Nat} (M : Mk X.K (He.ga X.K c) fI) (F : FnQ X.prog X.w X.K X.mg X.base k fI fd ps m) (hr : Room (k + 1) X.A) (hg : Gl X x) (hm : X.mg x = some (.ref (He.ga X.K c))) (hb : Binds X.K fd ps []) (tk : Takes X Wc) (hl : LenN fr n) (hn : n + 1 = ps.length)
    (ha : PA X (e :: es) (LA X Wc fr)) (hdb : (x == ("__debug__" : Str)) = false := by decide) (he : starEach (e :: es) X.env = (false, eval e X.env) :: starEach es X.env := by rfl) (hpl : (backTo pos (starEach es X.env)).any (·.1) = false := by rfl) :
    PE X (.Call (.Name x p) (e :: es) [] pos) (LE X Wc (fMake c m fr)) := PE.imp (pe_makeS (E := WE Wc) M F hr hg hm hb (fun σ => passAt tk σ) ha hdb he hpl) fun σ H Q h => by
  obtain ⟨F0, Hd, μ, ρ, S, r, c0⟩ := h
  refine ⟨F0, Hd, μ, ρ, S, r, ?_⟩
  unfold fMake at c0
  cases q : fr ρ S with
  | bad => rw [q] at c0; exact c0.elim
  | err z S1 => rw [q] at c0; exact c0
  | ok ws S1 =>
    rw [q] at c0
    intro F1 m1 vs H1 l1 p1 r1 e1 x dx hx hdx hne
    have c1 : cont X.K X.mg Wc (repE X.K) F0 Hd μ ρ σ Q ((m (.ref S1.length :: ws) (S1 ++ [.ins c []])).bind (mkW S1.length)) := c0
    have r2 := r1.upd (o := .own x) (r1.new hdx)
    have hx2 : upd H1 dx (.own x) x = none := by rw [upd_ne (Ne.symm hne)]; exact hx
    have fx := r2.new hx2
    have r3 := r2.upd (o := .ins (He.ga X.K c) dx []) fx
    have r4 := r3.stoT (q := x) (o := .ins c []) upd_same ⟨dx, [], rfl, .nil⟩ rfl fx
    have pre : m1 <+: m1 ++ [x] := List.prefix_append m1 [x]
    have ex : RepW X.K F1 (m1 ++ [x]) (.ref S1.length) (.ref x) := ⟨x, by rw [← r1.b.len]; simp, rfl⟩
    refine ⟨by rw [List.length_cons, ← Paired.length e1, hl _ _ _ _ q, hn], F1, hide1 Hd _ ρ σ, m1 ++ [x], .ref S1.length :: ws, S1 ++ [.ins c []], r4.hideOwn, .cons ex (RepWs.mono Le.refl pre e1), ?_⟩
    cases q2 : m (.ref S1.length :: ws) (S1 ++ [.ins c []]) with
    | bad => rw [q2] at c1; exact c1
    | err z S2 => rw [q2] at c1; exact fun F2 m2 C H2 l p b hc => c1 F2 m2 C H2 (l1.trans l) ((p1.trans pre).trans p) (r4.unhideOwn l p b) hc
    | ok y S2 =>
      rw [q2] at c1
      cases y with
      | own o => exact c1.elim
      | w y =>
        cases y with
        | ref n => exact c1.elim
        | d d =>
          cases d with
          | none =>
            intro F2 m2 v H2 l p b ev
            refine ⟨by cases ev; rfl, ?_⟩
            exact c1 F2 m2 (.ref x) H2 (l1.trans l) ((p1.trans pre).trans p) (r4.unhideOwn l p b) (RepW.mono l p ex)
          | _ => exact c1.elim
end
/-- methods' derivations: a method by its class and name -/
abbrev FnM (K : PySem.W.Frag) (x qual : Str) (st : Stmt) (f : Addr) (fd : FuncData) : Prop := FunD K x qual (defArgs st) (defBody st) (defScope st) [] [] f fd
theorem FnM.toFun {K : PySem.W.Frag} {x qual : Str} {st : Stmt} {f : Addr} {fd : FuncData} (F : FnM K x qual st f fd) : Fun K x qual st f fd := by
  obtain ⟨oc, od, dV, kV, doc, pm, an, cdv, ct, osl, rfl, lk, hcd, hD, hK⟩ := F.ex
  rcases hD with ⟨_, rfl⟩ | ⟨e, _⟩
  · exact ⟨⟨oc, od, kV, doc, pm, an, cdv, ct, osl, rfl, lk, hcd⟩, F.kp⟩
  · exact absurd rfl e
def clsBody (s : Stmt) : List Stmt := match s with
  | .ClassDef _ _ _ b _ _ _ _ _ _ _ => b
  | _ => []
def methD (c m qual : Str) (st : Stmt) : He.DefD := ⟨(c, some m), m, qual, defArgs st, defBody st, defScope st, [], []⟩
def fcCls (x : Str) : FbT := fun K => (He.Fa.cls x).ok K
def fcNoat (x f : Str) : FbT := fun K => (He.Fa.noat x f).ok K
def fcMeth (x m : Str) : FbT := fun K => (He.Fa.meth x m).ok K
def fcMkr (x : Str) : FbT := fun K => (He.Fa.mkr x).ok K
section
variable {ρ : List Sl} {S : List Ob} {fa fb fv : FE} {fr : FA} {m : FM} {c f meth : Str} {x v : W} {n : Nat} {fs : List (Str × W)}
@[simp] theorem e_Fld : fFld c f fa ρ S = (fa ρ S).bind (fldW c f) := rfl
@[simp] theorem e_PutF : fPutF c f fv fa ρ S = fl (fv ρ S) ρ fun v S1 => fl (fa ρ S1) ρ fun x S2 => setF c f v x ρ S2 := rfl
@[simp] theorem e_Meth : fMeth c meth m fa fr ρ S = (fa ρ S).bind fun x S1 => if isMeth c meth x S1 = true then (fr ρ S1).bind fun ws S2 => (m (x :: ws) S2).bind rvW else .bad := rfl
@[simp] theorem e_Make : fMake c m fr ρ S = (fr ρ S).bind fun ws S1 => (m (.ref S1.length :: ws) (S1 ++ [.ins c []])).bind (mkW S1.length) := rfl
@[simp] theorem e_mkW : mkW n (.w (.d .none)) S = .ok (.ref n) S := rfl
theorem insAt_at (h : S[n]? = some (.ins c fs)) : insAt c (.ref n) S = some (n, fs) := by
  unfold insAt
  dsimp only
  rw [h]
  exact if_pos rfl
theorem e_fldW {w : W} (h : S[n]? = some (.ins c fs)) (hf : fldOf f fs = some w) : fldW c f (.ref n) S = .ok w S := by
  unfold fldW
  rw [insAt_at h]
  dsimp only
  rw [hf]
theorem e_setF (h : S[n]? = some (.ins c fs)) (hl : fs.length < 900) : setF c f v (.ref n) ρ S = .nx ρ (S.set n (.ins c (putFw f v fs))) := by
  unfold setF
  rw [insAt_at h]
  exact if_pos hl
theorem e_isMeth (h : S[n]? = some (.ins c fs)) (hf : fldOf meth fs = none) : isMeth c meth (.ref n) S = true := by
  unfold isMeth
  rw [insAt_at h]
  dsimp only
  rw [hf]
  rfl
end
end L2.Q
/-! Layer Q, part Z: dicts of the store whose keys are tuples of whole numbers, of such, ..; lists extended by tuples. -/
namespace L2.Q
open PySem PySem.Spec PyProof.Rows
/-! ### keys -/
mutual
theorem nhash_eq (w : World) : ∀ d : PyData, nkB d = true → nhash d = (nk d).hash w
  | .int i, _ => rfl
  | .tuple ds, h => by
    show reduceHash (Builtin.Tuple.tupleHashOf (nhashes ds)) = reduceHash (Builtin.Tuple.tupleHashOf (NestedKey.hashes w (nks ds)))
    rw [nhashes_eq w ds h]
  | .none, h => by cases h
  | .bool _, h => by cases h
  | .str _, h => by cases h
  | .list _, h => by cases h
  | .dict _, h => by cases h
theorem nhashes_eq (w : World) : ∀ ds : List PyData, nkBs ds = true → nhashes ds = NestedKey.hashes w (nks ds)
  | [], _ => rfl
  | d :: r, h => by
    have h : (nkB d && nkBs r) = true := h
    rw [Bool.and_eq_true] at h
    show nhash d :: nhashes r = (nk d).hash w :: NestedKey.hashes w (nks r)
    rw [nhash_eq w d h.1, nhashes_eq w r h.2]
end
mutual
theorem nest_of {X : Cx} {pins : List (Addr × Obj)} {σ : St} {H : Hp} {s : Shared} (I : Inv X pins σ H s) : ∀ (d : PyData) (v : V) (u : Value), nkB d = true → Dp X.K H v d → RelV v u → NestedIs s.heap (nk d) u
  | .int i, v, u, _, hd, hr => by
    cases hd
    obtain ⟨t, rfl⟩ := hr
    exact .int i t
  | .tuple ds, v, u, h, hd, hr => by
    cases hd with
    | @tup a vs _ hs ha =>
      obtain rfl : u = .ref a := hr
      obtain ⟨its, rv, ⟨o, ho, hc, n, hdat⟩, hz⟩ := I.tuple hs.sq
      exact .tup ho hc hdat (by simpa using nests_of I ds vs its h ha rv)
  | .none, _, _, h, _, _ => by cases h
  | .bool _, _, _, h, _, _ => by cases h
  | .str _, _, _, h, _, _ => by cases h
  | .list _, _, _, h, _, _ => by cases h
  | .dict _, _, _, h, _, _ => by cases h
theorem nests_of {X : Cx} {pins : List (Addr × Obj)} {σ : St} {H : Hp} {s : Shared} (I : Inv X pins σ H s) : ∀ (ds : List PyData) (vs : List V) (us : List Value), nkBs ds = true → DpAll X.K H vs ds → Vals vs us → NestedAll s.heap (nks ds) us
  | [], _, _, _, hd, hr => by
    cases hd
    cases hr
    exact .nil
  | d :: r, _, _, h, hd, hr => by
    have h : (nkB d && nkBs r) = true := h
    rw [Bool.and_eq_true] at h
    cases hd with
    | cons h1 h2 =>
      cases hr with
      | cons r1 r2 => exact .cons (nest_of I d _ _ h.1 h1 r1) (nests_of I r _ _ h.2 h2 r2)
end
/-- at b stands the key k -/
def KeyAt (K : PySem.W.Frag) (H : Hp) (k : NestedKey) (b : Addr) : Prop := ∃ d, keyB d = true ∧ nk d = k ∧ Dp K H (.ref b) d
theorem keyB_ok {d : PyData} (h : keyB d = true) : nkB d = true ∧ (nk d).depth ≤ 8 := by
  cases d with
  | tuple ds =>
    have h : (nkBs ds && decide ((NestedKey.tup (nks ds)).depth ≤ 8)) = true := h
    rw [Bool.and_eq_true, decide_eq_true_eq] at h
    exact h
  | _ => cases h
theorem KeyAt.is {X : Cx} {pins : List (Addr × Obj)} {σ : St} {H : Hp} {s : Shared} {k : NestedKey} {b : Addr} (I : Inv X pins σ H s) (h : KeyAt X.K H k b) : (nestedKind X.prog X.w).is s.heap k b := by
  obtain ⟨d, h1, rfl, h2⟩ := h
  obtain ⟨h3, h4⟩ := keyB_ok h1
  exact ⟨nest_of I d _ _ h3 h2 rfl, h4⟩
/-! ### such a dict in the abstract heap -/
section
variable {X : Cx} {pins : List (Addr × Obj)} {σ : St} {H : Hp} {s : Shared} {a : Addr} {xs : List (NestedKey × Addr × Value)} {es : Array DictEntry} {ep : Nat}
theorem dnO_ok {P : Program} {w : World} {h : Heap} (hd : (a == sysModules) = false) {o : Obj} (e : h.get? a = some o) (hx : o.ExactDict) (hdat : o.data = .dict es ep) : ObjOk P w H h a (DnO a es ep) :=
  ⟨⟨hd, o, e, hx, hdat⟩, ⟨o, e⟩, fun h1 h2 ⟨k1, o1, k2, k3, k4⟩ k => ⟨k1, o1, k o1 k2, k3, k4⟩⟩
structure DnAt (X : Cx) (H : Hp) (a : Addr) (xs : List (NestedKey × Addr × Value)) (es : Array DictEntry) (ep : Nat) : Prop where
  at_ : H a = some (DnO a es ep)
  es : es.toList = xs.map (entryOfKey (nestedKind X.prog X.w))
  keys : ∀ x ∈ xs, KeyAt X.K H x.1 x.2.1
  nd : (xs.map (·.1)).Nodup
theorem DnAt.dict (I : Inv X pins σ H s) (h : DnAt X H a xs es ep) : (a == sysModules) = false ∧ s.heap.DictOfH (nestedKind X.prog X.w) a xs := by
  obtain ⟨⟨hd, o, ho, hx, hdat⟩, _, _⟩ := I.hok a _ h.at_
  exact ⟨hd, o, es, ep, ho, hx, hdat, h.es, fun x hx => (h.keys x hx).is I, h.nd⟩
theorem DnAt.raw (I : Inv X pins σ H s) (h : H a = some (DnO a es ep)) : (a == sysModules) = false ∧ s.heap.DictRaw a es ep := by
  obtain ⟨⟨hd, o, ho, hx, hdat⟩, _, _⟩ := I.hok a _ h
  exact ⟨hd, o, ho, hx, hdat⟩
/-- an entry of the reading and one of the dict -/
def EnX (K : PySem.W.Frag) (Fr : Hp) (μ : List Addr) (p : PyData × W) (x : NestedKey × Addr × Value) : Prop := keyB p.1 = true ∧ x.1 = nk p.1 ∧ Dp K Fr (.ref x.2.1) p.1 ∧ ∃ v, RepW K Fr μ p.2 v ∧ RelV v x.2.2
theorem xs_of {K : PySem.W.Frag} {Fr : Hp} {μ : List Addr} (P : Program) (w : World) : ∀ {kvs : List (PyData × W)} {el : List DictEntry}, Paired (RepEn K Fr μ) kvs el → ∃ xs, el = xs.map (entryOfKey (nestedKind P w)) ∧ Paired (EnX K Fr μ) kvs xs
  | _, _, .nil => ⟨[], rfl, .nil⟩
  | _, _, .cons (a := p) (b := e) r t => by
    obtain ⟨xs, h1, h2⟩ := xs_of P w t
    obtain ⟨hk, b, v, e1, e2, e3, e4, e5⟩ := r
    refine ⟨(nk p.1, b, e.val) :: xs, ?_, .cons ⟨hk, rfl, e3, v, e4, e5⟩ h2⟩
    rw [List.map_cons, h1]
    congr 1
    obtain ⟨eh, ek, ev⟩ := e
    dsimp only at e1 e2 ⊢
    subst e1 e2
    unfold entryOfKey
    rw [nhash_eq w p.1 (keyB_ok hk).1]
    rfl
theorem en_of {K : PySem.W.Frag} {Fr : Hp} {μ : List Addr} (P : Program) (w : World) : ∀ {kvs : List (PyData × W)} {xs : List (NestedKey × Addr × Value)}, Paired (EnX K Fr μ) kvs xs → Paired (RepEn K Fr μ) kvs (xs.map (entryOfKey (nestedKind P w)))
  | _, _, .nil => .nil
  | _, _, .cons (a := p) (b := x) r t => by
    obtain ⟨hk, e1, e2, v, e3, e4⟩ := r
    refine .cons ⟨hk, x.2.1, v, rfl, ?_, e2, e3, e4⟩ (en_of P w t)
    show (nestedKind P w).hash x.1 = nhash p.1
    rw [e1]
    exact (nhash_eq w p.1 (keyB_ok hk).1).symm
theorem keys_of {K : PySem.W.Frag} {Fr : Hp} {μ : List Addr} : ∀ {kvs : List (PyData × W)} {xs : List (NestedKey × Addr × Value)}, Paired (EnX K Fr μ) kvs xs → xs.map (·.1) = kvs.map fun p => nk p.1
  | _, _, .nil => rfl
  | _, _, .cons r t => by rw [List.map_cons, List.map_cons, keys_of t, r.2.1]
theorem keysAt_of {K : PySem.W.Frag} {Fr : Hp} {μ : List Addr} (l : Le Fr H) : ∀ {kvs : List (PyData × W)} {xs : List (NestedKey × Addr × Value)}, Paired (EnX K Fr μ) kvs xs → ∀ x ∈ xs, KeyAt K H x.1 x.2.1
  | _, _, .nil, x, hx => by cases hx
  | _, _, .cons (a := p) (b := y) r t, x, hx => by
    rcases List.mem_cons.mp hx with rfl | hx
    · exact ⟨p.1, r.1, r.2.1.symm, Le.dp l _ _ r.2.2.1⟩
    · exact keysAt_of l t x hx
theorem repN_at {Fr : Hp} {μ : List Addr} {kvs : List (PyData × W)} {o : HO} (l : Le Fr H) (ha : H a = some o) (h : RepN X.K Fr μ a kvs o) : ∃ xs es ep, o = DnO a es ep ∧ DnAt X H a xs es ep ∧ Paired (EnX X.K Fr μ) kvs xs := by
  obtain ⟨es, ep, rfl, n, p⟩ := h
  obtain ⟨xs, h1, h2⟩ := xs_of X.prog X.w p
  exact ⟨xs, es, ep, rfl, ⟨ha, h1, keysAt_of l h2, by rw [keys_of h2]; exact n⟩, h2⟩
theorem at_repN {Fr : Hp} {μ : List Addr} {kvs : List (PyData × W)} (P : Program) (w : World) (h : Paired (EnX X.K Fr μ) kvs xs) (n : (xs.map (·.1)).Nodup) (he : es.toList = xs.map (entryOfKey (nestedKind P w))) : RepN X.K Fr μ a kvs (DnO a es ep) :=
  ⟨es, ep, rfl, by rw [← keys_of h]; exact n, by rw [he]; exact en_of P w h⟩
/-- an empty dict is such a dict, too -/
theorem empty_dn (I : Inv X pins σ H s) (e : H a = some (.dK [])) : (a == sysModules) = false ∧ s.heap.DictOfH (nestedKind X.prog X.w) a [] := by
  obtain ⟨z, hd, vs, rel, dd⟩ := dk_of I.hok e
  cases rel
  obtain ⟨o, es, ep, ho, hx, hdat, hk, hp, hn⟩ := dd
  refine ⟨hd, o, es, ep, ho, hx, hdat, ?_, fun x hx => (by cases hx), List.nodup_nil⟩
  have := hp.length
  simpa using this
end
/-! ### d[k] = v -/
def putN (kvs : List (PyData × W)) (k : PyData) (v : W) : List (PyData × W) :=
  if (kvs.any fun p => decide (nk p.1 = nk k)) = true then kvs.map fun p => if nk p.1 = nk k then (p.1, v) else p else kvs ++ [(k, v)]
section
variable {K : PySem.W.Frag} {Fr : Hp} {μ : List Addr}
theorem any_x {k : NestedKey} : ∀ {kvs : List (PyData × W)} {xs : List (NestedKey × Addr × Value)}, Paired (EnX K Fr μ) kvs xs → (kvs.any fun p => decide (nk p.1 = k)) = (atKey xs k).isSome
  | _, _, .nil => rfl
  | _, _, .cons (a := p) (b := x) r t => by
    have ih := any_x (k := k) t
    unfold atKey at ih ⊢
    rw [List.any_cons, List.find?_cons, ih, ← r.2.1]
    by_cases h : x.1 = k
    · rw [decide_eq_true h]; rfl
    · rw [decide_eq_false h]; rfl
theorem map_x {k : NestedKey} {w : W} {v : V} {u : Value} (hw : RepW K Fr μ w v) (hv : RelV v u) : ∀ {kvs : List (PyData × W)} {xs : List (NestedKey × Addr × Value)}, Paired (EnX K Fr μ) kvs xs →
    Paired (EnX K Fr μ) (kvs.map fun p => if nk p.1 = k then (p.1, w) else p) (xs.map (putAt k u))
  | _, _, .nil => .nil
  | _, _, .cons (a := p) (b := x) r t => by
    refine .cons ?_ (map_x hw hv t)
    obtain ⟨h1, h2, h3, h4⟩ := r
    unfold putAt
    dsimp only
    by_cases h : nk p.1 = k
    · rw [if_pos h, if_pos (h2.trans h)]; exact ⟨h1, h2, h3, v, hw, hv⟩
    · rw [if_neg h, if_neg (by rw [h2]; exact h)]; exact ⟨h1, h2, h3, h4⟩
theorem put_x {kd : PyData} {b : Addr} {w : W} {v : V} {u : Value} (hk : keyB kd = true) (hb : Dp K Fr (.ref b) kd) (hw : RepW K Fr μ w v) (hv : RelV v u) {kvs : List (PyData × W)} {xs : List (NestedKey × Addr × Value)} (h : Paired (EnX K Fr μ) kvs xs) :
    Paired (EnX K Fr μ) (putN kvs kd w) (storedH xs (nk kd) b u) := by
  unfold putN storedH
  rw [any_x h]
  split
  · exact map_x hw hv h
  · exact paired_app h (.cons ⟨hk, rfl, hb, v, hw, hv⟩ .nil)
end
section
variable {X : Cx} {Wc : WX} {o i e value : Expr} {td ty tv : TE} {fa fb fv : FE} {pos pos' apos cpos p : Pos}
def sNPut (X : Cx) (td ty tv : TE) : TS := fun D σ H => tv σ H fun v H1 => td σ H1 fun x H2 => ty σ H2 fun y H3 => ∃ a b k xs, x = .ref a ∧ y = .ref b ∧ KeyAt X.K H3 k b ∧ xs.length < sizeLine ∧ ((∃ es ep, DnAt X H3 a xs es ep) ∨ (H3 a = some (.dK []) ∧ xs = [])) ∧
  ∀ u es' ep', RelV v u → es'.toList = (storedH xs k b u).map (entryOfKey (nestedKind X.prog X.w)) → ((storedH xs k b u).map (·.1)).Nodup → D.nx σ (upd H3 a (DnO a es' ep'))
theorem ps_nput (hu : X.A.units + 16 < cLine) (ho : PE X o td) (hi : PE X i ty) (hv : PE X value tv) (hs : swapsWith value (some (.Subscript o i pos')) pos.line X.env = pure false) : PS X (.Assign [.Subscript o i pos'] value pos) (sNPut X td ty tv) := by
  refine ⟨fun pins s σ H D I h => ?_⟩
  refine wpAny_Assign_Subscript (thn (hv.run pins s σ H _ I h) fun r s1 ⟨v, H1, I1, rv, q1⟩ => thn (ho.run pins s1 σ H1 _ I1 q1) fun u s2 ⟨x, H2, I2, rx, q2⟩ => thn (hi.run pins s2 σ H2 _ I2 q2) fun iv s3 ⟨y, H3, I3, ry, a, b, k, xs, ex, ey, hk, hl, g, q3⟩ => ?_) hs
  subst ex ey
  obtain rfl : u = Value.ref a := rx
  obtain rfl : iv = Value.ref b := ry
  have hr : (nestedKind X.prog X.w).room X.A.in1 := by show X.A.units + 1 + 8 < cLine; omega
  have dd : (a == sysModules) = false ∧ s3.heap.DictOfH (nestedKind X.prog X.w) a xs ∧ Mut (H3 a) := by
    rcases g with ⟨es, ep, g⟩ | ⟨g, rfl⟩
    · obtain ⟨h1, h2⟩ := g.dict I3
      exact ⟨h1, h2, by rw [g.at_]; exact True.intro⟩
    · obtain ⟨h1, h2⟩ := empty_dn I3 g
      exact ⟨h1, h2, by rw [g]; exact True.intro⟩
  obtain ⟨hd, hm, mu⟩ := dd
  refine wpAny_setItem_heap (hsz := Nat.le_of_lt hl) hr (hk.is I3) hm fun h' dd' hs' => ?_
  obtain ⟨q, es, ep, hq, h2, h3, h4, _, h5⟩ := dd'
  exact ⟨σ, _, d_write I3 mu hs' ⟨q, hq⟩ (dnO_ok hd hq h2 h3), q3 r es ep rv h4 h5⟩
def ndAt (n : Nat) (S : List Ob) : Option (List (PyData × W)) := match S[n]? with
  | some (.dcn false kvs) => some kvs
  | some (.dct []) => some []
  | _ => none
def putNS (v x y : W) (ρ : List Sl) (S : List Ob) : Fl := match x, y with
  | .ref n, .d k => (match ndAt n S with
    | some kvs => if keyB k = true ∧ kvs.length < 16777216 then .nx ρ (S.set n (.dcn false (putN kvs k v))) else .bad
    | none => .bad)
  | _, _ => .bad
def fNput (fv fx fy : FE) : FT := fun ρ S => fl (fv ρ S) ρ fun v S1 => fl (fx ρ S1) ρ fun x S2 => fl (fy ρ S2) ρ fun y S3 => putNS v x y ρ S3
theorem nd_rep {Fr Hd : Hp} {μ : List Addr} {ρ : List Sl} {S : List Ob} {σ : St} {H : Hp} (r : R X.K Fr Hd μ ρ S σ H) {n : Nat} {a : Addr} {kvs : List (PyData × W)} (ea : μ[n]? = some a) (h : ndAt n S = some kvs) :
    Fr a = none ∧ ∃ xs, Paired (EnX X.K Fr μ) kvs xs ∧ ((∃ es ep, DnAt X H a xs es ep) ∨ (H a = some (.dK []) ∧ xs = [])) := by
  unfold ndAt at h
  split at h
  · rename_i kvs' es
    cases h
    obtain ⟨ho, h1, h2, hf, _⟩ := r.b.st n a _ ea es
    obtain ⟨xs, es, ep, rfl, h3, h4⟩ := repN_at (X := X) r.b.fr h1 h2
    exact ⟨hf, xs, h4, .inl ⟨es, ep, h3⟩⟩
  · rename_i es
    cases h
    obtain ⟨ho, h1, ⟨vs, rfl, q⟩, hf, _⟩ := r.b.st n a _ ea es
    cases q
    exact ⟨hf, [], .nil, .inr ⟨h1, rfl⟩⟩
  · cases h
theorem s_nput (hu : X.A.units + 16 < cLine) (ho : PE X o (LE X Wc fa)) (hk : PE X e (LE X Wc fb)) (hv : PE X value (LE X Wc fv)) (hs : swapsWith value (some (.Subscript o e pos')) pos.line X.env = pure false := by rfl) :
    PS X (.Assign [.Subscript o e pos'] value pos) (LS X Wc (fNput fv fa fb)) := PS.imp (ps_nput hu ho hk hv hs) fun D σ H h => by
  obtain ⟨F, Hd, m, ρ, S, r, c⟩ := h
  refine stepS r c fun F1 m1 v vv S1 H1 l1 p1 r1 e1 c1 => ?_
  refine stepS r1 c1 fun F2 m2 x w S2 H2 l2 p2 r2 e2 c2 => ?_
  refine stepS r2 c2 fun F3 m3 y u S3 H3 l3 p3 r3 e3 c3 => ?_
  unfold putNS at c3
  split at c3
  · rename_i n k
    obtain ⟨a, ea, rfl⟩ := RepW.mono l3 p3 e2
    split at c3
    · rename_i kvs hn
      split at c3
      · rename_i hh
        obtain ⟨hf, xs, px, g⟩ := nd_rep r3 ea hn
        have e3 : Dp X.K F3 u k := e3
        have hl := Paired.length px
        obtain ⟨b, rfl⟩ : ∃ b, u = .ref b := by
          cases k with
          | tuple ds => cases e3 with | @tup b _ _ _ _ => exact ⟨b, rfl⟩
          | _ => exact absurd hh.1 Bool.false_ne_true
        refine ⟨a, b, nk k, xs, rfl, rfl, ⟨k, hh.1, rfl, Le.dp r3.b.fr _ _ e3⟩, by rw [sizeLine_eq]; omega, g, fun u es' ep' ru he hn => ?_⟩
        have pw := put_x hh.1 e3 (RepW.mono (l2.trans l3) (List.IsPrefix.trans p2 p3) e1) ru px
        exact c3 F3 m3 σ _ Le.refl (List.prefix_refl m3) (r3.putT (o := .dcn false (putN kvs k v)) ea hf (at_repN (ep := ep') X.prog X.w pw hn he) rfl)
      · exact c3.elim
    · exact c3.elim
  · exact c3.elim
/-! ### len(d) -/
def rLenN (X : Cx) : List V → Hp → VK → Prop := fun xs H Q => ∃ a, xs = [.ref a] ∧ ((∃ ys es ep, DnAt X H a ys es ep ∧ ys.length ≤ sizeLine ∧ Q (.int ((ys.length : Nat) : Int)) H) ∨ ∃ kvs, Rd H a (.dK kvs) ∧ Q (.int ((kvs.length : Nat) : Int)) H)
theorem cr_lenN : CallR X (.builtin "len") (rLenN X) := by
  intro pins s σ H xs us Q I r h
  obtain ⟨a, rfl, h⟩ := h
  obtain ⟨u, rfl, rx⟩ := vals1 r
  obtain rfl : u = .ref a := rx
  rcases h with ⟨ys, es, ep, g, hl, q⟩ | ⟨kvs, g, q⟩
  · obtain ⟨hd, hm⟩ := g.dict I
    refine call_len_dictH hd hm (by rw [sizeLine_eq] at hl; omega) ?_
    exact ⟨.int ((ys.length : Nat) : Int), H, I.tok _, ⟨_, rfl⟩, q⟩
  · exact d_len I g fun t s' I' => ⟨.int ((kvs.length : Nat) : Int), H, I', ⟨_, rfl⟩, q⟩
def lenN (x : W) (S : List Ob) : Res W := match x with
  | .ref n => (match S[n]? with
    | some (.dcn _ kvs) => if kvs.length ≤ 16777216 then .ok (.d (.int ((kvs.length : Nat) : Int))) S else .bad
    | some (.dct kvs) => .ok (.d (.int ((kvs.length : Nat) : Int))) S
    | _ => .bad)
  | _ => .bad
def fLenN (fa : FE) : FE := fun ρ S => (fa ρ S).bind lenN
theorem q_lenN (hg : Gl X "len") (hm : X.mg "len" = none) (h : PE X e (LE X Wc fa)) (hs : starEach [e] X.env = (false, eval e X.env) :: starEach [] X.env := by rfl) (hpl : (backTo pos (starEach [] X.env)).any (·.1) = false := by rfl) : PE X (.Call (.Name "len" p) [e] [] pos) (LE X Wc (fLenN fa)) :=
  PE.imp (pe_callB cr_lenN hg hm PySem.boot_len (pa_cons h pa_nil hs) (he := hs) (hpl := hpl)) fun σ H Q h => by
  obtain ⟨F, D, m, ρ, S, r0, c⟩ := h
  refine step r0 c fun F1 m1 x v S1 H1 l1 p1 r1 e1 c1 => ?_
  cases x with
  | d x => exact c1.elim
  | ref n =>
    obtain ⟨a, ea, rfl⟩ := e1
    unfold lenN at c1
    dsimp only at c1
    refine ⟨a, rfl, ?_⟩
    split at c1
    · rename_i fz kvs es
      split at c1
      · rename_i hl
        obtain ⟨ho, h1, h2, _⟩ := r1.b.st n a _ ea es
        obtain ⟨xs, es, ep, rfl, h3, h4⟩ := repN_at (X := X) r1.b.fr h1 h2
        refine .inl ⟨xs, es, ep, h3, by rw [← Paired.length h4, sizeLine_eq]; exact hl, ?_⟩
        rw [← Paired.length h4]
        exact rt r1 c1 (Dp.int _)
      · exact c1.elim
    · rename_i kvs es
      obtain ⟨ho, h1, ⟨vs, rfl, q⟩, _⟩ := r1.b.st n a _ ea es
      refine .inr ⟨vs, .inl h1, ?_⟩
      rw [← Paired.length q]
      exact rt r1 c1 (Dp.int _)
    · exact c1.elim
/-! ### d.items() -/
/-- the pairs of the dict at d, each a new tuple -/
def ItN (d : Addr) (es : Array DictEntry) (ep : Nat) (vs : List (V × V)) : It :=
  ⟨fun i H => H d = some (DnO d es ep) ∧ i < vs.length, fun i H x H' => ∃ T ob k v, vs[i]? = some (k, v) ∧ x = .ref T ∧ H T = none ∧ Obj.dict ob = none ∧ H' = upd H T (.frz ob (.tup [k, v])), fun i H => H d = some (DnO d es ep) ∧ vs.length ≤ i⟩
def PrV (vs : List (V × V)) (es : Array DictEntry) : Prop := Paired (fun (p : V × V) (e : DictEntry) => RelV p.1 e.key ∧ RelV p.2 e.val) vs es.toList
theorem turn_itemsN {P : Program} {w : World} {K : PySem.W.Frag} {d : Addr} {es : Array DictEntry} {ep : Nat} {vs : List (V × V)} {elts : List Expr} {kk : Nat} {tpos : Pos} (it : Addr) (pr : PrV vs es) :
    Turn P w K (.Tuple elts kk tpos) (ItN d es ep vs) [it] it (fun i h => ∃ ok ov, IsItemIter h it d i es.size ep ok ov) where
  mem := by simp
  obj := fun i h st b hb => by
    have e : b = it := by simpa using hb
    subst e
    obtain ⟨ok, ov, e⟩ := st
    exact ⟨_, e, fun v z => nomatch z⟩
  keep := fun i h h' st k => let ⟨ok, ov, e⟩ := st; ⟨ok, ov, k it (by simp) _ e⟩
  item := by
    intro X hP hw hK hc i pins s σ H E I hf st hg
    subst hP hw hK
    obtain ⟨hd, hi⟩ := hg
    obtain ⟨hs, hm⟩ := DnAt.raw I hd
    have hl : vs.length = es.size := by rw [← Array.length_toList]; exact Paired.length pr
    have hi2 : i < es.size := by omega
    obtain ⟨⟨k, v⟩, hkv⟩ : ∃ p, vs[i]? = some p := ⟨vs[i], List.getElem?_eq_getElem hi⟩
    obtain ⟨en, hu, ru⟩ := L2.paired_get pr hkv
    have hen : en = es[i] := by
      rw [Array.getElem?_toList, Array.getElem?_eq_getElem hi2] at hu
      exact (Option.some.inj hu).symm
    subst hen
    obtain ⟨ok, ov, he⟩ := st
    have hlt : it < s.heap.objs.size := Heap.lt_size he
    refine wpAny_pyNext_items_item_raw he hm hi2 fun h' ho hT hz hk => ?_
    refine ⟨_, rfl, wpAny_letOwnedTupleGo_items (s := { s with heap := h' }) ho fun h'' he' sb => ?_⟩
    have I1 := pair_laid (ch := [it]) (t' := s.toks) I (fun b ob hb e => (sb.2 b (by simpa using hb)).trans (hk b ob (by simpa using hb) e)) hf ((sb.2 _ (Nat.ne_of_gt hlt)).trans hT) ru.1 ru.2
    refine ⟨.ref s.heap.objs.size, _, I1, rfl, ⟨_, _, k, v, hkv, rfl, I.hok.fresh (Nat.le_refl _), rfl, rfl⟩, ⟨_, _, he'⟩, pair_out I hf fun b hb => ?_⟩
    have e : b = it := by simpa using hb
    rw [e]; exact hlt
  done := by
    intro X hP hw hK hc i pins s σ H E I hf st hg
    subst hP hw hK
    obtain ⟨hd, hi⟩ := hg
    obtain ⟨f0, f1, f2, f3, f4, f5⟩ := hf it (by simp)
    obtain ⟨hs, hm⟩ := DnAt.raw I hd
    have hl : vs.length = es.size := by rw [← Array.length_toList]; exact Paired.length pr
    obtain ⟨ok, ov, he⟩ := st
    exact wpAny_pyNext_items_end_raw (I.ok.hd hc) he hm (by omega) fun h' eb => ⟨rfl, I.turned (t' := s.toks) (fun b ob hb e => eb b ob hb e) f0 f1 f3 f4 f5⟩
  self := fun A i s Q E st h => let ⟨_, _, e⟩ := st; PySem.W.kcp_self e h
/-- the empty dict is looked at as one whose keys are tuples -/
def iItemsN (td : TE) : TI := fun σ H R => td σ H fun x H1 => ∃ d, x = .ref d ∧ ((∃ es ep vs, H1 d = some (DnO d es ep) ∧ PrV vs es ∧ R (ItN d es ep vs) H1) ∨ (H1 d = some (.dK []) ∧ ∀ ep, R (ItN d #[] ep []) (upd H1 d (DnO d #[] ep))))
theorem pi_itemsN {elts : List Expr} {kk : Nat} {tpos : Pos} (he : PE X e td) (hbase : attributeBase e "items" X.env (eval e X.env) = eval e X.env := by rfl) (hline : (apos.endLine == cpos.line) = true := by rfl) :
    PI X (.Tuple elts kk tpos) (.Call (.Attribute e "items" apos) [] [] cpos) (iItemsN td) := by
  refine ⟨fun pins s σ H R I h => ?_⟩
  refine wpAny_Call_method (T := "dict") (id := "dict.items") hbase rfl hline F.plainAttrs_dict F.slot_dict_items F.type_dict_items (thn (he.run pins s σ H _ I h) fun u s1 ⟨x, H1, I1, rx, d, ex, q⟩ => ?_)
  subst ex
  obtain rfl : u = Value.ref d := rx
  have q : ∃ es ep vs H2, Inv X pins σ H2 s1 ∧ H2 d = some (DnO d es ep) ∧ PrV vs es ∧ R (ItN d es ep vs) H2 := by
    rcases q with ⟨es, ep, vs, h1, h2, h3⟩ | ⟨h1, h2⟩
    · exact ⟨es, ep, vs, H1, I1, h1, h2, h3⟩
    · obtain ⟨hs, hm⟩ := empty_dn I1 h1
      obtain ⟨o, es, ep, ho, hx, hdat, he, _⟩ := hm
      have he : es = #[] := Array.toList_inj.mp he
      subst he
      refine ⟨#[], ep, [], _, ?_, upd_same, .nil, h2 ep⟩
      exact I1.write (x := d) (e := d) (o := DnO d #[] ep) (h' := s1.heap) (t' := s1.toks) (by rw [h1]; exact True.intro) (.inl rfl) (fun b u _ z => z) ⟨o, ho⟩ (dnO_ok hs ho hx hdat)
  obtain ⟨es, ep, vs, H2, I2, hd, pr, q⟩ := q
  obtain ⟨hs, hm⟩ := DnAt.raw I2 hd
  refine ⟨hm.typeIs, (fun a e => by
    obtain ⟨o, ho, hx, _⟩ := hm
    cases e
    exact ⟨o, ho, hx.2.1⟩), ?_⟩
  have I3 : Inv X pins σ H2 { s1 with heap := s1.heap.push { cls := .type "dict_items", data := .fields #[.ref d] } } := I2.kept (t' := s1.toks) fun b ob q => Heap.get?_push_of_some _ q
  have fin : wpAny (model X.prog X.w) X.A (pyIter (.ref s1.heap.objs.size)) (PIE X pins σ (.Tuple elts kk tpos) R) X.xe { s1 with heap := s1.heap.push { cls := .type "dict_items", data := .fields #[.ref d] } } := by
    refine wpAny_pyIter_items_raw (d := d) ⟨_, Heap.get?_push_size _ rfl, rfl, rfl⟩ (hm.at fun o e => Heap.get?_push_of_some _ e) (pi_one (tk := s1.toks) I3 _ (turn_itemsN _ pr) ⟨.none, .none, ?_⟩ q)
    exact Heap.get?_push_size _ rfl
  show wpAny _ _ (callWith cpos (.builtin "dict.items") [.ref d] [] []) _ X.xe s1
  exact method_meetsIn F.slot_dict_items F.entry_dict_items rfl (PySem.evalArgs_none ⟨rfl, hm.typeIs, F.args_dict_items_1 _, _, meets_dict_items_raw d hs, ⟨es, ep, hm⟩, fin⟩)
/-- an object of the store no longer changes -/
theorem R.frzAt {Fr Hd : Hp} {μ : List Addr} {ρ : List Sl} {S : List Ob} {σ : St} {H : Hp} {n : Nat} {a : Addr} {o : Ob} {ho : HO} (r : R X.K Fr Hd μ ρ S σ H) (ea : μ[n]? = some a) (hf : Fr a = none) (h : H a = some ho) (eT : RepT X.K Fr μ a o ho) (eN : frO o ho = some ho) : R X.K (L2.upd Fr a ho) Hd μ ρ (S.set n o) σ H := by
  have le : Le Fr (L2.upd Fr a ho) := Le.upd hf
  have ha : a ∈ μ := List.mem_of_getElem? ea
  obtain ⟨_, _, _, hh, _⟩ := r.b.muH ha
  refine ⟨⟨fun b u q => ?_, fun b u q => ⟨(r.b.hd b u q).1, ?_⟩, by simp [r.b.len], fun k b x e1 e2 => ?_, r.b.nd⟩, r.s.len, fun i x ei => ?_, r.s.inj⟩
  · by_cases z : b = a
    · subst z; rw [upd_same] at q; cases q; exact h
    · rw [upd_ne z] at q; exact r.b.fr b u q
  · rw [upd_ne (ne_of_none q hh)]; exact (r.b.hd b u q).2
  · by_cases q : n = k
    · subst q
      rw [ea] at e1
      cases e1
      have hn : n < S.length := by rw [← r.b.len]; exact (List.getElem?_eq_some_iff.mp ea).1
      rw [List.getElem?_set_self hn] at e2
      cases e2
      exact ⟨ho, h, eT.mono le (List.prefix_refl μ), by rw [upd_same, eN], hh⟩
    · rw [List.getElem?_set_ne q] at e2
      obtain ⟨h1, k1, k2, k3, k4⟩ := r.b.st k b x e1 e2
      refine ⟨h1, k1, k2.mono le (List.prefix_refl μ), ?_, k4⟩
      rw [upd_ne]
      · exact k3
      · rintro rfl
        obtain ⟨hn, en⟩ := List.getElem?_eq_some_iff.mp ea
        obtain ⟨hk, ek⟩ := List.getElem?_eq_some_iff.mp e1
        exact q ((List.getElem_inj r.b.nd).mp (en.trans ek.symm))
  · have k := r.s.sl i x ei
    cases x with
    | un => trivial
    | w x => obtain ⟨u, e1, e2⟩ := k; exact ⟨u, e1, e2.mono le (List.prefix_refl μ)⟩
    | own x =>
      obtain ⟨b, h1, e1, e2, e3, e4, e5, e6⟩ := k
      refine ⟨b, h1, e1, e2, e3.mono le (List.prefix_refl μ), ?_, e5, e6⟩
      rw [upd_ne]
      · exact e4
      · rintro rfl; exact e6 ha
def pairsD : List (PyData × W) → Option (List W)
  | [] => some []
  | (k, .d v) :: r => (pairsD r).map fun l => W.d (.tuple [k, v]) :: l
  | (_, .ref _) :: _ => none
def itemsN (x : W) (S : List Ob) : Res (List W) := match x with
  | .ref n => (match S[n]? with
    | some (.dcn fz kvs) => (match pairsD kvs with
      | some l => if l.length ≤ 16777216 then .ok l (S.set n (.dcn true kvs)) else .bad
      | none => .bad)
    | some (.dct []) => .ok [] (S.set n (.dcn true []))
    | _ => .bad)
  | _ => .bad
def fItemsN (fa : FE) : FA := fun ρ S => (fa ρ S).bind itemsN
theorem pairs_len : ∀ {kvs : List (PyData × W)} {l : List W}, pairsD kvs = some l → l.length = kvs.length
  | [], _, h => by cases h; rfl
  | (k, .d v) :: r, l, h => by
    cases q : pairsD r with
    | none => unfold pairsD at h; rw [q] at h; cases h
    | some l1 =>
      unfold pairsD at h
      rw [q] at h
      cases h
      rw [List.length_cons, List.length_cons, pairs_len q]
  | (_, .ref _) :: _, _, h => by cases h
/-- the pairs as values -/
theorem pairs_rep {Fr : Hp} {μ : List Addr} : ∀ {kvs : List (PyData × W)} {l : List W} {xs : List (NestedKey × Addr × Value)}, Paired (EnX X.K Fr μ) kvs xs → pairsD kvs = some l →
    ∃ vs : List (V × V), Paired (fun (p : V × V) (x : NestedKey × Addr × Value) => RelV p.1 (Value.ref x.2.1) ∧ RelV p.2 x.2.2) vs xs ∧ Paired (fun (w : W) (p : V × V) => ∃ ds, w = .d (.tuple ds) ∧ DpAll X.K Fr [p.1, p.2] ds) l vs
  | _, _, _, .nil, h => by cases h; exact ⟨[], .nil, .nil⟩
  | (k, .d v) :: r, l, _, .cons (b := x) e t, h => by
    cases q : pairsD r with
    | none => unfold pairsD at h; rw [q] at h; cases h
    | some l1 =>
      unfold pairsD at h
      rw [q] at h
      cases h
      obtain ⟨vs, h1, h2⟩ := pairs_rep t q
      obtain ⟨_, _, e1, v', e2, e3⟩ := e
      exact ⟨(.ref x.2.1, v') :: vs, .cons ⟨rfl, e3⟩ h1, .cons ⟨[k, v], rfl, .cons e1 (.cons e2 .nil)⟩ h2⟩
  | (_, .ref _) :: _, _, _, .cons _ _, h => by cases h
theorem prV_of {P : Program} {w : World} : ∀ {vs : List (V × V)} {xs : List (NestedKey × Addr × Value)}, Paired (fun (p : V × V) (x : NestedKey × Addr × Value) => RelV p.1 (Value.ref x.2.1) ∧ RelV p.2 x.2.2) vs xs → Paired (fun (p : V × V) (e : DictEntry) => RelV p.1 e.key ∧ RelV p.2 e.val) vs (xs.map (entryOfKey (nestedKind P w)))
  | _, _, .nil => .nil
  | _, _, .cons r t => .cons r (prV_of t)
theorem walk_itemsN {Fr Hd : Hp} {μ : List Addr} {d : Addr} {es : Array DictEntry} {ep : Nat} {vs : List (V × V)} {l : List W} (hF : Fr d = some (DnO d es ep)) (hl : Paired (fun (w : W) (p : V × V) => ∃ ds, w = .d (.tuple ds) ∧ DpAll X.K Fr [p.1, p.2] ds) l vs) :
    Walk (ItN d es ep vs) l.length (fun H => Le Fr H ∧ Le Hd H) (Yq X.K Fr μ l) := by
  have el := Paired.length hl
  refine ⟨fun i _ hi q => ⟨q.1 d _ hF, by omega⟩, fun _ q => ⟨q.1 d _ hF, by omega⟩, fun i H v H' hi q y => ?_⟩
  obtain ⟨T, ob, k, x, k1, rfl, k3, kd, rfl⟩ := y
  have hi : i < l.length := by have := (List.getElem?_eq_some_iff.mp k1).1; omega
  obtain ⟨p, k4, ds, k5, k6⟩ := L2.paired_get hl (List.getElem?_eq_getElem hi)
  rw [k1] at k4
  cases k4
  exact ⟨_, List.getElem?_eq_getElem hi, .inr ⟨T, ob, _, ds, rfl, k3, kd, rfl, k5, k6⟩⟩
theorem i_itemsN {elts : List Expr} {kk : Nat} {tpos : Pos} (ha : PE X e (LE X Wc fa)) (hbase : attributeBase e "items" X.env (eval e X.env) = eval e X.env := by rfl) (hline : (apos.endLine == cpos.line) = true := by rfl) :
    PI X (.Tuple elts kk tpos) (.Call (.Attribute e "items" apos) [] [] cpos) (LI X Wc (fItemsN fa)) := PI.imp (pi_itemsN ha hbase hline) fun σ H Q h => by
  obtain ⟨F, Hd, m, ρ, S, r, c⟩ := h
  refine stepI r c fun F1 m1 x v S1 H1 l1 p1 r1 e1 c1 => ?_
  cases x with
  | d x => exact c1.elim
  | ref n =>
    obtain ⟨a, ea, rfl⟩ := e1
    unfold itemsN at c1
    dsimp only at c1
    refine ⟨a, rfl, ?_⟩
    split at c1
    · rename_i fz kvs es
      split at c1
      · rename_i l hp
        split at c1
        · rename_i hl
          obtain ⟨ho, h1, h2, hf, _⟩ := r1.b.st n a _ ea es
          have h2 : RepN X.K F1 m1 a kvs ho := h2
          obtain ⟨xs, es', ep, rfl, h3, h4⟩ := repN_at (X := X) r1.b.fr h1 h2
          obtain ⟨vs, k1, k2⟩ := pairs_rep h4 hp
          refine .inl ⟨es', ep, vs, h1, by unfold PrV; rw [h3.es]; exact prV_of k1, ?_⟩
          cases fz with
          | true =>
            have hf : F1 a = some (DnO a es' ep) := hf
            have eS : S1.set n (.dcn true kvs) = S1 := set_at es
            rw [eS] at c1
            exact c1 F1 Hd m1 H1 _ Le.refl Le.refl (List.prefix_refl m1) r1 (walk_itemsN hf k2) (by rw [sizeLine_eq]; exact hl)
          | false =>
            have hf : F1 a = none := hf
            have le : Le F1 (upd F1 a (DnO a es' ep)) := Le.upd hf
            have r2 := R.frzAt (o := .dcn true kvs) r1 ea hf h1 h2 rfl
            have k3 : Paired (fun (w : W) (p : V × V) => ∃ ds, w = .d (.tuple ds) ∧ DpAll X.K (upd F1 a (DnO a es' ep)) [p.1, p.2] ds) l vs := by
              clear k1 c1 hl hp
              induction k2 with
              | nil => exact .nil
              | cons q t ih =>
                obtain ⟨ds, z1, z2⟩ := q
                exact .cons ⟨ds, z1, Le.dps le _ _ z2⟩ ih
            exact c1 _ Hd m1 H1 _ le Le.refl (List.prefix_refl m1) r2 (walk_itemsN upd_same k3) (by rw [sizeLine_eq]; exact hl)
        · exact c1.elim
      · exact c1.elim
    · rename_i es
      obtain ⟨ho, h1, ⟨vs, rfl, q⟩, hf, _⟩ := r1.b.st n a _ ea es
      cases q
      refine .inr ⟨h1, fun ep => ?_⟩
      have hf : F1 a = none := hf
      have r2 := R.putT (o := .dcn false []) r1 ea hf (ho := DnO a #[] ep) ⟨#[], ep, rfl, List.nodup_nil, .nil⟩ rfl
      have hn : n < S1.length := (List.getElem?_eq_some_iff.mp es).1
      have r3 := R.frzAt (o := .dcn true []) r2 ea hf upd_same ⟨#[], ep, rfl, List.nodup_nil, .nil⟩ rfl
      rw [List.set_set] at r3
      exact c1 _ Hd m1 _ _ (Le.upd hf) Le.refl (List.prefix_refl m1) r3 (walk_itemsN (l := []) upd_same .nil) (by rw [sizeLine_eq]; decide)
    · exact c1.elim
end
/-! ### x.extend(a tuple) -/
theorem extend_tup (l : Addr) (items : Array Value) (n : Nat) (b : Addr) (items2 : Array Value) (n2 : Nat) (dc : Option Addr) (sl : Array (Option Value)) (hs0 : ¬(!items.isEmpty && Builtin.List.listTooLong (items.size + items2.size)) = true) (hs1 : items.size ≤ sizeLine) (hs2 : items.size + items2.size ≤ sizeLine + 1) :
    Meets (Builtin.«list.extend» ⟨[.ref l, .ref b], []⟩) (fun _ R s => s.heap.get? l = some { cls := .type "list", dict := none, data := .seq items n, slots := #[] } ∧ s.heap.get? b = some { cls := .type "tuple", dict := dc, data := .seq items2 n2, slots := sl } ∧ R (.ok (.ret Value.none)) { s with heap := s.heap.update l (Obj.mapSeq fun x => x ++ items2), toks := s.toks }) :=
  .of_wp fun prog w A R s h => by
    obtain ⟨hp, g, d, tk, os⟩ := s; obtain ⟨hl, hb, h⟩ := h; have f1 := AutoSeq1.idx_int; have f2 := AutoSeq1.sub_tuple_tuple; have f3 := AutoSeq1.sub_list_list; have f4 := AutoSeq1.sub_tuple_list; have f5 := AutoSeq1.sub_list_tuple
    have hz' : (items ++ items2).size ≤ sizeLine + 1 := by rw [Array.size_append]; exact hs2
    wp_walk using (wpAny_updateSeq hl rfl (hz := hs1) (_hz' := hz')), AutoSeq1.wpAny_loadPart' hl, AutoSeq1.wpAny_loadPart' hb
    exact ⟨_, rfl, h⟩
def rExtT (K : PySem.W.Frag) : V → List V → Hp → VK → Prop := fun x vs H Q => ∃ l b xs zs, x = .ref l ∧ vs = [.ref b] ∧ H l = some (.lst xs) ∧ L2.SqT K H b zs ∧ xs.length + zs.length ≤ sizeLine ∧ Q .non (upd H l (.lst (xs ++ zs)))
theorem mt_extT {X : Cx} : MtM X "list.extend" (rExtT X.K) := by
  intro pins s σ H x vs v us Q I rx rv h
  obtain ⟨l, b, xs, zs, rfl, rfl, hH, hB, hz, q⟩ := h
  cases rx
  obtain ⟨u, rfl, ru⟩ := rv.one
  cases ru
  obtain ⟨z, its, n, r, hl, e⟩ := I.lstM hH
  obtain ⟨its2, r2, ⟨⟨c2, dc, dat, sl⟩, e2, hc2, n2, hd2⟩, hl2⟩ := I.tuple hB
  dsimp only at hc2 hd2
  subst hc2 hd2
  have k1 := r.length
  have k2 := r2.length
  have hsz : its.toArray.size + its2.toArray.size ≤ sizeLine := by rw [List.size_toArray, List.size_toArray]; omega
  have hlong : ¬ (!its.toArray.isEmpty && Builtin.List.listTooLong (its.toArray.size + its2.toArray.size)) = true := by
    rw [notLongL hsz, Bool.and_false]
    exact Bool.false_ne_true
  refine call_meets F.slot_list_extend ⟨_, e, rfl⟩ F.entry_list_extend (F.args_list_extend_2 _ _)
    (extend_tup l its.toArray n b its2.toArray n2 dc sl hlong (by rw [List.size_toArray]; omega) (by omega)) ⟨e, e2, ?_⟩
  refine ⟨.non, _, I.lset (its' := its ++ its2) hH e (by simp) (r.append r2) ?_, rfl, q⟩
  rw [List.length_append]
  omega
section
variable {X : Cx} {Wc : WX} {e : Expr} {fa : FE} {apos cpos : Pos}
def fExtV (i : Nat) (fa : FE) : FX := fun ρ S => match ρ[i]? with
  | some (.own (.lst xs)) => (fa ρ S).bind fun o S1 => (match o with
    | .d (.tuple ds) => if xs.length + ds.length ≤ 16777216 then .ok (.d .none, ρ.set i (.own (.lst (xs ++ ds.map .d)))) S1 else .bad
    | _ => .bad)
  | _ => .bad
theorem x_extV {i : Nat} {x : Str} {p' : Pos} (hN : X.N[i]? = some x) (hv : Vis X.env.scope x) (ha : PE X e (LE X Wc fa)) (hd : (x == ("__debug__" : Str)) = false := by decide) (hcd : (x == ("__classdict__" : Str)) = false := by decide)
    (hbase : attributeBase (.Name x p') "extend" X.env (eval (.Name x p') X.env) = eval (.Name x p') X.env := by rfl)
    (hfew : ((backTo cpos (starEach [e] X.env)).all (fun x => !x.1) && (backToKw cpos (keywordEach [] X.env)).all (fun x => x.1.isSome)
      && decide (([e] : List Expr).length + ([] : List Keyword).length + (if ([] : List Keyword).isEmpty then 0 else 1) < 30)) = true := by rfl)
    (hline : (apos.endLine == cpos.line) = true := by rfl) (hs : starEach [e] X.env = (false, eval e X.env) :: starEach [] X.env := by rfl) (hplain : (backTo cpos (starEach [] X.env)).any (·.1) = false := by rfl) :
    PE X (.Call (.Attribute (.Name x p') "extend" apos) [e] [] cpos) (LX X Wc (fExtV i fa)) :=
  PE.imp (pe_bm PySem.F.plainAttrs_list PySem.F.slot_list_extend PySem.F.type_list_extend mt_extT (pe_var hN hv hd hcd) (pa_cons ha pa_nil hs) hbase hfew hline hs hplain) fun σ H Q h => by
  obtain ⟨F, D, m, ρ, S, r, c⟩ := h
  unfold fExtV at c
  split at c
  · rename_i xs ex
    obtain ⟨a, vs, ea, h1, q1⟩ := own_lst r ex
    refine ⟨_, ea, .inl ⟨rfl, vs, .inl (.inl h1)⟩, ?_⟩
    refine stepX r c fun F1 m1 o v S1 H1 l1 p1 r1 ey c1 => ?_
    obtain ⟨a', vs', ea', h1', q1'⟩ := own_lst r1 ex
    rw [ea] at ea'
    cases ea'
    split at c1
    · rename_i ds
      split at c1
      · rename_i hl
        cases ey with
        | @tup b us _ t1 t2 =>
          have q2 := dpa_rep (μ := m1) t2
          have k2 := Paired.length q2
          rw [List.length_map] at k2
          refine ⟨a, b, vs', us, rfl, rfl, h1', Le.sqT r1.b.fr t1, by rw [← Paired.length q1', ← k2, sizeLine_eq]; exact hl, ?_⟩
          exact c1 F1 m1 .non _ Le.refl (List.prefix_refl m1) (r1.putOwn ex ea ⟨_, rfl, paired_app q1' q2⟩) Dp.non
      · exact c1.elim
    · exact c1.elim
  · exact c.elim
end
section
variable {ρ : List Sl} {S : List Ob} {fa fb fv : FE} {n : Nat} {kvs : List (PyData × W)} {fz : Bool}
@[simp] theorem e_Nput : fNput fv fa fb ρ S = fl (fv ρ S) ρ fun v S1 => fl (fa ρ S1) ρ fun x S2 => fl (fb ρ S2) ρ fun y S3 => putNS v x y ρ S3 := rfl
@[simp] theorem e_LenN : fLenN fa ρ S = (fa ρ S).bind lenN := rfl
@[simp] theorem e_ItemsN : fItemsN fa ρ S = (fa ρ S).bind itemsN := rfl
@[simp] theorem e_ExtV {i : Nat} {xs : List W} (h : ρ[i]? = some (.own (.lst xs))) : fExtV i fa ρ S = (fa ρ S).bind fun o S1 => (match o with
    | .d (.tuple ds) => if xs.length + ds.length ≤ 16777216 then .ok (.d .none, ρ.set i (.own (.lst (xs ++ ds.map .d)))) S1 else .bad
    | _ => .bad) := by
  unfold fExtV
  rw [h]
theorem e_lenN (h : S[n]? = some (.dcn fz kvs)) (hl : kvs.length ≤ 16777216) : lenN (.ref n) S = .ok (.d (.int ((kvs.length : Nat) : Int))) S := by
  unfold lenN
  dsimp only
  rw [h]
  exact if_pos hl
theorem e_lenN0 (h : S[n]? = some (.dct [])) : lenN (.ref n) S = .ok (.d (.int 0)) S := by
  unfold lenN
  dsimp only
  rw [h]
  rfl
end
end L2.Q
/-! Layer Q, part RA: dict(enumerate(..)), fields set from displays, walks of a store's dict by items, setdefault, d[k] op= v, pop(). -/
namespace L2.Q
open PySem PySem.Spec PyProof.Rows
/-! ### dict(enumerate(a tuple)) -/
section
variable {prog : Program} {w : World} {A : Around} {E : Value → Shared → Prop} {s : Shared}
theorem enum_heldD {e it T : Addr} {fp : List Addr} {n i : Nat} {P : Nat → Value → Prop} {St : Nat → Heap → Prop} {old : Value} {f : Bool} {oT : Obj} {Q : Option Value → Shared → Prop}
    (D : Draws prog w A.in1 it fp n P St) (he : IsEnumHeld s.heap e it i old T f) (hT : s.heap.get? T = some oT) (hTe : T ≠ e) (hTi : T ≠ it) (hst : St i s.heap) (hlt : i < n) (hne : e ≠ it) (hef : e ∉ fp)
    (hQ : ∀ x h' tk, P i x → IsEnumHeld h' e it ((i : Int) + 1) old T true → St (i + 1) h' →
      h'.get? s.heap.objs.size = some { cls := .type "tuple", data := .seq #[.int i tk, x] } → h'.objs.size = s.heap.objs.size + 1 →
      (∀ b o, b ≠ e → b ≠ it → s.heap.get? b = some o → h'.get? b = some o) → Q (some (.ref s.heap.objs.size)) { s with heap := h', toks := tk + 1 }) :
    wpAny (model prog w) A (pyNext (.ref e)) Q E s := by
  have hTy : s.TypeIs (.ref e) "enumerate" := ⟨_, he, rfl⟩
  unfold pyNext
  refine wpAny_bind (wpAny_attempt (wpAny_callSpecial?_slot (name := Str.ofString "__next__") hTy F.slot_enumerate_next (wpAny_call_entry F.slot_enumerate_next hTy F.entry_enumerate_next ?_ (F.args_enumerate_next_1 _))))
  obtain ⟨hp, g, d, tk0, os⟩ := s
  show wpAny _ _ (field (.ref e) 2 >>= _) _ _ _
  refine wpAny_bind (wpAny_field he rfl (x := .ref it) rfl ?_)
  refine wpAny_bind (D.item i _ _ _ hlt hst fun x h₁ tk hPx hst₁ hs₁ => ?_)
  replace hs₁ : Heap.SameBut it hp h₁ := hs₁
  have he₁ : IsEnumHeld h₁ e it i old T f := (hs₁.2 e hne).trans he
  show wpAny _ _ (field (.ref e) 3 >>= _) _ _ ⟨h₁, g, d, tk, os⟩
  refine wpAny_bind (wpAny_field he₁ rfl (x := rawInt i) rfl ?_)
  show wpAny _ _ (field (.ref e) 4 >>= _) _ _ ⟨h₁, g, d, tk, os⟩
  refine wpAny_bind (wpAny_field he₁ rfl (x := .none) rfl ?_)
  show wpAny _ _ (mkInt i >>= _) _ _ ⟨h₁, g, d, tk, os⟩
  refine wpAny_bind (wpAny_mkInt ?_)
  show wpAny _ _ (setField (.ref e) 3 (rawInt ((i : Int) + 1)) >>= _) _ _ ⟨h₁, g, d, tk + 1, os⟩
  refine wpAny_bind (wpAny_setField_rec he₁ (by simp) fun h₂ he₂ hs₂ => ?_)
  replace hs₂ : Heap.SameBut e h₁ h₂ := hs₂
  replace he₂ : IsEnumHeld h₂ e it ((i : Int) + 1) old T f := he₂
  show wpAny _ _ (setField (.ref e) 4 .none >>= _) _ _ ⟨h₂, g, d, tk + 1, os⟩
  refine wpAny_bind (wpAny_setField_rec he₂ (by simp) fun h₃ he₃ hs₃ => ?_)
  replace hs₃ : Heap.SameBut e h₂ h₃ := hs₃
  replace he₃ : IsEnumHeld h₃ e it ((i : Int) + 1) old T f := he₃
  show wpAny _ _ (newTuple [.int i tk, x] >>= _) _ _ ⟨h₃, g, d, tk + 1, os⟩
  refine wpAny_bind (wpAny_newTuple ?_)
  have he₄ : IsEnumHeld (h₃.push { cls := .type "tuple", data := .seq #[.int i tk, x] }) e it ((i : Int) + 1) old T f := Heap.get?_push_of_some _ he₃
  generalize hh₄ : h₃.push { cls := .type "tuple", data := .seq #[.int i tk, x] } = h₄ at he₄
  have hsz : h₃.objs.size = hp.objs.size := by rw [hs₃.1, hs₂.1, hs₁.1]
  have hel : e < hp.objs.size := Heap.lt_size he
  have ht₄ : h₄.get? hp.objs.size = some { cls := .type "tuple", data := .seq #[.int i tk, x] } := by rw [← hh₄, ← hsz]; exact Heap.get?_push_size _ rfl
  have hz₄ : h₄.objs.size = hp.objs.size + 1 := by rw [← hh₄, Heap.size_push, hsz]
  have hk₄ : ∀ b o, b ≠ e → b ≠ it → hp.get? b = some o → h₄.get? b = some o := fun b o hbe hbi hb => by
    rw [← hh₄]; exact Heap.get?_push_of_some _ (hs₃.extBut b o hbe (hs₂.extBut b o hbe (hs₁.extBut b o hbi hb)))
  have hst₄ : St (i + 1) h₄ := D.frame _ _ _ hst₁ fun b hb o y => by
    have hbe : b ≠ e := fun q => hef (q ▸ hb)
    rw [← hh₄]; exact Heap.get?_push_of_some _ (hs₃.extBut b o hbe (hs₂.extBut b o hbe y))
  show wpAny _ _ (Builtin.SmallTypes.ownedTupleIsFree (.ref e) >>= _) _ _ ⟨h₄, g, d, tk + 1, os⟩
  rw [hsz]
  clear hh₄ he₃ hs₃ he₂ hs₂ he₁ hs₁ hst₁ hsz h₃ h₂ h₁
  refine wpAny_bind (wpAny_tupleHeld_enum (s := ⟨h₄, g, d, tk + 1, os⟩) he₄ (hk₄ T oT hTe hTi hT) fun h₅ he₅ hs₅ => ?_)
  replace hs₅ : Heap.SameBut e h₄ h₅ := hs₅
  simp only [Bool.false_eq_true, if_false]
  refine wpAny_pure ⟨_, rfl, wpAny_pure (hQ x h₅ tk hPx he₅ ?_ (hs₅.extBut _ _ (Nat.ne_of_gt hel) ht₄) ?_ fun b o hbe hbi hb => hs₅.extBut b o hbe (hk₄ b o hbe hbi hb))⟩
  · exact D.frame _ _ _ hst₄ fun b hb o y => hs₅.extBut b o (fun q => hef (q ▸ hb)) y
  · show h₅.objs.size = hp.objs.size + 1
    rw [hs₅.1, hz₄]
end
theorem enum_endH {prog : Program} {w : World} {A : Around} {E : Value → Shared → Prop} {s : Shared} {e it t T : Addr} {i : Int} {k : Nat} {items : Array Value} {old : Value} {f : Bool} {Q : Option Value → Shared → Prop} (hh : A.handled = none) (he : IsEnumHeld s.heap e it i old T f) (hit : s.heap.IsTupleIter it t k) (ht : s.heap.IsTuple t items) (hx : items[k]? = none)
    (hQ : ∀ h', Heap.ExtBut it s.heap h' → Q none { s with heap := h' }) : wpAny (model prog w) A (pyNext (.ref e)) Q E s := by
  have ty : s.TypeIs (.ref e) "enumerate" := ⟨_, he, rfl⟩
  unfold pyNext
  refine wpAny_bind (wpAny_attempt (wpAny_callSpecial?_slot (name := Str.ofString "__next__") ty F.slot_enumerate_next (wpAny_call_entry F.slot_enumerate_next ty F.entry_enumerate_next ?_ (F.args_enumerate_next_1 _))))
  show wpAny _ _ (field (.ref e) 2 >>= _) _ _ _
  refine wpAny_bind (wpAny_field he rfl (x := .ref it) rfl ?_)
  refine wpAny_bind (wpAny_nextOf_tuple_end hh hit ht hx fun h' x hk hc => ?_)
  obtain ⟨o, ho, hc⟩ := hc
  exact wpAny_bind (wpAny_isInstance (T := "StopIteration") (b := true) ⟨o, ho, hc⟩ isSubtype_stop (wpAny_pure (hQ _ hk)))
theorem enumT_arg {prog : Program} {w : World} (e it l : Addr) (hei : e ≠ it) (hle : l ≠ e) (hli : l ≠ it) (items : Array Value) :
    PairArg prog w "enumerate" e [e, it, l] [e, it] items.size (fun i k v => (∃ t, k = .int i t) ∧ items[i]? = some v)
      (fun h => (∃ old, IsEnum h e it 0 old) ∧ h.IsTupleIter it l 0 ∧ h.IsTuple l items) where
  type := fun s ok => let ⟨⟨_, he⟩, _⟩ := ok; ⟨_, he, rfl⟩
  notDict := by decide
  keep := fun h h' ok hk => by
    obtain ⟨⟨old, he⟩, hit, hl⟩ := ok
    exact ⟨⟨old, hk _ _ he⟩, hit.at fun o x => hk _ o x, hl.at fun o x => hk _ o x⟩
  there := fun h ok b hb => by
    obtain ⟨⟨old, he⟩, ⟨o1, h1, _⟩, ⟨o2, h2, _⟩⟩ := ok
    simp only [List.mem_cons, List.not_mem_nil, or_false] at hb
    rcases hb with rfl | rfl | rfl
    all_goals first | exact ⟨_, he⟩ | exact ⟨_, h1⟩ | exact ⟨_, h2⟩
  sub := fun b hb => by simp at hb ⊢; rcases hb with rfl | rfl <;> simp
  noKeys := fun A s Q E hA ok h => let ⟨⟨_, he⟩, _⟩ := ok; getAttrOr_miss_enumerate he rfl rfl rfl enumerate_no_keys (by decide +kernel) hA h
  iter := fun A s d Q E hA ok hd hdf h => by
    obtain ⟨⟨old, he⟩, hit, hl⟩ := ok
    simp only [List.mem_cons, List.not_mem_nil, or_false, not_or] at hdf
    obtain ⟨de, dit, dl⟩ := hdf
    have D := Draws.tuple (prog := prog) (w := w) (A := A.in1) hA it l hli items
    have hef : e ∉ [it, l] := by simp [hei, Ne.symm hle]
    refine wpAny_pyIter_enum he (h e [e, it] (fun i h => (h.IsTupleIter it l i ∧ h.IsTuple l items) ∧ ((∃ old, IsEnum h e it i old) ∨ ∃ old T f oT, IsEnumHeld h e it i old T f ∧ h.get? T = some oT ∧ T ≠ e ∧ T ≠ it ∧ T ≠ d)) s.heap s.toks ?_
      ⟨⟨hit, hl⟩, .inl ⟨old, he⟩⟩ (fun _ _ e => e) fun b hb => .inl hb)
    exact {
      off := fun hm => by
        simp only [List.mem_cons, List.not_mem_nil, or_false] at hm
        rcases hm with x | x
        · exact de x
        · exact dit x
      frame := fun i h₁ h₂ st hk => by
        obtain ⟨⟨hit, hl⟩, he⟩ := st
        refine ⟨⟨hit.at fun o x => hk _ o (Ne.symm dit) x, hl.at fun o x => hk _ o (Ne.symm dl) x⟩, ?_⟩
        rcases he with ⟨old, he⟩ | ⟨old, T, f, oT, he, hT, r1, r2, r3⟩
        · exact .inl ⟨old, hk _ _ (Ne.symm de) he⟩
        · exact .inr ⟨old, T, f, oT, hk _ _ (Ne.symm de) he, hk _ _ r3 hT, r1, r2, r3⟩
      item := fun i s₁ Q₁ E₁ hi st hds hQ => by
        obtain ⟨st, he⟩ := st
        have ec : ((i + 1 : Nat) : Int) = (i : Int) + 1 := by omega
        have nit : s₁.heap.objs.size ≠ it := let ⟨_, x, _⟩ := st.1; Nat.ne_of_gt (Heap.lt_size x)
        rcases he with ⟨old, he⟩ | ⟨old, T, f, oT, he, hT, r1, r2, r3⟩
        · refine wpAny_pyNext_enum_itemD D he st hi hei hef fun x h' tk hx ho st' hT hsz hk => ?_
          exact hQ s₁.heap.objs.size _ _ h' (tk + 1) ⟨⟨_, rfl⟩, hx⟩ (.inl ⟨_, hT, rfl, _, rfl⟩)
            ⟨st', .inr ⟨_, s₁.heap.objs.size, false, _, (by rw [ec]; exact ho), hT, Nat.ne_of_gt (Heap.lt_size he), nit, Nat.ne_of_gt hds⟩⟩
            fun b o hb x => hk b o (fun y => hb (by simp [y])) (fun y => hb (by simp [y])) x
        · refine enum_heldD D he hT r1 r2 st hi hei hef fun x h' tk hx ho st' hT' hsz hk => ?_
          exact hQ s₁.heap.objs.size _ _ h' (tk + 1) ⟨⟨_, rfl⟩, hx⟩ (.inl ⟨_, hT', rfl, _, rfl⟩)
            ⟨st', .inr ⟨old, T, true, oT, (by rw [ec]; exact ho), hk _ _ r1 r2 hT, r1, r2, r3⟩⟩
            fun b o hb x => hk b o (fun y => hb (by simp [y])) (fun y => hb (by simp [y])) x
      done := fun s₁ Q₁ E₁ st hQ => by
        obtain ⟨st, he⟩ := st
        have hx : items[items.size]? = none := Array.getElem?_eq_none (Nat.le_refl _)
        rcases he with ⟨old, he⟩ | ⟨old, T, f, oT, he, hT, r1, r2, r3⟩
        · exact enum_endT hA he st.1 st.2 hx fun h' hk => hQ h' s₁.toks fun b o hb x => hk b o (fun y => hb (by simp [y])) x
        · exact enum_endH hA he st.1 st.2 hx fun h' hk => hQ h' s₁.toks fun b o hb x => hk b o (fun y => hb (by simp [y])) x }
/-- the dict of a list's items by their indexes -/
def enK (i : Int) : List V → List (Key × V)
  | [] => []
  | x :: r => (.inl i, x) :: enK (i + 1) r
def enV (i : Int) : List Value → List (Key × Value)
  | [] => []
  | u :: r => (.inl i, u) :: enV (i + 1) r
def enW (i : Int) : List PyData → List (Key × W)
  | [] => []
  | d :: r => (.inl i, .d d) :: enW (i + 1) r
theorem enV_len : ∀ (us : List Value) (i : Int), (enV i us).length = us.length
  | [], _ => rfl
  | _ :: r, i => by rw [enV, List.length_cons, enV_len r, List.length_cons]
theorem enV_get : ∀ (us : List Value) (i : Int) (j : Nat) (u : Value), us[j]? = some u → (enV i us)[j]? = some (.inl (i + j), u)
  | [], _, _, _, h => by simp at h
  | x :: r, i, 0, u, h => by
    simp only [List.getElem?_cons_zero, Option.some.injEq] at h
    subst h
    simp [enV]
  | x :: r, i, j + 1, u, h => by
    rw [List.getElem?_cons_succ] at h
    rw [enV, List.getElem?_cons_succ, enV_get r (i + 1) j u h]
    have : i + 1 + (j : Int) = i + ((j + 1 : Nat) : Int) := by omega
    rw [this]
theorem enV_keys : ∀ (us : List Value) (i : Int), ((enV i us).map (·.1)).Nodup ∧ ∀ k ∈ (enV i us).map (·.1), ∃ j : Int, i ≤ j ∧ k = .inl j
  | [], _ => ⟨List.nodup_nil, fun k h => (by cases h)⟩
  | x :: r, i => by
    obtain ⟨h1, h2⟩ := enV_keys r (i + 1)
    refine ⟨List.nodup_cons.mpr ⟨fun h => ?_, h1⟩, fun k h => ?_⟩
    · obtain ⟨j, hj, e⟩ := h2 _ h
      have e : (Sum.inl i : Key) = .inl j := e
      injection e with e
      omega
    · rcases List.mem_cons.mp h with rfl | h
      · exact ⟨i, Int.le_refl _, rfl⟩
      · obtain ⟨j, hj, e⟩ := h2 _ h
        exact ⟨j, by omega, e⟩
theorem enK_rel : ∀ {xs : List V} {us : List Value} (i : Int), Vals xs us → KV (enK i xs) (enV i us)
  | _, _, _, .nil => .nil
  | _, _, i, .cons r t => .cons ⟨rfl, r⟩ (enK_rel (i + 1) t)
theorem enK_len : ∀ (xs : List V) (i : Int), (enK i xs).length = xs.length
  | [], _ => rfl
  | _ :: r, i => by rw [enK, List.length_cons, enK_len r, List.length_cons]
theorem enW_rep {K : PySem.W.Frag} {Fr : Hp} {μ : List Addr} : ∀ {ds : List PyData} {vs : List V} (i : Int), DpAll K Fr vs ds → RepKV K Fr μ (enW i ds) (enK i vs)
  | [], _, _, .nil => .nil
  | _ :: _, _, i, .cons h t => .cons ⟨rfl, h⟩ (enW_rep (i + 1) t)
def tDen (K : PySem.W.Frag) (ta : TA) : TE := fun σ H Q => ta σ H fun vs H1 => ∃ a xs, vs = [.ref a] ∧ L2.SqT K H1 a xs ∧ ∀ p, H1 p = none → Q (.ref p) (upd H1 p (.dK (enK 0 xs)))
theorem pe_denum {X : Cx} {e : Expr} {ta : TA} {p1 p2 pos2 pos : Pos} (hc : X.calm = true) (hgD : Gl X "dict") (hmD : X.mg "dict" = none) (hgE : Gl X "enumerate") (hmE : X.mg "enumerate" = none) (ha : PA X [e] ta)
    (hsE : starEach [e] X.env = (false, eval e X.env) :: starEach [] X.env := by rfl) (hplE : (backTo pos2 (starEach [] X.env)).any (·.1) = false := by rfl)
    (hsD : starEach [.Call (.Name "enumerate" p2) [e] [] pos2] X.env = (false, eval (.Call (.Name "enumerate" p2) [e] [] pos2) X.env) :: starEach [] X.env := by rfl) (hplD : (backTo pos (starEach [] X.env)).any (·.1) = false := by rfl) :
    PE X (.Call (.Name "dict" p1) [.Call (.Name "enumerate" p2) [e] [] pos2] [] pos) (tDen X.K ta) := by
  refine ⟨fun pins s σ H Q I h => ?_⟩
  refine wpAny_Call_Name_kw (ld_blt I hgD hmD (by decide +kernel : bootBuiltins "dict" = some (.type "dict")) ?_ (by decide) (by decide))
  refine PyProof.Rows.callWith_type1 ?_ hsD hplD
  rw [hsD]
  show wpAny _ _ (spliced ((false, eval (.Call (.Name "enumerate" p2) [e] [] pos2) X.env) :: backTo pos (starEach [] X.env))) _ _ s
  refine Calls.spliced_cons ?_
  refine wpAny_Call_Name_kw (ld_blt I hgE hmE boot_enumerate ?_ (by decide) (by decide))
  refine PyProof.Rows.callWith_type1 (thn (ha.run pos2 pins s σ H _ I h) fun us s1 ⟨vs, H1, I1, r1, a, xs, ex, hq, q1⟩ => ?_) hsE hplE
  subst ex
  cases r1 with
  | cons r rr =>
    cases rr
    cases r
    obtain ⟨its, rv, p', hz⟩ := I1.tuple hq
    have la : a < s1.heap.objs.size := by obtain ⟨o, ho, _⟩ := id p'; exact Heap.lt_size ho
    refine enum_call (begins_tuple a its.toArray) p' fun h' he hit hk => ?_
    have I2 : Inv X pins σ H1 { s1 with heap := h' } := I1.kept (t' := s1.toks) hk
    have sz : s1.heap.objs.size + 1 < h'.objs.size := Heap.lt_size he
    refine Calls.spliced_nil ?_
    have ch : ∀ b ∈ [s1.heap.objs.size + 1, s1.heap.objs.size], FpOk X pins H1 b := fun b hb => by
      have hle : s1.heap.objs.size ≤ b := by
        rcases (show b = s1.heap.objs.size + 1 ∨ b = s1.heap.objs.size by simpa using hb) with z | z
        · rw [z]; exact Nat.le_add_right _ _
        · rw [z]; exact Nat.le_refl _
      exact I1.fpOk hle (I1.hok.fresh hle)
    have ok : (∃ old, IsEnum h' (s1.heap.objs.size + 1) s1.heap.objs.size 0 old) ∧ h'.IsTupleIter s1.heap.objs.size a 0 ∧ h'.IsTuple a its.toArray :=
      ⟨⟨.none, he⟩, ⟨_, hit, rfl, rfl⟩, (let ⟨o, ho, z⟩ := p'; ⟨o, hk _ _ ho, z⟩)⟩
    have hl := rv.length
    refine PySem.call_dict_pairs (s := { s1 with heap := h' }) (knd := mixKind X.prog X.w) (kvs := enV 0 its) (enumT_arg (s1.heap.objs.size + 1) s1.heap.objs.size a (Nat.succ_ne_self _) (Nat.ne_of_lt (Nat.lt_succ_of_lt la)) (Nat.ne_of_lt la) its.toArray) (I.ok.hd hc) ok ⟨by rw [enV_len, List.size_toArray], fun i key v hr => ?_⟩ (by rw [List.size_toArray]; omega) fun h2 tk hd hk2 => ?_
    · obtain ⟨⟨t, rfl⟩, hv⟩ := hr
      have hv : its[i]? = some v := by simpa using hv
      refine ⟨.inl ((i : Nat) : Int), ?_, ?_⟩
      · have := enV_get its 0 i v hv
        rwa [Int.zero_add] at this
      · show keyIs (.inl ((i : Nat) : Int)) (.int ((i : Nat) : Int) t) = true
        simp [keyIs, Value.isInt]
    · rw [merged_nil_of_nodup _ (enV_keys its 0).1] at hd
      have hn : H1 h'.objs.size = none := I2.hok.fresh (Nat.le_refl _)
      have bg : (h'.objs.size == sysModules) = false := beq_eq_false_iff_ne.mpr (Nat.ne_of_gt I2.big)
      have new : ObjOk X.prog X.w (upd H1 h'.objs.size (.dK (enK 0 xs))) h2 h'.objs.size (.dK (enK 0 xs)) := dk_new (by rw [enK_len]; omega) bg (enK_rel 0 rv) hd
      exact ⟨.ref h'.objs.size, _, I2.turnedNew (t' := tk) (ch := [s1.heap.objs.size + 1, s1.heap.objs.size]) hk2 ch (Nat.le_refl _) new, rfl, q1 _ hn⟩
section
variable {X : Cx} {Wc : WX} {o e b value : Expr} {es : List Expr} {fa fb fc fv : FE} {fr : FA} {pos apos cpos pos' tpos p1 p2 pos2 : Pos} {c : Str}
def denW (x : W) (S : List Ob) : Res Ob := match x with
  | .d (.tuple ds) => if ds.length ≤ 16777216 then .ok (.dct (enW 0 ds)) S else .bad
  | _ => .bad
def fDenum (fa : FE) : FO := fun ρ S => (fa ρ S).bind denW
theorem q_denum (hc : X.calm = true) (hgD : Gl X "dict") (hmD : X.mg "dict" = none) (hgE : Gl X "enumerate") (hmE : X.mg "enumerate" = none) (ha : PE X e (LE X Wc fa))
    (hsE : starEach [e] X.env = (false, eval e X.env) :: starEach [] X.env := by rfl) (hplE : (backTo pos2 (starEach [] X.env)).any (·.1) = false := by rfl)
    (hsD : starEach [.Call (.Name "enumerate" p2) [e] [] pos2] X.env = (false, eval (.Call (.Name "enumerate" p2) [e] [] pos2) X.env) :: starEach [] X.env := by rfl) (hplD : (backTo pos (starEach [] X.env)).any (·.1) = false := by rfl) :
    PE X (.Call (.Name "dict" p1) [.Call (.Name "enumerate" p2) [e] [] pos2] [] pos) (LO X Wc (fDenum fa)) := PE.imp (pe_denum hc hgD hmD hgE hmE (pa_cons ha pa_nil hsE) hsE hplE hsD hplD) fun σ H Q h => by
  obtain ⟨F, D, m, ρ, S, r, c⟩ := h
  refine step r c fun F1 m1 x v S1 H1 l1 p1 r1 e1 c1 => ?_
  unfold denW at c1
  split at c1
  · rename_i ds
    split at c1
    · cases e1 with
      | @tup a vs _ t1 t2 =>
        refine ⟨a, vs, rfl, Le.sqT r1.b.fr t1, fun q hq => ?_⟩
        have f := r1.new hq
        exact c1 F1 m1 (.ref q) _ Le.refl (List.prefix_refl m1) (r1.upd (o := .dK (enK 0 vs)) f) ⟨q, _, rfl, upd_same, ⟨_, rfl, enW_rep 0 t2⟩, f⟩
    · exact c1.elim
  · exact c1.elim
/-! ### x.f, x.g, .. = a display -/
def fPutsA (c : Str) (i : Nat) (fs : List Str) (fr : FA) : FT := fun ρ S => fl (fr ρ S) ρ fun ws S1 => match refAt i ρ with
  | some n => (match putsF c n fs ws S1 with
    | some S2 => if ws.length = fs.length then .nx ρ S2 else .bad
    | none => .bad)
  | none => .bad
theorem s_asgFA {i k k2 n : Nat} {x : Str} {ts : List (Str × Pos × Pos)} {tpos tpos2 : Pos} {fs : List Expr} (hcl : X.calm = true) (hc : Cls X.K (He.ga X.K c)) (hn : ∀ f ∈ ts.map (·.1), NoAttr X.K (He.ga X.K c) f) (ha : ∀ q : Pos, PE X (.Name x q) (LE X Wc (fVar i))) (hv : PA X es (LA X Wc fr)) (hl : LenN fr n) (hn2 : n ≤ sizeLine) (hes : fs = attrs x ts)
    (hst : (assignEach fs X.env).findIdx? (·.1) = none := by rfl) (hs : swapsWithSole [.Tuple fs k tpos] (.Tuple es k2 tpos2) pos.line X.env = pure false := by rfl) (hw : swappedStores [.Tuple fs k tpos] (.Tuple es k2 tpos2) X.env = pure none := by rfl)
    (h1 : (assignEach [.Tuple fs k tpos] X.env).map (·.2) = [assign (.Tuple fs k tpos) X.env] := by rfl) :
    PS X (.Assign [.Tuple fs k tpos] (.Tuple es k2 tpos2) pos) (LS X Wc (fPutsA c i (ts.map (·.1)) fr)) := by
  subst hes
  have hs2 : ∀ (f : Str) (p q : Pos) (r : List (Str × Pos × Pos)), (assignEach (.Attribute (.Name x q) f p :: attrs x r) X.env).map (·.2) = assign (.Attribute (.Name x q) f p) X.env :: (assignEach (attrs x r) X.env).map (·.2) := by intro f p q r; rfl
  have hl2 : (assignEach (attrs x ts) X.env).length = ts.length := by rw [← attrs_len X x hs2 ts, List.length_map]
  refine PS.imp (ps_asg (pe_tup hv) (pg_tup hcl (pgs_attrs ha hs2 ts) hl2 hst) hs hw h1) fun D σ H h => ?_
  obtain ⟨F, Hd, m, ρ, S, r, c0⟩ := h
  refine ⟨F, Hd, m, ρ, S, r, ?_⟩
  unfold fPutsA at c0
  cases q : fr ρ S with
  | bad => rw [q] at c0; exact c0.elim
  | err z S1 => rw [q] at c0; exact fun F1 m1 C H1 l1 p1 r1 hC => c0 F1 m1 σ C H1 l1 p1 r1 hC
  | ok ws S1 =>
    rw [q] at c0
    intro F1 m1 vs H1 l1 p1 r1 e1
    have lw := hl _ _ _ _ q
    have lv := Paired.length e1
    refine ⟨by omega, fun p hp => ?_⟩
    have c1 : contS X.K X.mg Wc F Hd m D (match refAt i ρ with
      | some n => (match putsF c n (ts.map (·.1)) ws S1 with
        | some S2 => if ws.length = (ts.map (·.1)).length then .nx ρ S2 else .bad
        | none => .bad)
      | none => .bad) := c0
    split at c1
    · rename_i n hr
      split at c1
      · rename_i S2 hp2
        split at c1
        · rename_i hlen
          rw [List.length_map] at hlen
          have f := r1.new hp
          have r2 := r1.upd (o := .tup vs) f
          refine ⟨p, vs, rfl, .inl (.inl upd_same), by omega, ?_⟩
          exact gAttrs_imp hc (refAt_ok hr) hn r2 e1 hp2 fun F2 m2 H2 l2 p2 r3 => c1 F2 m2 σ H2 (l1.trans l2) (p1.trans p2) r3
        · exact c1.elim
      · exact c1.elim
    · exact c1.elim
/-! ### d.setdefault(e, f) -/
def setdS (x y z : W) (S : List Ob) : Res W := match x with
  | .ref n => (match S[n]?, keyOf y with
    | some (.dct kvs), some k => if kvs.length < 16777216 then (match valW kvs k with
      | some w => .ok w S
      | none => .ok z (S.set n (.dct (putW kvs k z)))) else .bad
    | _, _ => .bad)
  | _ => .bad
def fSetd (fa fb fc : FE) : FE := fun ρ S => (fa ρ S).bind fun x S1 => if (dctS x S1).isSome = true then (fb ρ S1).bind fun y S2 => (fc ρ S2).bind fun z S3 => setdS x y z S3 else .bad
theorem q_setd (ha : PE X o (LE X Wc fa)) (hb : PE X b (LE X Wc fb)) (hc : PE X e (LE X Wc fc)) (m : M2 X o "setdefault" apos b e cpos := by exact ⟨rfl, rfl, rfl, rfl⟩) : PE X (.Call (.Attribute o "setdefault" apos) [b, e] [] cpos) (LE X Wc (fSetd fa fb fc)) := PE.imp (pe_dsetd ha hb hc m) fun σ H Q h => by
  obtain ⟨F, D, m, ρ, S, r, c⟩ := h
  refine step r c fun F1 m1 x v S1 H1 l1 p1 r1 ex c1 => ?_
  split at c1
  · rename_i hi
    obtain ⟨kv0, hd0⟩ := Option.isSome_iff_exists.mp hi
    obtain ⟨a, vs0, rfl, h0, _⟩ := dctS_rep r1 hd0 ex
    refine ⟨a, rfl, isD_rd h0, ?_⟩
    refine step r1 c1 fun F2 m2 y u S2 H2 l2 p2 r2 ey c2 => ?_
    refine step r2 c2 fun F3 m3 z w S3 H3 l3 p3 r3 ez c3 => ?_
    cases x with
    | d x => exact c3.elim
    | ref n =>
      obtain ⟨a', ea, ee⟩ := RepW.mono (l2.trans l3) (List.IsPrefix.trans p2 p3) ex
      cases ee
      unfold setdS at c3
      dsimp only at c3
      split at c3
      · rename_i kvs k es hk
        split at c3
        · rename_i hl
          obtain ⟨ho, h1, ⟨vs, rfl, q⟩, hfr, _⟩ := r3.b.st n a _ ea es
          have el := Paired.length q
          refine ⟨vs, k, h1, (keyOf_rep hk ey), by rw [sizeLine_eq]; omega, fun v hv => ?_, fun hv => ?_⟩
          · rcases valW_rep (k := k) q with ⟨e1, e2⟩ | ⟨x', v', e1, e2, e3⟩
            · rw [e2] at hv; cases hv
            · rw [e1] at c3
              rw [e2] at hv
              cases hv
              exact rt r3 c3 e3
          · rcases valW_rep (k := k) q with ⟨e1, e2⟩ | ⟨x', v', e1, e2, e3⟩
            · rw [e1] at c3
              exact c3 F3 m3 _ _ Le.refl (List.prefix_refl m3) (r3.put ea hfr ⟨_, rfl, putW_rep ez q⟩) ez
            · rw [e2] at hv; cases hv
        · exact c3.elim
      · exact c3.elim
  · exact c1.elim
/-! ### walks of a dict of the store by items: from then on it no longer changes -/
def tLockV (td : TE) : TE := fun σ H Q => td σ H fun x H1 => (∃ d kvs, x = .ref d ∧ H1 d = some (.dK kvs) ∧ ∀ o, Q x (upd H1 d (.frz o (.dK kvs)))) ∨ Q x H1
theorem pe_lockv {td : TE} (he : PE X e td) : PE X e (tLockV td) := by
  refine ⟨fun pins s σ H Q I h => thn (he.run pins s σ H _ I h) fun u s1 ⟨x, H1, I1, r1, q⟩ => ?_⟩
  rcases q with ⟨d, kvs, ex, hd, q⟩ | q
  · obtain ⟨od, I2⟩ := I1.lock hd True.intro
    exact ⟨x, _, I2, r1, q od⟩
  · exact ⟨x, H1, I1, r1, q⟩
theorem R.frzPut {Fr Hd : Hp} {μ : List Addr} {ρ : List Sl} {S : List Ob} {σ : St} {H : Hp} {n : Nat} {a : Addr} {o : Ob} {ho : HO} (r : R X.K Fr Hd μ ρ S σ H) (ea : μ[n]? = some a) (hf : Fr a = none) (eT : RepT X.K Fr μ a o ho) (eN : frO o ho = some ho) : R X.K (L2.upd Fr a ho) Hd μ ρ (S.set n o) σ (L2.upd H a ho) := by
  have le : Le Fr (L2.upd Fr a ho) := Le.upd hf
  have ha : a ∈ μ := List.mem_of_getElem? ea
  obtain ⟨_, _, _, hh, _⟩ := r.b.muH ha
  refine ⟨⟨fun b u q => ?_, fun b u q => ⟨?_, ?_⟩, by simp [r.b.len], fun k b x e1 e2 => ?_, r.b.nd⟩, r.s.len, fun i x ei => ?_, r.s.inj⟩
  · by_cases z : b = a
    · subst z; rw [upd_same] at q; cases q; exact upd_same
    · rw [upd_ne z] at q ⊢; exact r.b.fr b u q
  · rw [upd_ne (ne_of_none q hh)]; exact (r.b.hd b u q).1
  · rw [upd_ne (ne_of_none q hh)]; exact (r.b.hd b u q).2
  · by_cases q : n = k
    · subst q
      rw [ea] at e1
      cases e1
      have hn : n < S.length := by rw [← r.b.len]; exact (List.getElem?_eq_some_iff.mp ea).1
      rw [List.getElem?_set_self hn] at e2
      cases e2
      exact ⟨ho, upd_same, eT.mono le (List.prefix_refl μ), by rw [upd_same, eN], hh⟩
    · rw [List.getElem?_set_ne q] at e2
      obtain ⟨h1, k1, k2, k3, k4⟩ := r.b.st k b x e1 e2
      have nb : b ≠ a := by
        rintro rfl
        obtain ⟨hn, en⟩ := List.getElem?_eq_some_iff.mp ea
        obtain ⟨hk, ek⟩ := List.getElem?_eq_some_iff.mp e1
        exact q ((List.getElem_inj r.b.nd).mp (en.trans ek.symm))
      exact ⟨h1, by rw [upd_ne nb]; exact k1, k2.mono le (List.prefix_refl μ), by rw [upd_ne nb]; exact k3, k4⟩
  · have k := r.s.sl i x ei
    cases x with
    | un => trivial
    | w x => obtain ⟨u, e1, e2⟩ := k; exact ⟨u, e1, e2.mono le (List.prefix_refl μ)⟩
    | own x =>
      obtain ⟨b, h1, e1, e2, e3, e4, e5, e6⟩ := k
      have nb : b ≠ a := by rintro rfl; exact e6 ha
      exact ⟨b, h1, e1, by rw [upd_ne nb]; exact e2, e3.mono le (List.prefix_refl μ), by rw [upd_ne nb]; exact e4, e5, e6⟩
def kD : Key → PyData
  | .inl i => .int i
  | .inr x => .str x
def pairsK : List (Key × W) → Option (List W)
  | [] => some []
  | (k, .d v) :: r => (pairsK r).map fun l => W.d (.tuple [kD k, v]) :: l
  | (_, .ref _) :: _ => none
theorem pairsK_rep {Fr : Hp} {μ : List Addr} : ∀ {kvs : List (Key × W)} {l : List W} {vs : List (Key × V)}, RepKV X.K Fr μ kvs vs → pairsK kvs = some l → Paired (fun (w : W) (p : Key × V) => ∃ ds, w = .d (.tuple ds) ∧ DpAll X.K Fr [kV p.1, p.2] ds) l vs
  | _, _, _, .nil, h => by cases h; exact .nil
  | (k, .d v) :: r, l, _, .cons (b := q) e t, h => by
    cases z : pairsK r with
    | none => unfold pairsK at h; rw [z] at h; cases h
    | some l1 =>
      unfold pairsK at h
      rw [z] at h
      cases h
      obtain ⟨k', v'⟩ := q
      obtain ⟨e1, e2⟩ := e
      have e1 : k = k' := e1
      subst e1
      refine .cons ⟨[kD k, v], rfl, .cons ?_ (.cons e2 .nil)⟩ (pairsK_rep t z)
      cases k with
      | inl i => exact .int i
      | inr x => exact .str x
  | (_, .ref _) :: _, _, _, .cons _ _, h => by cases h
def itemsF (x : W) (S : List Ob) : Res (List W) := match x with
  | .ref n => (match S[n]? with
    | some (.dct kvs) => (match pairsK kvs with
      | some l => if l.length ≤ 16777216 then .ok l (S.set n (.fdc kvs)) else .bad
      | none => .bad)
    | some (.fdc kvs) => (match pairsK kvs with
      | some l => if l.length ≤ 16777216 then .ok l S else .bad
      | none => .bad)
    | _ => .bad)
  | _ => .bad
def fItemsF (fa : FE) : FA := fun ρ S => (fa ρ S).bind itemsF
theorem walk_itemsF {Fr Hd : Hp} {μ : List Addr} {d : Addr} {ob : Obj} {vs : List (Key × V)} {l : List W} (hF : Fr d = some (.frz ob (.dK vs))) (hl : Paired (fun (w : W) (p : Key × V) => ∃ ds, w = .d (.tuple ds) ∧ DpAll X.K Fr [kV p.1, p.2] ds) l vs) :
    Walk (ItiK d ob vs) l.length (fun H => Le Fr H ∧ Le Hd H) (Yq X.K Fr μ l) := by
  have el := Paired.length hl
  refine ⟨fun i _ hi q => ⟨q.1 d _ hF, by omega⟩, fun _ q => ⟨q.1 d _ hF, by omega⟩, fun i H v H' hi q y => ?_⟩
  obtain ⟨T, ob', k, x, k1, rfl, k3, kd, rfl⟩ := y
  have hi : i < l.length := by have := (List.getElem?_eq_some_iff.mp k1).1; omega
  obtain ⟨p, k4, ds, k5, k6⟩ := L2.paired_get hl (List.getElem?_eq_getElem hi)
  rw [k1] at k4
  cases k4
  exact ⟨_, List.getElem?_eq_getElem hi, .inr ⟨T, ob', _, ds, rfl, k3, kd, rfl, k5, k6⟩⟩
theorem i_itemsF {elts : List Expr} {kk : Nat} {tpos : Pos} (ha : PE X e (LE X Wc fa)) (hbase : attributeBase e "items" X.env (eval e X.env) = eval e X.env := by rfl) (hline : (apos.endLine == cpos.line) = true := by rfl) :
    PI X (.Tuple elts kk tpos) (.Call (.Attribute e "items" apos) [] [] cpos) (LI X Wc (fItemsF fa)) := PI.imp (pi_itemsK (pe_lockv ha) hbase hline) fun σ H Q h => by
  obtain ⟨F, Hd, m, ρ, S, r, c⟩ := h
  refine stepI r c fun F1 m1 x v S1 H1 l1 p1 r1 e1 c1 => ?_
  cases x with
  | d x => exact c1.elim
  | ref n =>
    obtain ⟨a, ea, rfl⟩ := e1
    unfold itemsF at c1
    dsimp only at c1
    split at c1
    · rename_i kvs es
      split at c1
      · rename_i l hp
        split at c1
        · rename_i hl
          obtain ⟨ho, h1, ⟨vs, rfl, q⟩, hf, _⟩ := r1.b.st n a _ ea es
          have hf : F1 a = none := hf
          refine .inl ⟨a, vs, rfl, h1, fun ob => ⟨a, ob, vs, rfl, upd_same, ?_⟩⟩
          have le : Le F1 (L2.upd F1 a (.frz ob (.dK vs))) := Le.upd hf
          have r2 := R.frzPut (o := .fdc kvs) (ho := .frz ob (.dK vs)) r1 ea hf ⟨ob, vs, rfl, q⟩ rfl
          have k3 := pairsK_rep (RepKV.mono le (List.prefix_refl m1) q) hp
          exact c1 _ Hd m1 _ _ le Le.refl (List.prefix_refl m1) r2 (walk_itemsF upd_same k3) (by rw [sizeLine_eq]; exact hl)
        · exact c1.elim
      · exact c1.elim
    · rename_i kvs es
      split at c1
      · rename_i l hp
        split at c1
        · rename_i hl
          obtain ⟨ho, h1, ⟨ob, vs, rfl, q⟩, hf, _⟩ := r1.b.st n a _ ea es
          have hf : F1 a = some (.frz ob (.dK vs)) := hf
          exact .inr ⟨a, ob, vs, rfl, h1, c1 F1 Hd m1 _ _ Le.refl Le.refl (List.prefix_refl m1) r1 (walk_itemsF hf (pairsK_rep q hp)) (by rw [sizeLine_eq]; exact hl)⟩
        · exact c1.elim
      · exact c1.elim
    · exact c1.elim
/-! ### d[k] op= v, of ints -/
def augS (f : Int → Int → Int) (v z x y : W) (ρ : List Sl) (S : List Ob) : Fl := match v, z with
  | .d (.int i), .d (.int j) => putS (.d (.int (f i j))) x y ρ S
  | _, _ => .bad
def fSaug (f : Int → Int → Int) (fa fb fv : FE) : FT := fun ρ S => fl (fa ρ S) ρ fun x S1 => fl (fb ρ S1) ρ fun y S2 => fl (getS x y S2) ρ fun v S3 => fl (fv ρ S3) ρ fun z S4 => augS f v z x y ρ S4
theorem s_saug {op : Operator} {f : Int → Int → Int} {rd : V → V → Hp → VK → Prop} (hrd : ∀ (i j : Int) (H : Hp) (Q : VK), Q (.int (f i j)) H → rd (.int i) (.int j) H Q) (hop : InOp X op rd) (hu : X.A.units + 1 < cLine) (ho : PE X o (LE X Wc fa)) (hk : PE X e (LE X Wc fb)) (hv : PE X value (LE X Wc fv))
    (ha : ∀ ov iv new, augStore e ov iv new = (do holding [new, ov, iv] (setItem ov iv new); release [new, ov, iv] []; pure .next) := by intros; rfl) : PS X (.AugAssign (.Subscript o e tpos) op value pos) (LS X Wc (fSaug f fa fb fv)) := PS.imp (ps_daug hu ho hk hv hop ha) fun D σ H h => by
  obtain ⟨F, Hd, m, ρ, S, r, c⟩ := h
  refine stepS r c fun F1 m1 x xv S1 H1 l1 p1 r1 e1 c1 => ?_
  refine stepS r1 c1 fun F2 m2 y yv S2 H2 l2 p2 r2 e2 c2 => ?_
  have e1' := RepW.mono l2 p2 e1
  unfold getS at c2
  split at c2
  · rename_i kvs hd
    obtain ⟨a, vs, rfl, h1, q1⟩ := dctS_rep r2 hd e1'
    unfold getD at c2
    split at c2
    · rename_i k hk
      split at c2
      · rename_i w hw
        rcases valW_rep (k := k) q1 with ⟨z1, _⟩ | ⟨x', v', z1, z2, z3⟩
        · rw [hw] at z1; cases z1
        · rw [hw] at z1
          cases z1
          refine ⟨a, v', rfl, by rw [keyOf_rep hk e2, ← z2]; exact DGet.rd h1, ?_⟩
          have c9 : contS X.K X.mg Wc F2 Hd m2 D (fl (fv ρ S2) ρ fun z S4 => augS f w z x y ρ S4) := c2
          clear c2
          refine stepS r2 c9 fun F3 m3 z zv S3 H3 l3 p3 r3 e3 c3 => ?_
          unfold augS at c3
          split at c3
          · rename_i i j
            cases z3
            cases e3
            refine hrd i j H3 _ ?_
            cases x with
            | d x => exact c3.elim
            | ref n =>
              obtain ⟨a', ea, ee⟩ := RepW.mono l3 p3 e1'
              cases ee
              unfold putS at c3
              dsimp only at c3
              split at c3
              · rename_i kvs2 k2 es hk2
                split at c3
                · rename_i hl
                  obtain ⟨ho, h1', ⟨vs2, rfl, q⟩, hfr, _⟩ := r3.b.st n a _ ea es
                  have el := Paired.length q
                  have e4 := keyOf_rep hk2 (RepW.mono l3 p3 e2)
                  rw [e4]
                  exact ⟨_, DPut.k h1' (by rw [sizeLine_eq]; omega), c3 F3 m3 σ _ Le.refl (List.prefix_refl m3) (r3.put ea hfr ⟨_, rfl, putW_rep (y := .d (.int (f i j))) (u := .int (f i j)) (Dp.int (f i j)) q⟩)⟩
                · exact c3.elim
              · exact c3.elim
          · exact c3.elim
      · exact c2.elim
    · exact c2.elim
  · exact c2.elim
theorem hrd_add (i j : Int) (H : Hp) (Q : VK) (h : Q (.int (i + j)) H) : rAdd (.int i) (.int j) H Q := ⟨i, j, rfl, rfl, h⟩
theorem hrd_sub (i j : Int) (H : Hp) (Q : VK) (h : Q (.int (i - j)) H) : rSub (.int i) (.int j) H Q := ⟨i, j, rfl, rfl, h⟩
/-! ### x.pop() of a list of the store, a list of the store as it stands -/
def pop0 (x : W) (S : List Ob) : Res W := match x with
  | .ref n => (match S[n]? with
    | some (.lst xs) => (match xs[xs.length - 1]? with
      | some y => .ok y (S.set n (.lst xs.dropLast))
      | none => .bad)
    | _ => .bad)
  | _ => .bad
def fPop0 (fa : FE) : FE := fun ρ S => (fa ρ S).bind pop0
theorem q_pop0 (ho : PE X o (LE X Wc fa)) (hbase : attributeBase o "pop" X.env (eval o X.env) = eval o X.env := by rfl) (hline : (apos.endLine == cpos.line) = true := by rfl) :
    PE X (.Call (.Attribute o "pop" apos) [] [] cpos) (LE X Wc (fPop0 fa)) :=
  PE.imp (pe_bm0 PySem.F.plainAttrs_list PySem.F.slot_list_pop PySem.F.type_list_pop mt_pop ho hbase hline) fun σ H Q h => by
  obtain ⟨F, D, m, ρ, S, r, c⟩ := h
  refine step r c fun F1 m1 x v S1 H1 l1 p1 r1 e1 c1 => ?_
  cases x with
  | d x => exact c1.elim
  | ref n =>
    obtain ⟨a, ea, rfl⟩ := e1
    unfold pop0 at c1
    dsimp only at c1
    split at c1
    · rename_i xs es
      obtain ⟨ho, h1, ⟨vs, rfl, q⟩, hf, _⟩ := r1.b.st n a _ ea es
      refine ⟨.inl ⟨rfl, vs, .inl (.inl h1)⟩, ?_⟩
      split at c1
      · rename_i y ey
        obtain ⟨v, ev, rv⟩ := paired_get q ey
        rw [Paired.length q] at ev
        exact ⟨a, vs, v, rfl, rfl, h1, ev, c1 F1 m1 v _ Le.refl (List.prefix_refl m1) (r1.put ea hf ⟨_, rfl, paired_dropLast q⟩) rv⟩
      · exact c1.elim
    · exact c1.elim
def lstS (x : W) (S : List Ob) : Res (List W) := match x with
  | .ref n => (match S[n]? with
    | some (.lst xs) => .ok xs S
    | _ => .bad)
  | _ => .bad
def fLs (fa : FE) : FA := fun ρ S => (fa ρ S).bind lstS
theorem l_sref (h : PE X e (LE X Wc fa)) : PE X e (LL X Wc (fLs fa)) := PE.imp h fun σ H Q h => by
  obtain ⟨F, D, m, ρ, S, r0, c⟩ := h
  refine step r0 c fun F1 m1 x v S1 H1 l1 p1 r1 e1 c1 => ?_
  cases x with
  | d x => exact c1.elim
  | ref n =>
    obtain ⟨a, ea, rfl⟩ := e1
    unfold lstS at c1
    dsimp only at c1
    split at c1
    · rename_i xs es
      obtain ⟨ho, h1, ⟨vs, rfl, q⟩, _⟩ := r1.b.st n a _ ea es
      exact c1 F1 m1 _ H1 Le.refl (List.prefix_refl m1) r1 ⟨a, vs, rfl, .inl (.inl h1), q⟩
    · exact c1.elim
/-! ### d == e of dicts of the store that are equal, of ints -/
def sameI (ls : List (Key × W)) (p : Key × W) : Bool := match p.2, valW ls p.1 with
  | .d (.int i), some (.d (.int j)) => decide (i = j)
  | _, _ => false
def oEqDT : W → W → List Ob → Res W := fun x y S => match x, y with
  | .ref n, .ref k => (match S[n]?, S[k]? with
    | some (.dct ks), some (.dct ls) => if ks.length = ls.length ∧ ks.all (sameI ls) = true then .ok (.d (.bool true)) S else .bad
    | _, _ => .bad)
  | _, _ => .bad
theorem same_rep {Fr : Hp} {μ : List Addr} {ls : List (Key × W)} {ws : List (Key × V)} (hl : RepKV X.K Fr μ ls ws) : ∀ {ks : List (Key × W)} {vs : List (Key × V)}, RepKV X.K Fr μ ks vs → ks.all (sameI ls) = true → ∀ p ∈ vs, valV ws p.1 = some p.2 ∧ flatB p.2 = true
  | _, _, .nil, _, p, hp => by cases hp
  | (k, w) :: r, (k', v) :: t, .cons ⟨e1, e2⟩ h, ha, p, hp => by
    have e1 : k = k' := e1
    subst e1
    rw [List.all_cons, Bool.and_eq_true] at ha
    rcases List.mem_cons.mp hp with rfl | hp
    · have hs := ha.1
      unfold sameI at hs
      dsimp only at hs
      split at hs
      · rename_i i j ej
        have hs := of_decide_eq_true hs
        subst hs
        cases e2
        rcases valW_rep (k := k) hl with ⟨z1, _⟩ | ⟨x', v', z1, z2, z3⟩
        · rw [ej] at z1; cases z1
        · rw [ej] at z1
          cases z1
          cases z3
          exact ⟨z2, rfl⟩
      · cases hs
    · exact same_rep hl h ha.2 p hp
theorem f_eqDT : OpF X Wc rEqDA oEqDT := by
  intro Fr Hd μ ρ S σ H x y v u Q r ex ey c
  unfold oEqDT at c
  split at c
  · rename_i n k
    obtain ⟨a, ea, rfl⟩ := ex
    obtain ⟨b, eb, rfl⟩ := ey
    split at c
    · rename_i ks ls es1 es2
      split at c
      · rename_i hh
        obtain ⟨ho, h1, ⟨vs, rfl, q1⟩, _⟩ := r.b.st n a _ ea es1
        obtain ⟨ho2, h2, ⟨ws, rfl, q2⟩, _⟩ := r.b.st k b _ eb es2
        refine ⟨a, b, vs, ws, rfl, rfl, h1, h2, by rw [← Paired.length q1, ← Paired.length q2]; exact hh.1, same_rep q2 q1 hh.2, rt r c (Dp.bl _)⟩
      · exact c.elim
    · exact c.elim
  · exact c.elim
end
section
variable {ρ : List Sl} {S : List Ob} {fa fb fc fv : FE} {fr : FA}
@[simp] theorem e_Denum : fDenum fa ρ S = (fa ρ S).bind denW := rfl
@[simp] theorem e_denT (ds : List PyData) : denW (.d (.tuple ds)) S = if ds.length ≤ 16777216 then .ok (.dct (enW 0 ds)) S else .bad := rfl
@[simp] theorem e_PutsA {c : Str} {i : Nat} {fs : List Str} : fPutsA c i fs fr ρ S = fl (fr ρ S) ρ fun ws S1 => match refAt i ρ with
  | some n => (match putsF c n fs ws S1 with
    | some S2 => if ws.length = fs.length then .nx ρ S2 else .bad
    | none => .bad)
  | none => .bad := rfl
@[simp] theorem e_Setd : fSetd fa fb fc ρ S = (fa ρ S).bind fun x S1 => if (dctS x S1).isSome = true then (fb ρ S1).bind fun y S2 => (fc ρ S2).bind fun z S3 => setdS x y z S3 else .bad := rfl
@[simp] theorem e_ItemsF : fItemsF fa ρ S = (fa ρ S).bind itemsF := rfl
@[simp] theorem e_Saug {f : Int → Int → Int} : fSaug f fa fb fv ρ S = fl (fa ρ S) ρ fun x S1 => fl (fb ρ S1) ρ fun y S2 => fl (getS x y S2) ρ fun v S3 => fl (fv ρ S3) ρ fun z S4 => augS f v z x y ρ S4 := rfl
@[simp] theorem e_augI {f : Int → Int → Int} (i j : Int) (x y : W) : augS f (.d (.int i)) (.d (.int j)) x y ρ S = putS (.d (.int (f i j))) x y ρ S := rfl
@[simp] theorem e_Pop0 : fPop0 fa ρ S = (fa ρ S).bind pop0 := rfl
@[simp] theorem e_Ls : fLs fa ρ S = (fa ρ S).bind lstS := rfl
end
end L2.Q
/-! Layer Q, part RB: dict(t) of a tuple of pairs. -/
namespace L2.Q
open PySem PySem.Spec PyProof.Rows
def kOf : PyData → Option Key
  | .int i => some (.inl i)
  | .str z => some (.inr z)
  | _ => none
/-- the pairs of a tuple, as entries -/
def prK : List PyData → Option (List (Key × W))
  | [] => some []
  | .tuple [k, v] :: r => (match kOf k, prK r with
    | some k, some l => some ((k, .d v) :: l)
    | _, _ => none)
  | _ :: _ => none
theorem kOf_rep {K : PySem.W.Frag} {F : Hp} {d : PyData} {v : V} {u : Value} {k : Key} (h : kOf d = some k) (r : Dp K F v d) (rv : RelV v u) : keyIs k u = true := by
  cases r with
  | int i => cases h; exact (by obtain ⟨t, rfl⟩ := rv; simp [keyIs, Value.isInt])
  | str x => cases h; exact (by obtain ⟨t, rfl⟩ := rv; simp [keyIs, Value.isStr, Value.isStrOf])
  | non => cases h
  | bl b => cases h
  | lst _ _ => cases h
  | tup _ _ => cases h
section
variable {X : Cx} {pins : List (Addr × Obj)} {σ : St} {H : Hp} {s : Shared}
/-- the tuple's object -/
theorem SqT.plain {a : Addr} {xs : List V} (I : Inv X pins σ H s) (h : SqT X.K H a xs) : ∃ its : List Value, Vals xs its ∧ PlainSeq "tuple" s.heap a its.toArray ∧ xs.length ≤ sizeLine := by
  rcases h with ⟨o, h, hd⟩ | ⟨o, its, n, hk, hc, hd, hs, hz, r⟩
  · obtain ⟨e, z, its, r, o', e', c, n, d⟩ := (show ObjOk X.prog X.w H s.heap a (.frz o (.tup xs)) from I.hok a _ h)
    rw [e] at e'
    cases e'
    exact ⟨its, r, ⟨o, n, e, c, hd, d⟩, z⟩
  · refine ⟨its.toList, r, ⟨o, n, I.kIn a o hk, hc, hd, by simpa using hs⟩, ?_⟩
    have e := r.length
    simp only [Array.length_toList] at e
    omega
theorem vals2 {x y : V} {us : List Value} (r : Vals [x, y] us) : ∃ u v, us = [u, v] ∧ RelV x u ∧ RelV y v := by
  cases r with
  | cons r1 r2 =>
    cases r2 with
    | cons r2 r3 => cases r3; exact ⟨_, _, rfl, r1, r2⟩
/-- the pairs in the heap -/
theorem prK_heap {F : Hp} (I : Inv X pins σ H s) (le : Le F H) : ∀ {ds : List PyData} {xs : List V} {us : List Value} {l : List (Key × W)}, DpAll X.K F xs ds → prK ds = some l → Vals xs us →
    ∃ (as : List Addr) (ps : List (Value × Value)) (ks : List (Key × V)), us = as.map Value.ref ∧ Paired (fun b (p : Value × Value) => s.heap.IsTuple b #[p.1, p.2]) as ps ∧
      Paired (fun (q : Key × V) (p : Value × Value) => keyIs q.1 p.1 = true ∧ RelV q.2 p.2) ks ps ∧ RepKV X.K F [] l ks
  | [], _, _, l, hd, hp, hv => by
    cases hd
    cases hv
    cases hp
    exact ⟨[], [], [], rfl, .nil, .nil, .nil⟩
  | d :: ds, _, _, l, hd, hp, hv => by
    cases hd with
    | cons h1 h2 =>
      cases hv with
      | cons r1 r2 =>
        unfold prK at hp
        split at hp
        · rename_i e; cases e
        · rename_i k v r e
          cases e
          split at hp
          · rename_i k' l' ek er
            cases hp
            obtain ⟨as, ps, ks, rfl, e1, e2, e3⟩ := prK_heap I le h2 er r2
            cases h1 with
            | @tup a vs _ hs ha =>
              cases ha with
              | @cons x _ _ _ hx hr =>
                cases hr with
                | @cons y _ _ _ hy hr =>
                  cases hr
                  obtain rfl := r1
                  obtain ⟨its, rv, p, hz⟩ := I.tuple (Le.sqT le hs)
                  obtain ⟨u, w, rfl, ru, rw'⟩ := vals2 rv
                  exact ⟨a :: as, (u, w) :: ps, (k', y) :: ks, rfl, .cons p e1, .cons ⟨kOf_rep ek hx ru, rw'⟩ e2, .cons ⟨rfl, hy⟩ e3⟩
          · cases hp
        · cases hp
def kvsOf (ks : List (Key × V)) (ps : List (Value × Value)) : List (Key × Value) := List.zipWith (fun q p => (q.1, p.2)) ks ps
theorem kvsOf_rel : ∀ {ks : List (Key × V)} {ps : List (Value × Value)}, Paired (fun (q : Key × V) (p : Value × Value) => keyIs q.1 p.1 = true ∧ RelV q.2 p.2) ks ps →
    KV ks (kvsOf ks ps) ∧ (kvsOf ks ps).length = ps.length ∧ (kvsOf ks ps).map (·.1) = ks.map (·.1) ∧ ∀ (i : Nat) (k v : Value), ps[i]? = some (k, v) → ∃ q, (kvsOf ks ps)[i]? = some (q, v) ∧ keyIs q k = true
  | _, _, .nil => ⟨.nil, rfl, rfl, fun i k v h => by simp at h⟩
  | _, _, .cons (a := q) (b := p) h t => by
    obtain ⟨h1, h2, h3, h4⟩ := kvsOf_rel t
    refine ⟨.cons ⟨rfl, h.2⟩ h1, by simp [kvsOf] at h2 ⊢; exact h2, by rw [List.map_cons, ← h3]; rfl, fun i k v e => ?_⟩
    cases i with
    | zero =>
      simp only [List.getElem?_cons_zero, Option.some.injEq] at e
      subst e
      exact ⟨q.1, rfl, h.1⟩
    | succ i => exact h4 i k v e
def rDctT (K : PySem.W.Frag) : List V → Hp → VK → Prop := fun xs H Q => ∃ (a : Addr) (vs : List V) (ds : List PyData) (l : List (Key × W)) (F : Hp), xs = [.ref a] ∧ SqT K H a vs ∧ Le F H ∧ DpAll K F vs ds ∧ prK ds = some l ∧ (l.map (·.1)).Nodup ∧
  ∀ (ks : List (Key × V)) (p : Addr), RepKV K F [] l ks → H p = none → Q (.ref p) (upd H p (.dK ks))
theorem paired_map {K : PySem.W.Frag} {F : Hp} {μ : List Addr} : ∀ {l : List (Key × W)} {ks : List (Key × V)}, RepKV K F μ l ks → l.map (·.1) = ks.map (·.1)
  | _, _, .nil => rfl
  | _, _, .cons h t => by rw [List.map_cons, List.map_cons, h.1, paired_map t]
theorem call_dctT (hc : X.calm = true) : CallR X (.type "dict") (rDctT X.K) := by
  intro pins s σ H xs us Q I r h
  obtain ⟨a, vs, ds, l, F, rfl, hs, le, hd, hp, nd, q⟩ := h
  rw [Vals.ref1 r]
  obtain ⟨its, rv, pl, hz⟩ := hs.plain I
  obtain ⟨as, ps, ks, rfl, e1, e2, e3⟩ := prK_heap I le hd hp rv
  obtain ⟨k1, k2, k3, k4⟩ := kvsOf_rel e2
  have len : as.length = ps.length := Paired.length e1
  have lk : ks.length = ps.length := Paired.length e2
  have lv : vs.length = ps.length := by rw [rv.length, List.length_map, len]
  refine PySem.call_dict_pairs (knd := mixKind X.prog X.w) (kvs := kvsOf ks ps) (PairArg.tuple a (as.map Value.ref).toArray (fun j => as[j]?.getD 0) ps) (I.ok.hd hc) ⟨pl, ?_, fun j k v hj => ?_⟩ ⟨k2, fun i key v hr => ?_⟩ (by omega) fun h2 tk hd2 hk2 => ?_
  · rw [List.size_toArray, List.length_map, len]
  · have hj' : j < as.length := by rw [len]; exact (List.getElem?_eq_some_iff.mp hj).1
    obtain ⟨p, e, t⟩ := L2.paired_get e1 (List.getElem?_eq_getElem hj')
    rw [hj] at e
    cases e
    have e0 : as[j]?.getD 0 = as[j] := by rw [List.getElem?_eq_getElem hj']; rfl
    show (List.map Value.ref as).toArray[j]? = some (Value.ref (as[j]?.getD 0)) ∧ PairAt s.heap (as[j]?.getD 0) k v
    rw [e0]
    exact ⟨by simp [hj'], .inl t⟩
  · exact k4 i key v hr
  · rw [merged_nil_of_nodup _ (by rw [k3, ← paired_map e3]; exact nd)] at hd2
    have hn : H s.heap.objs.size = none := I.hok.fresh (Nat.le_refl _)
    have bg : (s.heap.objs.size == sysModules) = false := beq_eq_false_iff_ne.mpr (Nat.ne_of_gt I.big)
    have new : ObjOk X.prog X.w (upd H s.heap.objs.size (.dK ks)) h2 s.heap.objs.size (.dK ks) := dk_new (by omega) bg k1 hd2
    exact ⟨.ref s.heap.objs.size, _, I.laid (t' := tk) (fun b o e => hk2 b o (fun z => nomatch z) e) (Nat.le_refl _) new, rfl, q ks _ e3 hn⟩
end
section
variable {X : Cx} {Wc : WX} {e : Expr} {fa : FE} {p pos : Pos}
def dctT (x : W) (S : List Ob) : Res Ob := match x with
  | .d (.tuple ds) => (match prK ds with
    | some l => if (l.map (·.1)).Nodup then .ok (.dct l) S else .bad
    | none => .bad)
  | _ => .bad
def fDctT (fa : FE) : FO := fun ρ S => (fa ρ S).bind dctT
theorem q_dctT (hc : X.calm = true) (hg : Gl X "dict") (hm : X.mg "dict" = none) (h : PE X e (LE X Wc fa)) (hs : starEach [e] X.env = (false, eval e X.env) :: starEach [] X.env := by rfl) (hpl : (backTo pos (starEach [] X.env)).any (·.1) = false := by rfl) :
    PE X (.Call (.Name "dict" p) [e] [] pos) (LO X Wc (fDctT fa)) :=
  PE.imp (pe_callTy (call_dctT hc) hg hm (by decide +kernel) (pa_cons h pa_nil hs) (he := hs) (hpl := hpl)) fun σ H Q h => by
  obtain ⟨F, D, m, ρ, S, r0, c⟩ := h
  refine step r0 c fun F1 m1 x v S1 H1 l1 p1 r1 e1 c1 => ?_
  unfold dctT at c1
  split at c1
  · rename_i ds
    split at c1
    · rename_i l hp
      split at c1
      · rename_i nd
        cases e1 with
        | @tup a vs _ h1 h2 =>
          refine ⟨a, vs, ds, l, F1, rfl, Le.sqU r1.b.fr h1, r1.b.fr, h2, hp, nd, fun ks q rk hq => ?_⟩
          have f := r1.new hq
          exact c1 F1 m1 (.ref q) _ Le.refl (List.prefix_refl m1) (r1.upd (o := .dK ks) f) ⟨q, .dK ks, rfl, upd_same, ⟨ks, rfl, rk.mono Le.refl (List.nil_prefix)⟩, f⟩
      · exact c1.elim
    · exact c1.elim
  · exact c1.elim
@[simp] theorem e_DctT {ρ : List Sl} {S : List Ob} : fDctT fa ρ S = (fa ρ S).bind dctT := rfl
theorem e_dctT {S : List Ob} {ds : List PyData} {l : List (Key × W)} (h : prK ds = some l) (nd : (l.map (·.1)).Nodup) : dctT (.d (.tuple ds)) S = .ok (.dct l) S := by
  unfold dctT
  simp only [h, nd, if_true]
/-! ### for k in d, a dict of the store -/
theorem kD_rep {K : PySem.W.Frag} {F : Hp} : ∀ k : Key, Dp K F (kV k) (kD k)
  | .inl i => .int i
  | .inr x => .str x
def keysF (x : W) (S : List Ob) : Res (List W) := match x with
  | .ref n => (match S[n]? with
    | some (.dct kvs) => if kvs.length ≤ 16777216 then .ok (kvs.map fun p => .d (kD p.1)) (S.set n (.fdc kvs)) else .bad
    | some (.fdc kvs) => if kvs.length ≤ 16777216 then .ok (kvs.map fun p => .d (kD p.1)) S else .bad
    | _ => .bad)
  | _ => .bad
def fKeysF (fa : FE) : FA := fun ρ S => (fa ρ S).bind keysF
theorem walk_keysF {Fr Hd : Hp} {μ : List Addr} {d : Addr} {ob : Obj} {kvs : List (Key × W)} {vs : List (Key × V)} (hF : Fr d = some (.frz ob (.dK vs))) (hl : RepKV X.K Fr μ kvs vs) :
    Walk (Itk d ob vs) (kvs.map fun p => W.d (kD p.1)).length (fun H => Le Fr H ∧ Le Hd H) (Yq X.K Fr μ (kvs.map fun p => W.d (kD p.1))) := by
  have el : kvs.length = vs.length := Paired.length hl
  rw [List.length_map]
  refine ⟨fun i _ hi q => ⟨q.1 d _ hF, by omega⟩, fun _ q => ⟨q.1 d _ hF, by omega⟩, fun i H v H' hi q y => ?_⟩
  obtain ⟨rfl, k, x, k1, rfl⟩ := y
  have hi : i < kvs.length := by have := (List.getElem?_eq_some_iff.mp k1).1; omega
  obtain ⟨p, k4, k5, _⟩ := L2.paired_get hl (List.getElem?_eq_getElem hi)
  rw [k1] at k4
  cases k4
  refine ⟨_, by rw [List.getElem?_map, List.getElem?_eq_getElem hi]; rfl, .inl ⟨rfl, ?_⟩⟩
  have k5 : (kvs[i]).1 = k := k5
  show Dp X.K Fr (kV k) (kD (kvs[i]).1)
  rw [k5]
  exact kD_rep k
theorem i_keysF {tg : Expr} (ha : PE X e (LE X Wc fa)) : PI X tg e (LI X Wc (fKeysF fa)) := PI.imp (pi_keys (pe_lockv ha)) fun σ H Q h => by
  obtain ⟨F, Hd, m, ρ, S, r, c⟩ := h
  refine stepI r c fun F1 m1 x v S1 H1 l1 p1 r1 e1 c1 => ?_
  cases x with
  | d x => exact c1.elim
  | ref n =>
    obtain ⟨a, ea, rfl⟩ := e1
    unfold keysF at c1
    try dsimp only at c1
    split at c1
    · rename_i kvs es
      split at c1
      · rename_i hl
        obtain ⟨ho, h1, ⟨vs, rfl, q⟩, hf, _⟩ := r1.b.st n a _ ea es
        have hf : F1 a = none := hf
        refine .inl ⟨a, vs, rfl, h1, fun ob => ⟨a, ob, rfl, .inl ⟨vs, upd_same, ?_⟩⟩⟩
        have le : Le F1 (L2.upd F1 a (.frz ob (.dK vs))) := Le.upd hf
        have r2 := R.frzPut (o := .fdc kvs) (ho := .frz ob (.dK vs)) r1 ea hf ⟨ob, vs, rfl, q⟩ rfl
        exact c1 _ Hd m1 _ _ le Le.refl (List.prefix_refl m1) r2 (walk_keysF upd_same (RepKV.mono le (List.prefix_refl m1) q)) (by rw [List.length_map, sizeLine_eq]; exact hl)
      · exact c1.elim
    · rename_i kvs es
      split at c1
      · rename_i hl
        obtain ⟨ho, h1, ⟨ob, vs, rfl, q⟩, hf, _⟩ := r1.b.st n a _ ea es
        have hf : F1 a = some (.frz ob (.dK vs)) := hf
        exact .inr ⟨a, ob, rfl, .inl ⟨vs, h1, c1 F1 Hd m1 _ _ Le.refl Le.refl (List.prefix_refl m1) r1 (walk_keysF hf q) (by rw [List.length_map, sizeLine_eq]; exact hl)⟩⟩
      · exact c1.elim
    · exact c1.elim
@[simp] theorem e_KeysF {ρ : List Sl} {S : List Ob} : fKeysF fa ρ S = (fa ρ S).bind keysF := rfl
theorem e_keysD {S : List Ob} {n : Nat} {kvs : List (Key × W)} (h : S[n]? = some (.dct kvs)) (hl : kvs.length ≤ 16777216) : keysF (.ref n) S = .ok (kvs.map fun p => .d (kD p.1)) (S.set n (.fdc kvs)) := by
  unfold keysF
  simp only [h, hl, if_true]
theorem e_keysF {S : List Ob} {n : Nat} {kvs : List (Key × W)} (h : S[n]? = some (.fdc kvs)) (hl : kvs.length ≤ 16777216) : keysF (.ref n) S = .ok (kvs.map fun p => .d (kD p.1)) S := by
  unfold keysF
  simp only [h, hl, if_true]
end
end L2.Q
namespace L2.Q.P
open PySem PySem.Spec PyProof.Rows
def top (i : Nat) : Stmt := PySem.Challenge.pw_sumsworn_k05_whole_images_and_changes.main.body.getD i (.Pass ⟨0, 0, 0, 0⟩)
def fuelW : Nat := 1000000000
/-- which class lies under which -/
def subQ (d c : Str) : Bool := ([("BadSum", "BadSum"), ("BadSum", "SumError"), ("BadWitness", "BadWitness"), ("BadWitness", "SumError"), ("BadValues", "BadValues"), ("BadValues", "SumError"), ("SumError", "SumError")] : List (Str × Str)).any fun p => decide (p.1 = d) && decide (p.2 = c)
/-! is_int -/
def b_is_int : FT := (fRet (fAndV (fIsi "int" (fVar 0)) (fNotV (fIsi "bool" (fVar 0)))))
def m_is_int : FM := runF 1 b_is_int
/-! within -/
def b_within : FT := (fRet (fAndV (fCall m_is_int (fCons (fVar 0) fNil)) (fChain oLe oLe (fVar 1) (fVar 0) (fVar 2))))
def m_within : FM := runF 3 b_within
/-! is_index -/
def b_is_index : FT := (fRet (fAndV (fCall m_is_int (fCons (fVar 0) fNil)) (fBin oGe (fVar 0) (fC (.int 0)))))
def m_is_index : FM := runF 1 b_is_index
/-! is_row -/
def b_is_row : FT := (fRet (fAndV (fIsi "tuple" (fVar 0)) (fChain oLe oLe (fVar 1) (fLen (fIt (fVar 0))) (fVar 2))))
def m_is_row : FM := runF 3 b_is_row
/-! is_ascending -/
def e_is_ascending_0 : FE := (fBin oLt (fVar 1) (fVar 2))
def b_is_ascending : FT := (fRet (fAll (fItO (fLc (fZip (fVar 0) (fCut (fVar 0) (fP (fC (.int 1))) fNoP)) [1, 2] (gT 2 (gsC (gN 1) (gsC (gN 2) gsN))) (fun _ S => .ok true S) e_is_ascending_0))))
def m_is_ascending : FM := runF 3 b_is_ascending
/-! are_bits -/
def e_are_bits_0 : FE := (fCall m_within (fCons (fVar 3) (fCons (fC (.int 0)) (fCons (fC (.int 1)) fNil))))
def b_are_bits : FT := (fRet (fAndV (fCall m_is_row (fCons (fVar 0) (fCons (fVar 1) (fCons (fVar 2) fNil)))) (fAll (fItO (fLc (fIt (fVar 0)) [3] (gN 3) (fun _ S => .ok true S) e_are_bits_0)))))
def m_are_bits : FM := runF 4 b_are_bits
/-! is_term -/
def b_is_term : FT := (fRet (fAndV (fCall m_is_row (fCons (fVar 0) (fCons (fC (.int 2)) (fCons (fC (.int 2)) fNil)))) (fAndV (fCall m_is_index (fCons (fBin oIx (fVar 0) (fC (.int 0))) fNil)) (fAndV (fCall m_is_int (fCons (fBin oIx (fVar 0) (fC (.int 1))) fNil)) (fBin oGe (fBin oIx (fVar 0) (fC (.int 1))) (fC (.int 1)))))))
def m_is_term : FM := runF 1 b_is_term
/-! are_terms -/
def e_are_terms_0 : FE := (fCall m_is_term (fCons (fVar 2) fNil))
def e_are_terms_1 : FE := (fBin oDiv (fVar 3) (fC (.int 2)))
def e_are_terms_2 : FE := (fBin oLt (fVar 5) (fVar 6))
def b_are_terms : FT := (fSeq (fIfS (fOr (fNot (fT (fIsi "tuple" (fVar 0)))) (fNot (fT (fAll (fItO (fLc (fIt (fVar 0)) [2] (gN 2) (fun _ S => .ok true S) e_are_terms_0)))))) (fRet (fC (.bool false))) fNx)
    (fSeq (fSetO 1 (fLc (fIt (fVar 0)) [3, 4] (gT 2 (gsC (gN 3) (gsC (gN 4) gsN))) (fun _ S => .ok true S) e_are_terms_1))
    (fFrz 1 (fRet (fAll (fItO (fLc (fZip (fVar 1) (fCut (fVar 1) (fP (fC (.int 1))) fNoP)) [5, 6] (gT 2 (gsC (gN 5) (gsC (gN 6) gsN))) (fun _ S => .ok true S) e_are_terms_2)))))))
def m_are_terms : FM := runF 7 b_are_terms
/-! is_sum -/
def b_is_sum : FT := (fRet (fAndV (fCall m_is_row (fCons (fVar 0) (fCons (fC (.int 2)) (fCons (fC (.int 2)) fNil)))) (fAndV (fCall m_are_terms (fCons (fBin oIx (fVar 0) (fC (.int 0))) fNil)) (fCall m_is_int (fCons (fBin oIx (fVar 0) (fC (.int 1))) fNil)))))
def m_is_sum : FM := runF 1 b_is_sum
/-! put_together -/
def l_put_together_0 : FT := (fSeq (fSet 6 (fBin oDiv (fVar 4) (fC (.int 2))))
    (fSeq (fIfS (fOr (fT (fBin (oEqS false) (fVar 4) (fC (.int (-1))))) (fAnd (fT (fBin oGe (fVar 6) (fC (.int 0)))) (fT (fBin (oEqS false) (fBin oBAnd (fVar 4) (fC (.int 1))) (fC (.int 1)))))) (fAug 3 oSub (fVar 5)) fNx)
    (fIfS (fT (fBin oGe (fVar 6) (fC (.int 0)))) (fDput 2 (fVar 6) (fBin oAddA (fDget2 2 (fVar 6) (fC (.int 0))) (fBin oMulA (fBin oSub (fC (.int 1)) (fBin oMulA (fC (.int 2)) (fBin oBAnd (fVar 4) (fC (.int 1))))) (fVar 5)))) fNx)))
def l_put_together_1 : FT := (fSeq (fSet 8 (fDget 2 (fVar 6)))
    (fIfS (fT (fBin oGt (fVar 8) (fC (.int 0)))) (fDropX (fApp 7 (fTup (fCons (fBin oMulA (fC (.int 2)) (fVar 6)) (fCons (fVar 8) fNil))))) (fIfS (fT (fBin oLt (fVar 8) (fC (.int 0)))) (fSeq (fDropX (fApp 7 (fTup (fCons (fBin oAddA (fBin oMulA (fC (.int 2)) (fVar 6)) (fC (.int 1))) (fCons (fUn oNeg (fVar 8)) fNil)))))
    (fAug 3 oSub (fVar 8))) fNx)))
def b_put_together : FT := (fSeq (fPar 2 3 (fCo fDnew) (fCw (fVar 1)))
    (fSeq (fFor (fIt (fVar 0)) (gT 2 (gsC (gN 4) (gsC (gN 5) gsN))) l_put_together_0)
    (fSeq (fSetO 7 (fNewL fNil))
    (fSeq (fFor (fItO (fDsrt 2)) (gN 6) l_put_together_1)
    (fRet (fTup (fCons (fTupL (fOwn 7)) (fCons (fVar 3) fNil))))))))
def m_put_together : FM := runF 9 b_put_together
/-! moved -/
def b_moved : FT := (fSeq (fIfS (fT (fSin false (fBin oDiv (fVar 0) (fC (.int 2))) (fVar 1))) (fRet (fBin oBXor (fSget (fVar 1) (fBin oDiv (fVar 0) (fC (.int 2)))) (fBin oBAnd (fVar 0) (fC (.int 1))))) fNx)
    (fRet (fVar 0)))
def m_moved : FM := runF 2 b_moved
/-! image -/
def e_image_0 : FE := (fTup (fCons (fCall m_moved (fCons (fVar 2) (fCons (fVar 1) fNil))) (fCons (fVar 3) fNil)))
def b_image : FT := (fRet (fCall m_put_together (fCons (fFz (fLc (fIt (fBin oIx (fVar 0) (fC (.int 0)))) [2, 3] (gT 2 (gsC (gN 2) (gsC (gN 3) gsN))) (fun _ S => .ok true S) e_image_0)) (fCons (fBin oIx (fVar 0) (fC (.int 1))) fNil))))
def m_image : FM := runF 4 b_image
/-! need_sum -/
def b_need_sum : FT := (fIfS (fNot (fT (fCall m_is_sum (fCons (fVar 0) fNil)))) (fRaise "BadSum") fNx)
def m_need_sum : FM := runF 1 b_need_sum
/-! is_witness -/
def e_is_witness_0 : FE := (fCall m_is_row (fCons (fVar 1) (fCons (fC (.int 2)) (fCons (fC (.int 2)) fNil))))
def e_is_witness_1 : FE := (fAndV (fCall m_is_index (fCons (fBin oIx (fVar 1) (fC (.int 0))) fNil)) (fAndV (fCall m_is_int (fCons (fBin oIx (fVar 1) (fC (.int 1))) fNil)) (fBin oGe (fBin oIx (fVar 1) (fC (.int 1))) (fC (.int (-2))))))
def e_is_witness_2 : FE := (fBin oIx (fVar 1) (fC (.int 0)))
def b_is_witness : FT := (fSeq (fIfS (fOr (fNot (fT (fIsi "tuple" (fVar 0)))) (fNot (fT (fAll (fItO (fLc (fIt (fVar 0)) [1] (gN 1) (fun _ S => .ok true S) e_is_witness_0)))))) (fRet (fC (.bool false))) fNx)
    (fSeq (fIfS (fNot (fT (fAll (fItO (fLc (fIt (fVar 0)) [1] (gN 1) (fun _ S => .ok true S) e_is_witness_1))))) (fRet (fC (.bool false))) fNx)
    (fRet (fCall m_is_ascending (fCons (fFz (fLc (fIt (fVar 0)) [1] (gN 1) (fun _ S => .ok true S) e_is_witness_2)) fNil)))))
def m_is_witness : FM := runF 2 b_is_witness
/-! need_witness -/
def b_need_witness : FT := (fIfS (fNot (fT (fCall m_is_witness (fCons (fVar 0) fNil)))) (fRaise "BadWitness") fNx)
def m_need_witness : FM := runF 1 b_need_witness
/-! image_of -/
def b_image_of : FT := (fSeq (fDrop (fCall m_need_sum (fCons (fVar 0) fNil)))
    (fSeq (fDrop (fCall m_need_witness (fCons (fVar 1) fNil)))
    (fRet (fCall m_image (fCons (fVar 0) (fCons (fSto (fDctT (fVar 1))) fNil))))))
def m_image_of : FM := runF 2 b_image_of
/-! value_by -/
def b_value_by : FT := (fSeq (fIfS (fT (fBin oLt (fVar 0) (fC (.int 0)))) (fRet (fIf (fT (fBin (oEqS true) (fVar 0) (fC (.int (-2))))) (fC (.int 1)) (fC (.int 0)))) fNx)
    (fRet (fIf (fT (fBin (oEqS true) (fBin oIx (fVar 1) (fBin oDiv (fVar 0) (fC (.int 2)))) (fBin oBAnd (fVar 0) (fC (.int 1))))) (fC (.int 1)) (fC (.int 0)))))
def m_value_by : FM := runF 2 b_value_by
/-! changed -/
def e_changed_0 : FE := (fAndV (fCall m_within (fCons (fBin oIx (fVar 5) (fC (.int 0))) (fCons (fC (.int 0)) (fCons (fBin oSub (fLen (fIt (fVar 0))) (fC (.int 1))) fNil)))) (fBin oLt (fBin oDiv (fBin oIx (fVar 5) (fC (.int 1))) (fC (.int 2))) (fLen (fIt (fVar 0)))))
def l_changed_0 : FT := (fPutO 2 (fCall m_value_by (fCons (fVar 4) (fCons (fVar 0) fNil))) (fVar 3))
def b_changed : FT := (fSeq (fIfS (fOr (fNot (fT (fIsi "tuple" (fVar 0)))) (fNot (fT (fCall m_are_bits (fCons (fVar 0) (fCons (fC (.int 0)) (fCons (fLen (fIt (fVar 0))) fNil))))))) (fRaise "BadValues") fNx)
    (fSeq (fDrop (fCall m_need_witness (fCons (fVar 1) fNil)))
    (fSeq (fIfS (fNot (fT (fAll (fItO (fLc (fIt (fVar 1)) [5] (gN 5) (fun _ S => .ok true S) e_changed_0))))) (fRaise "BadWitness") fNx)
    (fSeq (fSetO 2 (fNewL (fIt (fVar 0))))
    (fSeq (fFor (fIt (fVar 1)) (gT 2 (gsC (gN 3) (gsC (gN 4) gsN))) l_changed_0)
    (fRet (fTupL (fOwn 2))))))))
def m_changed : FM := runF 6 b_changed
/-! _law_deck -/
def e__law_deck_0 : FE := (fInt (fVar 1))
def b__law_deck : FT := (fRetO (fNewL (fCons (fSto (fLc (fIt (fCut (fVar 0) fNoP (fP (fC (.int 63))))) [1] (gN 1) (fun _ S => .ok true S) e__law_deck_0)) (fCons (fC (.int 0)) (fCons (fC (.int 7919)) fNil)))))
def m__law_deck : FM := runF 2 b__law_deck
/-! _law_pick -/
def b__law_pick : FT := (fSeq (fSet 2 (fBin oIx (fVar 0) (fC (.int 0))))
    (fSeq (fIfS (fAnd (fT (fBin oLt (fBin oIx (fVar 0) (fC (.int 1))) (fBin oPow (fC (.int 10)) (fC (.int 6))))) (fT (fBin (oEqS true) (fVar 2) (fFz (fNewL fNil))))) (fSeq (fSet 3 (fPopS (fVar 2) (fC (.int 0))))
    (fSeq (fSet 4 (fBin oAddA (fBin oMulA (fC (.int 2)) (fUn oAbs (fVar 3))) (fInt (fBin oLt (fVar 3) (fC (.int 0))))))
    (fIfS (fT (fBin oGe (fVar 4) (fBin oPow (fC (.int 10)) (fC (.int 18))))) (fSetIx (fBin oMod (fInt (fVar 4)) (fBin oPow (fC (.int 10)) (fC (.int 60)))) (fVar 0) (fC (.int 1))) (fSetIx (fBin oMod (fInt (fBin oAddA (fBin oAddA (fBin oMulA (fBin oIx (fVar 0) (fC (.int 2))) (fC (.int 69621))) (fBin oMulA (fBin oMod (fInt (fVar 4)) (fC (.int 2147483563))) (fC (.int 40014)))) (fC (.int 3)))) (fC (.int 2147483563))) (fVar 0) (fC (.int 2)))))) fNx)
    (fSeq (fIfS (fT (fBin oGe (fBin oIx (fVar 0) (fC (.int 1))) (fBin oPow (fC (.int 10)) (fC (.int 6))))) (fSeq (fSet 5 (fBin oMod (fInt (fBin oIx (fVar 0) (fC (.int 1)))) (fVar 1)))
    (fSeq (fSetIx (fBin oDiv (fBin oIx (fVar 0) (fC (.int 1))) (fVar 1)) (fVar 0) (fC (.int 1)))
    (fRet (fVar 5)))) fNx)
    (fSeq (fSetIx (fBin oMod (fInt (fBin oAddA (fBin oMulA (fBin oIx (fVar 0) (fC (.int 2))) (fC (.int 48271))) (fC (.int 11)))) (fC (.int 2147483647))) (fVar 0) (fC (.int 2)))
    (fRet (fBin oMod (fInt (fBin oDiv (fBin oIx (fVar 0) (fC (.int 2))) (fC (.int 53)))) (fVar 1)))))))
def m__law_pick : FM := runF 6 b__law_pick
/-! _law_alike -/
def e__law_alike_0 : FE := (fTup (fCons (fBin oIx (fVar 3) (fVar 5)) (fCons (fBin oIx (fVar 4) (fVar 5)) fNil)))
def t__law_alike_0 : FB := (fT (fCmpO true 2 (fFz (fNewL fNil))))
def l__law_alike_0 : FT := (fSeq (fAsgX (gT 2 (gsC (gN 3) (gsC (gN 4) gsN))) (fPop 2))
    (fIfS (fT (fIsi "tuple" (fVar 4))) (fSeq (fIfS (fOr (fNot (fT (fIsi "tuple" (fVar 3)))) (fT (fBin (oEqS true) (fLen (fIt (fVar 3))) (fLen (fIt (fVar 4)))))) (fRet (fC (.bool false))) fNx)
    (fSetO 2 (fAddO 2 (fFz (fLc (fRng1 (fLen (fIt (fVar 4)))) [5] (gN 5) (fun _ S => .ok true S) e__law_alike_0))))) (fIfS (fT (fUn oIsN (fVar 4))) (fIfS (fT (fUn oNotN (fVar 3))) (fRet (fC (.bool false))) fNx) (fIfS (fT (fIsi "bool" (fVar 4))) (fIfS (fOr (fNot (fT (fIsi "bool" (fVar 3)))) (fT (fBin (oEqS true) (fVar 3) (fVar 4)))) (fRet (fC (.bool false))) fNx) (fIfS (fT (fIsi "str" (fVar 4))) (fIfS (fOr (fNot (fT (fIsi "str" (fVar 3)))) (fT (fBin (oEqS true) (fVar 3) (fVar 4)))) (fRet (fC (.bool false))) fNx) (fIfS (fOr (fNot (fT (fIsi "int" (fVar 3)))) (fOr (fT (fIsi "bool" (fVar 3))) (fT (fBin (oEqS true) (fVar 3) (fVar 4))))) (fRet (fC (.bool false))) fNx))))))
def b__law_alike : FT := (fSeq (fSetO 2 (fNewL (fCons (fTup (fCons (fVar 0) (fCons (fVar 1) fNil))) fNil)))
    (fSeq (fWhile fuelW t__law_alike_0 l__law_alike_0)
    (fRet (fC (.bool true)))))
def m__law_alike : FM := runF 6 b__law_alike
/-! _law_is -/
def b__law_is : FT := (fRet (fIf (fT (fVar 1)) (fBin (oIsB false) (fVar 0) (fC (.bool true))) (fBin (oIsB false) (fVar 0) (fC (.bool false)))))
def m__law_is : FM := runF 2 b__law_is
/-! _law_whole -/
def b__law_whole : FT := (fRet (fAndV (fIsi "int" (fVar 0)) (fAndV (fNotV (fIsi "bool" (fVar 0))) (fBin oGe (fVar 0) (fVar 1)))))
def m__law_whole : FM := runF 2 b__law_whole
/-! _law_is_sum -/
def l__law_is_sum_0 : FT := (fSeq (fIfS (fOr (fNot (fT (fIsi "tuple" (fVar 2)))) (fT (fBin (oEqS true) (fLen (fIt (fVar 2))) (fC (.int 2))))) (fRet (fC (.bool false))) fNx)
    (fSeq (fIfS (fOr (fNot (fT (fCall m__law_whole (fCons (fBin oIx (fVar 2) (fC (.int 0))) (fCons (fC (.int 0)) fNil))))) (fOr (fNot (fT (fCall m__law_whole (fCons (fBin oIx (fVar 2) (fC (.int 1))) (fCons (fC (.int 1)) fNil))))) (fT (fBin oLe (fBin oDiv (fBin oIx (fVar 2) (fC (.int 0))) (fC (.int 2))) (fVar 1))))) (fRet (fC (.bool false))) fNx)
    (fSet 1 (fBin oDiv (fBin oIx (fVar 2) (fC (.int 0))) (fC (.int 2))))))
def b__law_is_sum : FT := (fSeq (fIfS (fOr (fNot (fT (fIsi "tuple" (fVar 0)))) (fOr (fT (fBin (oEqS true) (fLen (fIt (fVar 0))) (fC (.int 2)))) (fNot (fT (fIsi "tuple" (fBin oIx (fVar 0) (fC (.int 0)))))))) (fRet (fC (.bool false))) fNx)
    (fSeq (fIfS (fOr (fNot (fT (fIsi "int" (fBin oIx (fVar 0) (fC (.int 1)))))) (fT (fIsi "bool" (fBin oIx (fVar 0) (fC (.int 1)))))) (fRet (fC (.bool false))) fNx)
    (fSeq (fSet 1 (fUn oNeg (fC (.int 1))))
    (fSeq (fFor (fIt (fBin oIx (fVar 0) (fC (.int 0)))) (gN 2) l__law_is_sum_0)
    (fRet (fC (.bool true)))))))
def m__law_is_sum : FM := runF 3 b__law_is_sum
/-! _law_true -/
def b__law_true : FT := (fRet (fBin (oEqS true) (fBin oIx (fVar 1) (fBin oDiv (fVar 0) (fC (.int 2)))) (fBin oMod (fInt (fVar 0)) (fC (.int 2)))))
def m__law_true : FM := runF 2 b__law_true
/-! _law_worth -/
def t__law_worth_0 : FB := (fT (fCall m__law_true (fCons (fVar 2) (fCons (fVar 1) fNil))))
def e__law_worth_0 : FE := (fVar 3)
def b__law_worth : FT := (fRet (fSum (fItO (fLc (fIt (fBin oIx (fVar 0) (fC (.int 0)))) [2, 3] (gT 2 (gsC (gN 2) (gsC (gN 3) gsN))) t__law_worth_0 e__law_worth_0))))
def m__law_worth : FM := runF 4 b__law_worth
/-! _law_rows -/
def e__law_rows_0 : FE := (fBin oAddA (fVar 3) (fTup (fCons (fC (.int 0)) fNil)))
def e__law_rows_1 : FE := (fBin oAddA (fVar 3) (fTup (fCons (fC (.int 1)) fNil)))
def l__law_rows_0 : FT := (fSet 1 (fFz (fAddN (fFz (fLc (fIt (fVar 1)) [3] (gN 3) (fun _ S => .ok true S) e__law_rows_0)) (fFz (fLc (fIt (fVar 1)) [3] (gN 3) (fun _ S => .ok true S) e__law_rows_1)))))
def b__law_rows : FT := (fSeq (fSet 1 (fFz (fNewL (fCons (fTup fNil) fNil))))
    (fSeq (fFor (fRng1 (fVar 0)) (gN 2) l__law_rows_0)
    (fRet (fSrt (fLv (fVar 1))))))
def m__law_rows : FM := runF 4 b__law_rows
/-! _law_sum -/
def l__law_sum_0 : FT := (fIfS (fAnd (fT (fBin oLt (fLen (fOwn 5)) (fVar 2))) (fT (fBin oGt (fCall m__law_pick (fCons (fVar 0) (fCons (fC (.int 3)) fNil))) (fC (.int 0))))) (fDropX (fApp 5 (fTup (fCons (fBin oAddA (fBin oMulA (fC (.int 2)) (fVar 6)) (fCall m__law_pick (fCons (fVar 0) (fCons (fC (.int 2)) fNil)))) (fCons (fBin oAddA (fC (.int 1)) (fCall m__law_pick (fCons (fVar 0) (fCons (fVar 3) fNil)))) fNil))))) fNx)
def e__law_sum_0 : FE := (fVar 9)
def b__law_sum : FT := (fSeq (fPar 4 5 (fCw (fCall m__law_pick (fCons (fVar 0) (fCons (fC (.int 4)) fNil)))) (fCo (fNewL fNil)))
    (fSeq (fFor (fRng1 (fVar 1)) (gN 6) l__law_sum_0)
    (fSeq (fFrz 5 (fSet 7 (fSum (fItO (fLc (fIt (fVar 5)) [8, 9] (gT 2 (gsC (gN 8) (gsC (gN 9) gsN))) (fun _ S => .ok true S) e__law_sum_0)))))
    (fSeq (fIfS (fT (fBin (oEqS false) (fVar 4) (fC (.int 0)))) (fRet (fTup (fCons (fTupL (fOwn 5)) (fCons (fC (.int 1)) fNil)))) fNx)
    (fSeq (fIfS (fT (fBin (oEqS false) (fVar 4) (fC (.int 1)))) (fRet (fTup (fCons (fTupL (fOwn 5)) (fCons (fBin oAddA (fC (.int 1)) (fCall m__law_pick (fCons (fVar 0) (fCons (fBin oAddA (fVar 7) (fC (.int 1))) fNil)))) fNil)))) fNx)
    (fRet (fTup (fCons (fTupL (fOwn 5)) (fCons (fIf (fT (fBin (oEqS false) (fVar 4) (fC (.int 2)))) (fBin oDiv (fVar 7) (fC (.int 2))) (fBin oSub (fVar 7) (fCall m__law_pick (fCons (fVar 0) (fCons (fC (.int 3)) fNil))))) fNil)))))))))
def m__law_sum : FM := runF 10 b__law_sum
/-! _law_together -/
def l__law_together_0 : FT := (fIfS (fT (fBin (oEqS false) (fVar 4) (fUn oNeg (fC (.int 1))))) (fSet 3 (fBin oSub (fVar 3) (fVar 5))) (fIfS (fAnd (fT (fBin oGe (fVar 4) (fC (.int 0)))) (fT (fBin (oEqS false) (fBin oMod (fInt (fVar 4)) (fC (.int 2))) (fC (.int 0))))) (fDput 2 (fBin oDiv (fVar 4) (fC (.int 2))) (fBin oAddA (fDget2 2 (fBin oDiv (fVar 4) (fC (.int 2))) (fC (.int 0))) (fVar 5))) (fIfS (fT (fBin oGe (fVar 4) (fC (.int 0)))) (fSeq (fSet 3 (fBin oSub (fVar 3) (fVar 5)))
    (fDput 2 (fBin oDiv (fVar 4) (fC (.int 2))) (fBin oSub (fDget2 2 (fBin oDiv (fVar 4) (fC (.int 2))) (fC (.int 0))) (fVar 5)))) fNx)))
def l__law_together_1 : FT := (fIfS (fT (fBin oGt (fDget 2 (fVar 7)) (fC (.int 0)))) (fDropX (fApp 6 (fTup (fCons (fBin oMulA (fC (.int 2)) (fVar 7)) (fCons (fDget 2 (fVar 7)) fNil))))) (fIfS (fT (fBin oLt (fDget 2 (fVar 7)) (fC (.int 0)))) (fSeq (fDropX (fApp 6 (fTup (fCons (fBin oAddA (fBin oMulA (fC (.int 2)) (fVar 7)) (fC (.int 1))) (fCons (fBin oSub (fC (.int 0)) (fDget 2 (fVar 7))) fNil)))))
    (fSet 3 (fBin oSub (fVar 3) (fDget 2 (fVar 7))))) fNx))
def b__law_together : FT := (fSeq (fPar 2 3 (fCo fDnew) (fCw (fVar 1)))
    (fSeq (fFor (fIt (fVar 0)) (gT 2 (gsC (gN 4) (gsC (gN 5) gsN))) l__law_together_0)
    (fSeq (fSetO 6 (fNewL fNil))
    (fSeq (fFor (fItO (fDsrt 2)) (gN 7) l__law_together_1)
    (fRet (fTup (fCons (fTupL (fOwn 6)) (fCons (fVar 3) fNil))))))))
def m__law_together : FM := runF 8 b__law_together
/-! _law_moved -/
def b__law_moved : FT := (fSeq (fIfS (fT (fSin false (fBin oDiv (fVar 0) (fC (.int 2))) (fVar 1))) (fRet (fBin oBXor (fSget (fVar 1) (fBin oDiv (fVar 0) (fC (.int 2)))) (fBin oMod (fInt (fVar 0)) (fC (.int 2))))) fNx)
    (fRet (fVar 0)))
def m__law_moved : FM := runF 2 b__law_moved
/-! _law_image -/
def e__law_image_0 : FE := (fTup (fCons (fCall m__law_moved (fCons (fVar 2) (fCons (fVar 1) fNil))) (fCons (fVar 3) fNil)))
def b__law_image : FT := (fRet (fCall m__law_together (fCons (fFz (fLc (fIt (fBin oIx (fVar 0) (fC (.int 0)))) [2, 3] (gT 2 (gsC (gN 2) (gsC (gN 3) gsN))) (fun _ S => .ok true S) e__law_image_0)) (fCons (fBin oIx (fVar 0) (fC (.int 1))) fNil))))
def m__law_image : FM := runF 4 b__law_image
/-! _law_changed -/
def l__law_changed_0 : FT := (fSeq (fSet 4 (fSget (fVar 1) (fVar 3)))
    (fPutO 2 (fInt (fOrV (fBin (oEqS false) (fVar 4) (fUn oNeg (fC (.int 1)))) (fAndV (fBin oGe (fVar 4) (fC (.int 0))) (fCall m__law_true (fCons (fVar 4) (fCons (fVar 0) fNil)))))) (fVar 3)))
def b__law_changed : FT := (fSeq (fSetO 2 (fNewL (fIt (fVar 0))))
    (fSeq (fFor (fKeysF (fVar 1)) (gN 3) l__law_changed_0)
    (fRet (fTupL (fOwn 2)))))
def m__law_changed : FM := runF 5 b__law_changed
/-! _law_is_witness -/
def l__law_is_witness_0 : FT := (fSeq (fIfS (fOr (fNot (fT (fIsi "tuple" (fVar 2)))) (fOr (fT (fBin (oEqS true) (fLen (fIt (fVar 2))) (fC (.int 2)))) (fOr (fNot (fT (fCall m__law_whole (fCons (fBin oIx (fVar 2) (fC (.int 0))) (fCons (fBin oAddA (fVar 1) (fC (.int 1))) fNil))))) (fNot (fT (fCall m__law_whole (fCons (fBin oIx (fVar 2) (fC (.int 1))) (fCons (fUn oNeg (fC (.int 2))) fNil)))))))) (fRet (fC (.bool false))) fNx)
    (fSet 1 (fBin oIx (fVar 2) (fC (.int 0)))))
def b__law_is_witness : FT := (fSeq (fIfS (fNot (fT (fIsi "tuple" (fVar 0)))) (fRet (fC (.bool false))) fNx)
    (fSeq (fSet 1 (fUn oNeg (fC (.int 1))))
    (fSeq (fFor (fIt (fVar 0)) (gN 2) l__law_is_witness_0)
    (fRet (fC (.bool true))))))
def m__law_is_witness : FM := runF 3 b__law_is_witness
/-! _law_bent -/
def b__law_bent : FT := (fSeq (fSet 2 (fFz (fNewL (fCons (fFz (fNewL (fIt (fVar 1)))) (fCons (fC .none) (fCons (fTup (fCons (fC (.int 1)) fNil)) (fCons (fBin oAddA (fVar 1) (fTup (fCons (fTup (fCons (fC (.int 0)) (fCons (fC (.int 0)) fNil))) fNil))) (fCons (fBin oAddA (fVar 1) (fTup (fCons (fTup (fCons (fC (.int 90)) (fCons (fUn oNeg (fC (.int 3))) fNil))) fNil))) (fCons (fBin oAddA (fVar 1) (fTup (fCons (fTup (fCons (fC (.int 90)) (fCons (fC (.bool true)) fNil))) fNil))) (fCons (fRevT (fVar 1)) (fCons (fBin oAddA (fTup (fCons (fTup (fCons (fUn oNeg (fC (.int 1))) (fCons (fC (.int 0)) fNil))) fNil)) (fVar 1)) fNil)))))))))))
    (fSeq (fSet 2 (fFz (fAddN (fVar 2) (fFz (fNewL (fCons (fBin oAddA (fVar 1) (fTup (fCons (fTup (fCons (fC (.int 90)) (fCons (fUn oNeg (fC (.int 1))) fNil))) fNil))) (fCons (fBin oAddA (fVar 1) (fTup (fCons (fTup (fCons (fC (.int 90)) fNil)) fNil))) (fCons (fBin oAddA (fVar 1) (fTup (fCons (fFz (fNewL (fCons (fC (.int 90)) (fCons (fC (.int 1)) fNil)))) fNil))) (fCons (fBin oAddA (fVar 1) (fTup (fCons (fTup (fCons (fC (.int 90)) (fCons (fC (.int 1)) (fCons (fC (.int 1)) fNil)))) fNil))) (fCons (fCut (fVar 1) (fP (fC (.int 1))) fNoP) (fCons (fBin oAddA (fTup (fCons (fTup (fCons (fC (.int 0)) (fCons (fC .none) fNil))) fNil)) (fCut (fVar 1) (fP (fC (.int 1))) fNoP)) fNil)))))))))))
    (fRet (fBin oIx (fVar 2) (fCall m__law_pick (fCons (fVar 0) (fCons (fC (.int 14)) fNil)))))))
def m__law_bent : FM := runF 3 b__law_bent
/-! _law_refused -/
def b__law_refused : FT := (fSeq (fSet 3 (fC (.str "told")))
    (fSeq (fTry subQ ["BadSum", "BadValues", "BadWitness"] (fIfS (fT (fBin (oEqS false) (fVar 0) (fC (.int 0)))) (fDrop (fCall m_image_of (fApd fNil (fCons (fVar 1) (fCons (fVar 2) fNil))))) (fDrop (fCall m_changed (fApd fNil (fCons (fVar 1) (fCons (fVar 2) fNil)))))) [⟨"BadSum", none, fun _ => (fSet 3 (fC (.str "sum")))⟩, ⟨"BadValues", none, fun _ => (fSet 3 (fC (.str "values")))⟩, ⟨"BadWitness", none, fun _ => (fSet 3 (fC (.str "witness")))⟩, ⟨"SumError", none, fun _ => (fSet 3 (fC (.str "else")))⟩])
    (fRet (fVar 3))))
def m__law_refused : FM := runF 4 b__law_refused
/-! law -/
def t_law_0 : FB := (fT (fBin (oEqS false) (fCall m__law_pick (fCons (fVar 1) (fCons (fC (.int 2)) fNil))) (fC (.int 0))))
def e_law_0 : FE := (fVar 13)
def e_law_1 : FE := (fTup (fCons (fVar 13) (fCons (fBin oSub (fCall m__law_pick (fCons (fVar 1) (fCons (fBin oAddA (fBin oMulT (fC (.int 2)) (fVar 3)) (fC (.int 2))) fNil))) (fC (.int 2))) fNil)))
def l_law_0 : FT := (fSeq (fSet 10 (fCall m_changed (fCons (fVar 9) (fCons (fVar 6) fNil))))
    (fSeq (fIfS (fNot (fT (fCall m__law_alike (fCons (fVar 10) (fCons (fCall m__law_changed (fCons (fVar 9) (fCons (fVar 7) fNil))) fNil))))) (fRet (fC (.bool false))) fNx)
    (fIfS (fT (fBin (oEqS true) (fBin oSub (fCall m__law_worth (fCons (fVar 8) (fCons (fVar 9) fNil))) (fBin oIx (fVar 8) (fC (.int 1)))) (fBin oSub (fCall m__law_worth (fCons (fVar 4) (fCons (fVar 10) fNil))) (fBin oIx (fVar 4) (fC (.int 1)))))) (fRet (fC (.bool false))) fNx)))
def l_law_1 : FT := (fSeq (fSet 3 (fBin oAddA (fC (.int 1)) (fCall m__law_pick (fCons (fVar 1) (fCons (fC (.int 6)) fNil)))))
    (fSeq (fSet 4 (fCall m__law_sum (fCons (fVar 1) (fCons (fVar 3) (fCons (fC (.int 6)) (fCons (fBin oIx (fFz (fNewL (fCons (fC (.int 2)) (fCons (fC (.int 9)) (fCons (fBin oPow (fC (.int 10)) (fC (.int 20))) fNil))))) (fCall m__law_pick (fCons (fVar 1) (fCons (fC (.int 3)) fNil)))) fNil))))))
    (fSeq (fSetO 5 (fLc (fRng1 (fVar 3)) [13] (gN 13) t_law_0 e_law_0))
    (fSeq (fFrz 5 (fSet 6 (fTupL (fItO (fLc (fIt (fVar 5)) [13] (gN 13) (fun _ S => .ok true S) e_law_1)))))
    (fSeq (fPar 7 8 (fCw (fSto (fDctT (fVar 6)))) (fCw (fCall m_image_of (fCons (fVar 4) (fCons (fVar 6) fNil)))))
    (fSeq (fIfS (fOr (fNot (fT (fCall m__law_is_sum (fCons (fVar 8) fNil)))) (fNot (fT (fCall m__law_alike (fCons (fVar 8) (fCons (fCall m__law_image (fCons (fVar 4) (fCons (fVar 7) fNil))) fNil)))))) (fRet (fC (.bool false))) fNx)
    (fSeq (fFor (fIt (fCall m__law_rows (fCons (fVar 3) fNil))) (gN 9) l_law_0)
    (fSeq (fSet 11 (fCall m__law_bent (fCons (fVar 1) (fCons (fVar 6) fNil))))
    (fSeq (fSet 12 (fCall m__law_is_witness (fCons (fVar 11) fNil)))
    (fSeq (fIfS (fOr (fT (fBin (oIsB true) (fCall m_is_witness (fCons (fVar 6) fNil)) (fC (.bool true)))) (fNot (fT (fCall m__law_is (fCons (fCall m_is_witness (fApd fNil (fCons (fVar 11) fNil))) (fCons (fVar 12) fNil)))))) (fRet (fC (.bool false))) fNx)
    (fSeq (fIfS (fNot (fT (fVar 12))) (fSeq (fIfS (fOr (fT (fBin (oEqS true) (fCall m__law_refused (fCons (fC (.int 0)) (fCons (fVar 4) (fCons (fVar 11) fNil)))) (fC (.str "witness")))) (fT (fBin (oEqS true) (fCall m__law_refused (fCons (fC (.int 0)) (fCons (fC .none) (fCons (fVar 11) fNil)))) (fC (.str "sum"))))) (fRet (fC (.bool false))) fNx)
    (fIfS (fOr (fT (fBin (oEqS true) (fCall m__law_refused (fCons (fC (.int 1)) (fCons (fBin oMulT (fTup (fCons (fC (.int 0)) fNil)) (fVar 3)) (fCons (fVar 11) fNil)))) (fC (.str "witness")))) (fT (fBin (oEqS true) (fCall m__law_refused (fCons (fC (.int 1)) (fCons (fFz (fRep (fNewL (fCons (fC (.int 0)) fNil)) (fVar 3))) (fCons (fVar 11) fNil)))) (fC (.str "values"))))) (fRet (fC (.bool false))) fNx)) fNx)
    (fIfS (fOr (fT (fBin (oEqS true) (fCall m__law_refused (fCons (fC (.int 1)) (fCons (fBin oMulT (fTup (fCons (fC (.int 0)) fNil)) (fVar 3)) (fCons (fTup (fCons (fTup (fCons (fVar 3) (fCons (fC (.int 0)) fNil))) fNil)) fNil)))) (fC (.str "witness")))) (fT (fBin (oEqS true) (fCall m__law_refused (fCons (fC (.int 1)) (fCons (fBin oMulT (fTup (fCons (fC (.int 0)) fNil)) (fVar 3)) (fCons (fTup (fCons (fTup (fCons (fC (.int 0)) (fCons (fBin oAddA (fBin oMulT (fC (.int 2)) (fVar 3)) (fC (.int 1))) fNil))) fNil)) fNil)))) (fC (.str "witness"))))) (fRet (fC (.bool false))) fNx))))))))))))
def b_law : FT := (fSeq (fSet 1 (fSto (fCallO m__law_deck (fCons (fVar 0) fNil))))
    (fSeq (fFor (fRng1 (fBin oAddA (fC (.int 1)) (fBin oMin (fLen (fIt (fVar 0))) (fC (.int 6))))) (gN 2) l_law_1)
    (fRet (fC (.bool true)))))
def m_law : FM := runF 14 b_law
end L2.Q.P
namespace L2.Q.P
open PySem PySem.Spec PyProof.Rows
theorem hu200 {k : Nat} {A : Around} (hr : Room k A) : A.units + 200 < cLine := by have := hr.un; omega
theorem hu16 {k : Nat} {A : Around} (hr : Room k A) : A.units + 16 < cLine := by have := hr.un; omega
theorem es_to {X : Cx} {i : Nat} {a : Addr} {sts : List Stmt} {l m : List (Nat × V)} (h : ESs X i a sts l) (e : l = m) : ESs X i a sts m := e ▸ h
abbrev s_is_int : Stmt := top 6
abbrev N_is_int : List Str := ["thing"]
abbrev ps_is_int : List Str := ["thing"]
theorem sc_is_int : FnScope N_is_int ps_is_int (defScope s_is_int) := ⟨rfl, rfl, rfl, by decide +kernel, rfl, by decide +kernel, by decide +kernel⟩
abbrev s_within : Stmt := top 7
abbrev N_within : List Str := ["thing", "low", "high"]
abbrev ps_within : List Str := ["thing", "low", "high"]
theorem sc_within : FnScope N_within ps_within (defScope s_within) := ⟨rfl, rfl, rfl, by decide +kernel, rfl, by decide +kernel, by decide +kernel⟩
abbrev s_is_index : Stmt := top 8
abbrev N_is_index : List Str := ["thing"]
abbrev ps_is_index : List Str := ["thing"]
theorem sc_is_index : FnScope N_is_index ps_is_index (defScope s_is_index) := ⟨rfl, rfl, rfl, by decide +kernel, rfl, by decide +kernel, by decide +kernel⟩
abbrev s_is_row : Stmt := top 9
abbrev N_is_row : List Str := ["thing", "low", "high"]
abbrev ps_is_row : List Str := ["thing", "low", "high"]
theorem sc_is_row : FnScope N_is_row ps_is_row (defScope s_is_row) := ⟨rfl, rfl, rfl, by decide +kernel, rfl, by decide +kernel, by decide +kernel⟩
abbrev s_is_ascending : Stmt := top 10
abbrev N_is_ascending : List Str := ["thing", "one", "other"]
abbrev ps_is_ascending : List Str := ["thing"]
theorem sc_is_ascending : FnScope N_is_ascending ps_is_ascending (defScope s_is_ascending) := ⟨rfl, rfl, rfl, by decide +kernel, rfl, by decide +kernel, by decide +kernel⟩
abbrev s_are_bits : Stmt := top 11
abbrev N_are_bits : List Str := ["thing", "low", "high", "entry"]
abbrev ps_are_bits : List Str := ["thing", "low", "high"]
theorem sc_are_bits : FnScope N_are_bits ps_are_bits (defScope s_are_bits) := ⟨rfl, rfl, rfl, by decide +kernel, rfl, by decide +kernel, by decide +kernel⟩
abbrev s_is_term : Stmt := top 15
abbrev N_is_term : List Str := ["thing"]
abbrev ps_is_term : List Str := ["thing"]
theorem sc_is_term : FnScope N_is_term ps_is_term (defScope s_is_term) := ⟨rfl, rfl, rfl, by decide +kernel, rfl, by decide +kernel, by decide +kernel⟩
abbrev s_are_terms : Stmt := top 16
abbrev N_are_terms : List Str := ["thing", "variables", "entry", "literal", "weight", "one", "other"]
abbrev ps_are_terms : List Str := ["thing"]
theorem sc_are_terms : FnScope N_are_terms ps_are_terms (defScope s_are_terms) := ⟨rfl, rfl, rfl, by decide +kernel, rfl, by decide +kernel, by decide +kernel⟩
abbrev s_is_sum : Stmt := top 17
abbrev N_is_sum : List Str := ["thing"]
abbrev ps_is_sum : List Str := ["thing"]
theorem sc_is_sum : FnScope N_is_sum ps_is_sum (defScope s_is_sum) := ⟨rfl, rfl, rfl, by decide +kernel, rfl, by decide +kernel, by decide +kernel⟩
abbrev s_put_together : Stmt := top 18
abbrev N_put_together : List Str := ["pairs", "degree", "net", "rest", "literal", "weight", "variable", "terms", "amount"]
abbrev ps_put_together : List Str := ["pairs", "degree"]
theorem sc_put_together : FnScope N_put_together ps_put_together (defScope s_put_together) := ⟨rfl, rfl, rfl, by decide +kernel, rfl, by decide +kernel, by decide +kernel⟩
abbrev s_moved : Stmt := top 19
abbrev N_moved : List Str := ["literal", "witness"]
abbrev ps_moved : List Str := ["literal", "witness"]
theorem sc_moved : FnScope N_moved ps_moved (defScope s_moved) := ⟨rfl, rfl, rfl, by decide +kernel, rfl, by decide +kernel, by decide +kernel⟩
abbrev s_image : Stmt := top 20
abbrev N_image : List Str := ["one", "witness", "literal", "weight"]
abbrev ps_image : List Str := ["one", "witness"]
theorem sc_image : FnScope N_image ps_image (defScope s_image) := ⟨rfl, rfl, rfl, by decide +kernel, rfl, by decide +kernel, by decide +kernel⟩
abbrev s_need_sum : Stmt := top 22
abbrev N_need_sum : List Str := ["one"]
abbrev ps_need_sum : List Str := ["one"]
theorem sc_need_sum : FnScope N_need_sum ps_need_sum (defScope s_need_sum) := ⟨rfl, rfl, rfl, by decide +kernel, rfl, by decide +kernel, by decide +kernel⟩
abbrev s_is_witness : Stmt := top 23
abbrev N_is_witness : List Str := ["thing", "pair"]
abbrev ps_is_witness : List Str := ["thing"]
theorem sc_is_witness : FnScope N_is_witness ps_is_witness (defScope s_is_witness) := ⟨rfl, rfl, rfl, by decide +kernel, rfl, by decide +kernel, by decide +kernel⟩
abbrev s_need_witness : Stmt := top 24
abbrev N_need_witness : List Str := ["witness"]
abbrev ps_need_witness : List Str := ["witness"]
theorem sc_need_witness : FnScope N_need_witness ps_need_witness (defScope s_need_witness) := ⟨rfl, rfl, rfl, by decide +kernel, rfl, by decide +kernel, by decide +kernel⟩
abbrev s_image_of : Stmt := top 25
abbrev N_image_of : List Str := ["one", "witness"]
abbrev ps_image_of : List Str := ["one", "witness"]
theorem sc_image_of : FnScope N_image_of ps_image_of (defScope s_image_of) := ⟨rfl, rfl, rfl, by decide +kernel, rfl, by decide +kernel, by decide +kernel⟩
abbrev s_value_by : Stmt := top 26
abbrev N_value_by : List Str := ["literal", "values"]
abbrev ps_value_by : List Str := ["literal", "values"]
theorem sc_value_by : FnScope N_value_by ps_value_by (defScope s_value_by) := ⟨rfl, rfl, rfl, by decide +kernel, rfl, by decide +kernel, by decide +kernel⟩
abbrev s_changed : Stmt := top 27
abbrev N_changed : List Str := ["values", "witness", "found", "variable", "literal", "pair"]
abbrev ps_changed : List Str := ["values", "witness"]
theorem sc_changed : FnScope N_changed ps_changed (defScope s_changed) := ⟨rfl, rfl, rfl, by decide +kernel, rfl, by decide +kernel, by decide +kernel⟩
abbrev s__law_deck : Stmt := top 29
abbrev N__law_deck : List Str := ["script", "cell"]
abbrev ps__law_deck : List Str := ["script"]
theorem sc__law_deck : FnScope N__law_deck ps__law_deck (defScope s__law_deck) := ⟨rfl, rfl, rfl, by decide +kernel, rfl, by decide +kernel, by decide +kernel⟩
abbrev s__law_pick : Stmt := top 30
abbrev N__law_pick : List Str := ["deck", "many", "cells", "cell", "size", "found"]
abbrev ps__law_pick : List Str := ["deck", "many"]
theorem sc__law_pick : FnScope N__law_pick ps__law_pick (defScope s__law_pick) := ⟨rfl, rfl, rfl, by decide +kernel, rfl, by decide +kernel, by decide +kernel⟩
abbrev s__law_alike : Stmt := top 31
abbrev N__law_alike : List Str := ["told", "due", "waiting", "one", "two", "k"]
abbrev ps__law_alike : List Str := ["told", "due"]
theorem sc__law_alike : FnScope N__law_alike ps__law_alike (defScope s__law_alike) := ⟨rfl, rfl, rfl, by decide +kernel, rfl, by decide +kernel, by decide +kernel⟩
abbrev s__law_is : Stmt := top 32
abbrev N__law_is : List Str := ["told", "due"]
abbrev ps__law_is : List Str := ["told", "due"]
theorem sc__law_is : FnScope N__law_is ps__law_is (defScope s__law_is) := ⟨rfl, rfl, rfl, by decide +kernel, rfl, by decide +kernel, by decide +kernel⟩
abbrev s__law_whole : Stmt := top 33
abbrev N__law_whole : List Str := ["thing", "low"]
abbrev ps__law_whole : List Str := ["thing", "low"]
theorem sc__law_whole : FnScope N__law_whole ps__law_whole (defScope s__law_whole) := ⟨rfl, rfl, rfl, by decide +kernel, rfl, by decide +kernel, by decide +kernel⟩
abbrev s__law_is_sum : Stmt := top 34
abbrev N__law_is_sum : List Str := ["thing", "last", "term"]
abbrev ps__law_is_sum : List Str := ["thing"]
theorem sc__law_is_sum : FnScope N__law_is_sum ps__law_is_sum (defScope s__law_is_sum) := ⟨rfl, rfl, rfl, by decide +kernel, rfl, by decide +kernel, by decide +kernel⟩
abbrev s__law_true : Stmt := top 35
abbrev N__law_true : List Str := ["literal", "values"]
abbrev ps__law_true : List Str := ["literal", "values"]
theorem sc__law_true : FnScope N__law_true ps__law_true (defScope s__law_true) := ⟨rfl, rfl, rfl, by decide +kernel, rfl, by decide +kernel, by decide +kernel⟩
abbrev s__law_worth : Stmt := top 36
abbrev N__law_worth : List Str := ["one", "values", "literal", "weight"]
abbrev ps__law_worth : List Str := ["one", "values"]
theorem sc__law_worth : FnScope N__law_worth ps__law_worth (defScope s__law_worth) := ⟨rfl, rfl, rfl, by decide +kernel, rfl, by decide +kernel, by decide +kernel⟩
abbrev s__law_rows : Stmt := top 37
abbrev N__law_rows : List Str := ["many", "found", "turn", "row"]
abbrev ps__law_rows : List Str := ["many"]
theorem sc__law_rows : FnScope N__law_rows ps__law_rows (defScope s__law_rows) := ⟨rfl, rfl, rfl, by decide +kernel, rfl, by decide +kernel, by decide +kernel⟩
abbrev s__law_sum : Stmt := top 38
abbrev N__law_sum : List Str := ["deck", "many", "size", "most", "kind", "terms", "variable", "every", "literal", "weight"]
abbrev ps__law_sum : List Str := ["deck", "many", "size", "most"]
theorem sc__law_sum : FnScope N__law_sum ps__law_sum (defScope s__law_sum) := ⟨rfl, rfl, rfl, by decide +kernel, rfl, by decide +kernel, by decide +kernel⟩
abbrev s__law_together : Stmt := top 39
abbrev N__law_together : List Str := ["pairs", "degree", "ones", "rest", "literal", "weight", "terms", "variable"]
abbrev ps__law_together : List Str := ["pairs", "degree"]
theorem sc__law_together : FnScope N__law_together ps__law_together (defScope s__law_together) := ⟨rfl, rfl, rfl, by decide +kernel, rfl, by decide +kernel, by decide +kernel⟩
abbrev s__law_moved : Stmt := top 40
abbrev N__law_moved : List Str := ["literal", "images"]
abbrev ps__law_moved : List Str := ["literal", "images"]
theorem sc__law_moved : FnScope N__law_moved ps__law_moved (defScope s__law_moved) := ⟨rfl, rfl, rfl, by decide +kernel, rfl, by decide +kernel, by decide +kernel⟩
abbrev s__law_image : Stmt := top 41
abbrev N__law_image : List Str := ["one", "images", "literal", "weight"]
abbrev ps__law_image : List Str := ["one", "images"]
theorem sc__law_image : FnScope N__law_image ps__law_image (defScope s__law_image) := ⟨rfl, rfl, rfl, by decide +kernel, rfl, by decide +kernel, by decide +kernel⟩
abbrev s__law_changed : Stmt := top 42
abbrev N__law_changed : List Str := ["values", "images", "found", "variable", "literal"]
abbrev ps__law_changed : List Str := ["values", "images"]
theorem sc__law_changed : FnScope N__law_changed ps__law_changed (defScope s__law_changed) := ⟨rfl, rfl, rfl, by decide +kernel, rfl, by decide +kernel, by decide +kernel⟩
abbrev s__law_is_witness : Stmt := top 43
abbrev N__law_is_witness : List Str := ["thing", "last", "pair"]
abbrev ps__law_is_witness : List Str := ["thing"]
theorem sc__law_is_witness : FnScope N__law_is_witness ps__law_is_witness (defScope s__law_is_witness) := ⟨rfl, rfl, rfl, by decide +kernel, rfl, by decide +kernel, by decide +kernel⟩
abbrev s__law_bent : Stmt := top 44
abbrev N__law_bent : List Str := ["deck", "witness", "things"]
abbrev ps__law_bent : List Str := ["deck", "witness"]
theorem sc__law_bent : FnScope N__law_bent ps__law_bent (defScope s__law_bent) := ⟨rfl, rfl, rfl, by decide +kernel, rfl, by decide +kernel, by decide +kernel⟩
abbrev s__law_refused : Stmt := top 45
abbrev N__law_refused : List Str := ["which", "first", "second", "found"]
abbrev ps__law_refused : List Str := ["which", "first", "second"]
theorem sc__law_refused : FnScope N__law_refused ps__law_refused (defScope s__law_refused) := ⟨rfl, rfl, rfl, by decide +kernel, rfl, by decide +kernel, by decide +kernel⟩
abbrev s_law : Stmt := top 46
abbrev N_law : List Str := ["script", "deck", "turn", "many", "one", "chosen", "witness", "images", "found", "values", "new", "bent", "right", "variable"]
abbrev ps_law : List Str := ["script"]
theorem sc_law : FnScope N_law ps_law (defScope s_law) := ⟨rfl, rfl, rfl, by decide +kernel, rfl, by decide +kernel, by decide +kernel⟩
structure Fx (K : PySem.W.Frag) (mg : Str → Option Value) : Prop where
  z_isinstance : mg "isinstance" = none
  z_bool : mg "bool" = none
  z_int : mg "int" = none
  z_len : mg "len" = none
  z_tuple : mg "tuple" = none
  z_zip : mg "zip" = none
  z_all : mg "all" = none
  z_sorted : mg "sorted" = none
  z_dict : mg "dict" = none
  z_list : mg "list" = none
  z_abs : mg "abs" = none
  z_range : mg "range" = none
  z_str : mg "str" = none
  z_sum : mg "sum" = none
  z_min : mg "min" = none
  i_ALWAYS : ∃ t, mg "ALWAYS" = some (.int (-1) t)
  i_NEVER : ∃ t, mg "NEVER" = some (.int (-2) t)
  g_is_int : mg "is_int" = some (.ref (He.ga K "is_int"))
  g_within : mg "within" = some (.ref (He.ga K "within"))
  g_is_index : mg "is_index" = some (.ref (He.ga K "is_index"))
  g_is_row : mg "is_row" = some (.ref (He.ga K "is_row"))
  g_is_ascending : mg "is_ascending" = some (.ref (He.ga K "is_ascending"))
  g_are_bits : mg "are_bits" = some (.ref (He.ga K "are_bits"))
  g_is_term : mg "is_term" = some (.ref (He.ga K "is_term"))
  g_are_terms : mg "are_terms" = some (.ref (He.ga K "are_terms"))
  g_is_sum : mg "is_sum" = some (.ref (He.ga K "is_sum"))
  g_put_together : mg "put_together" = some (.ref (He.ga K "put_together"))
  g_moved : mg "moved" = some (.ref (He.ga K "moved"))
  g_image : mg "image" = some (.ref (He.ga K "image"))
  g_need_sum : mg "need_sum" = some (.ref (He.ga K "need_sum"))
  g_is_witness : mg "is_witness" = some (.ref (He.ga K "is_witness"))
  g_need_witness : mg "need_witness" = some (.ref (He.ga K "need_witness"))
  g_image_of : mg "image_of" = some (.ref (He.ga K "image_of"))
  g_value_by : mg "value_by" = some (.ref (He.ga K "value_by"))
  g_changed : mg "changed" = some (.ref (He.ga K "changed"))
  g__law_deck : mg "_law_deck" = some (.ref (He.ga K "_law_deck"))
  g__law_pick : mg "_law_pick" = some (.ref (He.ga K "_law_pick"))
  g__law_alike : mg "_law_alike" = some (.ref (He.ga K "_law_alike"))
  g__law_is : mg "_law_is" = some (.ref (He.ga K "_law_is"))
  g__law_whole : mg "_law_whole" = some (.ref (He.ga K "_law_whole"))
  g__law_is_sum : mg "_law_is_sum" = some (.ref (He.ga K "_law_is_sum"))
  g__law_true : mg "_law_true" = some (.ref (He.ga K "_law_true"))
  g__law_worth : mg "_law_worth" = some (.ref (He.ga K "_law_worth"))
  g__law_rows : mg "_law_rows" = some (.ref (He.ga K "_law_rows"))
  g__law_sum : mg "_law_sum" = some (.ref (He.ga K "_law_sum"))
  g__law_together : mg "_law_together" = some (.ref (He.ga K "_law_together"))
  g__law_moved : mg "_law_moved" = some (.ref (He.ga K "_law_moved"))
  g__law_image : mg "_law_image" = some (.ref (He.ga K "_law_image"))
  g__law_changed : mg "_law_changed" = some (.ref (He.ga K "_law_changed"))
  g__law_is_witness : mg "_law_is_witness" = some (.ref (He.ga K "_law_is_witness"))
  g__law_bent : mg "_law_bent" = some (.ref (He.ga K "_law_bent"))
  g__law_refused : mg "_law_refused" = some (.ref (He.ga K "_law_refused"))
  g_law : mg "law" = some (.ref (He.ga K "law"))
  c_BadSum : mg "BadSum" = some (.ref (He.ga K "BadSum"))
  x_BadSum : PySem.W.excIn K (He.ga K "BadSum") He.veBase "ValueError.__new__" = true ∧ PySem.W.keepIn K (.ref (He.ga K "BadSum")) = true ∧ PySem.W.subIn K (.ref (He.ga K "BadSum")) (.type "BaseException") = some true ∧ PySem.W.typeIn K (.ref (He.ga K "BadSum")) = some (.type "type")
  c_BadWitness : mg "BadWitness" = some (.ref (He.ga K "BadWitness"))
  x_BadWitness : PySem.W.excIn K (He.ga K "BadWitness") He.veBase "ValueError.__new__" = true ∧ PySem.W.keepIn K (.ref (He.ga K "BadWitness")) = true ∧ PySem.W.subIn K (.ref (He.ga K "BadWitness")) (.type "BaseException") = some true ∧ PySem.W.typeIn K (.ref (He.ga K "BadWitness")) = some (.type "type")
  c_BadValues : mg "BadValues" = some (.ref (He.ga K "BadValues"))
  x_BadValues : PySem.W.excIn K (He.ga K "BadValues") He.veBase "ValueError.__new__" = true ∧ PySem.W.keepIn K (.ref (He.ga K "BadValues")) = true ∧ PySem.W.subIn K (.ref (He.ga K "BadValues")) (.type "BaseException") = some true ∧ PySem.W.typeIn K (.ref (He.ga K "BadValues")) = some (.type "type")
  c_SumError : mg "SumError" = some (.ref (He.ga K "SumError"))
  x_SumError : PySem.W.excIn K (He.ga K "SumError") He.veBase "ValueError.__new__" = true ∧ PySem.W.keepIn K (.ref (He.ga K "SumError")) = true ∧ PySem.W.subIn K (.ref (He.ga K "SumError")) (.type "BaseException") = some true ∧ PySem.W.typeIn K (.ref (He.ga K "SumError")) = some (.type "type")
  p_BadSum_BadSum : PySem.W.exmOne K (.ref (He.ga K "BadSum")) (.ref (He.ga K "BadSum")) = some true
  p_BadValues_BadSum : PySem.W.exmOne K (.ref (He.ga K "BadValues")) (.ref (He.ga K "BadSum")) = some false
  p_BadWitness_BadSum : PySem.W.exmOne K (.ref (He.ga K "BadWitness")) (.ref (He.ga K "BadSum")) = some false
  p_BadSum_BadValues : PySem.W.exmOne K (.ref (He.ga K "BadSum")) (.ref (He.ga K "BadValues")) = some false
  p_BadValues_BadValues : PySem.W.exmOne K (.ref (He.ga K "BadValues")) (.ref (He.ga K "BadValues")) = some true
  p_BadWitness_BadValues : PySem.W.exmOne K (.ref (He.ga K "BadWitness")) (.ref (He.ga K "BadValues")) = some false
  p_BadSum_BadWitness : PySem.W.exmOne K (.ref (He.ga K "BadSum")) (.ref (He.ga K "BadWitness")) = some false
  p_BadValues_BadWitness : PySem.W.exmOne K (.ref (He.ga K "BadValues")) (.ref (He.ga K "BadWitness")) = some false
  p_BadWitness_BadWitness : PySem.W.exmOne K (.ref (He.ga K "BadWitness")) (.ref (He.ga K "BadWitness")) = some true
  p_BadSum_SumError : PySem.W.exmOne K (.ref (He.ga K "BadSum")) (.ref (He.ga K "SumError")) = some true
  p_BadValues_SumError : PySem.W.exmOne K (.ref (He.ga K "BadValues")) (.ref (He.ga K "SumError")) = some true
  p_BadWitness_SumError : PySem.W.exmOne K (.ref (He.ga K "BadWitness")) (.ref (He.ga K "SumError")) = some true
  d_is_int : ∃ fd, FnP K "is_int" s_is_int (He.ga K "is_int") fd
  d_within : ∃ fd, FnP K "within" s_within (He.ga K "within") fd
  d_is_index : ∃ fd, FnP K "is_index" s_is_index (He.ga K "is_index") fd
  d_is_row : ∃ fd, FnP K "is_row" s_is_row (He.ga K "is_row") fd
  d_is_ascending : ∃ fd, FnP K "is_ascending" s_is_ascending (He.ga K "is_ascending") fd
  d_are_bits : ∃ fd, FnP K "are_bits" s_are_bits (He.ga K "are_bits") fd
  d_is_term : ∃ fd, FnP K "is_term" s_is_term (He.ga K "is_term") fd
  d_are_terms : ∃ fd, FnP K "are_terms" s_are_terms (He.ga K "are_terms") fd
  d_is_sum : ∃ fd, FnP K "is_sum" s_is_sum (He.ga K "is_sum") fd
  d_put_together : ∃ fd, FnP K "put_together" s_put_together (He.ga K "put_together") fd
  d_moved : ∃ fd, FnP K "moved" s_moved (He.ga K "moved") fd
  d_image : ∃ fd, FnP K "image" s_image (He.ga K "image") fd
  d_need_sum : ∃ fd, FnP K "need_sum" s_need_sum (He.ga K "need_sum") fd
  d_is_witness : ∃ fd, FnP K "is_witness" s_is_witness (He.ga K "is_witness") fd
  d_need_witness : ∃ fd, FnP K "need_witness" s_need_witness (He.ga K "need_witness") fd
  d_image_of : ∃ fd, FnP K "image_of" s_image_of (He.ga K "image_of") fd
  d_value_by : ∃ fd, FnP K "value_by" s_value_by (He.ga K "value_by") fd
  d_changed : ∃ fd, FnP K "changed" s_changed (He.ga K "changed") fd
  d__law_deck : ∃ fd, FnP K "_law_deck" s__law_deck (He.ga K "_law_deck") fd
  d__law_pick : ∃ fd, FnP K "_law_pick" s__law_pick (He.ga K "_law_pick") fd
  d__law_alike : ∃ fd, FnP K "_law_alike" s__law_alike (He.ga K "_law_alike") fd
  d__law_is : ∃ fd, FnP K "_law_is" s__law_is (He.ga K "_law_is") fd
  d__law_whole : ∃ fd, FnP K "_law_whole" s__law_whole (He.ga K "_law_whole") fd
  d__law_is_sum : ∃ fd, FnP K "_law_is_sum" s__law_is_sum (He.ga K "_law_is_sum") fd
  d__law_true : ∃ fd, FnP K "_law_true" s__law_true (He.ga K "_law_true") fd
  d__law_worth : ∃ fd, FnP K "_law_worth" s__law_worth (He.ga K "_law_worth") fd
  d__law_rows : ∃ fd, FnP K "_law_rows" s__law_rows (He.ga K "_law_rows") fd
  d__law_sum : ∃ fd, FnP K "_law_sum" s__law_sum (He.ga K "_law_sum") fd
  d__law_together : ∃ fd, FnP K "_law_together" s__law_together (He.ga K "_law_together") fd
  d__law_moved : ∃ fd, FnP K "_law_moved" s__law_moved (He.ga K "_law_moved") fd
  d__law_image : ∃ fd, FnP K "_law_image" s__law_image (He.ga K "_law_image") fd
  d__law_changed : ∃ fd, FnP K "_law_changed" s__law_changed (He.ga K "_law_changed") fd
  d__law_is_witness : ∃ fd, FnP K "_law_is_witness" s__law_is_witness (He.ga K "_law_is_witness") fd
  d__law_bent : ∃ fd, FnP K "_law_bent" s__law_bent (He.ga K "_law_bent") fd
  d__law_refused : ∃ fd, FnP K "_law_refused" s__law_refused (He.ga K "_law_refused") fd
  d_law : ∃ fd, FnP K "law" s_law (He.ga K "law") fd
section
variable {P : Program} {w : World} {K : PySem.W.Frag} {mg : Str → Option Value} {base : Heap}
theorem su__law_refused_209 (T : Fx K mg) : Subs K mg subQ ["BadSum", "BadValues", "BadWitness"] ["BadSum", "BadValues", "BadWitness", "SumError"] := by
  intro d hd c hc C D e1 e2
  simp only [List.mem_cons, List.not_mem_nil, or_false] at hd hc
  rcases hd with rfl | rfl | rfl <;> rcases hc with rfl | rfl | rfl | rfl
  · cases e1.symm.trans T.c_BadSum; cases e2.symm.trans T.c_BadSum; exact T.p_BadSum_BadSum.trans (congrArg some (by decide +kernel))
  · cases e1.symm.trans T.c_BadSum; cases e2.symm.trans T.c_BadValues; exact T.p_BadSum_BadValues.trans (congrArg some (by decide +kernel))
  · cases e1.symm.trans T.c_BadSum; cases e2.symm.trans T.c_BadWitness; exact T.p_BadSum_BadWitness.trans (congrArg some (by decide +kernel))
  · cases e1.symm.trans T.c_BadSum; cases e2.symm.trans T.c_SumError; exact T.p_BadSum_SumError.trans (congrArg some (by decide +kernel))
  · cases e1.symm.trans T.c_BadValues; cases e2.symm.trans T.c_BadSum; exact T.p_BadValues_BadSum.trans (congrArg some (by decide +kernel))
  · cases e1.symm.trans T.c_BadValues; cases e2.symm.trans T.c_BadValues; exact T.p_BadValues_BadValues.trans (congrArg some (by decide +kernel))
  · cases e1.symm.trans T.c_BadValues; cases e2.symm.trans T.c_BadWitness; exact T.p_BadValues_BadWitness.trans (congrArg some (by decide +kernel))
  · cases e1.symm.trans T.c_BadValues; cases e2.symm.trans T.c_SumError; exact T.p_BadValues_SumError.trans (congrArg some (by decide +kernel))
  · cases e1.symm.trans T.c_BadWitness; cases e2.symm.trans T.c_BadSum; exact T.p_BadWitness_BadSum.trans (congrArg some (by decide +kernel))
  · cases e1.symm.trans T.c_BadWitness; cases e2.symm.trans T.c_BadValues; exact T.p_BadWitness_BadValues.trans (congrArg some (by decide +kernel))
  · cases e1.symm.trans T.c_BadWitness; cases e2.symm.trans T.c_BadWitness; exact T.p_BadWitness_BadWitness.trans (congrArg some (by decide +kernel))
  · cases e1.symm.trans T.c_BadWitness; cases e2.symm.trans T.c_SumError; exact T.p_BadWitness_SumError.trans (congrArg some (by decide +kernel))
theorem bn_is_int {f : Addr} {fd : FuncData} (F : FnP K "is_int" s_is_int f fd) : Binds K fd ps_is_int [] := F.bindsN fun _ _ _ _ _ _ us hl => match us, hl with | [_], _ => rfl
theorem bn_within {f : Addr} {fd : FuncData} (F : FnP K "within" s_within f fd) : Binds K fd ps_within [] := F.bindsN fun _ _ _ _ _ _ us hl => match us, hl with | [_, _, _], _ => rfl
theorem bn_is_index {f : Addr} {fd : FuncData} (F : FnP K "is_index" s_is_index f fd) : Binds K fd ps_is_index [] := F.bindsN fun _ _ _ _ _ _ us hl => match us, hl with | [_], _ => rfl
theorem bn_is_row {f : Addr} {fd : FuncData} (F : FnP K "is_row" s_is_row f fd) : Binds K fd ps_is_row [] := F.bindsN fun _ _ _ _ _ _ us hl => match us, hl with | [_, _, _], _ => rfl
theorem bn_is_ascending {f : Addr} {fd : FuncData} (F : FnP K "is_ascending" s_is_ascending f fd) : Binds K fd ps_is_ascending [] := F.bindsN fun _ _ _ _ _ _ us hl => match us, hl with | [_], _ => rfl
theorem bn_are_bits {f : Addr} {fd : FuncData} (F : FnP K "are_bits" s_are_bits f fd) : Binds K fd ps_are_bits [] := F.bindsN fun _ _ _ _ _ _ us hl => match us, hl with | [_, _, _], _ => rfl
theorem bn_is_term {f : Addr} {fd : FuncData} (F : FnP K "is_term" s_is_term f fd) : Binds K fd ps_is_term [] := F.bindsN fun _ _ _ _ _ _ us hl => match us, hl with | [_], _ => rfl
theorem bn_are_terms {f : Addr} {fd : FuncData} (F : FnP K "are_terms" s_are_terms f fd) : Binds K fd ps_are_terms [] := F.bindsN fun _ _ _ _ _ _ us hl => match us, hl with | [_], _ => rfl
theorem bn_is_sum {f : Addr} {fd : FuncData} (F : FnP K "is_sum" s_is_sum f fd) : Binds K fd ps_is_sum [] := F.bindsN fun _ _ _ _ _ _ us hl => match us, hl with | [_], _ => rfl
theorem bn_put_together {f : Addr} {fd : FuncData} (F : FnP K "put_together" s_put_together f fd) : Binds K fd ps_put_together [] := F.bindsN fun _ _ _ _ _ _ us hl => match us, hl with | [_, _], _ => rfl
theorem bn_moved {f : Addr} {fd : FuncData} (F : FnP K "moved" s_moved f fd) : Binds K fd ps_moved [] := F.bindsN fun _ _ _ _ _ _ us hl => match us, hl with | [_, _], _ => rfl
theorem bn_image {f : Addr} {fd : FuncData} (F : FnP K "image" s_image f fd) : Binds K fd ps_image [] := F.bindsN fun _ _ _ _ _ _ us hl => match us, hl with | [_, _], _ => rfl
theorem bn_need_sum {f : Addr} {fd : FuncData} (F : FnP K "need_sum" s_need_sum f fd) : Binds K fd ps_need_sum [] := F.bindsN fun _ _ _ _ _ _ us hl => match us, hl with | [_], _ => rfl
theorem bn_is_witness {f : Addr} {fd : FuncData} (F : FnP K "is_witness" s_is_witness f fd) : Binds K fd ps_is_witness [] := F.bindsN fun _ _ _ _ _ _ us hl => match us, hl with | [_], _ => rfl
theorem kb_is_witness_0 {f : Addr} {fd : FuncData} (F : FnP K "is_witness" s_is_witness f fd) : KwB fd ps_is_witness (ps_is_witness.drop 0) 0 := F.kwb fun _ _ _ _ _ _ us ws h1 h2 => match us, ws, h1, h2 with | [], [_], _, _ => rfl
theorem bn_need_witness {f : Addr} {fd : FuncData} (F : FnP K "need_witness" s_need_witness f fd) : Binds K fd ps_need_witness [] := F.bindsN fun _ _ _ _ _ _ us hl => match us, hl with | [_], _ => rfl
theorem bn_image_of {f : Addr} {fd : FuncData} (F : FnP K "image_of" s_image_of f fd) : Binds K fd ps_image_of [] := F.bindsN fun _ _ _ _ _ _ us hl => match us, hl with | [_, _], _ => rfl
theorem kb_image_of_0 {f : Addr} {fd : FuncData} (F : FnP K "image_of" s_image_of f fd) : KwB fd ps_image_of (ps_image_of.drop 0) 0 := F.kwb fun _ _ _ _ _ _ us ws h1 h2 => match us, ws, h1, h2 with | [], [_, _], _, _ => rfl
theorem bn_value_by {f : Addr} {fd : FuncData} (F : FnP K "value_by" s_value_by f fd) : Binds K fd ps_value_by [] := F.bindsN fun _ _ _ _ _ _ us hl => match us, hl with | [_, _], _ => rfl
theorem bn_changed {f : Addr} {fd : FuncData} (F : FnP K "changed" s_changed f fd) : Binds K fd ps_changed [] := F.bindsN fun _ _ _ _ _ _ us hl => match us, hl with | [_, _], _ => rfl
theorem kb_changed_0 {f : Addr} {fd : FuncData} (F : FnP K "changed" s_changed f fd) : KwB fd ps_changed (ps_changed.drop 0) 0 := F.kwb fun _ _ _ _ _ _ us ws h1 h2 => match us, ws, h1, h2 with | [], [_, _], _, _ => rfl
theorem bn__law_deck {f : Addr} {fd : FuncData} (F : FnP K "_law_deck" s__law_deck f fd) : Binds K fd ps__law_deck [] := F.bindsN fun _ _ _ _ _ _ us hl => match us, hl with | [_], _ => rfl
theorem bn__law_pick {f : Addr} {fd : FuncData} (F : FnP K "_law_pick" s__law_pick f fd) : Binds K fd ps__law_pick [] := F.bindsN fun _ _ _ _ _ _ us hl => match us, hl with | [_, _], _ => rfl
theorem bn__law_alike {f : Addr} {fd : FuncData} (F : FnP K "_law_alike" s__law_alike f fd) : Binds K fd ps__law_alike [] := F.bindsN fun _ _ _ _ _ _ us hl => match us, hl with | [_, _], _ => rfl
theorem bn__law_is {f : Addr} {fd : FuncData} (F : FnP K "_law_is" s__law_is f fd) : Binds K fd ps__law_is [] := F.bindsN fun _ _ _ _ _ _ us hl => match us, hl with | [_, _], _ => rfl
theorem bn__law_whole {f : Addr} {fd : FuncData} (F : FnP K "_law_whole" s__law_whole f fd) : Binds K fd ps__law_whole [] := F.bindsN fun _ _ _ _ _ _ us hl => match us, hl with | [_, _], _ => rfl
theorem bn__law_is_sum {f : Addr} {fd : FuncData} (F : FnP K "_law_is_sum" s__law_is_sum f fd) : Binds K fd ps__law_is_sum [] := F.bindsN fun _ _ _ _ _ _ us hl => match us, hl with | [_], _ => rfl
theorem bn__law_true {f : Addr} {fd : FuncData} (F : FnP K "_law_true" s__law_true f fd) : Binds K fd ps__law_true [] := F.bindsN fun _ _ _ _ _ _ us hl => match us, hl with | [_, _], _ => rfl
theorem bn__law_worth {f : Addr} {fd : FuncData} (F : FnP K "_law_worth" s__law_worth f fd) : Binds K fd ps__law_worth [] := F.bindsN fun _ _ _ _ _ _ us hl => match us, hl with | [_, _], _ => rfl
theorem bn__law_rows {f : Addr} {fd : FuncData} (F : FnP K "_law_rows" s__law_rows f fd) : Binds K fd ps__law_rows [] := F.bindsN fun _ _ _ _ _ _ us hl => match us, hl with | [_], _ => rfl
theorem bn__law_sum {f : Addr} {fd : FuncData} (F : FnP K "_law_sum" s__law_sum f fd) : Binds K fd ps__law_sum [] := F.bindsN fun _ _ _ _ _ _ us hl => match us, hl with | [_, _, _, _], _ => rfl
theorem bn__law_together {f : Addr} {fd : FuncData} (F : FnP K "_law_together" s__law_together f fd) : Binds K fd ps__law_together [] := F.bindsN fun _ _ _ _ _ _ us hl => match us, hl with | [_, _], _ => rfl
theorem bn__law_moved {f : Addr} {fd : FuncData} (F : FnP K "_law_moved" s__law_moved f fd) : Binds K fd ps__law_moved [] := F.bindsN fun _ _ _ _ _ _ us hl => match us, hl with | [_, _], _ => rfl
theorem bn__law_image {f : Addr} {fd : FuncData} (F : FnP K "_law_image" s__law_image f fd) : Binds K fd ps__law_image [] := F.bindsN fun _ _ _ _ _ _ us hl => match us, hl with | [_, _], _ => rfl
theorem bn__law_changed {f : Addr} {fd : FuncData} (F : FnP K "_law_changed" s__law_changed f fd) : Binds K fd ps__law_changed [] := F.bindsN fun _ _ _ _ _ _ us hl => match us, hl with | [_, _], _ => rfl
theorem bn__law_is_witness {f : Addr} {fd : FuncData} (F : FnP K "_law_is_witness" s__law_is_witness f fd) : Binds K fd ps__law_is_witness [] := F.bindsN fun _ _ _ _ _ _ us hl => match us, hl with | [_], _ => rfl
theorem bn__law_bent {f : Addr} {fd : FuncData} (F : FnP K "_law_bent" s__law_bent f fd) : Binds K fd ps__law_bent [] := F.bindsN fun _ _ _ _ _ _ us hl => match us, hl with | [_, _], _ => rfl
theorem bn__law_refused {f : Addr} {fd : FuncData} (F : FnP K "_law_refused" s__law_refused f fd) : Binds K fd ps__law_refused [] := F.bindsN fun _ _ _ _ _ _ us hl => match us, hl with | [_, _, _], _ => rfl
theorem bn_law {f : Addr} {fd : FuncData} (F : FnP K "law" s_law f fd) : Binds K fd ps_law [] := F.bindsN fun _ _ _ _ _ _ us hl => match us, hl with | [_], _ => rfl
theorem ok_is_int (T : Fx K mg) {fd : FuncData} (F : FnP K "is_int" s_is_int (He.ga K "is_int") fd) : FnQ P w K mg base 1 (He.ga K "is_int") fd ps_is_int m_is_int := by
  refine q_fn F.toFun sc_is_int rfl fun cdv A outer s H E hr => ?_
  have NO : N_is_int.Nodup := sc_is_int.nd
  exact (s_one (s_ret (q_andV (q_isi (n := "int") rfl T.z_isinstance rfl T.z_int (by decide +kernel) (q_var (i := 0) rfl (.inl rfl))) (q_one (q_notV (q_isi (n := "bool") rfl T.z_isinstance rfl T.z_bool (by decide +kernel) (q_var (i := 0) rfl (.inl rfl))))))))
theorem ok_within (T : Fx K mg) {fd : FuncData} (F : FnP K "within" s_within (He.ga K "within") fd) : FnQ P w K mg base 2 (He.ga K "within") fd ps_within m_within := by
  obtain ⟨fd_is_int, F_is_int⟩ := T.d_is_int
  refine q_fn F.toFun sc_within rfl fun cdv A outer s H E hr => ?_
  have NO : N_within.Nodup := sc_within.nd
  exact (s_one (s_ret (q_andV (q_call (ok_is_int T F_is_int) (hr.mono (by decide)) rfl T.g_is_int F_is_int.kp (bn_is_int F_is_int) (takes_of rfl rfl rfl rfl) (ln_cons ln_nil) (q_acons (q_var (i := 0) rfl (.inl rfl)) q_anil)) (q_one (q_chainI op_le op_le (q_var (i := 1) rfl (.inl rfl)) (q_var (i := 0) rfl (.inl rfl)) (q_var (i := 2) rfl (.inl rfl)))))))
theorem ok_is_index (T : Fx K mg) {fd : FuncData} (F : FnP K "is_index" s_is_index (He.ga K "is_index") fd) : FnQ P w K mg base 2 (He.ga K "is_index") fd ps_is_index m_is_index := by
  obtain ⟨fd_is_int, F_is_int⟩ := T.d_is_int
  refine q_fn F.toFun sc_is_index rfl fun cdv A outer s H E hr => ?_
  have NO : N_is_index.Nodup := sc_is_index.nd
  exact (s_one (s_ret (q_andV (q_call (ok_is_int T F_is_int) (hr.mono (by decide)) rfl T.g_is_int F_is_int.kp (bn_is_int F_is_int) (takes_of rfl rfl rfl rfl) (ln_cons ln_nil) (q_acons (q_var (i := 0) rfl (.inl rfl)) q_anil)) (q_one (q_cmp op_ge f_ge (q_var (i := 0) rfl (.inl rfl)) q_int (nomark _))))))
theorem ok_is_row (T : Fx K mg) {fd : FuncData} (F : FnP K "is_row" s_is_row (He.ga K "is_row") fd) : FnQ P w K mg base 1 (He.ga K "is_row") fd ps_is_row m_is_row := by
  refine q_fn F.toFun sc_is_row rfl fun cdv A outer s H E hr => ?_
  have NO : N_is_row.Nodup := sc_is_row.nd
  exact (s_one (s_ret (q_andV (q_isi (n := "tuple") rfl T.z_isinstance rfl T.z_tuple (by decide +kernel) (q_var (i := 0) rfl (.inl rfl))) (q_one (q_chainI op_le op_le (q_var (i := 1) rfl (.inl rfl)) (q_len rfl T.z_len (qs_v (q_var (i := 0) rfl (.inl rfl)))) (q_var (i := 2) rfl (.inl rfl)))))))
theorem ok_is_ascending (T : Fx K mg) {fd : FuncData} (F : FnP K "is_ascending" s_is_ascending (He.ga K "is_ascending") fd) : FnQ P w K mg base 1 (He.ga K "is_ascending") fd ps_is_ascending m_is_ascending := by
  refine q_fn F.toFun sc_is_ascending rfl fun cdv A outer s H E hr => ?_
  have NO : N_is_ascending.Nodup := sc_is_ascending.nd
  exact (s_one (s_ret (q_all rfl rfl T.z_all (l_new (q_lc (own := [("one", 1), ("other", 2)]) rfl NO (go_t (go_c (go_n (by decide)) (go_c (go_n (by decide)) go_nil))) (i_zip rfl T.z_zip (q_var (i := 0) rfl (.inl rfl)) (q_cut (q_var (i := 0) rfl (.inl rfl)) (p_some q_int) p_none)) (blk_of (by kernel_rfl)) (fun _ _ _ _ _ => (g_tup rfl (gs_cons (g_name (i := 1) (by decide) NO rfl (.inl rfl)) (gs_cons (g_name (i := 2) (by decide) NO rfl (.inl rfl)) gs_nil)))) (fun _ _ _ _ _ => ts_nil) (fun _ _ _ _ _ => (q_cmp op_lt f_lt (q_var (i := 1) rfl (.inl rfl)) (q_var (i := 2) rfl (.inl rfl)) (nomark _))))))))
theorem ok_are_bits (T : Fx K mg) {fd : FuncData} (F : FnP K "are_bits" s_are_bits (He.ga K "are_bits") fd) : FnQ P w K mg base 3 (He.ga K "are_bits") fd ps_are_bits m_are_bits := by
  obtain ⟨fd_is_row, F_is_row⟩ := T.d_is_row
  obtain ⟨fd_within, F_within⟩ := T.d_within
  refine q_fn F.toFun sc_are_bits rfl fun cdv A outer s H E hr => ?_
  have NO : N_are_bits.Nodup := sc_are_bits.nd
  exact (s_one (s_ret (q_andV (q_call (ok_is_row T F_is_row) (hr.mono (by decide)) rfl T.g_is_row F_is_row.kp (bn_is_row F_is_row) (takes_of rfl rfl rfl rfl) (ln_cons (ln_cons (ln_cons ln_nil))) (q_acons (q_var (i := 0) rfl (.inl rfl)) (q_acons (q_var (i := 1) rfl (.inl rfl)) (q_acons (q_var (i := 2) rfl (.inl rfl)) q_anil)))) (q_one (q_all rfl rfl T.z_all (l_new (q_lc (own := [("entry", 3)]) rfl NO (go_n (by decide)) (i_val (q_var (i := 0) rfl (.inl rfl))) (blk_of (by kernel_rfl)) (fun _ _ _ _ _ => (g_name (i := 3) (by decide) NO rfl (.inl rfl))) (fun _ _ _ _ _ => ts_nil) (fun _ _ _ _ _ => (q_call (ok_within T F_within) (hr.mono (by decide)) rfl T.g_within F_within.kp (bn_within F_within) tk0 (ln_cons (ln_cons (ln_cons ln_nil))) (q_acons (q_var (i := 3) rfl (.inl rfl)) (q_acons q_int (q_acons q_int q_anil))))))))))))
theorem ok_is_term (T : Fx K mg) {fd : FuncData} (F : FnP K "is_term" s_is_term (He.ga K "is_term") fd) : FnQ P w K mg base 3 (He.ga K "is_term") fd ps_is_term m_is_term := by
  obtain ⟨fd_is_row, F_is_row⟩ := T.d_is_row
  obtain ⟨fd_is_index, F_is_index⟩ := T.d_is_index
  obtain ⟨fd_is_int, F_is_int⟩ := T.d_is_int
  refine q_fn F.toFun sc_is_term rfl fun cdv A outer s H E hr => ?_
  have NO : N_is_term.Nodup := sc_is_term.nd
  exact (s_one (s_ret (q_andV (q_call (ok_is_row T F_is_row) (hr.mono (by decide)) rfl T.g_is_row F_is_row.kp (bn_is_row F_is_row) (takes_of rfl rfl rfl rfl) (ln_cons (ln_cons (ln_cons ln_nil))) (q_acons (q_var (i := 0) rfl (.inl rfl)) (q_acons q_int (q_acons q_int q_anil)))) (q_andV (q_call (ok_is_index T F_is_index) (hr.mono (by decide)) rfl T.g_is_index F_is_index.kp (bn_is_index F_is_index) (takes_of rfl rfl rfl rfl) (ln_cons ln_nil) (q_acons (q_ix (q_var (i := 0) rfl (.inl rfl)) q_int) q_anil)) (q_andV (q_call (ok_is_int T F_is_int) (hr.mono (by decide)) rfl T.g_is_int F_is_int.kp (bn_is_int F_is_int) (takes_of rfl rfl rfl rfl) (ln_cons ln_nil) (q_acons (q_ix (q_var (i := 0) rfl (.inl rfl)) q_int) q_anil)) (q_one (q_cmp op_ge f_ge (q_ix (q_var (i := 0) rfl (.inl rfl)) q_int) q_int (nomark _))))))))
theorem ok_are_terms (T : Fx K mg) {fd : FuncData} (F : FnP K "are_terms" s_are_terms (He.ga K "are_terms") fd) : FnQ P w K mg base 4 (He.ga K "are_terms") fd ps_are_terms m_are_terms := by
  obtain ⟨fd_is_term, F_is_term⟩ := T.d_is_term
  refine q_fn F.toFun sc_are_terms rfl fun cdv A outer s H E hr => ?_
  have NO : N_are_terms.Nodup := sc_are_terms.nd
  exact (s_cons (s_if (PW.pt (q_or (q_not (q_tv (q_isi (n := "tuple") rfl T.z_isinstance rfl T.z_tuple (by decide +kernel) (q_var (i := 0) rfl (.inl rfl))))) (q_or1 (q_not (q_tv (q_all rfl rfl T.z_all (l_new (q_lc (own := [("entry", 2)]) rfl NO (go_n (by decide)) (i_val (q_var (i := 0) rfl (.inl rfl))) (blk_of (by kernel_rfl)) (fun _ _ _ _ _ => (g_name (i := 2) (by decide) NO rfl (.inl rfl))) (fun _ _ _ _ _ => ts_nil) (fun _ _ _ _ _ => (q_call (ok_is_term T F_is_term) (hr.mono (by decide)) rfl T.g_is_term F_is_term.kp (bn_is_term F_is_term) tk0 (ln_cons ln_nil) (q_acons (q_var (i := 2) rfl (.inl rfl)) q_anil))))))))))) (s_one (s_ret q_bl)) s_nil)
    (s_cons (s_setLc (i := 1) (own := [("literal", 3), ("weight", 4)]) rfl NO rfl rfl (by rfl) (go_t (go_c (go_n (by decide)) (go_c (go_n (by decide)) go_nil))) (i_val (q_var (i := 0) rfl (.inl rfl))) (blk_of (by kernel_rfl)) (fun _ _ _ _ _ => (g_tup rfl (gs_cons (g_name (i := 3) (by decide) NO rfl (.inl rfl)) (gs_cons (g_name (i := 4) (by decide) NO rfl (.inl rfl)) gs_nil)))) (fun _ _ _ _ _ => ts_nil) (fun _ _ _ _ _ => (q_op op_fdivW f_div (q_var (i := 3) rfl (.inl rfl)) q_int)))
    (s_one (s_frz 1 (s_ret (q_all rfl rfl T.z_all (l_new (q_lc (own := [("one", 5), ("other", 6)]) rfl NO (go_t (go_c (go_n (by decide)) (go_c (go_n (by decide)) go_nil))) (i_zip rfl T.z_zip (q_var (i := 1) rfl (.inl rfl)) (q_cut (q_var (i := 1) rfl (.inl rfl)) (p_some q_int) p_none)) (blk_of (by kernel_rfl)) (fun _ _ _ _ _ => (g_tup rfl (gs_cons (g_name (i := 5) (by decide) NO rfl (.inl rfl)) (gs_cons (g_name (i := 6) (by decide) NO rfl (.inl rfl)) gs_nil)))) (fun _ _ _ _ _ => ts_nil) (fun _ _ _ _ _ => (q_cmp op_lt f_lt (q_var (i := 5) rfl (.inl rfl)) (q_var (i := 6) rfl (.inl rfl)) (nomark _)))))))))))
theorem ok_is_sum (T : Fx K mg) {fd : FuncData} (F : FnP K "is_sum" s_is_sum (He.ga K "is_sum") fd) : FnQ P w K mg base 5 (He.ga K "is_sum") fd ps_is_sum m_is_sum := by
  obtain ⟨fd_is_row, F_is_row⟩ := T.d_is_row
  obtain ⟨fd_are_terms, F_are_terms⟩ := T.d_are_terms
  obtain ⟨fd_is_int, F_is_int⟩ := T.d_is_int
  refine q_fn F.toFun sc_is_sum rfl fun cdv A outer s H E hr => ?_
  have NO : N_is_sum.Nodup := sc_is_sum.nd
  exact (s_one (s_ret (q_andV (q_call (ok_is_row T F_is_row) (hr.mono (by decide)) rfl T.g_is_row F_is_row.kp (bn_is_row F_is_row) (takes_of rfl rfl rfl rfl) (ln_cons (ln_cons (ln_cons ln_nil))) (q_acons (q_var (i := 0) rfl (.inl rfl)) (q_acons q_int (q_acons q_int q_anil)))) (q_andV (q_call (ok_are_terms T F_are_terms) (hr.mono (by decide)) rfl T.g_are_terms F_are_terms.kp (bn_are_terms F_are_terms) (takes_of rfl rfl rfl rfl) (ln_cons ln_nil) (q_acons (q_ix (q_var (i := 0) rfl (.inl rfl)) q_int) q_anil)) (q_one (q_call (ok_is_int T F_is_int) (hr.mono (by decide)) rfl T.g_is_int F_is_int.kp (bn_is_int F_is_int) (takes_of rfl rfl rfl rfl) (ln_cons ln_nil) (q_acons (q_ix (q_var (i := 0) rfl (.inl rfl)) q_int) q_anil)))))))
theorem ok_put_together (T : Fx K mg) {fd : FuncData} (F : FnP K "put_together" s_put_together (He.ga K "put_together") fd) : FnQ P w K mg base 1 (He.ga K "put_together") fd ps_put_together m_put_together := by
  refine q_fn F.toFun sc_put_together rfl fun cdv A outer s H E hr => ?_
  have NO : N_put_together.Nodup := sc_put_together.nd
  exact (s_cons (s_par (i := 2) (j := 3) rfl NO rfl rfl (by decide) rfl rfl (c_o q_dnew) (c_w (q_var (i := 1) rfl (.inl rfl))) (by rfl))
    (s_cons (s_for (own := [4, 5]) (passes_of rfl) rfl (i_val (q_var (i := 0) rfl (.inl rfl))) (g_tup rfl (gs_cons (g_name (i := 4) (by decide) NO rfl (.inl rfl)) (gs_cons (g_name (i := 5) (by decide) NO rfl (.inl rfl)) gs_nil))) (s_cons (s_set NO (i := 6) rfl (.inl rfl) (q_op op_fdivW f_div (q_var (i := 4) rfl (.inl rfl)) q_int))
    (s_cons (s_if (PW.pt (q_or (t_eq hr.units (q_var (i := 4) rfl (.inl rfl)) (q_glob (v := .int (-1)) rfl (T.i_ALWAYS).choose_spec ⟨_, rfl⟩ (fun _ => .int _))) (q_or1 (PW.pt (q_and (q_tc op_ge f_ge (q_var (i := 6) rfl (.inl rfl)) q_int (nomark _)) (q_and1 (t_eq hr.units (q_op op_and f_band (q_var (i := 4) rfl (.inl rfl)) q_int) q_int))))))) (s_one (s_aug NO (i := 3) rfl (.inl rfl) (q_var (i := 5) rfl (.inl rfl)) ip_sub f_isub)) s_nil)
    (s_one (s_if (q_tc op_ge f_ge (q_var (i := 6) rfl (.inl rfl)) q_int (nomark _)) (s_one (s_dput (i := 2) (hu_of hr) rfl (.inl rfl) (q_var (i := 6) rfl (.inl rfl)) (q_add (q_dget2 (i := 2) (hu_of hr) rfl (.inl rfl) (q_var (i := 6) rfl (.inl rfl)) q_int) (q_mul (q_op op_sub f_sub q_int (q_mul q_int (q_op op_and f_band (q_var (i := 4) rfl (.inl rfl)) q_int))) (q_var (i := 5) rfl (.inl rfl)))))) s_nil)))))
    (s_cons (s_setO NO (i := 7) rfl (.inl rfl) (q_lst q_anil ln_nil))
    (s_cons (s_for (own := [6]) (passes_of rfl) rfl (i_new (q_dsrt (i := 2) rfl rfl T.z_sorted rfl (.inl rfl))) (g_name (i := 6) (by decide) NO rfl (.inl rfl)) (s_cons (s_set NO (i := 8) rfl (.inl rfl) (q_dget (i := 2) (hu_of hr) rfl (.inl rfl) (q_var (i := 6) rfl (.inl rfl))))
    (s_one (s_if (q_tc op_gt f_gt (q_var (i := 8) rfl (.inl rfl)) q_int (nomark _)) (s_one (s_exprX (x_app (i := 7) rfl (.inl rfl) (q_tup (q_acons (q_mul q_int (q_var (i := 6) rfl (.inl rfl))) (q_acons (q_var (i := 8) rfl (.inl rfl)) q_anil)) (ln_cons (ln_cons ln_nil)))))) (s_one (s_if (q_tc op_lt f_lt (q_var (i := 8) rfl (.inl rfl)) q_int (nomark _)) (s_cons (s_exprX (x_app (i := 7) rfl (.inl rfl) (q_tup (q_acons (q_add (q_mul q_int (q_var (i := 6) rfl (.inl rfl))) q_int) (q_acons (q_un un_neg f_neg (q_var (i := 8) rfl (.inl rfl))) q_anil)) (ln_cons (ln_cons ln_nil)))))
    (s_one (s_aug NO (i := 3) rfl (.inl rfl) (q_var (i := 8) rfl (.inl rfl)) ip_sub f_isub))) s_nil))))))
    (s_one (s_ret (q_tup (q_acons (q_tupL rfl T.z_tuple (l_own (i := 7) rfl (.inl rfl))) (q_acons (q_var (i := 3) rfl (.inl rfl)) q_anil)) (ln_cons (ln_cons ln_nil)))))))))
theorem ok_moved (T : Fx K mg) {fd : FuncData} (F : FnP K "moved" s_moved (He.ga K "moved") fd) : FnQ P w K mg base 1 (He.ga K "moved") fd ps_moved m_moved := by
  refine q_fn F.toFun sc_moved rfl fun cdv A outer s H E hr => ?_
  have NO : N_moved.Nodup := sc_moved.nd
  exact (s_cons (s_if (t_sin (hu_of hr) (q_op op_fdivW f_div (q_var (i := 0) rfl (.inl rfl)) q_int) (q_var (i := 1) rfl (.inl rfl))) (s_one (s_ret (q_op op_xor f_bxor (q_sget (hu_of hr) (q_var (i := 1) rfl (.inl rfl)) (q_op op_fdivW f_div (q_var (i := 0) rfl (.inl rfl)) q_int)) (q_op op_and f_band (q_var (i := 0) rfl (.inl rfl)) q_int)))) s_nil)
    (s_one (s_ret (q_var (i := 0) rfl (.inl rfl)))))
theorem ok_image (T : Fx K mg) {fd : FuncData} (F : FnP K "image" s_image (He.ga K "image") fd) : FnQ P w K mg base 2 (He.ga K "image") fd ps_image m_image := by
  obtain ⟨fd_put_together, F_put_together⟩ := T.d_put_together
  obtain ⟨fd_moved, F_moved⟩ := T.d_moved
  refine q_fn F.toFun sc_image rfl fun cdv A outer s H E hr => ?_
  have NO : N_image.Nodup := sc_image.nd
  exact (s_one (s_ret (q_call (ok_put_together T F_put_together) (hr.mono (by decide)) rfl T.g_put_together F_put_together.kp (bn_put_together F_put_together) (takes_of rfl rfl rfl rfl) (ln_cons (ln_cons ln_nil)) (q_acons (q_fz (q_lc (own := [("literal", 2), ("weight", 3)]) rfl NO (go_t (go_c (go_n (by decide)) (go_c (go_n (by decide)) go_nil))) (i_val (q_ix (q_var (i := 0) rfl (.inl rfl)) q_int)) (blk_of (by kernel_rfl)) (fun _ _ _ _ _ => (g_tup rfl (gs_cons (g_name (i := 2) (by decide) NO rfl (.inl rfl)) (gs_cons (g_name (i := 3) (by decide) NO rfl (.inl rfl)) gs_nil)))) (fun _ _ _ _ _ => ts_nil) (fun _ _ _ _ _ => (q_tup (q_acons (q_call (ok_moved T F_moved) (hr.mono (by decide)) rfl T.g_moved F_moved.kp (bn_moved F_moved) tk0 (ln_cons (ln_cons ln_nil)) (q_acons (q_var (i := 2) rfl (.inl rfl)) (q_acons (q_var (i := 1) rfl (.inr (.inl rfl))) q_anil))) (q_acons (q_var (i := 3) rfl (.inl rfl)) q_anil)) (ln_cons (ln_cons ln_nil)))))) (q_acons (q_ix (q_var (i := 0) rfl (.inl rfl)) q_int) q_anil)))))
theorem ok_need_sum (T : Fx K mg) {fd : FuncData} (F : FnP K "need_sum" s_need_sum (He.ga K "need_sum") fd) : FnQ P w K mg base 6 (He.ga K "need_sum") fd ps_need_sum m_need_sum := by
  obtain ⟨fd_is_sum, F_is_sum⟩ := T.d_is_sum
  refine q_fn F.toFun sc_need_sum rfl fun cdv A outer s H E hr => ?_
  have NO : N_need_sum.Nodup := sc_need_sum.nd
  exact (s_one (s_if (q_not (q_tv (q_call (ok_is_sum T F_is_sum) (hr.mono (by decide)) rfl T.g_is_sum F_is_sum.kp (bn_is_sum F_is_sum) (takes_of rfl rfl rfl rfl) (ln_cons ln_nil) (q_acons (q_var (i := 0) rfl (.inl rfl)) q_anil)))) (s_one (s_raise rfl (takes_of rfl rfl rfl rfl) T.c_BadSum (pmk_own PySem.F.excBase_ValueError T.x_BadSum.1 T.c_BadSum T.x_BadSum.2.1 (raises_own T.x_BadSum.2.2.1 T.x_BadSum.2.2.2) rfl))) s_nil))
theorem ok_is_witness (T : Fx K mg) {fd : FuncData} (F : FnP K "is_witness" s_is_witness (He.ga K "is_witness") fd) : FnQ P w K mg base 3 (He.ga K "is_witness") fd ps_is_witness m_is_witness := by
  obtain ⟨fd_is_row, F_is_row⟩ := T.d_is_row
  obtain ⟨fd_is_index, F_is_index⟩ := T.d_is_index
  obtain ⟨fd_is_int, F_is_int⟩ := T.d_is_int
  obtain ⟨fd_is_ascending, F_is_ascending⟩ := T.d_is_ascending
  refine q_fn F.toFun sc_is_witness rfl fun cdv A outer s H E hr => ?_
  have NO : N_is_witness.Nodup := sc_is_witness.nd
  exact (s_cons (s_if (PW.pt (q_or (q_not (q_tv (q_isi (n := "tuple") rfl T.z_isinstance rfl T.z_tuple (by decide +kernel) (q_var (i := 0) rfl (.inl rfl))))) (q_or1 (q_not (q_tv (q_all rfl rfl T.z_all (l_new (q_lc (own := [("pair", 1)]) rfl NO (go_n (by decide)) (i_val (q_var (i := 0) rfl (.inl rfl))) (blk_of (by kernel_rfl)) (fun _ _ _ _ _ => (g_name (i := 1) (by decide) NO rfl (.inl rfl))) (fun _ _ _ _ _ => ts_nil) (fun _ _ _ _ _ => (q_call (ok_is_row T F_is_row) (hr.mono (by decide)) rfl T.g_is_row F_is_row.kp (bn_is_row F_is_row) tk0 (ln_cons (ln_cons (ln_cons ln_nil))) (q_acons (q_var (i := 1) rfl (.inl rfl)) (q_acons q_int (q_acons q_int q_anil))))))))))))) (s_one (s_ret q_bl)) s_nil)
    (s_cons (s_if (q_not (q_tv (q_all rfl rfl T.z_all (l_new (q_lc (own := [("pair", 1)]) rfl NO (go_n (by decide)) (i_val (q_var (i := 0) rfl (.inl rfl))) (blk_of (by kernel_rfl)) (fun _ _ _ _ _ => (g_name (i := 1) (by decide) NO rfl (.inl rfl))) (fun _ _ _ _ _ => ts_nil) (fun _ _ _ _ _ => (q_andV (q_call (ok_is_index T F_is_index) (hr.mono (by decide)) rfl T.g_is_index F_is_index.kp (bn_is_index F_is_index) tk0 (ln_cons ln_nil) (q_acons (q_ix (q_var (i := 1) rfl (.inl rfl)) q_int) q_anil)) (q_andV (q_call (ok_is_int T F_is_int) (hr.mono (by decide)) rfl T.g_is_int F_is_int.kp (bn_is_int F_is_int) tk0 (ln_cons ln_nil) (q_acons (q_ix (q_var (i := 1) rfl (.inl rfl)) q_int) q_anil)) (q_one (q_cmp op_ge f_ge (q_ix (q_var (i := 1) rfl (.inl rfl)) q_int) (q_glob (v := .int (-2)) rfl (T.i_NEVER).choose_spec ⟨_, rfl⟩ (fun _ => .int _)) (nomark _))))))))))) (s_one (s_ret q_bl)) s_nil)
    (s_one (s_ret (q_call (ok_is_ascending T F_is_ascending) (hr.mono (by decide)) rfl T.g_is_ascending F_is_ascending.kp (bn_is_ascending F_is_ascending) (takes_of rfl rfl rfl rfl) (ln_cons ln_nil) (q_acons (q_fz (q_lc (own := [("pair", 1)]) rfl NO (go_n (by decide)) (i_val (q_var (i := 0) rfl (.inl rfl))) (blk_of (by kernel_rfl)) (fun _ _ _ _ _ => (g_name (i := 1) (by decide) NO rfl (.inl rfl))) (fun _ _ _ _ _ => ts_nil) (fun _ _ _ _ _ => (q_ix (q_var (i := 1) rfl (.inl rfl)) q_int)))) q_anil))))))
theorem ok_need_witness (T : Fx K mg) {fd : FuncData} (F : FnP K "need_witness" s_need_witness (He.ga K "need_witness") fd) : FnQ P w K mg base 4 (He.ga K "need_witness") fd ps_need_witness m_need_witness := by
  obtain ⟨fd_is_witness, F_is_witness⟩ := T.d_is_witness
  refine q_fn F.toFun sc_need_witness rfl fun cdv A outer s H E hr => ?_
  have NO : N_need_witness.Nodup := sc_need_witness.nd
  exact (s_one (s_if (q_not (q_tv (q_call (ok_is_witness T F_is_witness) (hr.mono (by decide)) rfl T.g_is_witness F_is_witness.kp (bn_is_witness F_is_witness) (takes_of rfl rfl rfl rfl) (ln_cons ln_nil) (q_acons (q_var (i := 0) rfl (.inl rfl)) q_anil)))) (s_one (s_raise rfl (takes_of rfl rfl rfl rfl) T.c_BadWitness (pmk_own PySem.F.excBase_ValueError T.x_BadWitness.1 T.c_BadWitness T.x_BadWitness.2.1 (raises_own T.x_BadWitness.2.2.1 T.x_BadWitness.2.2.2) rfl))) s_nil))
theorem ok_image_of (T : Fx K mg) {fd : FuncData} (F : FnP K "image_of" s_image_of (He.ga K "image_of") fd) : FnQ P w K mg base 7 (He.ga K "image_of") fd ps_image_of m_image_of := by
  obtain ⟨fd_need_sum, F_need_sum⟩ := T.d_need_sum
  obtain ⟨fd_need_witness, F_need_witness⟩ := T.d_need_witness
  obtain ⟨fd_image, F_image⟩ := T.d_image
  refine q_fn F.toFun sc_image_of rfl fun cdv A outer s H E hr => ?_
  have NO : N_image_of.Nodup := sc_image_of.nd
  exact (s_cons (s_expr (q_call (ok_need_sum T F_need_sum) (hr.mono (by decide)) rfl T.g_need_sum F_need_sum.kp (bn_need_sum F_need_sum) (takes_of rfl rfl rfl rfl) (ln_cons ln_nil) (q_acons (q_var (i := 0) rfl (.inl rfl)) q_anil)))
    (s_cons (s_expr (q_call (ok_need_witness T F_need_witness) (hr.mono (by decide)) rfl T.g_need_witness F_need_witness.kp (bn_need_witness F_need_witness) (takes_of rfl rfl rfl rfl) (ln_cons ln_nil) (q_acons (q_var (i := 1) rfl (.inl rfl)) q_anil)))
    (s_one (s_ret (q_call (ok_image T F_image) (hr.mono (by decide)) rfl T.g_image F_image.kp (bn_image F_image) (takes_of rfl rfl rfl rfl) (ln_cons (ln_cons ln_nil)) (q_acons (q_var (i := 0) rfl (.inl rfl)) (q_acons (q_sto (q_dctT rfl rfl T.z_dict (q_var (i := 1) rfl (.inl rfl)))) q_anil)))))))
theorem ok_value_by (T : Fx K mg) {fd : FuncData} (F : FnP K "value_by" s_value_by (He.ga K "value_by") fd) : FnQ P w K mg base 1 (He.ga K "value_by") fd ps_value_by m_value_by := by
  refine q_fn F.toFun sc_value_by rfl fun cdv A outer s H E hr => ?_
  have NO : N_value_by.Nodup := sc_value_by.nd
  exact (s_cons (s_if (q_tc op_lt f_lt (q_var (i := 0) rfl (.inl rfl)) q_int (nomark _)) (s_one (s_ret (q_if (t_ne hr.units (q_var (i := 0) rfl (.inl rfl)) (q_glob (v := .int (-2)) rfl (T.i_NEVER).choose_spec ⟨_, rfl⟩ (fun _ => .int _))) q_int q_int))) s_nil)
    (s_one (s_ret (q_if (t_ne hr.units (q_ix (q_var (i := 1) rfl (.inl rfl)) (q_op op_fdivW f_div (q_var (i := 0) rfl (.inl rfl)) q_int)) (q_op op_and f_band (q_var (i := 0) rfl (.inl rfl)) q_int)) q_int q_int))))
theorem ok_changed (T : Fx K mg) {fd : FuncData} (F : FnP K "changed" s_changed (He.ga K "changed") fd) : FnQ P w K mg base 5 (He.ga K "changed") fd ps_changed m_changed := by
  obtain ⟨fd_are_bits, F_are_bits⟩ := T.d_are_bits
  obtain ⟨fd_need_witness, F_need_witness⟩ := T.d_need_witness
  obtain ⟨fd_within, F_within⟩ := T.d_within
  obtain ⟨fd_value_by, F_value_by⟩ := T.d_value_by
  refine q_fn F.toFun sc_changed rfl fun cdv A outer s H E hr => ?_
  have NO : N_changed.Nodup := sc_changed.nd
  exact (s_cons (s_if (PW.pt (q_or (q_not (q_tv (q_isi (n := "tuple") rfl T.z_isinstance rfl T.z_tuple (by decide +kernel) (q_var (i := 0) rfl (.inr (.inl rfl)))))) (q_or1 (q_not (q_tv (q_call (ok_are_bits T F_are_bits) (hr.mono (by decide)) rfl T.g_are_bits F_are_bits.kp (bn_are_bits F_are_bits) (takes_of rfl rfl rfl rfl) (ln_cons (ln_cons (ln_cons ln_nil))) (q_acons (q_var (i := 0) rfl (.inr (.inl rfl))) (q_acons q_int (q_acons (q_len rfl T.z_len (qs_v (q_var (i := 0) rfl (.inr (.inl rfl))))) q_anil))))))))) (s_one (s_raise rfl (takes_of rfl rfl rfl rfl) T.c_BadValues (pmk_own PySem.F.excBase_ValueError T.x_BadValues.1 T.c_BadValues T.x_BadValues.2.1 (raises_own T.x_BadValues.2.2.1 T.x_BadValues.2.2.2) rfl))) s_nil)
    (s_cons (s_expr (q_call (ok_need_witness T F_need_witness) (hr.mono (by decide)) rfl T.g_need_witness F_need_witness.kp (bn_need_witness F_need_witness) (takes_of rfl rfl rfl rfl) (ln_cons ln_nil) (q_acons (q_var (i := 1) rfl (.inl rfl)) q_anil)))
    (s_cons (s_if (q_not (q_tv (q_all rfl rfl T.z_all (l_new (q_lc (own := [("pair", 5)]) rfl NO (go_n (by decide)) (i_val (q_var (i := 1) rfl (.inl rfl))) (blk_of (by kernel_rfl)) (fun _ _ _ _ _ => (g_name (i := 5) (by decide) NO rfl (.inl rfl))) (fun _ _ _ _ _ => ts_nil) (fun _ _ _ _ _ => (q_andV (q_call (ok_within T F_within) (hr.mono (by decide)) rfl T.g_within F_within.kp (bn_within F_within) tk0 (ln_cons (ln_cons (ln_cons ln_nil))) (q_acons (q_ix (q_var (i := 5) rfl (.inl rfl)) q_int) (q_acons q_int (q_acons (q_op op_sub f_sub (q_len rfl T.z_len (qs_v (q_var (i := 0) rfl (.inr (.inl rfl))))) q_int) q_anil)))) (q_one (q_cmp op_lt f_lt (q_op op_fdivW f_div (q_ix (q_var (i := 5) rfl (.inl rfl)) q_int) q_int) (q_len rfl T.z_len (qs_v (q_var (i := 0) rfl (.inr (.inl rfl))))) (nomark _)))))))))) (s_one (s_raise rfl (takes_of rfl rfl rfl rfl) T.c_BadWitness (pmk_own PySem.F.excBase_ValueError T.x_BadWitness.1 T.c_BadWitness T.x_BadWitness.2.1 (raises_own T.x_BadWitness.2.2.1 T.x_BadWitness.2.2.2) rfl))) s_nil)
    (s_cons (s_setO NO (i := 2) rfl (.inl rfl) (q_listOf rfl T.z_list (qs_v (q_var (i := 0) rfl (.inr (.inl rfl))))))
    (s_cons (s_for (own := [3, 4]) (passes_of rfl) rfl (i_val (q_var (i := 1) rfl (.inl rfl))) (g_tup rfl (gs_cons (g_name (i := 3) (by decide) NO rfl (.inl rfl)) (gs_cons (g_name (i := 4) (by decide) NO rfl (.inl rfl)) gs_nil))) (s_one (s_putO (i := 2) rfl (.inl rfl) (q_call (ok_value_by T F_value_by) (hr.mono (by decide)) rfl T.g_value_by F_value_by.kp (bn_value_by F_value_by) (takes_of rfl rfl rfl rfl) (ln_cons (ln_cons ln_nil)) (q_acons (q_var (i := 4) rfl (.inl rfl)) (q_acons (q_var (i := 0) rfl (.inr (.inl rfl))) q_anil))) (q_var (i := 3) rfl (.inl rfl)))))
    (s_one (s_ret (q_tupL rfl T.z_tuple (l_own (i := 2) rfl (.inl rfl))))))))))
theorem ok__law_deck (T : Fx K mg) {fd : FuncData} (F : FnP K "_law_deck" s__law_deck (He.ga K "_law_deck") fd) : FnQ P w K mg base 1 (He.ga K "_law_deck") fd ps__law_deck m__law_deck := by
  refine q_fn F.toFun sc__law_deck rfl fun cdv A outer s H E hr => ?_
  have NO : N__law_deck.Nodup := sc__law_deck.nd
  exact (s_one (s_retO (q_lst (q_acons (q_sto (q_lc (own := [("cell", 1)]) rfl NO (go_n (by decide)) (i_val (q_cut (q_var (i := 0) rfl (.inl rfl)) p_none (p_some q_int))) (blk_of (by kernel_rfl)) (fun _ _ _ _ _ => (g_name (i := 1) (by decide) NO rfl (.inl rfl))) (fun _ _ _ _ _ => ts_nil) (fun _ _ _ _ _ => (q_toI rfl T.z_int (q_var (i := 1) rfl (.inl rfl)))))) (q_acons q_int (q_acons q_int q_anil))) (ln_cons (ln_cons (ln_cons ln_nil))))))
theorem ok__law_pick (T : Fx K mg) {fd : FuncData} (F : FnP K "_law_pick" s__law_pick (He.ga K "_law_pick") fd) : FnQ P w K mg base 1 (He.ga K "_law_pick") fd ps__law_pick m__law_pick := by
  refine q_fn F.toFun sc__law_pick rfl fun cdv A outer s H E hr => ?_
  have NO : N__law_pick.Nodup := sc__law_pick.nd
  exact (s_cons (s_set NO (i := 2) rfl (.inl rfl) (q_ix (q_var (i := 0) rfl (.inl rfl)) q_int))
    (s_cons (s_if (PW.pt (q_and (q_tc op_lt f_lt (q_ix (q_var (i := 0) rfl (.inl rfl)) q_int) (q_op op_pow f_pow q_int q_int) (nomark _)) (q_and1 (t_ne hr.units (q_var (i := 2) rfl (.inl rfl)) (q_fz (q_lst q_anil ln_nil)))))) (s_cons (s_set NO (i := 3) rfl (.inl rfl) (q_popS (q_var (i := 2) rfl (.inl rfl)) q_int))
    (s_cons (s_set NO (i := 4) rfl (.inl rfl) (q_add (q_mul q_int (q_abs rfl T.z_abs (q_var (i := 3) rfl (.inl rfl)))) (q_toI rfl T.z_int (q_cmp op_lt f_lt (q_var (i := 3) rfl (.inl rfl)) q_int (nomark _)))))
    (s_one (s_if (q_tc op_ge f_ge (q_var (i := 4) rfl (.inl rfl)) (q_op op_pow f_pow q_int q_int) (nomark _)) (s_one (s_setIx (q_op op_mod f_mod (q_toI rfl T.z_int (q_var (i := 4) rfl (.inl rfl))) (q_op op_pow f_pow q_int q_int)) (q_var (i := 0) rfl (.inl rfl)) q_int)) (s_one (s_setIx (q_op op_mod f_mod (q_toI rfl T.z_int (q_add (q_add (q_mul (q_ix (q_var (i := 0) rfl (.inl rfl)) q_int) q_int) (q_mul (q_op op_mod f_mod (q_toI rfl T.z_int (q_var (i := 4) rfl (.inl rfl))) q_int) q_int)) q_int)) q_int) (q_var (i := 0) rfl (.inl rfl)) q_int)))))) s_nil)
    (s_cons (s_if (q_tc op_ge f_ge (q_ix (q_var (i := 0) rfl (.inl rfl)) q_int) (q_op op_pow f_pow q_int q_int) (nomark _)) (s_cons (s_set NO (i := 5) rfl (.inl rfl) (q_op op_mod f_mod (q_toI rfl T.z_int (q_ix (q_var (i := 0) rfl (.inl rfl)) q_int)) (q_var (i := 1) rfl (.inl rfl))))
    (s_cons (s_setIx (q_op op_fdivW f_div (q_ix (q_var (i := 0) rfl (.inl rfl)) q_int) (q_var (i := 1) rfl (.inl rfl))) (q_var (i := 0) rfl (.inl rfl)) q_int)
    (s_one (s_ret (q_var (i := 5) rfl (.inl rfl)))))) s_nil)
    (s_cons (s_setIx (q_op op_mod f_mod (q_toI rfl T.z_int (q_add (q_mul (q_ix (q_var (i := 0) rfl (.inl rfl)) q_int) q_int) q_int)) q_int) (q_var (i := 0) rfl (.inl rfl)) q_int)
    (s_one (s_ret (q_op op_mod f_mod (q_toI rfl T.z_int (q_op op_fdivW f_div (q_ix (q_var (i := 0) rfl (.inl rfl)) q_int) q_int)) (q_var (i := 1) rfl (.inl rfl)))))))))
theorem ok__law_alike (T : Fx K mg) {fd : FuncData} (F : FnP K "_law_alike" s__law_alike (He.ga K "_law_alike") fd) : FnQ P w K mg base 1 (He.ga K "_law_alike") fd ps__law_alike m__law_alike := by
  refine q_fn F.toFun sc__law_alike rfl fun cdv A outer s H E hr => ?_
  have NO : N__law_alike.Nodup := sc__law_alike.nd
  exact (s_cons (s_setO NO (i := 2) rfl (.inl rfl) (q_lst (q_acons (q_tup (q_acons (q_var (i := 0) rfl (.inl rfl)) (q_acons (q_var (i := 1) rfl (.inl rfl)) q_anil)) (ln_cons (ln_cons ln_nil))) q_anil) (ln_cons ln_nil)))
    (s_cons (s_while fuelW (passes_of rfl) (t_neO (i := 2) hr.units rfl (.inl rfl) (q_fz (q_lst q_anil ln_nil))) (s_cons (s_asgX (own := [3, 4]) (x_pop (i := 2) rfl (.inl rfl)) (g_tup rfl (gs_cons (g_name (i := 3) (by decide) NO rfl (.inr rfl)) (gs_cons (g_name (i := 4) (by decide) NO rfl (.inr rfl)) gs_nil))))
    (s_one (s_if (q_tv (q_isi (n := "tuple") rfl T.z_isinstance rfl T.z_tuple (by decide +kernel) (q_var (i := 4) rfl (.inr (.inl rfl))))) (s_cons (s_if (PW.pt (q_or (q_not (q_tv (q_isi (n := "tuple") rfl T.z_isinstance rfl T.z_tuple (by decide +kernel) (q_var (i := 3) rfl (.inr (.inl rfl)))))) (q_or1 (t_ne hr.units (q_len rfl T.z_len (qs_v (q_var (i := 3) rfl (.inr (.inl rfl))))) (q_len rfl T.z_len (qs_v (q_var (i := 4) rfl (.inr (.inl rfl))))))))) (s_one (s_ret q_bl)) s_nil)
    (s_one (s_setO NO (i := 2) rfl (.inl rfl) (q_addO (i := 2) rfl (.inl rfl) (q_fz (q_lc (own := [("k", 5)]) rfl NO (go_n (by decide)) (i_rng1 rfl T.z_range (q_len rfl T.z_len (qs_v (q_var (i := 4) rfl (.inr (.inl rfl)))))) (blk_of (by kernel_rfl)) (fun _ _ _ _ _ => (g_name (i := 5) (by decide) NO rfl (.inl rfl))) (fun _ _ _ _ _ => ts_nil) (fun _ _ _ _ _ => (q_tup (q_acons (q_ix (q_var (i := 3) rfl (.inr (.inl rfl))) (q_var (i := 5) rfl (.inl rfl))) (q_acons (q_ix (q_var (i := 4) rfl (.inr (.inl rfl))) (q_var (i := 5) rfl (.inl rfl))) q_anil)) (ln_cons (ln_cons ln_nil)))))))))) (s_one (s_if (t_isN (q_var (i := 4) rfl (.inr (.inl rfl)))) (s_one (s_if (t_notN (q_var (i := 3) rfl (.inr (.inl rfl)))) (s_one (s_ret q_bl)) s_nil)) (s_one (s_if (q_tv (q_isi (n := "bool") rfl T.z_isinstance rfl T.z_bool (by decide +kernel) (q_var (i := 4) rfl (.inr (.inl rfl))))) (s_one (s_if (PW.pt (q_or (q_not (q_tv (q_isi (n := "bool") rfl T.z_isinstance rfl T.z_bool (by decide +kernel) (q_var (i := 3) rfl (.inr (.inl rfl)))))) (q_or1 (t_ne hr.units (q_var (i := 3) rfl (.inr (.inl rfl))) (q_var (i := 4) rfl (.inr (.inl rfl))))))) (s_one (s_ret q_bl)) s_nil)) (s_one (s_if (q_tv (q_isi (n := "str") rfl T.z_isinstance rfl T.z_str (by decide +kernel) (q_var (i := 4) rfl (.inr (.inl rfl))))) (s_one (s_if (PW.pt (q_or (q_not (q_tv (q_isi (n := "str") rfl T.z_isinstance rfl T.z_str (by decide +kernel) (q_var (i := 3) rfl (.inr (.inl rfl)))))) (q_or1 (t_ne hr.units (q_var (i := 3) rfl (.inr (.inl rfl))) (q_var (i := 4) rfl (.inr (.inl rfl))))))) (s_one (s_ret q_bl)) s_nil)) (s_one (s_if (PW.pt (q_or (q_not (q_tv (q_isi (n := "int") rfl T.z_isinstance rfl T.z_int (by decide +kernel) (q_var (i := 3) rfl (.inr (.inl rfl)))))) (q_or (q_tv (q_isi (n := "bool") rfl T.z_isinstance rfl T.z_bool (by decide +kernel) (q_var (i := 3) rfl (.inr (.inl rfl))))) (q_or1 (t_ne hr.units (q_var (i := 3) rfl (.inr (.inl rfl))) (q_var (i := 4) rfl (.inr (.inl rfl)))))))) (s_one (s_ret q_bl)) s_nil))))))))))))
    (s_one (s_ret q_bl))))
theorem ok__law_is (T : Fx K mg) {fd : FuncData} (F : FnP K "_law_is" s__law_is (He.ga K "_law_is") fd) : FnQ P w K mg base 1 (He.ga K "_law_is") fd ps__law_is m__law_is := by
  refine q_fn F.toFun sc__law_is rfl fun cdv A outer s H E hr => ?_
  have NO : N__law_is.Nodup := sc__law_is.nd
  exact (s_one (s_ret (q_if (q_tv (q_var (i := 1) rfl (.inl rfl))) (q_isB (q_var (i := 0) rfl (.inl rfl)) q_bl) (q_isB (q_var (i := 0) rfl (.inl rfl)) q_bl))))
theorem ok__law_whole (T : Fx K mg) {fd : FuncData} (F : FnP K "_law_whole" s__law_whole (He.ga K "_law_whole") fd) : FnQ P w K mg base 1 (He.ga K "_law_whole") fd ps__law_whole m__law_whole := by
  refine q_fn F.toFun sc__law_whole rfl fun cdv A outer s H E hr => ?_
  have NO : N__law_whole.Nodup := sc__law_whole.nd
  exact (s_one (s_ret (q_andV (q_isi (n := "int") rfl T.z_isinstance rfl T.z_int (by decide +kernel) (q_var (i := 0) rfl (.inl rfl))) (q_andV (q_notV (q_isi (n := "bool") rfl T.z_isinstance rfl T.z_bool (by decide +kernel) (q_var (i := 0) rfl (.inl rfl)))) (q_one (q_cmp op_ge f_ge (q_var (i := 0) rfl (.inl rfl)) (q_var (i := 1) rfl (.inl rfl)) (nomark _)))))))
theorem ok__law_is_sum (T : Fx K mg) {fd : FuncData} (F : FnP K "_law_is_sum" s__law_is_sum (He.ga K "_law_is_sum") fd) : FnQ P w K mg base 2 (He.ga K "_law_is_sum") fd ps__law_is_sum m__law_is_sum := by
  obtain ⟨fd__law_whole, F__law_whole⟩ := T.d__law_whole
  refine q_fn F.toFun sc__law_is_sum rfl fun cdv A outer s H E hr => ?_
  have NO : N__law_is_sum.Nodup := sc__law_is_sum.nd
  exact (s_cons (s_if (PW.pt (q_or (q_not (q_tv (q_isi (n := "tuple") rfl T.z_isinstance rfl T.z_tuple (by decide +kernel) (q_var (i := 0) rfl (.inl rfl))))) (q_or (t_ne hr.units (q_len rfl T.z_len (qs_v (q_var (i := 0) rfl (.inl rfl)))) q_int) (q_or1 (q_not (q_tv (q_isi (n := "tuple") rfl T.z_isinstance rfl T.z_tuple (by decide +kernel) (q_ix (q_var (i := 0) rfl (.inl rfl)) q_int)))))))) (s_one (s_ret q_bl)) s_nil)
    (s_cons (s_if (PW.pt (q_or (q_not (q_tv (q_isi (n := "int") rfl T.z_isinstance rfl T.z_int (by decide +kernel) (q_ix (q_var (i := 0) rfl (.inl rfl)) q_int)))) (q_or1 (q_tv (q_isi (n := "bool") rfl T.z_isinstance rfl T.z_bool (by decide +kernel) (q_ix (q_var (i := 0) rfl (.inl rfl)) q_int)))))) (s_one (s_ret q_bl)) s_nil)
    (s_cons (s_set NO (i := 1) rfl (.inl rfl) (q_un un_neg f_neg q_int))
    (s_cons (s_for (own := [2]) (passes_of rfl) rfl (i_val (q_ix (q_var (i := 0) rfl (.inl rfl)) q_int)) (g_name (i := 2) (by decide) NO rfl (.inl rfl)) (s_cons (s_if (PW.pt (q_or (q_not (q_tv (q_isi (n := "tuple") rfl T.z_isinstance rfl T.z_tuple (by decide +kernel) (q_var (i := 2) rfl (.inl rfl))))) (q_or1 (t_ne hr.units (q_len rfl T.z_len (qs_v (q_var (i := 2) rfl (.inl rfl)))) q_int)))) (s_one (s_ret q_bl)) s_nil)
    (s_cons (s_if (PW.pt (q_or (q_not (q_tv (q_call (ok__law_whole T F__law_whole) (hr.mono (by decide)) rfl T.g__law_whole F__law_whole.kp (bn__law_whole F__law_whole) (takes_of rfl rfl rfl rfl) (ln_cons (ln_cons ln_nil)) (q_acons (q_ix (q_var (i := 2) rfl (.inl rfl)) q_int) (q_acons q_int q_anil))))) (q_or (q_not (q_tv (q_call (ok__law_whole T F__law_whole) (hr.mono (by decide)) rfl T.g__law_whole F__law_whole.kp (bn__law_whole F__law_whole) (takes_of rfl rfl rfl rfl) (ln_cons (ln_cons ln_nil)) (q_acons (q_ix (q_var (i := 2) rfl (.inl rfl)) q_int) (q_acons q_int q_anil))))) (q_or1 (q_tc op_le f_le (q_op op_fdivW f_div (q_ix (q_var (i := 2) rfl (.inl rfl)) q_int) q_int) (q_var (i := 1) rfl (.inl rfl)) (nomark _)))))) (s_one (s_ret q_bl)) s_nil)
    (s_one (s_set NO (i := 1) rfl (.inl rfl) (q_op op_fdivW f_div (q_ix (q_var (i := 2) rfl (.inl rfl)) q_int) q_int))))))
    (s_one (s_ret q_bl))))))
theorem ok__law_true (T : Fx K mg) {fd : FuncData} (F : FnP K "_law_true" s__law_true (He.ga K "_law_true") fd) : FnQ P w K mg base 1 (He.ga K "_law_true") fd ps__law_true m__law_true := by
  refine q_fn F.toFun sc__law_true rfl fun cdv A outer s H E hr => ?_
  have NO : N__law_true.Nodup := sc__law_true.nd
  exact (s_one (s_ret (q_ne hr.units (q_ix (q_var (i := 1) rfl (.inl rfl)) (q_op op_fdivW f_div (q_var (i := 0) rfl (.inl rfl)) q_int)) (q_op op_mod f_mod (q_toI rfl T.z_int (q_var (i := 0) rfl (.inl rfl))) q_int))))
theorem ok__law_worth (T : Fx K mg) {fd : FuncData} (F : FnP K "_law_worth" s__law_worth (He.ga K "_law_worth") fd) : FnQ P w K mg base 2 (He.ga K "_law_worth") fd ps__law_worth m__law_worth := by
  obtain ⟨fd__law_true, F__law_true⟩ := T.d__law_true
  refine q_fn F.toFun sc__law_worth rfl fun cdv A outer s H E hr => ?_
  have NO : N__law_worth.Nodup := sc__law_worth.nd
  exact (s_one (s_ret (q_sum rfl rfl T.z_sum (l_new (q_lc (own := [("literal", 2), ("weight", 3)]) rfl NO (go_t (go_c (go_n (by decide)) (go_c (go_n (by decide)) go_nil))) (i_val (q_ix (q_var (i := 0) rfl (.inl rfl)) q_int)) (blk_of (by kernel_rfl)) (fun _ _ _ _ _ => (g_tup rfl (gs_cons (g_name (i := 2) (by decide) NO rfl (.inl rfl)) (gs_cons (g_name (i := 3) (by decide) NO rfl (.inl rfl)) gs_nil)))) (fun _ _ _ _ _ => (ts_one (q_tv (q_call (ok__law_true T F__law_true) (hr.mono (by decide)) rfl T.g__law_true F__law_true.kp (bn__law_true F__law_true) tk0 (ln_cons (ln_cons ln_nil)) (q_acons (q_var (i := 2) rfl (.inl rfl)) (q_acons (q_var (i := 1) rfl (.inr (.inl rfl))) q_anil)))))) (fun _ _ _ _ _ => (q_var (i := 3) rfl (.inl rfl))))))))
theorem ok__law_rows (T : Fx K mg) {fd : FuncData} (F : FnP K "_law_rows" s__law_rows (He.ga K "_law_rows") fd) : FnQ P w K mg base 1 (He.ga K "_law_rows") fd ps__law_rows m__law_rows := by
  refine q_fn F.toFun sc__law_rows rfl fun cdv A outer s H E hr => ?_
  have NO : N__law_rows.Nodup := sc__law_rows.nd
  exact (s_cons (s_set NO (i := 1) rfl (.inl rfl) (q_fz (q_lst (q_acons (q_tup q_anil ln_nil) q_anil) (ln_cons ln_nil))))
    (s_cons (s_for (own := [2]) (passes_of rfl) rfl (i_rng1 rfl T.z_range (q_var (i := 0) rfl (.inl rfl))) (g_name (i := 2) (by decide) NO rfl (.inl rfl)) (s_one (s_set NO (i := 1) rfl (.inl rfl) (q_fz (q_addN (q_fz (q_lc (own := [("row", 3)]) rfl NO (go_n (by decide)) (i_val (q_var (i := 1) rfl (.inl rfl))) (blk_of (by kernel_rfl)) (fun _ _ _ _ _ => (g_name (i := 3) (by decide) NO rfl (.inl rfl))) (fun _ _ _ _ _ => ts_nil) (fun _ _ _ _ _ => (q_add (q_var (i := 3) rfl (.inl rfl)) (q_tup (q_acons q_int q_anil) (ln_cons ln_nil)))))) (q_fz (q_lc (own := [("row", 3)]) rfl NO (go_n (by decide)) (i_val (q_var (i := 1) rfl (.inl rfl))) (blk_of (by kernel_rfl)) (fun _ _ _ _ _ => (g_name (i := 3) (by decide) NO rfl (.inl rfl))) (fun _ _ _ _ _ => ts_nil) (fun _ _ _ _ _ => (q_add (q_var (i := 3) rfl (.inl rfl)) (q_tup (q_acons q_int q_anil) (ln_cons ln_nil)))))))))))
    (s_one (s_ret (q_srt (hu200 hr) rfl T.z_sorted (l_val (q_var (i := 1) rfl (.inl rfl))))))))
theorem ok__law_sum (T : Fx K mg) {fd : FuncData} (F : FnP K "_law_sum" s__law_sum (He.ga K "_law_sum") fd) : FnQ P w K mg base 2 (He.ga K "_law_sum") fd ps__law_sum m__law_sum := by
  obtain ⟨fd__law_pick, F__law_pick⟩ := T.d__law_pick
  refine q_fn F.toFun sc__law_sum rfl fun cdv A outer s H E hr => ?_
  have NO : N__law_sum.Nodup := sc__law_sum.nd
  exact (s_cons (s_par (i := 4) (j := 5) rfl NO rfl rfl (by decide) rfl rfl (c_w (q_call (ok__law_pick T F__law_pick) (hr.mono (by decide)) rfl T.g__law_pick F__law_pick.kp (bn__law_pick F__law_pick) (takes_of rfl rfl rfl rfl) (ln_cons (ln_cons ln_nil)) (q_acons (q_var (i := 0) rfl (.inl rfl)) (q_acons q_int q_anil)))) (c_o (q_lst q_anil ln_nil)) (by rfl))
    (s_cons (s_for (own := [6]) (passes_of rfl) rfl (i_rng1 rfl T.z_range (q_var (i := 1) rfl (.inl rfl))) (g_name (i := 6) (by decide) NO rfl (.inl rfl)) (s_one (s_if (PW.pt (q_and (q_tc op_lt f_lt (q_len rfl T.z_len (qs_l (l_own (i := 5) rfl (.inl rfl)))) (q_var (i := 2) rfl (.inl rfl)) (nomark _)) (q_and1 (q_tc op_gt f_gt (q_call (ok__law_pick T F__law_pick) (hr.mono (by decide)) rfl T.g__law_pick F__law_pick.kp (bn__law_pick F__law_pick) (takes_of rfl rfl rfl rfl) (ln_cons (ln_cons ln_nil)) (q_acons (q_var (i := 0) rfl (.inl rfl)) (q_acons q_int q_anil))) q_int (nomark _))))) (s_one (s_exprX (x_app (i := 5) rfl (.inl rfl) (q_tup (q_acons (q_add (q_mul q_int (q_var (i := 6) rfl (.inl rfl))) (q_call (ok__law_pick T F__law_pick) (hr.mono (by decide)) rfl T.g__law_pick F__law_pick.kp (bn__law_pick F__law_pick) (takes_of rfl rfl rfl rfl) (ln_cons (ln_cons ln_nil)) (q_acons (q_var (i := 0) rfl (.inl rfl)) (q_acons q_int q_anil)))) (q_acons (q_add q_int (q_call (ok__law_pick T F__law_pick) (hr.mono (by decide)) rfl T.g__law_pick F__law_pick.kp (bn__law_pick F__law_pick) (takes_of rfl rfl rfl rfl) (ln_cons (ln_cons ln_nil)) (q_acons (q_var (i := 0) rfl (.inl rfl)) (q_acons (q_var (i := 3) rfl (.inl rfl)) q_anil)))) q_anil)) (ln_cons (ln_cons ln_nil)))))) s_nil)))
    (s_cons (s_frz 5 (s_set NO (i := 7) rfl (.inl rfl) (q_sum rfl rfl T.z_sum (l_new (q_lc (own := [("literal", 8), ("weight", 9)]) rfl NO (go_t (go_c (go_n (by decide)) (go_c (go_n (by decide)) go_nil))) (i_val (q_var (i := 5) rfl (.inl rfl))) (blk_of (by kernel_rfl)) (fun _ _ _ _ _ => (g_tup rfl (gs_cons (g_name (i := 8) (by decide) NO rfl (.inl rfl)) (gs_cons (g_name (i := 9) (by decide) NO rfl (.inl rfl)) gs_nil)))) (fun _ _ _ _ _ => ts_nil) (fun _ _ _ _ _ => (q_var (i := 9) rfl (.inl rfl))))))))
    (s_cons (s_if (t_eq hr.units (q_var (i := 4) rfl (.inl rfl)) q_int) (s_one (s_ret (q_tup (q_acons (q_tupL rfl T.z_tuple (l_own (i := 5) rfl (.inl rfl))) (q_acons q_int q_anil)) (ln_cons (ln_cons ln_nil))))) s_nil)
    (s_cons (s_if (t_eq hr.units (q_var (i := 4) rfl (.inl rfl)) q_int) (s_one (s_ret (q_tup (q_acons (q_tupL rfl T.z_tuple (l_own (i := 5) rfl (.inl rfl))) (q_acons (q_add q_int (q_call (ok__law_pick T F__law_pick) (hr.mono (by decide)) rfl T.g__law_pick F__law_pick.kp (bn__law_pick F__law_pick) (takes_of rfl rfl rfl rfl) (ln_cons (ln_cons ln_nil)) (q_acons (q_var (i := 0) rfl (.inl rfl)) (q_acons (q_add (q_var (i := 7) rfl (.inl rfl)) q_int) q_anil)))) q_anil)) (ln_cons (ln_cons ln_nil))))) s_nil)
    (s_one (s_ret (q_tup (q_acons (q_tupL rfl T.z_tuple (l_own (i := 5) rfl (.inl rfl))) (q_acons (q_if (t_eq hr.units (q_var (i := 4) rfl (.inl rfl)) q_int) (q_op op_fdivW f_div (q_var (i := 7) rfl (.inl rfl)) q_int) (q_op op_sub f_sub (q_var (i := 7) rfl (.inl rfl)) (q_call (ok__law_pick T F__law_pick) (hr.mono (by decide)) rfl T.g__law_pick F__law_pick.kp (bn__law_pick F__law_pick) (takes_of rfl rfl rfl rfl) (ln_cons (ln_cons ln_nil)) (q_acons (q_var (i := 0) rfl (.inl rfl)) (q_acons q_int q_anil))))) q_anil)) (ln_cons (ln_cons ln_nil))))))))))
theorem ok__law_together (T : Fx K mg) {fd : FuncData} (F : FnP K "_law_together" s__law_together (He.ga K "_law_together") fd) : FnQ P w K mg base 1 (He.ga K "_law_together") fd ps__law_together m__law_together := by
  refine q_fn F.toFun sc__law_together rfl fun cdv A outer s H E hr => ?_
  have NO : N__law_together.Nodup := sc__law_together.nd
  exact (s_cons (s_par (i := 2) (j := 3) rfl NO rfl rfl (by decide) rfl rfl (c_o q_dnew) (c_w (q_var (i := 1) rfl (.inl rfl))) (by rfl))
    (s_cons (s_for (own := [4, 5]) (passes_of rfl) rfl (i_val (q_var (i := 0) rfl (.inl rfl))) (g_tup rfl (gs_cons (g_name (i := 4) (by decide) NO rfl (.inl rfl)) (gs_cons (g_name (i := 5) (by decide) NO rfl (.inl rfl)) gs_nil))) (s_one (s_if (t_eq hr.units (q_var (i := 4) rfl (.inl rfl)) (q_un un_neg f_neg q_int)) (s_one (s_set NO (i := 3) rfl (.inl rfl) (q_op op_sub f_sub (q_var (i := 3) rfl (.inl rfl)) (q_var (i := 5) rfl (.inl rfl))))) (s_one (s_if (PW.pt (q_and (q_tc op_ge f_ge (q_var (i := 4) rfl (.inl rfl)) q_int (nomark _)) (q_and1 (t_eq hr.units (q_op op_mod f_mod (q_toI rfl T.z_int (q_var (i := 4) rfl (.inl rfl))) q_int) q_int)))) (s_one (s_dput (i := 2) (hu_of hr) rfl (.inl rfl) (q_op op_fdivW f_div (q_var (i := 4) rfl (.inl rfl)) q_int) (q_add (q_dget2 (i := 2) (hu_of hr) rfl (.inl rfl) (q_op op_fdivW f_div (q_var (i := 4) rfl (.inl rfl)) q_int) q_int) (q_var (i := 5) rfl (.inl rfl))))) (s_one (s_if (q_tc op_ge f_ge (q_var (i := 4) rfl (.inl rfl)) q_int (nomark _)) (s_cons (s_set NO (i := 3) rfl (.inl rfl) (q_op op_sub f_sub (q_var (i := 3) rfl (.inl rfl)) (q_var (i := 5) rfl (.inl rfl))))
    (s_one (s_dput (i := 2) (hu_of hr) rfl (.inl rfl) (q_op op_fdivW f_div (q_var (i := 4) rfl (.inl rfl)) q_int) (q_op op_sub f_sub (q_dget2 (i := 2) (hu_of hr) rfl (.inl rfl) (q_op op_fdivW f_div (q_var (i := 4) rfl (.inl rfl)) q_int) q_int) (q_var (i := 5) rfl (.inl rfl)))))) s_nil)))))))
    (s_cons (s_setO NO (i := 6) rfl (.inl rfl) (q_lst q_anil ln_nil))
    (s_cons (s_for (own := [7]) (passes_of rfl) rfl (i_new (q_dsrt (i := 2) rfl rfl T.z_sorted rfl (.inl rfl))) (g_name (i := 7) (by decide) NO rfl (.inl rfl)) (s_one (s_if (q_tc op_gt f_gt (q_dget (i := 2) (hu_of hr) rfl (.inl rfl) (q_var (i := 7) rfl (.inl rfl))) q_int (nomark _)) (s_one (s_exprX (x_app (i := 6) rfl (.inl rfl) (q_tup (q_acons (q_mul q_int (q_var (i := 7) rfl (.inl rfl))) (q_acons (q_dget (i := 2) (hu_of hr) rfl (.inl rfl) (q_var (i := 7) rfl (.inl rfl))) q_anil)) (ln_cons (ln_cons ln_nil)))))) (s_one (s_if (q_tc op_lt f_lt (q_dget (i := 2) (hu_of hr) rfl (.inl rfl) (q_var (i := 7) rfl (.inl rfl))) q_int (nomark _)) (s_cons (s_exprX (x_app (i := 6) rfl (.inl rfl) (q_tup (q_acons (q_add (q_mul q_int (q_var (i := 7) rfl (.inl rfl))) q_int) (q_acons (q_op op_sub f_sub q_int (q_dget (i := 2) (hu_of hr) rfl (.inl rfl) (q_var (i := 7) rfl (.inl rfl)))) q_anil)) (ln_cons (ln_cons ln_nil)))))
    (s_one (s_set NO (i := 3) rfl (.inl rfl) (q_op op_sub f_sub (q_var (i := 3) rfl (.inl rfl)) (q_dget (i := 2) (hu_of hr) rfl (.inl rfl) (q_var (i := 7) rfl (.inl rfl))))))) s_nil)))))
    (s_one (s_ret (q_tup (q_acons (q_tupL rfl T.z_tuple (l_own (i := 6) rfl (.inl rfl))) (q_acons (q_var (i := 3) rfl (.inl rfl)) q_anil)) (ln_cons (ln_cons ln_nil)))))))))
theorem ok__law_moved (T : Fx K mg) {fd : FuncData} (F : FnP K "_law_moved" s__law_moved (He.ga K "_law_moved") fd) : FnQ P w K mg base 1 (He.ga K "_law_moved") fd ps__law_moved m__law_moved := by
  refine q_fn F.toFun sc__law_moved rfl fun cdv A outer s H E hr => ?_
  have NO : N__law_moved.Nodup := sc__law_moved.nd
  exact (s_cons (s_if (t_sin (hu_of hr) (q_op op_fdivW f_div (q_var (i := 0) rfl (.inl rfl)) q_int) (q_var (i := 1) rfl (.inl rfl))) (s_one (s_ret (q_op op_xor f_bxor (q_sget (hu_of hr) (q_var (i := 1) rfl (.inl rfl)) (q_op op_fdivW f_div (q_var (i := 0) rfl (.inl rfl)) q_int)) (q_op op_mod f_mod (q_toI rfl T.z_int (q_var (i := 0) rfl (.inl rfl))) q_int)))) s_nil)
    (s_one (s_ret (q_var (i := 0) rfl (.inl rfl)))))
theorem ok__law_image (T : Fx K mg) {fd : FuncData} (F : FnP K "_law_image" s__law_image (He.ga K "_law_image") fd) : FnQ P w K mg base 2 (He.ga K "_law_image") fd ps__law_image m__law_image := by
  obtain ⟨fd__law_together, F__law_together⟩ := T.d__law_together
  obtain ⟨fd__law_moved, F__law_moved⟩ := T.d__law_moved
  refine q_fn F.toFun sc__law_image rfl fun cdv A outer s H E hr => ?_
  have NO : N__law_image.Nodup := sc__law_image.nd
  exact (s_one (s_ret (q_call (ok__law_together T F__law_together) (hr.mono (by decide)) rfl T.g__law_together F__law_together.kp (bn__law_together F__law_together) (takes_of rfl rfl rfl rfl) (ln_cons (ln_cons ln_nil)) (q_acons (q_fz (q_lc (own := [("literal", 2), ("weight", 3)]) rfl NO (go_t (go_c (go_n (by decide)) (go_c (go_n (by decide)) go_nil))) (i_val (q_ix (q_var (i := 0) rfl (.inl rfl)) q_int)) (blk_of (by kernel_rfl)) (fun _ _ _ _ _ => (g_tup rfl (gs_cons (g_name (i := 2) (by decide) NO rfl (.inl rfl)) (gs_cons (g_name (i := 3) (by decide) NO rfl (.inl rfl)) gs_nil)))) (fun _ _ _ _ _ => ts_nil) (fun _ _ _ _ _ => (q_tup (q_acons (q_call (ok__law_moved T F__law_moved) (hr.mono (by decide)) rfl T.g__law_moved F__law_moved.kp (bn__law_moved F__law_moved) tk0 (ln_cons (ln_cons ln_nil)) (q_acons (q_var (i := 2) rfl (.inl rfl)) (q_acons (q_var (i := 1) rfl (.inr (.inl rfl))) q_anil))) (q_acons (q_var (i := 3) rfl (.inl rfl)) q_anil)) (ln_cons (ln_cons ln_nil)))))) (q_acons (q_ix (q_var (i := 0) rfl (.inl rfl)) q_int) q_anil)))))
theorem ok__law_changed (T : Fx K mg) {fd : FuncData} (F : FnP K "_law_changed" s__law_changed (He.ga K "_law_changed") fd) : FnQ P w K mg base 2 (He.ga K "_law_changed") fd ps__law_changed m__law_changed := by
  obtain ⟨fd__law_true, F__law_true⟩ := T.d__law_true
  refine q_fn F.toFun sc__law_changed rfl fun cdv A outer s H E hr => ?_
  have NO : N__law_changed.Nodup := sc__law_changed.nd
  exact (s_cons (s_setO NO (i := 2) rfl (.inl rfl) (q_listOf rfl T.z_list (qs_v (q_var (i := 0) rfl (.inl rfl)))))
    (s_cons (s_for (own := [3]) (passes_of rfl) rfl (i_keysF (q_var (i := 1) rfl (.inl rfl))) (g_name (i := 3) (by decide) NO rfl (.inl rfl)) (s_cons (s_set NO (i := 4) rfl (.inl rfl) (q_sget (hu_of hr) (q_var (i := 1) rfl (.inl rfl)) (q_var (i := 3) rfl (.inl rfl))))
    (s_one (s_putO (i := 2) rfl (.inl rfl) (q_toI rfl T.z_int (q_orV (q_eq hr.units (q_var (i := 4) rfl (.inl rfl)) (q_un un_neg f_neg q_int)) (q_one (q_andV (q_cmp op_ge f_ge (q_var (i := 4) rfl (.inl rfl)) q_int (nomark _)) (q_one (q_call (ok__law_true T F__law_true) (hr.mono (by decide)) rfl T.g__law_true F__law_true.kp (bn__law_true F__law_true) (takes_of rfl rfl rfl rfl) (ln_cons (ln_cons ln_nil)) (q_acons (q_var (i := 4) rfl (.inl rfl)) (q_acons (q_var (i := 0) rfl (.inl rfl)) q_anil)))))))) (q_var (i := 3) rfl (.inl rfl))))))
    (s_one (s_ret (q_tupL rfl T.z_tuple (l_own (i := 2) rfl (.inl rfl)))))))
theorem ok__law_is_witness (T : Fx K mg) {fd : FuncData} (F : FnP K "_law_is_witness" s__law_is_witness (He.ga K "_law_is_witness") fd) : FnQ P w K mg base 2 (He.ga K "_law_is_witness") fd ps__law_is_witness m__law_is_witness := by
  obtain ⟨fd__law_whole, F__law_whole⟩ := T.d__law_whole
  refine q_fn F.toFun sc__law_is_witness rfl fun cdv A outer s H E hr => ?_
  have NO : N__law_is_witness.Nodup := sc__law_is_witness.nd
  exact (s_cons (s_if (q_not (q_tv (q_isi (n := "tuple") rfl T.z_isinstance rfl T.z_tuple (by decide +kernel) (q_var (i := 0) rfl (.inl rfl))))) (s_one (s_ret q_bl)) s_nil)
    (s_cons (s_set NO (i := 1) rfl (.inl rfl) (q_un un_neg f_neg q_int))
    (s_cons (s_for (own := [2]) (passes_of rfl) rfl (i_val (q_var (i := 0) rfl (.inl rfl))) (g_name (i := 2) (by decide) NO rfl (.inl rfl)) (s_cons (s_if (PW.pt (q_or (q_not (q_tv (q_isi (n := "tuple") rfl T.z_isinstance rfl T.z_tuple (by decide +kernel) (q_var (i := 2) rfl (.inl rfl))))) (q_or (t_ne hr.units (q_len rfl T.z_len (qs_v (q_var (i := 2) rfl (.inl rfl)))) q_int) (q_or (q_not (q_tv (q_call (ok__law_whole T F__law_whole) (hr.mono (by decide)) rfl T.g__law_whole F__law_whole.kp (bn__law_whole F__law_whole) (takes_of rfl rfl rfl rfl) (ln_cons (ln_cons ln_nil)) (q_acons (q_ix (q_var (i := 2) rfl (.inl rfl)) q_int) (q_acons (q_add (q_var (i := 1) rfl (.inl rfl)) q_int) q_anil))))) (q_or1 (q_not (q_tv (q_call (ok__law_whole T F__law_whole) (hr.mono (by decide)) rfl T.g__law_whole F__law_whole.kp (bn__law_whole F__law_whole) (takes_of rfl rfl rfl rfl) (ln_cons (ln_cons ln_nil)) (q_acons (q_ix (q_var (i := 2) rfl (.inl rfl)) q_int) (q_acons (q_un un_neg f_neg q_int) q_anil)))))))))) (s_one (s_ret q_bl)) s_nil)
    (s_one (s_set NO (i := 1) rfl (.inl rfl) (q_ix (q_var (i := 2) rfl (.inl rfl)) q_int)))))
    (s_one (s_ret q_bl)))))
theorem ok__law_bent (T : Fx K mg) {fd : FuncData} (F : FnP K "_law_bent" s__law_bent (He.ga K "_law_bent") fd) : FnQ P w K mg base 2 (He.ga K "_law_bent") fd ps__law_bent m__law_bent := by
  obtain ⟨fd__law_pick, F__law_pick⟩ := T.d__law_pick
  refine q_fn F.toFun sc__law_bent rfl fun cdv A outer s H E hr => ?_
  have NO : N__law_bent.Nodup := sc__law_bent.nd
  exact (s_cons (s_set NO (i := 2) rfl (.inl rfl) (q_fz (q_lst (q_acons (q_fz (q_listOf rfl T.z_list (qs_v (q_var (i := 1) rfl (.inl rfl))))) (q_acons q_non (q_acons (q_tup (q_acons q_int q_anil) (ln_cons ln_nil)) (q_acons (q_add (q_var (i := 1) rfl (.inl rfl)) (q_tup (q_acons (q_tup (q_acons q_int (q_acons q_int q_anil)) (ln_cons (ln_cons ln_nil))) q_anil) (ln_cons ln_nil))) (q_acons (q_add (q_var (i := 1) rfl (.inl rfl)) (q_tup (q_acons (q_tup (q_acons q_int (q_acons (q_un un_neg f_neg q_int) q_anil)) (ln_cons (ln_cons ln_nil))) q_anil) (ln_cons ln_nil))) (q_acons (q_add (q_var (i := 1) rfl (.inl rfl)) (q_tup (q_acons (q_tup (q_acons q_int (q_acons q_bl q_anil)) (ln_cons (ln_cons ln_nil))) q_anil) (ln_cons ln_nil))) (q_acons (q_revT (q_var (i := 1) rfl (.inl rfl))) (q_acons (q_add (q_tup (q_acons (q_tup (q_acons (q_un un_neg f_neg q_int) (q_acons q_int q_anil)) (ln_cons (ln_cons ln_nil))) q_anil) (ln_cons ln_nil)) (q_var (i := 1) rfl (.inl rfl))) q_anil)))))))) (ln_cons (ln_cons (ln_cons (ln_cons (ln_cons (ln_cons (ln_cons (ln_cons ln_nil)))))))))))
    (s_cons (s_set NO (i := 2) rfl (.inl rfl) (q_fz (q_addN (q_var (i := 2) rfl (.inl rfl)) (q_fz (q_lst (q_acons (q_add (q_var (i := 1) rfl (.inl rfl)) (q_tup (q_acons (q_tup (q_acons q_int (q_acons (q_un un_neg f_neg q_int) q_anil)) (ln_cons (ln_cons ln_nil))) q_anil) (ln_cons ln_nil))) (q_acons (q_add (q_var (i := 1) rfl (.inl rfl)) (q_tup (q_acons (q_tup (q_acons q_int q_anil) (ln_cons ln_nil)) q_anil) (ln_cons ln_nil))) (q_acons (q_add (q_var (i := 1) rfl (.inl rfl)) (q_tup (q_acons (q_fz (q_lst (q_acons q_int (q_acons q_int q_anil)) (ln_cons (ln_cons ln_nil)))) q_anil) (ln_cons ln_nil))) (q_acons (q_add (q_var (i := 1) rfl (.inl rfl)) (q_tup (q_acons (q_tup (q_acons q_int (q_acons q_int (q_acons q_int q_anil))) (ln_cons (ln_cons (ln_cons ln_nil)))) q_anil) (ln_cons ln_nil))) (q_acons (q_cut (q_var (i := 1) rfl (.inl rfl)) (p_some q_int) p_none) (q_acons (q_add (q_tup (q_acons (q_tup (q_acons q_int (q_acons q_non q_anil)) (ln_cons (ln_cons ln_nil))) q_anil) (ln_cons ln_nil)) (q_cut (q_var (i := 1) rfl (.inl rfl)) (p_some q_int) p_none)) q_anil)))))) (ln_cons (ln_cons (ln_cons (ln_cons (ln_cons (ln_cons ln_nil)))))))))))
    (s_one (s_ret (q_ix (q_var (i := 2) rfl (.inl rfl)) (q_call (ok__law_pick T F__law_pick) (hr.mono (by decide)) rfl T.g__law_pick F__law_pick.kp (bn__law_pick F__law_pick) (takes_of rfl rfl rfl rfl) (ln_cons (ln_cons ln_nil)) (q_acons (q_var (i := 0) rfl (.inl rfl)) (q_acons q_int q_anil))))))))
theorem ok__law_refused (T : Fx K mg) {fd : FuncData} (F : FnP K "_law_refused" s__law_refused (He.ga K "_law_refused") fd) : FnQ P w K mg base 8 (He.ga K "_law_refused") fd ps__law_refused m__law_refused := by
  obtain ⟨fd_image_of, F_image_of⟩ := T.d_image_of
  obtain ⟨fd_changed, F_changed⟩ := T.d_changed
  refine q_fn F.toFun sc__law_refused rfl fun cdv A outer s H E hr => ?_
  have NO : N__law_refused.Nodup := sc__law_refused.nd
  exact (s_cons (s_set NO (i := 3) rfl (.inl rfl) q_str)
    (s_cons (s_try (ds := ["BadSum", "BadValues", "BadWitness"]) (cs := ["BadSum", "BadValues", "BadWitness", "SumError"]) rfl rfl NO (takes_of rfl rfl rfl rfl) (su__law_refused_209 T) (by decide) (fun W pn xe tk1 pw1 => (s_one (s_if (t_eq hr.units (q_var (i := 0) rfl (.inl rfl)) q_int) (s_one (s_expr (q_callK0 (ok_image_of T F_image_of) (hr.mono (by decide)) rfl T.g_image_of F_image_of.kp (kb_image_of_0 F_image_of) tk1 (ln_cons (ln_cons ln_nil)) rfl rfl (k_cons (q_var (i := 1) rfl (.inl rfl)) (k_cons (q_var (i := 2) rfl (.inl rfl)) k_nil))))) (s_one (s_expr (q_callK0 (ok_changed T F_changed) (hr.mono (by decide)) rfl T.g_changed F_changed.kp (kb_changed_0 F_changed) tk1 (ln_cons (ln_cons ln_nil)) rfl rfl (k_cons (q_var (i := 1) rfl (.inl rfl)) (k_cons (q_var (i := 2) rfl (.inl rfl)) k_nil)))))))) (HdF.plain rfl T.c_BadSum (by decide) (fun c a o D pn hc hz hf => (s_one (s_set NO (i := 3) rfl (.inl rfl) q_str))) (HdF.plain rfl T.c_BadValues (by decide) (fun c a o D pn hc hz hf => (s_one (s_set NO (i := 3) rfl (.inl rfl) q_str))) (HdF.plain rfl T.c_BadWitness (by decide) (fun c a o D pn hc hz hf => (s_one (s_set NO (i := 3) rfl (.inl rfl) q_str))) (HdF.plain rfl T.c_SumError (by decide) (fun c a o D pn hc hz hf => (s_one (s_set NO (i := 3) rfl (.inl rfl) q_str))) HdF.nil)))))
    (s_one (s_ret (q_var (i := 3) rfl (.inl rfl))))))
theorem ok_law (T : Fx K mg) {fd : FuncData} (F : FnP K "law" s_law (He.ga K "law") fd) : FnQ P w K mg base 9 (He.ga K "law") fd ps_law m_law := by
  obtain ⟨fd__law_deck, F__law_deck⟩ := T.d__law_deck
  obtain ⟨fd__law_pick, F__law_pick⟩ := T.d__law_pick
  obtain ⟨fd__law_sum, F__law_sum⟩ := T.d__law_sum
  obtain ⟨fd_image_of, F_image_of⟩ := T.d_image_of
  obtain ⟨fd__law_is_sum, F__law_is_sum⟩ := T.d__law_is_sum
  obtain ⟨fd__law_alike, F__law_alike⟩ := T.d__law_alike
  obtain ⟨fd__law_image, F__law_image⟩ := T.d__law_image
  obtain ⟨fd__law_rows, F__law_rows⟩ := T.d__law_rows
  obtain ⟨fd_changed, F_changed⟩ := T.d_changed
  obtain ⟨fd__law_changed, F__law_changed⟩ := T.d__law_changed
  obtain ⟨fd__law_worth, F__law_worth⟩ := T.d__law_worth
  obtain ⟨fd__law_bent, F__law_bent⟩ := T.d__law_bent
  obtain ⟨fd__law_is_witness, F__law_is_witness⟩ := T.d__law_is_witness
  obtain ⟨fd_is_witness, F_is_witness⟩ := T.d_is_witness
  obtain ⟨fd__law_is, F__law_is⟩ := T.d__law_is
  obtain ⟨fd__law_refused, F__law_refused⟩ := T.d__law_refused
  refine q_fn F.toFun sc_law rfl fun cdv A outer s H E hr => ?_
  have NO : N_law.Nodup := sc_law.nd
  exact (s_cons (s_set NO (i := 1) rfl (.inr rfl) (q_sto (q_callO (ok__law_deck T F__law_deck) (hr.mono (by decide)) rfl T.g__law_deck F__law_deck.kp (bn__law_deck F__law_deck) (takes_of rfl rfl rfl rfl) (ln_cons ln_nil) (q_acons (q_var (i := 0) rfl (.inl rfl)) q_anil))))
    (s_cons (s_for (own := [2]) (passes_of rfl) rfl (i_rng1 rfl T.z_range (q_add q_int (q_min2 rfl rfl T.z_min (q_len rfl T.z_len (qs_v (q_var (i := 0) rfl (.inl rfl)))) q_int))) (g_name (i := 2) (by decide) NO rfl (.inl rfl)) (s_cons (s_set NO (i := 3) rfl (.inr rfl) (q_add q_int (q_call (ok__law_pick T F__law_pick) (hr.mono (by decide)) rfl T.g__law_pick F__law_pick.kp (bn__law_pick F__law_pick) (takes_of rfl rfl rfl rfl) (ln_cons (ln_cons ln_nil)) (q_acons (q_var (i := 1) rfl (.inr (.inl rfl))) (q_acons q_int q_anil)))))
    (s_cons (s_set NO (i := 4) rfl (.inl rfl) (q_call (ok__law_sum T F__law_sum) (hr.mono (by decide)) rfl T.g__law_sum F__law_sum.kp (bn__law_sum F__law_sum) (takes_of rfl rfl rfl rfl) (ln_cons (ln_cons (ln_cons (ln_cons ln_nil)))) (q_acons (q_var (i := 1) rfl (.inr (.inl rfl))) (q_acons (q_var (i := 3) rfl (.inr (.inl rfl))) (q_acons q_int (q_acons (q_ix (q_fz (q_lst (q_acons q_int (q_acons q_int (q_acons (q_op op_pow f_pow q_int q_int) q_anil))) (ln_cons (ln_cons (ln_cons ln_nil))))) (q_call (ok__law_pick T F__law_pick) (hr.mono (by decide)) rfl T.g__law_pick F__law_pick.kp (bn__law_pick F__law_pick) (takes_of rfl rfl rfl rfl) (ln_cons (ln_cons ln_nil)) (q_acons (q_var (i := 1) rfl (.inr (.inl rfl))) (q_acons q_int q_anil)))) q_anil))))))
    (s_cons (s_setLc (i := 5) (own := [("variable", 13)]) rfl NO rfl rfl (by rfl) (go_n (by decide)) (i_rng1 rfl T.z_range (q_var (i := 3) rfl (.inr (.inl rfl)))) (blk_of (by kernel_rfl)) (fun _ _ _ _ _ => (g_name (i := 13) (by decide) NO rfl (.inl rfl))) (fun _ _ _ _ _ => (ts_one (t_eq hr.units (q_call (ok__law_pick T F__law_pick) (hr.mono (by decide)) rfl T.g__law_pick F__law_pick.kp (bn__law_pick F__law_pick) tk0 (ln_cons (ln_cons ln_nil)) (q_acons (q_var (i := 1) rfl (.inr (.inl rfl))) (q_acons q_int q_anil))) q_int))) (fun _ _ _ _ _ => (q_var (i := 13) rfl (.inl rfl))))
    (s_cons (s_frz 5 (s_set NO (i := 6) rfl (.inl rfl) (q_tupL rfl T.z_tuple (l_new (q_lc (own := [("variable", 13)]) rfl NO (go_n (by decide)) (i_val (q_var (i := 5) rfl (.inl rfl))) (blk_of (by kernel_rfl)) (fun _ _ _ _ _ => (g_name (i := 13) (by decide) NO rfl (.inl rfl))) (fun _ _ _ _ _ => ts_nil) (fun _ _ _ _ _ => (q_tup (q_acons (q_var (i := 13) rfl (.inl rfl)) (q_acons (q_op op_sub f_sub (q_call (ok__law_pick T F__law_pick) (hr.mono (by decide)) rfl T.g__law_pick F__law_pick.kp (bn__law_pick F__law_pick) tk0 (ln_cons (ln_cons ln_nil)) (q_acons (q_var (i := 1) rfl (.inr (.inl rfl))) (q_acons (q_add (q_mulT q_int (q_var (i := 3) rfl (.inr (.inl rfl)))) q_int) q_anil))) q_int) q_anil)) (ln_cons (ln_cons ln_nil)))))))))
    (s_cons (s_par (i := 7) (j := 8) rfl NO rfl rfl (by decide) rfl rfl (c_w (q_sto (q_dctT rfl rfl T.z_dict (q_var (i := 6) rfl (.inl rfl))))) (c_w (q_call (ok_image_of T F_image_of) (hr.mono (by decide)) rfl T.g_image_of F_image_of.kp (bn_image_of F_image_of) (takes_of rfl rfl rfl rfl) (ln_cons (ln_cons ln_nil)) (q_acons (q_var (i := 4) rfl (.inl rfl)) (q_acons (q_var (i := 6) rfl (.inl rfl)) q_anil)))) (by rfl))
    (s_cons (s_if (PW.pt (q_or (q_not (q_tv (q_call (ok__law_is_sum T F__law_is_sum) (hr.mono (by decide)) rfl T.g__law_is_sum F__law_is_sum.kp (bn__law_is_sum F__law_is_sum) (takes_of rfl rfl rfl rfl) (ln_cons ln_nil) (q_acons (q_var (i := 8) rfl (.inl rfl)) q_anil)))) (q_or1 (q_not (q_tv (q_call (ok__law_alike T F__law_alike) (hr.mono (by decide)) rfl T.g__law_alike F__law_alike.kp (bn__law_alike F__law_alike) (takes_of rfl rfl rfl rfl) (ln_cons (ln_cons ln_nil)) (q_acons (q_var (i := 8) rfl (.inl rfl)) (q_acons (q_call (ok__law_image T F__law_image) (hr.mono (by decide)) rfl T.g__law_image F__law_image.kp (bn__law_image F__law_image) (takes_of rfl rfl rfl rfl) (ln_cons (ln_cons ln_nil)) (q_acons (q_var (i := 4) rfl (.inl rfl)) (q_acons (q_var (i := 7) rfl (.inl rfl)) q_anil))) q_anil)))))))) (s_one (s_ret q_bl)) s_nil)
    (s_cons (s_for (own := [9]) (passes_of rfl) rfl (i_val (q_call (ok__law_rows T F__law_rows) (hr.mono (by decide)) rfl T.g__law_rows F__law_rows.kp (bn__law_rows F__law_rows) (takes_of rfl rfl rfl rfl) (ln_cons ln_nil) (q_acons (q_var (i := 3) rfl (.inr (.inl rfl))) q_anil))) (g_name (i := 9) (by decide) NO rfl (.inl rfl)) (s_cons (s_set NO (i := 10) rfl (.inl rfl) (q_call (ok_changed T F_changed) (hr.mono (by decide)) rfl T.g_changed F_changed.kp (bn_changed F_changed) (takes_of rfl rfl rfl rfl) (ln_cons (ln_cons ln_nil)) (q_acons (q_var (i := 9) rfl (.inl rfl)) (q_acons (q_var (i := 6) rfl (.inl rfl)) q_anil))))
    (s_cons (s_if (q_not (q_tv (q_call (ok__law_alike T F__law_alike) (hr.mono (by decide)) rfl T.g__law_alike F__law_alike.kp (bn__law_alike F__law_alike) (takes_of rfl rfl rfl rfl) (ln_cons (ln_cons ln_nil)) (q_acons (q_var (i := 10) rfl (.inl rfl)) (q_acons (q_call (ok__law_changed T F__law_changed) (hr.mono (by decide)) rfl T.g__law_changed F__law_changed.kp (bn__law_changed F__law_changed) (takes_of rfl rfl rfl rfl) (ln_cons (ln_cons ln_nil)) (q_acons (q_var (i := 9) rfl (.inl rfl)) (q_acons (q_var (i := 7) rfl (.inl rfl)) q_anil))) q_anil))))) (s_one (s_ret q_bl)) s_nil)
    (s_one (s_if (t_ne hr.units (q_op op_sub f_sub (q_call (ok__law_worth T F__law_worth) (hr.mono (by decide)) rfl T.g__law_worth F__law_worth.kp (bn__law_worth F__law_worth) (takes_of rfl rfl rfl rfl) (ln_cons (ln_cons ln_nil)) (q_acons (q_var (i := 8) rfl (.inl rfl)) (q_acons (q_var (i := 9) rfl (.inl rfl)) q_anil))) (q_ix (q_var (i := 8) rfl (.inl rfl)) q_int)) (q_op op_sub f_sub (q_call (ok__law_worth T F__law_worth) (hr.mono (by decide)) rfl T.g__law_worth F__law_worth.kp (bn__law_worth F__law_worth) (takes_of rfl rfl rfl rfl) (ln_cons (ln_cons ln_nil)) (q_acons (q_var (i := 4) rfl (.inl rfl)) (q_acons (q_var (i := 10) rfl (.inl rfl)) q_anil))) (q_ix (q_var (i := 4) rfl (.inl rfl)) q_int))) (s_one (s_ret q_bl)) s_nil)))))
    (s_cons (s_set NO (i := 11) rfl (.inl rfl) (q_call (ok__law_bent T F__law_bent) (hr.mono (by decide)) rfl T.g__law_bent F__law_bent.kp (bn__law_bent F__law_bent) (takes_of rfl rfl rfl rfl) (ln_cons (ln_cons ln_nil)) (q_acons (q_var (i := 1) rfl (.inr (.inl rfl))) (q_acons (q_var (i := 6) rfl (.inl rfl)) q_anil))))
    (s_cons (s_set NO (i := 12) rfl (.inl rfl) (q_call (ok__law_is_witness T F__law_is_witness) (hr.mono (by decide)) rfl T.g__law_is_witness F__law_is_witness.kp (bn__law_is_witness F__law_is_witness) (takes_of rfl rfl rfl rfl) (ln_cons ln_nil) (q_acons (q_var (i := 11) rfl (.inl rfl)) q_anil)))
    (s_cons (s_if (PW.pt (q_or (t_notB (q_call (ok_is_witness T F_is_witness) (hr.mono (by decide)) rfl T.g_is_witness F_is_witness.kp (bn_is_witness F_is_witness) (takes_of rfl rfl rfl rfl) (ln_cons ln_nil) (q_acons (q_var (i := 6) rfl (.inl rfl)) q_anil)) q_bl) (q_or1 (q_not (q_tv (q_call (ok__law_is T F__law_is) (hr.mono (by decide)) rfl T.g__law_is F__law_is.kp (bn__law_is F__law_is) (takes_of rfl rfl rfl rfl) (ln_cons (ln_cons ln_nil)) (q_acons (q_callK0 (ok_is_witness T F_is_witness) (hr.mono (by decide)) rfl T.g_is_witness F_is_witness.kp (kb_is_witness_0 F_is_witness) (takes_of rfl rfl rfl rfl) (ln_cons ln_nil) rfl rfl (k_cons (q_var (i := 11) rfl (.inl rfl)) k_nil)) (q_acons (q_var (i := 12) rfl (.inl rfl)) q_anil)))))))) (s_one (s_ret q_bl)) s_nil)
    (s_cons (s_if (q_not (q_tv (q_var (i := 12) rfl (.inl rfl)))) (s_cons (s_if (PW.pt (q_or (t_ne hr.units (q_call (ok__law_refused T F__law_refused) (hr.mono (by decide)) rfl T.g__law_refused F__law_refused.kp (bn__law_refused F__law_refused) (takes_of rfl rfl rfl rfl) (ln_cons (ln_cons (ln_cons ln_nil))) (q_acons q_int (q_acons (q_var (i := 4) rfl (.inl rfl)) (q_acons (q_var (i := 11) rfl (.inl rfl)) q_anil)))) q_str) (q_or1 (t_ne hr.units (q_call (ok__law_refused T F__law_refused) (hr.mono (by decide)) rfl T.g__law_refused F__law_refused.kp (bn__law_refused F__law_refused) (takes_of rfl rfl rfl rfl) (ln_cons (ln_cons (ln_cons ln_nil))) (q_acons q_int (q_acons q_non (q_acons (q_var (i := 11) rfl (.inl rfl)) q_anil)))) q_str)))) (s_one (s_ret q_bl)) s_nil)
    (s_one (s_if (PW.pt (q_or (t_ne hr.units (q_call (ok__law_refused T F__law_refused) (hr.mono (by decide)) rfl T.g__law_refused F__law_refused.kp (bn__law_refused F__law_refused) (takes_of rfl rfl rfl rfl) (ln_cons (ln_cons (ln_cons ln_nil))) (q_acons q_int (q_acons (q_mulT (q_tup (q_acons q_int q_anil) (ln_cons ln_nil)) (q_var (i := 3) rfl (.inr (.inl rfl)))) (q_acons (q_var (i := 11) rfl (.inl rfl)) q_anil)))) q_str) (q_or1 (t_ne hr.units (q_call (ok__law_refused T F__law_refused) (hr.mono (by decide)) rfl T.g__law_refused F__law_refused.kp (bn__law_refused F__law_refused) (takes_of rfl rfl rfl rfl) (ln_cons (ln_cons (ln_cons ln_nil))) (q_acons q_int (q_acons (q_fz (q_rep (q_lst (q_acons q_int q_anil) (ln_cons ln_nil)) (q_var (i := 3) rfl (.inr (.inl rfl))))) (q_acons (q_var (i := 11) rfl (.inl rfl)) q_anil)))) q_str)))) (s_one (s_ret q_bl)) s_nil))) s_nil)
    (s_one (s_if (PW.pt (q_or (t_ne hr.units (q_call (ok__law_refused T F__law_refused) (hr.mono (by decide)) rfl T.g__law_refused F__law_refused.kp (bn__law_refused F__law_refused) (takes_of rfl rfl rfl rfl) (ln_cons (ln_cons (ln_cons ln_nil))) (q_acons q_int (q_acons (q_mulT (q_tup (q_acons q_int q_anil) (ln_cons ln_nil)) (q_var (i := 3) rfl (.inr (.inl rfl)))) (q_acons (q_tup (q_acons (q_tup (q_acons (q_var (i := 3) rfl (.inr (.inl rfl))) (q_acons q_int q_anil)) (ln_cons (ln_cons ln_nil))) q_anil) (ln_cons ln_nil)) q_anil)))) q_str) (q_or1 (t_ne hr.units (q_call (ok__law_refused T F__law_refused) (hr.mono (by decide)) rfl T.g__law_refused F__law_refused.kp (bn__law_refused F__law_refused) (takes_of rfl rfl rfl rfl) (ln_cons (ln_cons (ln_cons ln_nil))) (q_acons q_int (q_acons (q_mulT (q_tup (q_acons q_int q_anil) (ln_cons ln_nil)) (q_var (i := 3) rfl (.inr (.inl rfl)))) (q_acons (q_tup (q_acons (q_tup (q_acons q_int (q_acons (q_add (q_mulT q_int (q_var (i := 3) rfl (.inr (.inl rfl)))) q_int) q_anil)) (ln_cons (ln_cons ln_nil))) q_anil) (ln_cons ln_nil)) q_anil)))) q_str)))) (s_one (s_ret q_bl)) s_nil))))))))))))))
    (s_one (s_ret q_bl))))
end
end L2.Q.P
namespace L2.Q.P
open PySem PySem.Spec PyProof.Rows
def fns : List He.DefD := [topD "is_int" s_is_int, topD "within" s_within, topD "is_index" s_is_index, topD "is_row" s_is_row, topD "is_ascending" s_is_ascending, topD "are_bits" s_are_bits, topD "is_term" s_is_term, topD "are_terms" s_are_terms, topD "is_sum" s_is_sum, topD "put_together" s_put_together, topD "moved" s_moved, topD "image" s_image, topD "need_sum" s_need_sum, topD "is_witness" s_is_witness, topD "need_witness" s_need_witness, topD "image_of" s_image_of, topD "value_by" s_value_by, topD "changed" s_changed, topD "_law_deck" s__law_deck, topD "_law_pick" s__law_pick, topD "_law_alike" s__law_alike, topD "_law_is" s__law_is, topD "_law_whole" s__law_whole, topD "_law_is_sum" s__law_is_sum, topD "_law_true" s__law_true, topD "_law_worth" s__law_worth, topD "_law_rows" s__law_rows, topD "_law_sum" s__law_sum, topD "_law_together" s__law_together, topD "_law_moved" s__law_moved, topD "_law_image" s__law_image, topD "_law_changed" s__law_changed, topD "_law_is_witness" s__law_is_witness, topD "_law_bent" s__law_bent, topD "_law_refused" s__law_refused, topD "law" s_law]
def fcs : List FbT := [fcFree "isinstance", fcFree "bool", fcFree "int", fcFree "len", fcFree "tuple", fcFree "zip", fcFree "all", fcFree "sorted", fcFree "dict", fcFree "list", fcFree "abs", fcFree "range", fcFree "str", fcFree "sum", fcFree "min", fcInt "ALWAYS" (-1), fcInt "NEVER" (-2), fcGlo "is_int", fcGlo "within", fcGlo "is_index", fcGlo "is_row", fcGlo "is_ascending", fcGlo "are_bits", fcGlo "is_term", fcGlo "are_terms", fcGlo "is_sum", fcGlo "put_together", fcGlo "moved", fcGlo "image", fcGlo "need_sum", fcGlo "is_witness", fcGlo "need_witness", fcGlo "image_of", fcGlo "value_by", fcGlo "changed", fcGlo "_law_deck", fcGlo "_law_pick", fcGlo "_law_alike", fcGlo "_law_is", fcGlo "_law_whole", fcGlo "_law_is_sum", fcGlo "_law_true", fcGlo "_law_worth", fcGlo "_law_rows", fcGlo "_law_sum", fcGlo "_law_together", fcGlo "_law_moved", fcGlo "_law_image", fcGlo "_law_changed", fcGlo "_law_is_witness", fcGlo "_law_bent", fcGlo "_law_refused", fcGlo "law", fcGlo "BadSum", fcExc "BadSum", fcGlo "BadWitness", fcExc "BadWitness", fcGlo "BadValues", fcExc "BadValues", fcGlo "SumError", fcExc "SumError", fcSub "BadSum" "BadSum" true, fcSub "BadValues" "BadSum" false, fcSub "BadWitness" "BadSum" false, fcSub "BadSum" "BadValues" false, fcSub "BadValues" "BadValues" true, fcSub "BadWitness" "BadValues" false, fcSub "BadSum" "BadWitness" false, fcSub "BadValues" "BadWitness" false, fcSub "BadWitness" "BadWitness" true, fcSub "BadSum" "SumError" true, fcSub "BadValues" "SumError" true, fcSub "BadWitness" "SumError" true]
theorem fx_ok {K : PySem.W.Frag} {h : Heap} {mg : Str → Option Value} (X : K.In h) (G : h.Ns mainGlobals mg) (c : SaysB fcs fns K) : Fx K mg := by
  constructor
  · exact He.free_ok X G (c.fact 0 rfl)
  · exact He.free_ok X G (c.fact 1 rfl)
  · exact He.free_ok X G (c.fact 2 rfl)
  · exact He.free_ok X G (c.fact 3 rfl)
  · exact He.free_ok X G (c.fact 4 rfl)
  · exact He.free_ok X G (c.fact 5 rfl)
  · exact He.free_ok X G (c.fact 6 rfl)
  · exact He.free_ok X G (c.fact 7 rfl)
  · exact He.free_ok X G (c.fact 8 rfl)
  · exact He.free_ok X G (c.fact 9 rfl)
  · exact He.free_ok X G (c.fact 10 rfl)
  · exact He.free_ok X G (c.fact 11 rfl)
  · exact He.free_ok X G (c.fact 12 rfl)
  · exact He.free_ok X G (c.fact 13 rfl)
  · exact He.free_ok X G (c.fact 14 rfl)
  · exact He.int_ok X G (c.fact 15 rfl)
  · exact He.int_ok X G (c.fact 16 rfl)
  · exact He.glo_ok X G (c.fact 17 rfl)
  · exact He.glo_ok X G (c.fact 18 rfl)
  · exact He.glo_ok X G (c.fact 19 rfl)
  · exact He.glo_ok X G (c.fact 20 rfl)
  · exact He.glo_ok X G (c.fact 21 rfl)
  · exact He.glo_ok X G (c.fact 22 rfl)
  · exact He.glo_ok X G (c.fact 23 rfl)
  · exact He.glo_ok X G (c.fact 24 rfl)
  · exact He.glo_ok X G (c.fact 25 rfl)
  · exact He.glo_ok X G (c.fact 26 rfl)
  · exact He.glo_ok X G (c.fact 27 rfl)
  · exact He.glo_ok X G (c.fact 28 rfl)
  · exact He.glo_ok X G (c.fact 29 rfl)
  · exact He.glo_ok X G (c.fact 30 rfl)
  · exact He.glo_ok X G (c.fact 31 rfl)
  · exact He.glo_ok X G (c.fact 32 rfl)
  · exact He.glo_ok X G (c.fact 33 rfl)
  · exact He.glo_ok X G (c.fact 34 rfl)
  · exact He.glo_ok X G (c.fact 35 rfl)
  · exact He.glo_ok X G (c.fact 36 rfl)
  · exact He.glo_ok X G (c.fact 37 rfl)
  · exact He.glo_ok X G (c.fact 38 rfl)
  · exact He.glo_ok X G (c.fact 39 rfl)
  · exact He.glo_ok X G (c.fact 40 rfl)
  · exact He.glo_ok X G (c.fact 41 rfl)
  · exact He.glo_ok X G (c.fact 42 rfl)
  · exact He.glo_ok X G (c.fact 43 rfl)
  · exact He.glo_ok X G (c.fact 44 rfl)
  · exact He.glo_ok X G (c.fact 45 rfl)
  · exact He.glo_ok X G (c.fact 46 rfl)
  · exact He.glo_ok X G (c.fact 47 rfl)
  · exact He.glo_ok X G (c.fact 48 rfl)
  · exact He.glo_ok X G (c.fact 49 rfl)
  · exact He.glo_ok X G (c.fact 50 rfl)
  · exact He.glo_ok X G (c.fact 51 rfl)
  · exact He.glo_ok X G (c.fact 52 rfl)
  · exact He.glo_ok X G (c.fact 53 rfl)
  · exact He.exc_ok (c.fact 54 rfl)
  · exact He.glo_ok X G (c.fact 55 rfl)
  · exact He.exc_ok (c.fact 56 rfl)
  · exact He.glo_ok X G (c.fact 57 rfl)
  · exact He.exc_ok (c.fact 58 rfl)
  · exact He.glo_ok X G (c.fact 59 rfl)
  · exact He.exc_ok (c.fact 60 rfl)
  · exact of_decide_eq_true (c.fact 61 rfl)
  · exact of_decide_eq_true (c.fact 62 rfl)
  · exact of_decide_eq_true (c.fact 63 rfl)
  · exact of_decide_eq_true (c.fact 64 rfl)
  · exact of_decide_eq_true (c.fact 65 rfl)
  · exact of_decide_eq_true (c.fact 66 rfl)
  · exact of_decide_eq_true (c.fact 67 rfl)
  · exact of_decide_eq_true (c.fact 68 rfl)
  · exact of_decide_eq_true (c.fact 69 rfl)
  · exact of_decide_eq_true (c.fact 70 rfl)
  · exact of_decide_eq_true (c.fact 71 rfl)
  · exact of_decide_eq_true (c.fact 72 rfl)
  · exact c.def_ 0 (d := topD "is_int" s_is_int) rfl
  · exact c.def_ 1 (d := topD "within" s_within) rfl
  · exact c.def_ 2 (d := topD "is_index" s_is_index) rfl
  · exact c.def_ 3 (d := topD "is_row" s_is_row) rfl
  · exact c.def_ 4 (d := topD "is_ascending" s_is_ascending) rfl
  · exact c.def_ 5 (d := topD "are_bits" s_are_bits) rfl
  · exact c.def_ 6 (d := topD "is_term" s_is_term) rfl
  · exact c.def_ 7 (d := topD "are_terms" s_are_terms) rfl
  · exact c.def_ 8 (d := topD "is_sum" s_is_sum) rfl
  · exact c.def_ 9 (d := topD "put_together" s_put_together) rfl
  · exact c.def_ 10 (d := topD "moved" s_moved) rfl
  · exact c.def_ 11 (d := topD "image" s_image) rfl
  · exact c.def_ 12 (d := topD "need_sum" s_need_sum) rfl
  · exact c.def_ 13 (d := topD "is_witness" s_is_witness) rfl
  · exact c.def_ 14 (d := topD "need_witness" s_need_witness) rfl
  · exact c.def_ 15 (d := topD "image_of" s_image_of) rfl
  · exact c.def_ 16 (d := topD "value_by" s_value_by) rfl
  · exact c.def_ 17 (d := topD "changed" s_changed) rfl
  · exact c.def_ 18 (d := topD "_law_deck" s__law_deck) rfl
  · exact c.def_ 19 (d := topD "_law_pick" s__law_pick) rfl
  · exact c.def_ 20 (d := topD "_law_alike" s__law_alike) rfl
  · exact c.def_ 21 (d := topD "_law_is" s__law_is) rfl
  · exact c.def_ 22 (d := topD "_law_whole" s__law_whole) rfl
  · exact c.def_ 23 (d := topD "_law_is_sum" s__law_is_sum) rfl
  · exact c.def_ 24 (d := topD "_law_true" s__law_true) rfl
  · exact c.def_ 25 (d := topD "_law_worth" s__law_worth) rfl
  · exact c.def_ 26 (d := topD "_law_rows" s__law_rows) rfl
  · exact c.def_ 27 (d := topD "_law_sum" s__law_sum) rfl
  · exact c.def_ 28 (d := topD "_law_together" s__law_together) rfl
  · exact c.def_ 29 (d := topD "_law_moved" s__law_moved) rfl
  · exact c.def_ 30 (d := topD "_law_image" s__law_image) rfl
  · exact c.def_ 31 (d := topD "_law_changed" s__law_changed) rfl
  · exact c.def_ 32 (d := topD "_law_is_witness" s__law_is_witness) rfl
  · exact c.def_ 33 (d := topD "_law_bent" s__law_bent) rfl
  · exact c.def_ 34 (d := topD "_law_refused" s__law_refused) rfl
  · exact c.def_ 35 (d := topD "law" s_law) rfl
def loose0 : List Str := ["is_int", "within", "is_index", "is_row", "is_ascending", "are_bits", "is_term", "are_terms", "is_sum", "put_together", "moved", "image", "need_sum", "is_witness", "need_witness", "image_of", "value_by", "changed", "_law_deck", "_law_pick"]
def loose1 : List Str := ["_law_alike", "_law_is", "_law_whole", "_law_is_sum", "_law_true", "_law_worth", "_law_rows", "_law_sum", "_law_together", "_law_moved", "_law_image", "_law_changed", "_law_is_witness", "_law_bent", "_law_refused", "ALWAYS", "NEVER", "SumError", "BadSum", "BadWitness"]
def loose2 : List Str := ["BadValues"]
abbrev loose : List Str := loose0 ++ loose1 ++ loose2
abbrev R : PySem.W.OpenRow := PySem.W.OpenLaw.row PySem.Challenge.rw_sumsworn_k05_whole_images_and_changes
abbrev hk : PySem.W.Hook := hookB 5 fcs fns
def ob (s : PySem.W.SharedT) : He.AlD := obsBG 5 fcs fns (HandSHeadRun.getT s)
theorem ob_eq (s : PySem.W.SharedT) : ob s = hk.obs s.abs := obsBG_eq (HandSHeadRun.getT_eq s)
theorem run (w : World) : HandSHeadRun.RunEq R (PySem.W.view R.prog [46]) hk ob 20000 loose w := by
  intro os
  kernel_rfl
theorem holds_of (hm : ∀ ns : List Int, ns.length ≤ 63 → (∀ z ∈ ns, Builtin.Int.intBits z ≤ 1048576) → ∃ S, m_law [.d (.list (ns.map .int))] [] = .ok (.w (.d (.bool true))) S) : PySem.Challenge.rw_sumsworn_k05_whole_images_and_changes.Holds := by
  w_on; o_law
  refine HandSHeadRun.head_any (r := PySem.W.OpenLaw.row PySem.Challenge.rw_sumsworn_k05_whole_images_and_changes) (q := PySem.W.view (PySem.W.OpenLaw.row PySem.Challenge.rw_sumsworn_k05_whole_images_and_changes).prog [46]) (H := hk) (ob := ob) (M := 20000) (loose := loose) (d := HandSHeadRun.topDef (PySem.W.OpenLaw.row PySem.Challenge.rw_sumsworn_k05_whole_images_and_changes).prog 46) (kwd := []) ob_eq
    (by kernel_rfl) (fun s => by kernel_rfl) run (by kernel_rfl) (by kernel_rfl) (by kernel_rfl) (by rfl) (by first | assumption | decide +kernel) (by decide +kernel) ⟨rfl, rfl, rfl, rfl, rfl, by decide +kernel⟩ ?hw ?hc
  case hw => w_witness2
  case hc =>
    refine walk_ofEB (l := PySem.Challenge.rw_sumsworn_k05_whole_images_and_changes) (n := 63) (k := 9) (x := "script") rfl (by decide) (by kernel_rfl) ⟨rfl, by decide, by decide⟩ ?F
    intro w mg fa h Y G hmg0
    obtain ⟨K, KX, c⟩ := Y
    have hmg : mg ("law" : Str) = some (.ref fa) := by
      have e : (HandSHeadRun.topDef (PySem.W.OpenLaw.row PySem.Challenge.rw_sumsworn_k05_whole_images_and_changes).prog 46).name = ("law" : Str) := by kernel_rfl
      rw [← e]
      exact hmg0
    have T := fx_ok KX G c
    obtain ⟨fd, F⟩ := T.d_law
    cases hmg.symm.trans T.g_law
    have b := FunD.bindsA (ps := ["script"]) F fun _ _ _ _ _ _ us hl => match us, hl with | [_], _ => rfl
    exact ⟨K, fd, spLawQ K mg m_law, KX, fun s u => b s [u] rfl, fun H a ns hl hb _ hS => law_sp hm H a ns hl hb hS, fun base _ _ => ok_law T F⟩
end L2.Q.P
namespace L2.Q.P
open PySem PySem.Spec PyProof.Rows
/-! sizes, places -/
theorem log2_bits (z : Int) : z.natAbs.log2 ≤ Builtin.Int.intBits z := by
  unfold Builtin.Int.intBits
  split
  · rename_i h; have h : z.natAbs = 0 := by first | exact h | simpa using h
    rw [h]; decide
  · omega
theorem log2_small {i : Int} {k : Nat} (h : i.natAbs < 2 ^ k) (hk : 0 < k) : i.natAbs.log2 < k := PySem.Flt.log2_lt_of hk h
theorem mulC_of {i j : Int} (a b : Nat) (ha : i.natAbs < 2 ^ a) (hb : j.natAbs < 2 ^ b) (h0 : 0 < a) (h1 : 0 < b) (h : a + b ≤ 100000000) : mulC i j = true := by
  have x := log2_small ha h0
  have y := log2_small hb h1
  unfold mulC
  exact decide_eq_true (by omega)
theorem mulC_log {i j : Int} (h : i.natAbs.log2 + j.natAbs.log2 < 100000000) : mulC i j = true := decide_eq_true h
theorem divC_of {i j : Int} (h : 0 < j) (h2 : j < 2 ^ 8000) : divC i j = true := by
  have hb : j.natAbs < 2 ^ 8000 := by omega
  have y := log2_small hb (by omega)
  unfold divC
  rw [decide_eq_true h, decide_eq_true (show j.natAbs.log2 < 9000 by omega)]
  rfl
theorem modC_of {i j : Int} (h : 0 < j) : modC i j = true := decide_eq_true h
theorem pow6 : powC 10 6 = true := by decide +kernel
theorem pow18 : powC 10 18 = true := by decide +kernel
theorem pow60 : powC 10 60 = true := by decide +kernel
@[simp] theorem ix0 (n : Nat) : ixN (n + 1) 0 = some 0 := by unfold ixN; simp
@[simp] theorem ix1 (n : Nat) : ixN (n + 2) 1 = some 1 := by unfold ixN; rw [if_pos (by omega), if_pos (by omega)]; rfl
@[simp] theorem ix2 (n : Nat) : ixN (n + 3) 2 = some 2 := by unfold ixN; rw [if_pos (by omega), if_pos (by omega)]; rfl
end L2.Q.P
namespace L2.Q.P
open PySem PySem.Spec PyProof.Rows
/-! pairs -/
abbrev Prs := List (Int × Int)
def pd (p : Int × Int) : PyData := .tuple [.int p.1, .int p.2]
def pD (ps : Prs) : PyData := .tuple (ps.map pd)
/-- what a sum counts, by coefficients of literals -/
def lin (c : Int → Int) : Prs → Int
  | [] => 0
  | p :: r => c p.1 * p.2 + lin c r
theorem lin_app (c : Int → Int) : ∀ ps qs : Prs, lin c (ps ++ qs) = lin c ps + lin c qs
  | [], qs => by simp [lin]
  | p :: r, qs => by simp [lin, lin_app c r qs]; omega
theorem lin_add (c d : Int → Int) : ∀ ps : Prs, lin (fun l => c l + d l) ps = lin c ps + lin d ps
  | [] => rfl
  | p :: r => by simp only [lin, lin_add c d r, Int.add_mul]; omega
theorem lin_congr {c d : Int → Int} : ∀ {ps : Prs}, (∀ p ∈ ps, c p.1 = d p.1) → lin c ps = lin d ps
  | [], _ => rfl
  | p :: r, h => by simp only [lin]; rw [h p (List.mem_cons_self ..), lin_congr fun q hq => h q (List.mem_cons_of_mem _ hq)]
/-! the net: variable by variable -/
def kvN (N : Prs) : List (Key × W) := N.map fun p => (Sum.inl p.1, W.d (.int p.2))
def look (N : Prs) (k : Int) : Int := ((N.find? fun p => decide (p.1 = k)).map (·.2)).getD 0
def put (N : Prs) (k x : Int) : Prs := if (N.any fun p => decide (p.1 = k)) = true then N.map (fun p => if p.1 = k then (p.1, x) else p) else N ++ [(k, x)]
theorem inl_inj (a b : Int) : ((Sum.inl a : Key) = Sum.inl b) ↔ a = b := ⟨fun h => by cases h; rfl, fun h => by rw [h]⟩
theorem find_kv (k : Int) : ∀ N : Prs, (kvN N).find? (fun kv => decide (kv.1 = Sum.inl k)) = (N.find? fun p => decide (p.1 = k)).map fun p => (Sum.inl p.1, W.d (.int p.2))
  | [] => rfl
  | p :: r => by
    by_cases h : p.1 = k
    · simp [kvN, List.find?_cons, h]
    · have : ¬ ((Sum.inl p.1 : Key) = Sum.inl k) := fun e => h ((inl_inj _ _).mp e)
      have ih := find_kv k r
      unfold kvN at ih
      rw [List.find?_map] at ih
      simp [kvN, List.find?_cons, h, this]
      exact ih
theorem valW_kv (N : Prs) (k : Int) : (valW (kvN N) (.inl k)).getD (.d (.int 0)) = .d (.int (look N k)) := by
  unfold valW look
  rw [find_kv]
  cases N.find? fun p => decide (p.1 = k) with
  | none => rfl
  | some p => rfl
theorem any_kv (k : Int) (N : Prs) : ((kvN N).any fun kv => decide (kv.1 = Sum.inl k)) = N.any fun p => decide (p.1 = k) := by
  unfold kvN
  rw [List.any_map]
  congr 1
  funext p
  exact decide_eq_decide.mpr (inl_inj _ _)
theorem putW_kv (N : Prs) (k x : Int) : putW (kvN N) (.inl k) (.d (.int x)) = kvN (put N k x) := by
  unfold putW put
  rw [any_kv]
  split
  · unfold kvN
    rw [List.map_map, List.map_map]
    congr 1
    funext p
    by_cases h : p.1 = k
    · simp [h]
    · have : ¬ ((Sum.inl p.1 : Key) = Sum.inl k) := fun e => h ((inl_inj _ _).mp e)
      simp [h, this]
  · unfold kvN; rw [List.map_append]; rfl
def keys (N : Prs) : List Int := N.map (·.1)
theorem intKeys_kv : ∀ N : Prs, intKeys (kvN N) = some (keys N)
  | [] => rfl
  | p :: r => by show (intKeys (kvN r)).map (p.1 :: ·) = _; rw [intKeys_kv r]; rfl
theorem keys_put (N : Prs) (k x : Int) : keys (put N k x) = if (N.any fun p => decide (p.1 = k)) = true then keys N else keys N ++ [k] := by
  unfold put
  split
  · unfold keys
    rw [List.map_map]
    congr 1
    funext p
    by_cases h : p.1 = k <;> simp [h]
  · unfold keys; rw [List.map_append]; rfl
theorem any_mem (N : Prs) (k : Int) : (N.any fun p => decide (p.1 = k)) = true ↔ k ∈ keys N := by
  unfold keys
  rw [List.any_eq_true, List.mem_map]
  constructor
  · rintro ⟨p, hp, e⟩; exact ⟨p, hp, of_decide_eq_true e⟩
  · rintro ⟨p, hp, e⟩; exact ⟨p, hp, decide_eq_true e⟩
theorem nodup_put {N : Prs} (h : (keys N).Nodup) (k x : Int) : (keys (put N k x)).Nodup := by
  rw [keys_put]
  split
  · exact h
  · rename_i q
    rw [any_mem] at q
    exact List.nodup_append.mpr ⟨h, by simp, fun a ha b hb => by simp at hb; subst hb; exact fun e => q (e ▸ ha)⟩
theorem len_put (N : Prs) (k x : Int) : (put N k x).length ≤ N.length + 1 := by
  unfold put
  split <;> simp
theorem look_cons (p : Int × Int) (r : Prs) (k : Int) : look (p :: r) k = if p.1 = k then p.2 else look r k := by
  unfold look
  rw [List.find?_cons]
  by_cases h : p.1 = k <;> simp [h]
/-- sums over the net -/
theorem lin_map_put (h : Int → Int) (k x : Int) : ∀ N : Prs, (keys N).Nodup → k ∈ keys N → lin h (N.map fun p => if p.1 = k then (p.1, x) else p) = lin h N + h k * (x - look N k)
  | [], _, hm => by simp [keys] at hm
  | p :: r, hn, hm => by
    have hn' : p.1 ∉ keys r ∧ (keys r).Nodup := by simpa [keys] using hn
    rw [List.map_cons, look_cons]
    by_cases e : p.1 = k
    · have same : r.map (fun p => if p.1 = k then (p.1, x) else p) = r := by
        conv => rhs; rw [← List.map_id r]
        apply List.map_congr_left
        intro q hq
        have : ¬ q.1 = k := fun z => hn'.1 (by rw [e, ← z]; exact List.mem_map_of_mem hq)
        simp [this]
      rw [same, if_pos e, if_pos e]
      simp only [lin]
      rw [e, Int.mul_sub]; omega
    · rw [if_neg e, if_neg e]
      have hk : k ∈ keys r := by
        have : k ∈ p.1 :: keys r := hm
        rcases List.mem_cons.mp this with z | z
        · exact absurd z.symm e
        · exact z
      simp only [lin]
      rw [lin_map_put h k x r hn'.2 hk]; omega
theorem look_none {N : Prs} {k : Int} (h : k ∉ keys N) : look N k = 0 := by
  induction N with
  | nil => rfl
  | cons p r ih =>
    have h' : ¬ k = p.1 ∧ k ∉ keys r := by simpa [keys] using h
    rw [look_cons, if_neg (fun e => h'.1 e.symm)]
    exact ih h'.2
theorem lin_put (h : Int → Int) {N : Prs} (hn : (keys N).Nodup) (k x : Int) : lin h (put N k x) = lin h N + h k * (x - look N k) := by
  unfold put
  split
  · rename_i q; exact lin_map_put h k x N hn ((any_mem N k).mp q)
  · rename_i q
    rw [any_mem] at q
    rw [lin_app, look_none q]
    simp [lin]
theorem look_lin {N : Prs} (hn : (keys N).Nodup) (k : Int) : lin (fun j => if j = k then 1 else 0) N = look N k := by
  induction N with
  | nil => rfl
  | cons p r ih =>
    have hn' : p.1 ∉ keys r ∧ (keys r).Nodup := by simpa [keys] using hn
    rw [look_cons]
    simp only [lin]
    rw [ih hn'.2]
    by_cases e : p.1 = k
    · rw [if_pos e, if_pos e, look_none (by rw [← e]; exact hn'.1)]; omega
    · rw [if_neg e, if_neg e]; omega
def okT : Int → Prs → Prop
  | _, [] => True
  | last, p :: r => 0 ≤ p.1 ∧ 1 ≤ p.2 ∧ last < p.1 / 2 ∧ okT (p.1 / 2) r
theorem sum_lin (p : Int → Bool) : ∀ T : Prs, ((T.filter fun t => p t.1).map (·.2)).sum = lin (fun l => if p l = true then 1 else 0) T
  | [] => rfl
  | t :: r => by
    have ih := sum_lin p r
    by_cases q : p t.1 = true
    · rw [List.filter_cons_of_pos (by simpa using q)]
      simp only [List.map_cons, List.sum_cons, lin, ih, q, if_true]; omega
    · rw [List.filter_cons_of_neg (by simpa using q)]
      simp only [lin, ih, q]; simp
def pOf (w : W) : Int × Int := match w with
  | .d (.tuple [.int l, .int x]) => (l, x)
  | _ => (0, 0)
theorem pOf_pd (p : Int × Int) : pOf (.d (pd p)) = p := rfl
theorem lc_pairs (g : FG) (t : FB) (fe : FE) (ρ : List Sl) (S : List Ob) (p : Int → Bool) (T : Prs)
    (h : ∀ q ∈ T, ∃ ρ1, g (.d (pd q)) ρ = some ρ1 ∧ t ρ1 S = .ok (p q.1) S ∧ (p q.1 = true → fe ρ1 S = .ok (.d (.int q.2)) S)) : lcL g t fe ρ ((T.map pd).map .d) S = .ok (((T.filter fun q => p q.1).map (·.2)).map fun i => .d (.int i)) S := by
  rw [lc_pure g t fe ρ S (fun w => p (pOf w).1) (fun w => .d (.int (pOf w).2)) ((T.map pd).map .d) fun w hw => ?_]
  · congr 1
    induction T with
    | nil => rfl
    | cons q r ih =>
      have ih := ih fun z hz => h z (List.mem_cons_of_mem _ hz)
      by_cases e : p q.1 = true
      · rw [List.map_cons, List.map_cons, List.filter_cons_of_pos (by simpa [pOf_pd] using e), List.filter_cons_of_pos (by simpa using e), List.map_cons, ih]; rfl
      · rw [List.map_cons, List.map_cons, List.filter_cons_of_neg (by simpa [pOf_pd] using e), List.filter_cons_of_neg (by simpa using e), ih]
  · obtain ⟨d, hd, rfl⟩ := List.mem_map.mp hw
    obtain ⟨q, hq, rfl⟩ := List.mem_map.mp hd
    exact h q hq
end L2.Q.P
namespace L2.Q.P
open PySem PySem.Spec PyProof.Rows
/-! put_together -/
def oddB (l : Int) : Bool := decide (l = -1) || (decide (0 ≤ l / 2) && decide (l % 2 = 1))
def netP (p : Int × Int) (s : Prs × Int) : Prs × Int := (if 0 ≤ p.1 / 2 then put s.1 (p.1 / 2) (look s.1 (p.1 / 2) + (1 - 2 * (p.1 % 2)) * p.2) else s.1, if oddB p.1 = true then s.2 - p.2 else s.2)
def netS : Prs → Prs × Int → Prs × Int
  | [], s => s
  | p :: r, s => netS r (netP p s)
structure Bd (p : Int × Int) : Prop where
  lo : -2 ≤ p.1
  hi : p.1 < 2 ^ 60
  w : p.2.natAbs < 2 ^ 300
abbrev rho0 (P D : W) (s : Prs × Int) (x y z : Sl) : List Sl := [.w P, .w D, .own (.dct (kvN s.1)), .w (.d (.int s.2)), x, y, z, .un, .un]
theorem kvN_len (N : Prs) : (kvN N).length = N.length := by simp [kvN]
theorem body0 (P D : W) (s : Prs × Int) (x y z : Sl) (p : Int × Int) (S : List Ob) (h : Bd p) (hl : s.1.length < 1000) :
    setG (gT 2 (gsC (gN 4) (gsC (gN 5) gsN)) (.d (pd p)) (rho0 P D s x y z)) S l_put_together_0 = .nx (rho0 P D (netP p s) (.w (.d (.int p.1))) (.w (.d (.int p.2))) (.w (.d (.int (p.1 / 2))))) S := by
  obtain ⟨l, w⟩ := p
  obtain ⟨N, r⟩ := s
  have k1 : divC l 2 = true := divC_of (by omega) (by omega)
  have e1 : (2 : Int).natAbs = 2 := rfl
  have m0 : 0 ≤ l % 2 := Int.emod_nonneg _ (by omega)
  have m1 : l % 2 < 2 := Int.emod_lt_of_pos _ (by omega)
  have k2 : mulC 2 (l % 2) = true := mulC_of 3 3 (by omega) (by omega) (by omega) (by omega) (by omega)
  have k3 : mulC (1 - 2 * (l % 2)) w = true := mulC_of 3 300 (by omega) h.w (by omega) (by omega) (by omega)
  have k6 : mulC 2 1 = true := by decide +kernel
  have k7 : mulC 2 0 = true := by decide +kernel
  have k4 : mulC (-1) w = true := mulC_of 3 300 (by decide) h.w (by omega) (by omega) (by omega)
  have k5 : mulC 1 w = true := mulC_of 3 300 (by decide) h.w (by omega) (by omega) (by omega)
  have hl2 : (kvN N).length < 16777216 := by rw [kvN_len]; have : N.length < 1000 := hl; omega
  have vw : (valW (kvN N) (.inl (l / 2))).getD (.d (.int 0)) = .d (.int (look N (l / 2))) := valW_kv N (l / 2)
  by_cases q1 : l = -1
  · subst q1
    simp [pd, l_put_together_0, rho0, netP, oddB, k1]
  · by_cases q2 : 0 ≤ l / 2
    · by_cases q3 : l % 2 = 1
      · simp [pd, l_put_together_0, rho0, netP, oddB, k1, q1, q2, q3, bitAnd_m1, k2, k3, hl2, vw, putW_kv, k4, k6]
      · have q3' : l % 2 = 0 := by omega
        simp [pd, l_put_together_0, rho0, netP, oddB, k1, q1, q2, q3, q3', bitAnd_m1, k2, k3, hl2, vw, putW_kv, k5, k7]
    · simp [pd, l_put_together_0, rho0, netP, oddB, k1, q1, q2]
theorem len_netP (p : Int × Int) (s : Prs × Int) : (netP p s).1.length ≤ s.1.length + 1 := by
  unfold netP
  dsimp only
  split
  · exact len_put _ _ _
  · omega
theorem loop0 (P D : W) (S : List Ob) : ∀ (ps : Prs) (s : Prs × Int) (x y z : Sl), (∀ p ∈ ps, Bd p) → s.1.length + ps.length < 1000 →
    ∃ x' y' z', forL (gT 2 (gsC (gN 4) (gsC (gN 5) gsN))) l_put_together_0 ((ps.map pd).map .d) (rho0 P D s x y z) S = .nx (rho0 P D (netS ps s) x' y' z') S
  | [], s, x, y, z, _, _ => ⟨x, y, z, rfl⟩
  | p :: r, s, x, y, z, h, hl => by
    have hl' : s.1.length + (r.length + 1) < 1000 := by simpa using hl
    have e := body0 P D s x y z p S (h p (List.mem_cons_self ..)) (by omega)
    have hn := len_netP p s
    obtain ⟨x', y', z', e2⟩ := loop0 P D S r (netP p s) (.w (.d (.int p.1))) (.w (.d (.int p.2))) (.w (.d (.int (p.1 / 2)))) (fun q hq => h q (List.mem_cons_of_mem _ hq)) (by omega)
    refine ⟨x', y', z', ?_⟩
    rw [List.map_cons, List.map_cons, for_cons]
    cases q : gT 2 (gsC (gN 4) (gsC (gN 5) gsN)) (.d (pd p)) (rho0 P D s x y z) with
    | none => rw [q] at e; cases e
    | some ρ1 =>
      rw [q] at e
      have e : l_put_together_0 ρ1 S = _ := e
      rw [e_setG, e, e_turnN]
      exact e2
/-- the terms of a variable, what it takes off -/
def trm (N : Prs) (k : Int) : Prs := if 0 < look N k then [(2 * k, look N k)] else if look N k < 0 then [(2 * k + 1, - look N k)] else []
def rst (N : Prs) (k : Int) : Int := if look N k < 0 then look N k else 0
abbrev rho1 (P D : W) (N : Prs) (x y z : Sl) (r : Int) (T : Prs) (u : Sl) : List Sl := [.w P, .w D, .own (.dct (kvN N)), .w (.d (.int r)), x, y, z, .own (.lst ((T.map pd).map .d)), u]
theorem valW_mem {N : Prs} {k : Int} (h : k ∈ keys N) : valW (kvN N) (.inl k) = some (.d (.int (look N k))) := by
  have e := valW_kv N k
  unfold valW at e ⊢
  rw [find_kv] at e ⊢
  cases q : N.find? (fun p => decide (p.1 = k)) with
  | none =>
    rw [List.find?_eq_none] at q
    obtain ⟨p, hp, ep⟩ := List.mem_map.mp h
    exact absurd (decide_eq_true ep) (by simpa using q p hp)
  | some p => rw [q] at e; simpa using e
theorem body1 (P D : W) (N : Prs) (x y z u : Sl) (r : Int) (T : Prs) (k : Int) (S : List Ob) (hk : k ∈ keys N) (hb : k.natAbs < 2 ^ 60) (hl : T.length < 1000) :
    setG (gN 6 (.d (.int k)) (rho1 P D N x y z r T u)) S l_put_together_1 = .nx (rho1 P D N x y (.w (.d (.int k))) (r - rst N k) (T ++ trm N k) (.w (.d (.int (look N k))))) S := by
  have k1 : mulC 2 k = true := mulC_of 3 60 (by decide) hb (by omega) (by omega) (by omega)
  have hT : ((T.map pd).map W.d).length < 16777216 := by simp; omega
  have v := valW_mem hk
  by_cases q : 0 < look N k
  · have q2 : ¬ look N k < 0 := by omega
    simp [rho1, l_put_together_1, v, q, q2, k1, trm, rst, pd, show T.length < 16777216 by omega]
  · by_cases q2 : look N k < 0
    · simp [rho1, l_put_together_1, v, q, q2, k1, trm, rst, pd, show T.length < 16777216 by omega]
    · simp [rho1, l_put_together_1, v, q, q2, trm, rst]
theorem loop1 (P D : W) (S : List Ob) (N : Prs) (x y : Sl) : ∀ (ks : List Int) (z u : Sl) (r : Int) (T : Prs), (∀ k ∈ ks, k ∈ keys N ∧ k.natAbs < 2 ^ 60) → T.length + ks.length < 900 →
    ∃ z' u', forL (gN 6) l_put_together_1 (ks.map fun i => .d (.int i)) (rho1 P D N x y z r T u) S = .nx (rho1 P D N x y z' (r - (ks.map (rst N)).sum) (T ++ ks.flatMap (trm N)) u') S
  | [], z, u, r, T, _, _ => ⟨z, u, by simp [for_nil]⟩
  | k :: ks, z, u, r, T, h, hl => by
    have hl' : T.length + (ks.length + 1) < 900 := by simpa using hl
    have hk := h k (List.mem_cons_self ..)
    have e := body1 P D N x y z u r T k S hk.1 hk.2 (by omega)
    have ht : (trm N k).length ≤ 1 := by unfold trm; split; simp; split <;> simp
    obtain ⟨z', u', e2⟩ := loop1 P D S N x y ks (.w (.d (.int k))) (.w (.d (.int (look N k)))) (r - rst N k) (T ++ trm N k) (fun q hq => h q (List.mem_cons_of_mem _ hq)) (by rw [List.length_append]; omega)
    refine ⟨z', u', ?_⟩
    rw [List.map_cons, for_cons]
    rw [e_gN, e_setG] at e ⊢
    have e3 : r - rst N k - (ks.map (rst N)).sum = r - ((k :: ks).map (rst N)).sum := by rw [List.map_cons, List.sum_cons]; omega
    rw [e, e_turnN, e2, e3, List.flatMap_cons, List.append_assoc]
/-- what put_together returns -/
def netO (ps : Prs) (g : Int) : Prs × Int := netS ps ([], g)
def skeys (N : Prs) : List Int := (keys N).mergeSort
def termsO (N : Prs) : Prs := (skeys N).flatMap (trm N)
def restO (s : Prs × Int) : Int := s.2 - ((skeys s.1).map (rst s.1)).sum
def PT (ps : Prs) (g : Int) : PyData := .tuple [pD (termsO (netO ps g).1), .int (restO (netO ps g))]
theorem netS_len : ∀ (ps : Prs) (s : Prs × Int), (netS ps s).1.length ≤ s.1.length + ps.length
  | [], s => by simp [netS]
  | p :: r, s => by
    have h1 := netS_len r (netP p s)
    have h2 := len_netP p s
    simp only [netS, List.length_cons]
    omega
theorem netP_keys {p : Int × Int} {s : Prs × Int} {k : Int} (h : k ∈ keys (netP p s).1) : k ∈ keys s.1 ∨ (0 ≤ p.1 / 2 ∧ k = p.1 / 2) := by
  unfold netP at h
  dsimp only at h
  split at h
  · rename_i q
    rw [keys_put] at h
    split at h
    · exact .inl h
    · rcases List.mem_append.mp h with h | h
      · exact .inl h
      · exact .inr ⟨q, by simpa using h⟩
  · exact .inl h
theorem netS_keys : ∀ {ps : Prs} {s : Prs × Int} {k : Int}, k ∈ keys (netS ps s).1 → k ∈ keys s.1 ∨ ∃ p ∈ ps, 0 ≤ p.1 / 2 ∧ k = p.1 / 2
  | [], s, k, h => .inl h
  | p :: r, s, k, h => by
    rcases netS_keys (ps := r) (s := netP p s) h with h | ⟨q, hq, h⟩
    · rcases netP_keys h with h | h
      · exact .inl h
      · exact .inr ⟨p, List.mem_cons_self .., h⟩
    · exact .inr ⟨q, List.mem_cons_of_mem _ hq, h⟩
theorem netP_nd {p : Int × Int} {s : Prs × Int} (h : (keys s.1).Nodup) : (keys (netP p s).1).Nodup := by
  unfold netP
  dsimp only
  split
  · exact nodup_put h _ _
  · exact h
theorem netS_nd : ∀ {ps : Prs} {s : Prs × Int}, (keys s.1).Nodup → (keys (netS ps s).1).Nodup
  | [], _, h => h
  | _ :: r, _, h => netS_nd (ps := r) (netP_nd h)
theorem mem_skeys {N : Prs} {k : Int} : k ∈ skeys N ↔ k ∈ keys N := (List.mergeSort_perm (keys N) _).mem_iff
theorem put_together_any {P : PyData} (ps : Prs) (g : Int) (S : List Ob) (hP : seqOf (.d P) S = .ok ((ps.map pd).map .d) S) (h : ∀ p ∈ ps, Bd p) (hl : ps.length < 64) : m_put_together [.d P, .d (.int g)] S = .ok (.w (.d (PT ps g))) S := by
  obtain ⟨x, y, z, e0⟩ := loop0 (.d P) (.d (.int g)) S ps ([], g) .un .un .un h (by simp; omega)
  have hn := netS_len ps ([], g)
  have hn' : (netO ps g).1.length ≤ ps.length := by unfold netO; simpa using hn
  have hk : ∀ k ∈ skeys (netO ps g).1, k ∈ keys (netO ps g).1 ∧ k.natAbs < 2 ^ 60 := fun k hk => by
    have hk := mem_skeys.mp hk
    refine ⟨hk, ?_⟩
    rcases netS_keys hk with h1 | ⟨p, hp, h1, h2⟩
    · simp [keys] at h1
    · have := (h p hp).hi
      omega
  have hsl : (skeys (netO ps g).1).length = (netO ps g).1.length := by unfold skeys; rw [List.length_mergeSort]; simp [keys]
  obtain ⟨z', u', e1⟩ := loop1 (.d P) (.d (.int g)) S (netO ps g).1 x y (skeys (netO ps g).1) z .un (netO ps g).2 [] hk (by rw [hsl]; simp; omega)
  have hkl : (keys (netO ps g).1).length < 64 := by simp [keys]; omega
  have f0 : fFor (fIt (fVar 0)) (gT 2 (gsC (gN 4) (gsC (gN 5) gsN))) l_put_together_0 (rho0 (.d P) (.d (.int g)) ([], g) .un .un .un) S = .nx (rho0 (.d P) (.d (.int g)) (netO ps g) x y z) S := by
    rw [e_For (xs := (ps.map pd).map .d) (S' := S) _ (by simp [rho0, hP, -e_seqT, -e_seqL])]
    exact e0
  have f1 : fFor (fItO (fDsrt 2)) (gN 6) l_put_together_1 (rho1 (.d P) (.d (.int g)) (netO ps g).1 x y z (netO ps g).2 [] .un) S = .nx (rho1 (.d P) (.d (.int g)) (netO ps g).1 x y z' (restO (netO ps g)) (termsO (netO ps g).1) u') S := by
    rw [e_For (xs := (skeys (netO ps g).1).map fun i => .d (.int i)) (S' := S) _ (by simp [rho1, intKeys_kv, hkl, skeys])]
    exact e1
  have st : start0 9 [W.d P, W.d (.int g)] = [.w (.d P), .w (.d (.int g)), .un, .un, .un, .un, .un, .un, .un] := rfl
  unfold m_put_together b_put_together
  rw [e_runF, st, e_Seq]
  have p0 : fPar 2 3 (fCo fDnew) (fCw (fVar 1)) [.w (.d P), .w (.d (.int g)), .un, .un, .un, .un, .un, .un, .un] S = .nx (rho0 (.d P) (.d (.int g)) ([], g) .un .un .un) S := by simp [rho0, kvN]
  rw [p0, e_thenN, e_Seq, f0, e_thenN, e_Seq]
  have p1 : fSetO 7 (fNewL fNil) (rho0 (.d P) (.d (.int g)) (netO ps g) x y z) S = .nx (rho1 (.d P) (.d (.int g)) (netO ps g).1 x y z (netO ps g).2 [] .un) S := by simp [rho0, rho1]
  rw [p1, e_thenN, e_Seq, f1, e_thenN]
  simp [rho1, PT, pD]
theorem put_together_ok (ps : Prs) (g : Int) (S : List Ob) (h : ∀ p ∈ ps, Bd p) (hl : ps.length < 64) : m_put_together [.d (pD ps), .d (.int g)] S = .ok (.w (.d (PT ps g))) S := put_together_any ps g S rfl h hl
theorem put_together_lst (ps : Prs) (g : Int) (S : List Ob) (h : ∀ p ∈ ps, Bd p) (hl : ps.length < 64) : m_put_together [.d (.list (ps.map pd)), .d (.int g)] S = .ok (.w (.d (PT ps g))) S := put_together_any ps g S rfl h hl
end L2.Q.P
namespace L2.Q.P
open PySem PySem.Spec PyProof.Rows
/-! the terms rise -/
theorem okT_flat (N : Prs) : ∀ (ks : List Int) (last : Int), (∀ k ∈ ks, 0 ≤ k ∧ last < k) → ks.Pairwise (· < ·) → okT last (ks.flatMap (trm N))
  | [], _, _, _ => trivial
  | k :: r, last, h, hp => by
    have hk := h k (List.mem_cons_self ..)
    have hr := List.pairwise_cons.mp hp
    have hrest : ∀ last', (last' = last ∨ last' = k) → okT last' (r.flatMap (trm N)) := fun last' hl => okT_flat N r last' (fun j hj => by
      have h1 := h j (List.mem_cons_of_mem _ hj)
      have h2 := hr.1 j hj
      rcases hl with rfl | rfl
      · exact h1
      · exact ⟨h1.1, h2⟩) hr.2
    rw [List.flatMap_cons]
    unfold trm
    split
    · rename_i q
      refine ⟨by show (0 : Int) ≤ 2 * k; omega, by show (1 : Int) ≤ look N k; omega, by show last < 2 * k / 2; omega, ?_⟩
      have e : 2 * k / 2 = k := by omega
      show okT (2 * k / 2) _
      rw [e]; exact hrest k (.inr rfl)
    · split
      · refine ⟨by show (0 : Int) ≤ 2 * k + 1; omega, by show (1 : Int) ≤ - look N k; omega, by show last < (2 * k + 1) / 2; omega, ?_⟩
        have e : (2 * k + 1) / 2 = k := by omega
        show okT ((2 * k + 1) / 2) _
        rw [e]; exact hrest k (.inr rfl)
      · exact hrest last (.inl rfl)
theorem skeys_lt {N : Prs} (h : (keys N).Nodup) : (skeys N).Pairwise (· < ·) := by
  have s : (skeys N).Pairwise (fun a b => a ≤ b) := by
    have := List.pairwise_mergeSort (le := fun a b : Int => decide (a ≤ b)) (fun a b c h1 h2 => by simp only [decide_eq_true_eq] at *; omega) (fun a b => by simp only [Bool.or_eq_true, decide_eq_true_eq]; omega) (keys N)
    exact this.imp fun h => of_decide_eq_true h
  have n : (skeys N).Pairwise (fun a b => a ≠ b) := (List.mergeSort_perm (keys N) _).nodup_iff.mpr h
  exact (s.and n).imp fun ⟨h1, h2⟩ => by omega
theorem netO_nd (ps : Prs) (g : Int) : (keys (netO ps g).1).Nodup := netS_nd (by simp [keys])
theorem netO_pos {ps : Prs} {g k : Int} (h : k ∈ keys (netO ps g).1) : ∃ p ∈ ps, 0 ≤ p.1 / 2 ∧ k = p.1 / 2 := by
  rcases netS_keys h with h1 | h1
  · simp [keys] at h1
  · exact h1
theorem okT_terms (ps : Prs) (g : Int) : okT (-1) (termsO (netO ps g).1) := okT_flat _ _ _ (fun k hk => by
  obtain ⟨p, _, h1, h2⟩ := netO_pos (mem_skeys.mp hk)
  omega) (skeys_lt (netO_nd ps g))
theorem terms_lt {ps : Prs} {g : Int} {m : Int} (h : ∀ p ∈ ps, p.1 < 2 * m) : ∀ t ∈ termsO (netO ps g).1, t.1 < 2 * m ∧ 0 ≤ t.1 := fun t ht => by
  obtain ⟨k, hk, hk2⟩ := List.mem_flatMap.mp ht
  obtain ⟨p, hp, h1, h2⟩ := netO_pos (mem_skeys.mp hk)
  have := h p hp
  unfold trm at hk2
  split at hk2
  · simp at hk2; subst hk2; dsimp only; omega
  · split at hk2
    · simp at hk2; subst hk2; dsimp only; omega
    · simp at hk2
end L2.Q.P
namespace L2.Q.P
open PySem PySem.Spec PyProof.Rows
def pW (ps : Prs) : List W := (ps.map pd).map .d
theorem pW_len (ps : Prs) : (pW ps).length = ps.length := by simp [pW]
theorem pW_app (ps : Prs) (p : Int × Int) : pW (ps ++ [p]) = pW ps ++ [.d (pd p)] := by simp [pW]
theorem shp_pd (p : Int × Int) : shp 1 (pd p) := shp_tup fun d h => by simp at h; rcases h with rfl | rfl <;> exact shp_int _ _
theorem pW_ne (ps : Prs) (S : List Ob) : cmpO true (pW ps) (.d (.list [])) S = .ok (.d (.bool (!ps.isEmpty))) S := by
  have h1 : SeqAt.shaped (.list (ps.map pd)) = true := shaped_of (shp_mono (k := 2) (shp_list fun d hd => by
    obtain ⟨p, _, rfl⟩ := List.mem_map.mp hd
    exact shp_pd p) (by omega))
  have h2 : SeqAt.shaped (.list []) = true := shaped_of (shp_mono (shp_list (k := 0) (ds := []) (by simp)) (by omega))
  unfold cmpO pW
  rw [e_datsm]
  dsimp only
  rw [h1, h2, eqv_nil]
  cases ps <;> rfl
theorem pW_at {ps : Prs} {k : Int} (h0 : 0 ≤ k) (h : k < ps.length) : ∃ q ∈ ps, atI (pW ps) k = some (.d (pd q)) := by
  have hk : k.toNat < ps.length := by omega
  have e : (pW ps)[k.toNat]? = some (.d (pd ps[k.toNat])) := by simp [pW, List.getElem?_eq_getElem hk]
  have := atI_nat e
  rw [show ((k.toNat : Nat) : Int) = k by omega] at this
  exact ⟨_, List.getElem_mem hk, this⟩
theorem dats_pW (ps : Prs) : dats (pW ps) = some (ps.map pd) := by unfold pW; exact dats_map _
theorem xor_lit {l b m : Int} (h0 : 0 ≤ l) (h1 : l < 2 * m) (hb : b = 0 ∨ b = 1) : 0 ≤ Builtin.bitXor l b ∧ Builtin.bitXor l b < 2 * m := by
  rcases hb with rfl | rfl
  · rw [bitXor_zero]; exact ⟨h0, h1⟩
  · rw [bitXor_and, bitAnd_m1]; omega
end L2.Q.P
namespace L2.Q.P
open PySem PySem.Spec PyProof.Rows
/-! the law's own put together -/
abbrev rhoT (P D : W) (s : Prs × Int) (x y z u : Sl) : List Sl := [.w P, .w D, .own (.dct (kvN s.1)), .w (.d (.int s.2)), x, y, z, u]
theorem tbody0 (P D : W) (s : Prs × Int) (x y z u : Sl) (p : Int × Int) (S : List Ob) (h0 : -2 ≤ p.1) (hl : s.1.length < 1000) :
    setG (gT 2 (gsC (gN 4) (gsC (gN 5) gsN)) (.d (pd p)) (rhoT P D s x y z u)) S l__law_together_0 = .nx (rhoT P D (netP p s) (.w (.d (.int p.1))) (.w (.d (.int p.2))) z u) S := by
  obtain ⟨l, w⟩ := p
  obtain ⟨N, r⟩ := s
  have h0 : -2 ≤ l := h0
  have k1 : divC l 2 = true := divC_of (by omega) (by omega)
  have k2 : modC l 2 = true := modC_of (by omega)
  have hl2 : (kvN N).length < 16777216 := by rw [kvN_len]; have : N.length < 1000 := hl; omega
  have vw : (valW (kvN N) (.inl (l / 2))).getD (.d (.int 0)) = .d (.int (look N (l / 2))) := valW_kv N (l / 2)
  have m0 : 0 ≤ l % 2 := Int.emod_nonneg _ (by omega)
  have m1 : l % 2 < 2 := Int.emod_lt_of_pos _ (by omega)
  by_cases q1 : l = -1
  · subst q1
    have e : netP (-1, w) (N, r) = (N, r - w) := by simp [netP, oddB]
    rw [e]
    simp [pd, l__law_together_0, rhoT]
  · by_cases q0 : 0 ≤ l
    · have q2 : 0 ≤ l / 2 := by omega
      by_cases q3 : l % 2 = 1
      · have e : look N (l / 2) - w = look N (l / 2) + -w := by omega
        simp [pd, l__law_together_0, rhoT, netP, oddB, k1, k2, q1, q2, q3, q0, hl2, vw, putW_kv, e]
      · have q3' : l % 2 = 0 := by omega
        simp [pd, l__law_together_0, rhoT, netP, oddB, k1, k2, q1, q2, q3', q0, hl2, vw, putW_kv]
    · have e2 : l = -2 := by omega
      subst e2
      have e : netP (-2, w) (N, r) = (N, r) := by simp [netP, oddB]
      rw [e]
      simp [pd, l__law_together_0, rhoT]
theorem tloop0 (P D : W) (S : List Ob) (z u : Sl) : ∀ (ps : Prs) (s : Prs × Int) (x y : Sl), (∀ p ∈ ps, -2 ≤ p.1) → s.1.length + ps.length < 1000 →
    ∃ x' y', forL (gT 2 (gsC (gN 4) (gsC (gN 5) gsN))) l__law_together_0 ((ps.map pd).map .d) (rhoT P D s x y z u) S = .nx (rhoT P D (netS ps s) x' y' z u) S
  | [], s, x, y, _, _ => ⟨x, y, rfl⟩
  | p :: r, s, x, y, h, hl => by
    have hl' : s.1.length + (r.length + 1) < 1000 := by simpa using hl
    have e := tbody0 P D s x y z u p S (h p (List.mem_cons_self ..)) (by omega)
    have hn := len_netP p s
    obtain ⟨x', y', e2⟩ := tloop0 P D S z u r (netP p s) (.w (.d (.int p.1))) (.w (.d (.int p.2))) (fun q hq => h q (List.mem_cons_of_mem _ hq)) (by omega)
    refine ⟨x', y', ?_⟩
    rw [List.map_cons, List.map_cons, for_cons]
    cases q : gT 2 (gsC (gN 4) (gsC (gN 5) gsN)) (.d (pd p)) (rhoT P D s x y z u) with
    | none => rw [q] at e; cases e
    | some ρ1 =>
      rw [q] at e
      have e : l__law_together_0 ρ1 S = _ := e
      rw [e_setG, e, e_turnN]
      exact e2
abbrev rhoT1 (P D : W) (N : Prs) (x y : Sl) (r : Int) (T : Prs) (u : Sl) : List Sl := [.w P, .w D, .own (.dct (kvN N)), .w (.d (.int r)), x, y, .own (.lst (pW T)), u]
theorem tbody1 (P D : W) (N : Prs) (x y u : Sl) (r : Int) (T : Prs) (k : Int) (S : List Ob) (hk : k ∈ keys N) (hb : k.natAbs < 2 ^ 60) (hl : T.length < 1000) :
    setG (gN 7 (.d (.int k)) (rhoT1 P D N x y r T u)) S l__law_together_1 = .nx (rhoT1 P D N x y (r - rst N k) (T ++ trm N k) (.w (.d (.int k)))) S := by
  have k1 : mulC 2 k = true := mulC_of 3 60 (by decide) hb (by omega) (by omega) (by omega)
  have hT : (pW T).length < 16777216 := by rw [pW_len]; omega
  have v := valW_mem hk
  by_cases q : 0 < look N k
  · have q2 : ¬ look N k < 0 := by omega
    simp [rhoT1, l__law_together_1, v, q, q2, k1, trm, rst, hT, pW_app]
    simp [pd]
  · by_cases q2 : look N k < 0
    · simp [rhoT1, l__law_together_1, v, q, q2, k1, trm, rst, hT, pW_app]
      simp [pd]
    · simp [rhoT1, l__law_together_1, v, q, q2, trm, rst]
theorem tloop1 (P D : W) (S : List Ob) (N : Prs) (x y : Sl) : ∀ (ks : List Int) (u : Sl) (r : Int) (T : Prs), (∀ k ∈ ks, k ∈ keys N ∧ k.natAbs < 2 ^ 60) → T.length + ks.length < 900 →
    ∃ u', forL (gN 7) l__law_together_1 (ks.map fun i => .d (.int i)) (rhoT1 P D N x y r T u) S = .nx (rhoT1 P D N x y (r - (ks.map (rst N)).sum) (T ++ ks.flatMap (trm N)) u') S
  | [], u, r, T, _, _ => ⟨u, by simp [for_nil]⟩
  | k :: ks, u, r, T, h, hl => by
    have hl' : T.length + (ks.length + 1) < 900 := by simpa using hl
    have hk := h k (List.mem_cons_self ..)
    have e := tbody1 P D N x y u r T k S hk.1 hk.2 (by omega)
    have ht : (trm N k).length ≤ 1 := by unfold trm; split; simp; split <;> simp
    obtain ⟨u', e2⟩ := tloop1 P D S N x y ks (.w (.d (.int k))) (r - rst N k) (T ++ trm N k) (fun q hq => h q (List.mem_cons_of_mem _ hq)) (by rw [List.length_append]; omega)
    refine ⟨u', ?_⟩
    rw [List.map_cons, for_cons]
    rw [e_gN, e_setG] at e ⊢
    have e3 : r - rst N k - (ks.map (rst N)).sum = r - ((k :: ks).map (rst N)).sum := by rw [List.map_cons, List.sum_cons]; omega
    rw [e, e_turnN, e2, e3, List.flatMap_cons, List.append_assoc]
theorem together_any {P : PyData} (ps : Prs) (g : Int) (S : List Ob) (hP : seqOf (.d P) S = .ok ((ps.map pd).map .d) S) (h : ∀ p ∈ ps, -2 ≤ p.1 ∧ p.1 < 2 ^ 60) (hl : ps.length < 64) : m__law_together [.d P, .d (.int g)] S = .ok (.w (.d (PT ps g))) S := by
  obtain ⟨x, y, e0⟩ := tloop0 (.d P) (.d (.int g)) S .un .un ps ([], g) .un .un (fun p hp => (h p hp).1) (by simp; omega)
  have hn := netS_len ps ([], g)
  have hn' : (netO ps g).1.length ≤ ps.length := by unfold netO; simpa using hn
  have hk : ∀ k ∈ skeys (netO ps g).1, k ∈ keys (netO ps g).1 ∧ k.natAbs < 2 ^ 60 := fun k hk => by
    have hk := mem_skeys.mp hk
    refine ⟨hk, ?_⟩
    rcases netS_keys hk with h1 | ⟨p, hp, h1, h2⟩
    · simp [keys] at h1
    · have := (h p hp).2
      omega
  have hsl : (skeys (netO ps g).1).length = (netO ps g).1.length := by unfold skeys; rw [List.length_mergeSort]; simp [keys]
  obtain ⟨u', e1⟩ := tloop1 (.d P) (.d (.int g)) S (netO ps g).1 x y (skeys (netO ps g).1) .un (netO ps g).2 [] hk (by rw [hsl]; simp; omega)
  have hkl : (keys (netO ps g).1).length < 64 := by simp [keys]; omega
  have f0 : fFor (fIt (fVar 0)) (gT 2 (gsC (gN 4) (gsC (gN 5) gsN))) l__law_together_0 (rhoT (.d P) (.d (.int g)) ([], g) .un .un .un .un) S = .nx (rhoT (.d P) (.d (.int g)) (netO ps g) x y .un .un) S := by
    rw [e_For (xs := (ps.map pd).map .d) (S' := S) _ (by simpa [rhoT] using hP)]
    exact e0
  have f1 : fFor (fItO (fDsrt 2)) (gN 7) l__law_together_1 (rhoT1 (.d P) (.d (.int g)) (netO ps g).1 x y (netO ps g).2 [] .un) S = .nx (rhoT1 (.d P) (.d (.int g)) (netO ps g).1 x y (restO (netO ps g)) (termsO (netO ps g).1) u') S := by
    rw [e_For (xs := (skeys (netO ps g).1).map fun i => .d (.int i)) (S' := S) _ (by simp [rhoT1, intKeys_kv, hkl, skeys])]
    exact e1
  have st : start0 8 [W.d P, W.d (.int g)] = [.w (.d P), .w (.d (.int g)), .un, .un, .un, .un, .un, .un] := rfl
  unfold m__law_together b__law_together
  rw [e_runF, st, e_Seq]
  have p0 : fPar 2 3 (fCo fDnew) (fCw (fVar 1)) [.w (.d P), .w (.d (.int g)), .un, .un, .un, .un, .un, .un] S = .nx (rhoT (.d P) (.d (.int g)) ([], g) .un .un .un .un) S := by simp [rhoT, kvN]
  rw [p0, e_thenN, e_Seq, f0, e_thenN, e_Seq]
  have p1 : fSetO 6 (fNewL fNil) (rhoT (.d P) (.d (.int g)) (netO ps g) x y .un .un) S = .nx (rhoT1 (.d P) (.d (.int g)) (netO ps g).1 x y (netO ps g).2 [] .un) S := by simp [rhoT, rhoT1, pW]
  rw [p1, e_thenN, e_Seq, f1, e_thenN]
  simp [rhoT1, PT, pD, pW]
end L2.Q.P
namespace L2.Q.P
open PySem PySem.Spec PyProof.Rows
/-! a dict of the store whose keys and values are whole numbers, read -/
def lkO (K : Prs) (k : Int) : Option Int := (K.find? fun p => decide (p.1 = k)).map (·.2)
theorem valW_lk (K : Prs) (k : Int) : valW (kvN K) (.inl k) = (lkO K k).map fun v => .d (.int v) := by
  unfold valW lkO
  rw [find_kv, Option.map_map, Option.map_map]
  rfl
theorem lkO_mem {K : Prs} {k v : Int} (h : lkO K k = some v) : (k, v) ∈ K := by
  unfold lkO at h
  cases e : K.find? fun p => decide (p.1 = k) with
  | none => rw [e] at h; cases h
  | some p =>
    rw [e] at h
    cases h
    have := List.mem_of_find?_eq_some e
    have q := List.find?_some e
    have q : p.1 = k := by simpa using q
    subst q
    exact this
theorem lkO_cons (p : Int × Int) (K : Prs) (k : Int) : lkO (p :: K) k = if p.1 = k then some p.2 else lkO K k := by
  unfold lkO
  rw [List.find?_cons]
  by_cases h : p.1 = k
  · simp [h]
  · simp [h]
theorem lkO_of {K : Prs} (hn : (keys K).Nodup) {p : Int × Int} (h : p ∈ K) : lkO K p.1 = some p.2 := by
  induction K with
  | nil => cases h
  | cons q r ih =>
    have hn' : q.1 ∉ keys r ∧ (keys r).Nodup := List.nodup_cons.mp hn
    rw [lkO_cons]
    rcases List.mem_cons.mp h with rfl | h
    · simp
    · have : q.1 ≠ p.1 := fun e => hn'.1 (e ▸ List.mem_map.mpr ⟨p, h, rfl⟩)
      rw [if_neg this]
      exact ih hn'.2 h
theorem lkO_none {K : Prs} {k : Int} (h : k ∉ keys K) : lkO K k = none := by
  cases e : lkO K k with
  | none => rfl
  | some v => exact absurd (List.mem_map.mpr ⟨(k, v), lkO_mem e, rfl⟩) h
section
variable {n : Nat} {K : Prs} {S : List Ob} (hS : dctS (.ref n) S = some (kvN K))
include hS
theorem in_lk (neg : Bool) (k : Int) : inS neg (.d (.int k)) (.ref n) S = .ok (.d (.bool (neg ^^ (lkO K k).isSome))) S := by
  have e : (valW (kvN K) (.inl k)).isSome = (lkO K k).isSome := by rw [valW_lk, Option.isSome_map]
  rw [← e]
  unfold inS
  rw [hS]
  rfl
theorem get_lk {k v : Int} (h : lkO K k = some v) : getS (.ref n) (.d (.int k)) S = .ok (.d (.int v)) S := by
  unfold getS
  rw [hS]
  show getD (kvN K) (.d (.int k)) S = _
  unfold getD keyOf
  dsimp only
  rw [valW_lk, h]
  rfl
end
/-- the pairs of a tuple as a dict -/
theorem prK_pd : ∀ K : Prs, prK (K.map pd) = some (kvN K)
  | [] => rfl
  | p :: r => by
    rw [List.map_cons]
    show (match kOf (.int p.1), prK (r.map pd) with
      | some k, some l => some ((k, W.d (.int p.2)) :: l)
      | _, _ => none) = _
    rw [prK_pd r]
    rfl
theorem dct_pd {K : Prs} (h : (keys K).Nodup) (S : List Ob) : dctT (.d (pD K)) S = .ok (.dct (kvN K)) S := by
  refine e_dctT (prK_pd K) ?_
  have : (kvN K).map (·.1) = (keys K).map Sum.inl := by unfold kvN keys; rw [List.map_map, List.map_map]; rfl
  rw [this]
  exact List.Pairwise.map _ (fun a b q e => q (Sum.inl.inj e)) h
theorem dctS_fdc {n : Nat} {S : List Ob} {kvs : List (Key × W)} (h : S[n]? = some (.fdc kvs)) : dctS (.ref n) S = some kvs := by
  unfold dctS
  dsimp only
  rw [h]
end L2.Q.P
namespace L2.Q.P
open PySem PySem.Spec PyProof.Rows
/-! values, worth -/
def vD (vs : List Int) : PyData := .tuple (vs.map .int)
def xof (vs : List Int) (k : Int) : Int := (vs[k.toNat]?).getD 0
def trueB (vs : List Int) (l : Int) : Bool := !decide (xof vs (l / 2) = l % 2)
structure Vz (m : Int) (vs : List Int) : Prop where
  bits : ∀ x ∈ vs, x = 0 ∨ x = 1
  len : (vs.length : Int) = m
/-- the weight of what is true -/
def wl (vs : List Int) (T : Prs) : Int := lin (fun l => if trueB vs l = true then 1 else 0) T
def Fit (vs : List Int) (T : Prs) : Prop := ∀ t ∈ T, 0 ≤ t.1 ∧ t.1 / 2 < vs.length
def keptB (vs : List Int) (o : Prs × Int) : Bool := decide (o.2 ≤ wl vs o.1)
theorem at_vs {vs : List Int} {k : Int} (h0 : 0 ≤ k) (h : k < vs.length) : atI (vs.map PyData.int) k = some (.int (xof vs k)) := by
  have hk : k.toNat < vs.length := by omega
  have e : (vs.map PyData.int)[k.toNat]? = some (.int (xof vs k)) := by
    rw [List.getElem?_map]
    unfold xof
    rw [List.getElem?_eq_getElem hk]
    rfl
  have := atI_nat e
  rw [show ((k.toNat : Nat) : Int) = k by omega] at this
  exact this
theorem true_ok {vs : List Int} {l : Int} (S : List Ob) (h0 : 0 ≤ l) (h : l / 2 < vs.length) : m__law_true [.d (.int l), .d (vD vs)] S = .ok (.w (.d (.bool (trueB vs l)))) S := by
  have k1 : divC l 2 = true := divC_of (by omega) (by omega)
  have k2 : modC l 2 = true := modC_of (by omega)
  have k3 := at_vs (vs := vs) (k := l / 2) (by omega) h
  simp [m__law_true, b__law_true, start0, vD, k1, k2, k3, trueB]
theorem worth_ok {vs : List Int} {T : Prs} (r : Int) (S : List Ob) (h : ∀ t ∈ T, 0 ≤ t.1 ∧ t.1 / 2 < vs.length) :
    m__law_worth [.d (.tuple [pD T, .int r]), .d (vD vs)] S = .ok (.w (.d (.int (lin (fun l => if trueB vs l = true then 1 else 0) T)))) S := by
  have e : fLc (fIt (fBin oIx (fVar 0) (fC (PyData.int 0)))) [2, 3] (gT 2 (gsC (gN 2) (gsC (gN 3) gsN))) t__law_worth_0 e__law_worth_0 [.w (.d (.tuple [pD T, .int r])), .w (.d (vD vs)), .un, .un] S = .ok (.lst (((T.filter fun q => trueB vs q.1).map (·.2)).map fun i => .d (.int i))) S := by
    rw [e_Lc (xs := (T.map pd).map .d) (S' := S) _ _ _ (by simp [pD]) rfl]
    show (lcL _ t__law_worth_0 e__law_worth_0 [.w (.d (.tuple [pD T, .int r])), .w (.d (vD vs)), .un, .un] ((T.map pd).map .d) S).bind _ = _
    rw [lc_pairs _ _ _ _ S (trueB vs) T fun q hq => ⟨[.w (.d (.tuple [pD T, .int r])), .w (.d (vD vs)), .w (.d (.int q.1)), .w (.d (.int q.2))], ?_, ?_, fun _ => ?_⟩]
    · rfl
    · simp [pd]
    · simp [t__law_worth_0, true_ok S (h q hq).1 (h q hq).2]
    · simp [e__law_worth_0]
  have st : start0 4 [W.d (.tuple [pD T, .int r]), W.d (vD vs)] = [.w (.d (.tuple [pD T, .int r])), .w (.d (vD vs)), .un, .un] := rfl
  unfold m__law_worth b__law_worth
  rw [e_runF, st, e_Ret, e_Sum, e_ItO, e, e_ok, e_lstOf, e_ok, e_onI, sum_lin]
  rfl
end L2.Q.P
namespace L2.Q.P
open PySem PySem.Spec PyProof.Rows
/-! the net tells what the pairs tell -/
theorem netP_lin (h : Int → Int) (p : Int × Int) {s : Prs × Int} (hn : (keys s.1).Nodup) : lin h (netP p s).1 = lin h s.1 + (if 0 ≤ p.1 / 2 then h (p.1 / 2) * (1 - 2 * (p.1 % 2)) else 0) * p.2 := by
  unfold netP
  dsimp only
  split
  · rw [lin_put h hn, show ∀ a b : Int, a + b - a = b from fun a b => by omega, Int.mul_assoc]
  · simp
theorem netS_lin (h : Int → Int) : ∀ (ps : Prs) (s : Prs × Int), (keys s.1).Nodup → lin h (netS ps s).1 = lin h s.1 + lin (fun l => if 0 ≤ l / 2 then h (l / 2) * (1 - 2 * (l % 2)) else 0) ps
  | [], s, _ => by simp [netS, lin]
  | p :: r, s, hn => by
    have e := netS_lin h r (netP p s) (netP_nd hn)
    simp only [netS, lin]
    rw [e, netP_lin h p hn]; omega
theorem netS_rest : ∀ (ps : Prs) (s : Prs × Int), (netS ps s).2 = s.2 - lin (fun l => if oddB l = true then 1 else 0) ps
  | [], s => by simp [netS, lin]
  | p :: r, s => by
    have e := netS_rest r (netP p s)
    simp only [netS, lin]
    rw [e]
    unfold netP
    dsimp only
    split <;> omega
theorem look_mem {N : Prs} (hn : (keys N).Nodup) {p : Int × Int} (hp : p ∈ N) : look N p.1 = p.2 := by
  induction N with
  | nil => cases hp
  | cons q r ih =>
    have hn' : q.1 ∉ keys r ∧ (keys r).Nodup := by simpa [keys] using hn
    rw [look_cons]
    rcases List.mem_cons.mp hp with rfl | hp
    · rw [if_pos rfl]
    · rw [if_neg (fun e => hn'.1 (by rw [e]; exact List.mem_map_of_mem hp))]
      exact ih hn'.2 hp
theorem sum_keys (h : Int → Int) {N : Prs} (hn : (keys N).Nodup) : ((keys N).map fun k => h k * look N k).sum = lin h N := by
  have e : (keys N).map (fun k => h k * look N k) = N.map fun p => h p.1 * p.2 := by
    unfold keys
    rw [List.map_map]
    apply List.map_congr_left
    intro p hp
    show h p.1 * look N p.1 = _
    rw [look_mem hn hp]
  rw [e]
  clear e hn
  induction N with
  | nil => rfl
  | cons p r ih => rw [List.map_cons, List.sum_cons, ih]; rfl
theorem sum_perm {xs ys : List Int} (h : xs.Perm ys) : xs.sum = ys.sum := by
  induction h with
  | nil => rfl
  | cons x _ ih => rw [List.sum_cons, List.sum_cons, ih]
  | swap x y l => simp only [List.sum_cons]; omega
  | trans _ _ h1 h2 => rw [h1, h2]
theorem sum_skeys (h : Int → Int) {N : Prs} (hn : (keys N).Nodup) : ((skeys N).map fun k => h k * look N k).sum = lin h N := by
  rw [← sum_keys h hn]
  exact sum_perm ((List.mergeSort_perm (keys N) _).map _)
theorem lin_flat (τ : Int → Int) (N : Prs) (h : Int → Int) : ∀ ks : List Int, (∀ k ∈ ks, lin τ (trm N k) + rst N k = h k * look N k) → lin τ (ks.flatMap (trm N)) + (ks.map (rst N)).sum = (ks.map fun k => h k * look N k).sum
  | [], _ => rfl
  | k :: r, hk => by
    have e := lin_flat τ N h r fun j hj => hk j (List.mem_cons_of_mem _ hj)
    have e1 := hk k (List.mem_cons_self ..)
    rw [List.flatMap_cons, lin_app, List.map_cons, List.map_cons, List.sum_cons, List.sum_cons]
    omega
end L2.Q.P
namespace L2.Q.P
open PySem PySem.Spec PyProof.Rows
theorem trm_lin (vs : List Int) (N : Prs) (k : Int) (hk : 0 ≤ k) (hx : xof vs k = 0 ∨ xof vs k = 1) : lin (fun l => if trueB vs l = true then 1 else 0) (trm N k) + rst N k = xof vs k * look N k := by
  have a1 : 2 * k / 2 = k := by omega
  have a2 : (2 * k + 1) / 2 = k := by omega
  have a3 : 2 * k % 2 = 0 := by omega
  have a4 : (2 * k + 1) % 2 = 1 := by omega
  unfold trm rst
  rcases hx with e | e
  · by_cases q : 0 < look N k
    · have q2 : ¬ look N k < 0 := by omega
      simp [q, q2, lin, trueB, a1, a3, e]
    · by_cases q2 : look N k < 0
      · simp [q, q2, lin, trueB, a2, a4, e]; omega
      · simp [q, q2, lin, e]
  · by_cases q : 0 < look N k
    · have q2 : ¬ look N k < 0 := by omega
      simp [q, q2, lin, trueB, a1, a3, e]
    · by_cases q2 : look N k < 0
      · simp [q, q2, lin, trueB, a2, a4, e]
      · have : look N k = 0 := by omega
        simp [q, q2, lin, e, this]
theorem xof_bits {vs : List Int} (hb : ∀ x ∈ vs, x = 0 ∨ x = 1) (k : Int) : xof vs k = 0 ∨ xof vs k = 1 := by
  unfold xof
  cases e : vs[k.toNat]? with
  | none => exact .inl rfl
  | some x => exact hb x (List.mem_of_getElem? e)
end L2.Q.P
namespace L2.Q.P
open PySem PySem.Spec PyProof.Rows
/-! what is told hangs on the literals' weights alone -/
theorem look_ps (ps : Prs) (g k : Int) : look (netO ps g).1 k = lin (fun l => if 0 ≤ l / 2 then (if l / 2 = k then 1 else 0) * (1 - 2 * (l % 2)) else 0) ps := by
  have e : lin (fun j => if j = k then 1 else 0) (netO ps g).1 = _ := netS_lin (fun j => if j = k then 1 else 0) ps ([], g) (by simp [keys])
  rw [look_lin (netO_nd ps g)] at e
  rw [e]
  show (0 : Int) + _ = _
  omega
theorem flat_filter (N : Prs) : ∀ ks : List Int, ks.flatMap (trm N) = (ks.filter fun k => decide (look N k ≠ 0)).flatMap (trm N)
  | [] => rfl
  | k :: r => by
    by_cases q : look N k = 0
    · rw [List.filter_cons_of_neg (by simp [q]), List.flatMap_cons, flat_filter N r]
      simp [trm, q]
    · rw [List.filter_cons_of_pos (by simp [q]), List.flatMap_cons, List.flatMap_cons, flat_filter N r]
theorem rst_filter (N : Prs) : ∀ ks : List Int, (ks.map (rst N)).sum = ((ks.filter fun k => decide (look N k ≠ 0)).map (rst N)).sum
  | [] => rfl
  | k :: r => by
    by_cases q : look N k = 0
    · rw [List.filter_cons_of_neg (by simp [q]), List.map_cons, List.sum_cons, rst_filter N r]
      simp [rst, q]
    · rw [List.filter_cons_of_pos (by simp [q]), List.map_cons, List.map_cons, List.sum_cons, List.sum_cons, rst_filter N r]
theorem sorted_eq {xs ys : List Int} (hx : xs.Pairwise (· < ·)) (hy : ys.Pairwise (· < ·)) (h : ∀ k, k ∈ xs ↔ k ∈ ys) : xs = ys := by
  have n1 : xs.Nodup := hx.imp fun h => by omega
  have n2 : ys.Nodup := hy.imp fun h => by omega
  have p : xs.Perm ys := (List.perm_ext_iff_of_nodup n1 n2).mpr h
  exact p.eq_of_pairwise (fun a b _ _ h1 h2 => by omega) hx hy
theorem PT_eq {ps qs : Prs} (g : Int) (h : ∀ c, lin c ps = lin c qs) : PT ps g = PT qs g := by
  have hlook : ∀ k, look (netO ps g).1 k = look (netO qs g).1 k := fun k => by rw [look_ps, look_ps, h]
  have ht : trm (netO ps g).1 = trm (netO qs g).1 := by funext k; unfold trm; rw [hlook]
  have hr : rst (netO ps g).1 = rst (netO qs g).1 := by funext k; unfold rst; rw [hlook]
  have h2 : (netO ps g).2 = (netO qs g).2 := by
    have e1 : (netO ps g).2 = _ := netS_rest ps ([], g)
    have e2 : (netO qs g).2 = _ := netS_rest qs ([], g)
    rw [e1, e2, h]
  have hk : (skeys (netO ps g).1).filter (fun k => decide (look (netO ps g).1 k ≠ 0)) = (skeys (netO qs g).1).filter (fun k => decide (look (netO qs g).1 k ≠ 0)) := by
    refine sorted_eq ((skeys_lt (netO_nd ps g)).filter _) ((skeys_lt (netO_nd qs g)).filter _) fun k => ?_
    rw [List.mem_filter, List.mem_filter, mem_skeys, mem_skeys, hlook k]
    constructor
    · rintro ⟨_, h1⟩
      refine ⟨?_, h1⟩
      by_cases q : k ∈ keys (netO qs g).1
      · exact q
      · exact absurd (look_none q) (of_decide_eq_true h1)
    · rintro ⟨_, h1⟩
      refine ⟨?_, h1⟩
      by_cases q : k ∈ keys (netO ps g).1
      · exact q
      · exact absurd ((hlook k).symm.trans (look_none q)) (of_decide_eq_true h1)
  unfold PT termsO restO
  rw [flat_filter (netO ps g).1, flat_filter (netO qs g).1, rst_filter (netO ps g).1, rst_filter (netO qs g).1, hk, ht, hr, h2]
end L2.Q.P
namespace L2.Q.P
open PySem PySem.Spec PyProof.Rows
/-! what the reckonings do to the weight of what is true -/
def tb (vs : List Int) (l : Int) : Int := if trueB vs l = true then 1 else 0
theorem wl_cons (vs : List Int) (t : Int × Int) (r : Prs) : wl vs (t :: r) = tb vs t.1 * t.2 + wl vs r := rfl
theorem tb_01 (vs : List Int) (l : Int) : tb vs l = 0 ∨ tb vs l = 1 := by unfold tb; split <;> simp
theorem wl_nonneg {vs : List Int} {T : Prs} (h : ∀ t ∈ T, 0 ≤ t.2) : 0 ≤ wl vs T := by
  induction T with
  | nil => simp [wl, lin]
  | cons t r ih =>
    have h1 := h t (List.mem_cons_self ..)
    have ih := ih fun x hx => h x (List.mem_cons_of_mem _ hx)
    rw [wl_cons]
    rcases tb_01 vs t.1 with e | e <;> rw [e] <;> omega
/-! times -/
theorem wl_times (vs : List Int) (f : Int) (T : Prs) : wl vs (T.map fun t => (t.1, f * t.2)) = f * wl vs T := by
  induction T with
  | nil => simp [wl, lin]
  | cons t r ih =>
    rw [List.map_cons, wl_cons, wl_cons, ih, Int.mul_add]
    congr 1
    rw [← Int.mul_assoc, ← Int.mul_assoc, Int.mul_comm (tb vs t.1) f]
/-! cut -/
theorem wl_cut {vs : List Int} {g : Int} (hg : 0 < g) : ∀ {T : Prs}, (∀ t ∈ T, 0 ≤ t.2) → (wl vs (T.map fun t => (t.1, if g < t.2 then g else t.2)) ≤ wl vs T ∧ (wl vs (T.map fun t => (t.1, if g < t.2 then g else t.2)) = wl vs T ∨ g ≤ wl vs (T.map fun t => (t.1, if g < t.2 then g else t.2))))
  | [], _ => ⟨by simp [wl, lin], .inl rfl⟩
  | t :: r, h => by
    have ih := wl_cut (vs := vs) hg (T := r) fun x hx => h x (List.mem_cons_of_mem _ hx)
    have h0 := h t (List.mem_cons_self ..)
    have nn : 0 ≤ wl vs (r.map fun t => (t.1, if g < t.2 then g else t.2)) := wl_nonneg fun x hx => by
      obtain ⟨q, hq, rfl⟩ := List.mem_map.mp hx
      have := h q (List.mem_cons_of_mem _ hq)
      dsimp only
      split <;> omega
    rw [List.map_cons, wl_cons, wl_cons]
    dsimp only
    rcases tb_01 vs t.1 with e | e <;> rw [e]
    · simp only [Int.zero_mul, Int.zero_add]; exact ih
    · rw [Int.one_mul, Int.one_mul]
      split <;> omega
/-! drop -/
theorem wl_drop {vs : List Int} {v : Int} : ∀ {T : Prs}, (∀ t ∈ T, 0 ≤ t.2) → wl vs T ≤ wl vs (T.filter fun t => !decide (t.1 / 2 = v)) + lin (fun l => if decide (l / 2 = v) = true then 1 else 0) T
  | [], _ => by simp [wl, lin]
  | t :: r, h => by
    have ih := wl_drop (vs := vs) (v := v) (T := r) fun x hx => h x (List.mem_cons_of_mem _ hx)
    have h0 := h t (List.mem_cons_self ..)
    by_cases q : t.1 / 2 = v
    · rw [List.filter_cons_of_neg (by simp [q]), wl_cons]
      simp only [lin, q, decide_true, if_true, Int.one_mul]
      rcases tb_01 vs t.1 with e | e <;> rw [e] <;> omega
    · rw [List.filter_cons_of_pos (by simp [q]), wl_cons, wl_cons]
      simp only [lin, q, decide_false, Bool.false_eq_true, if_false, Int.zero_mul, Int.zero_add]
      omega
/-! add -/
theorem tb_lit {vs : List Int} (hb : ∀ x ∈ vs, x = 0 ∨ x = 1) {l : Int} (h0 : 0 ≤ l) : (if 0 ≤ l / 2 then xof vs (l / 2) * (1 - 2 * (l % 2)) else 0) + (if oddB l = true then 1 else 0) = tb vs l := by
  have hx := xof_bits hb (l / 2)
  have h2 : l % 2 = 0 ∨ l % 2 = 1 := by omega
  have o : oddB l = decide (l % 2 = 1) := by
    unfold oddB
    rw [decide_eq_false (show ¬ l = -1 by omega), decide_eq_true (show 0 ≤ l / 2 by omega)]
    rfl
  rw [if_pos (by omega), o]
  unfold tb trueB
  rcases hx with hx | hx <;> rcases h2 with h2 | h2 <;> rw [hx, h2] <;> decide
/-- what is put together weighs, less its degree, what the pairs do -/
theorem wl_PT {vs : List Int} (hb : ∀ x ∈ vs, x = 0 ∨ x = 1) {ps : Prs} (g : Int) (h : ∀ p ∈ ps, 0 ≤ p.1) : wl vs (termsO (netO ps g).1) - restO (netO ps g) = wl vs ps - g := by
  have nd := netO_nd ps g
  have kp : ∀ k ∈ skeys (netO ps g).1, 0 ≤ k := fun k hk => by
    have hk : k ∈ keys (netO ps g).1 := (List.mem_mergeSort).mp hk
    obtain ⟨p, hp, h1, h2⟩ := netO_pos hk
    omega
  have e1 := lin_flat (fun l => if trueB vs l = true then 1 else 0) (netO ps g).1 (xof vs) (skeys (netO ps g).1) fun k hk => trm_lin vs _ k (kp k hk) (xof_bits hb k)
  rw [sum_skeys (xof vs) nd] at e1
  have e2 := netS_lin (xof vs) ps ([], g) (by simp [keys])
  have e3 := netS_rest ps ([], g)
  have e4 : lin (xof vs) (netO ps g).1 = lin (fun l => if 0 ≤ l / 2 then xof vs (l / 2) * (1 - 2 * (l % 2)) else 0) ps := by
    have : lin (xof vs) ([] : Prs) = 0 := rfl
    unfold netO
    rw [e2, this, Int.zero_add]
  have e5 : (netO ps g).2 = g - lin (fun l => if oddB l = true then 1 else 0) ps := e3
  have e6 : lin (fun l => if 0 ≤ l / 2 then xof vs (l / 2) * (1 - 2 * (l % 2)) else 0) ps + lin (fun l => if oddB l = true then 1 else 0) ps = wl vs ps := by
    rw [← lin_add]
    exact lin_congr fun p hp => tb_lit hb (h p hp)
  have e7 : wl vs (termsO (netO ps g).1) + ((skeys (netO ps g).1).map (rst (netO ps g).1)).sum = lin (xof vs) (netO ps g).1 := e1
  unfold restO
  omega
theorem wl_app (vs : List Int) (T U : Prs) : wl vs (T ++ U) = wl vs T + wl vs U := lin_app _ T U
end L2.Q.P
namespace L2.Q.P
open PySem PySem.Spec PyProof.Rows
/-! small judges -/
def intB (d : PyData) : Bool := match d with
  | .int _ => true
  | _ => false
theorem is_int_ok (d : PyData) (S : List Ob) : m_is_int [.d d] S = .ok (.w (.d (.bool (intB d)))) S := by
  cases d <;> simp [m_is_int, b_is_int, start0, isInt, isBool, intB]
def rowB (d : PyData) (lo hi : Int) : Bool := match d with
  | .tuple xs => decide (lo ≤ (xs.length : Int)) && decide ((xs.length : Int) ≤ hi)
  | _ => false
theorem is_row_ok (d : PyData) (lo hi : Int) (S : List Ob) : m_is_row [.d d, .d (.int lo), .d (.int hi)] S = .ok (.w (.d (.bool (rowB d lo hi)))) S := by
  cases d with
  | tuple xs =>
    by_cases h : lo ≤ (xs.length : Int)
    · simp [m_is_row, b_is_row, start0, isTup, rowB, h]
    · simp [m_is_row, b_is_row, start0, isTup, rowB, h]
  | _ => simp [m_is_row, b_is_row, start0, isTup, rowB]
end L2.Q.P
namespace L2.Q.P
open PySem PySem.Spec PyProof.Rows
/-! what a comprehension of judgements gives -/
theorem lc_judge (fe : FE) (j : PyData → Bool) (i : Nat) (ρ : List Sl) (S : List Ob) (ds : List PyData) (h : ∀ d ∈ ds, fe (ρ.set i (.w (.d d))) S = .ok (.d (.bool (j d))) S) :
    lcL (gN i) (fun _ S => .ok true S) fe ρ (ds.map .d) S = .ok ((ds.map j).map fun b => .d (.bool b)) S := by
  induction ds with
  | nil => rfl
  | cons d r ih =>
    have ih := ih fun z hz => h z (List.mem_cons_of_mem _ hz)
    rw [List.map_cons]
    unfold lcL
    simp only [e_gN, h d (List.mem_cons_self ..), if_true, ih, e_ok, List.map_cons]
theorem all_map_id {γ : Type} (j : γ → Bool) (ds : List γ) : (ds.map j).all id = ds.all j := by rw [List.all_map]; rfl
end L2.Q.P
namespace L2.Q.P
open PySem PySem.Spec PyProof.Rows
/-! is_index, is_term, are_terms, is_sum, whatever they are asked -/
def idxB (d : PyData) : Bool := match d with
  | .int i => decide (0 ≤ i)
  | _ => false
theorem is_index_ok (d : PyData) (S : List Ob) : m_is_index [.d d] S = .ok (.w (.d (.bool (idxB d)))) S := by
  cases d <;> simp [m_is_index, b_is_index, start0, is_int_ok, intB, idxB]
def termB (d : PyData) : Bool := match d with
  | .tuple [.int l, .int w] => decide (0 ≤ l) && decide (1 ≤ w)
  | _ => false
theorem is_term_ok (d : PyData) (S : List Ob) : m_is_term [.d d] S = .ok (.w (.d (.bool (termB d)))) S := by
  cases d with
  | tuple xs =>
    match xs with
    | [] => simp [m_is_term, b_is_term, start0, is_row_ok, rowB, termB]
    | [x] => simp [m_is_term, b_is_term, start0, is_row_ok, rowB, termB]
    | [x, y] =>
      cases x with
      | int l =>
        by_cases h : 0 ≤ l
        · cases y <;> simp [m_is_term, b_is_term, start0, is_row_ok, rowB, termB, is_int_ok, is_index_ok, intB, idxB, h]
        · cases y <;> simp [m_is_term, b_is_term, start0, is_row_ok, rowB, termB, is_int_ok, is_index_ok, intB, idxB, h]
      | _ => simp [m_is_term, b_is_term, start0, is_row_ok, rowB, termB, is_int_ok, is_index_ok, intB, idxB]
    | x :: y :: z :: r =>
      have h : ¬ ((r.length : Int) + 1 + 1 + 1 ≤ 2) := by omega
      simp [m_is_term, b_is_term, start0, is_row_ok, rowB, termB, h]
  | _ => simp [m_is_term, b_is_term, start0, is_row_ok, rowB, termB]
def varD (d : PyData) : Int := match d with
  | .tuple [.int l, _] => l / 2
  | _ => 0
def incB (vs : List Int) : Bool := (vs.zip (vs.drop 1)).all fun p => decide (p.1 < p.2)
def termsB (d : PyData) : Bool := match d with
  | .tuple ds => ds.all termB && incB (ds.map varD)
  | _ => false
theorem termB_pd : ∀ {ds : List PyData}, ds.all termB = true → ∃ T : Prs, ds = T.map pd ∧ ∀ t ∈ T, 0 ≤ t.1 ∧ 1 ≤ t.2
  | [], _ => ⟨[], rfl, fun t h => by cases h⟩
  | d :: r, h => by
    rw [List.all_cons, Bool.and_eq_true] at h
    obtain ⟨T, rfl, hT⟩ := termB_pd h.2
    have hd := h.1
    unfold termB at hd
    split at hd
    · rename_i l w
      simp at hd
      exact ⟨(l, w) :: T, rfl, fun t ht => by
        rcases List.mem_cons.mp ht with rfl | ht
        · exact hd
        · exact hT t ht⟩
    · cases hd
theorem cut_one {α : Type} (xs : List α) : cut xs (some 1) none = xs.drop 1 := by
  unfold cut
  rw [show HT.sIx xs.length 0 (some 1) = min 1 xs.length from HT.sIx_nat xs.length 0 1, HT.sIx_none]
  cases xs with
  | nil => rfl
  | cons x r =>
    rw [show min 1 (x :: r).length = 1 by rw [List.length_cons]; omega]
    show (List.take ((x :: r).length - 1) r) = r
    rw [List.length_cons, Nat.add_sub_cancel]
    exact List.take_length
theorem zipD_ints : ∀ xs ys : List Int, zipD (xs.map .int) (ys.map .int) = ((xs.zip ys).map pd).map .d
  | [], _ => by simp [zipD]
  | _ :: _, [] => by simp [zipD]
  | x :: r, y :: s => by simp [zipD, pd, zipD_ints r s]
/-- a comprehension over pairs, all of them -/
theorem lc_all (g : FG) (fe : FE) (ρ : List Sl) (S : List Ob) (y : Int × Int → W) (T : Prs)
    (h : ∀ q ∈ T, ∃ ρ1, g (.d (pd q)) ρ = some ρ1 ∧ fe ρ1 S = .ok (y q) S) : lcL g (fun _ S => .ok true S) fe ρ ((T.map pd).map .d) S = .ok (T.map y) S := by
  induction T with
  | nil => rfl
  | cons q r ih =>
    obtain ⟨ρ1, h1, h2⟩ := h q (List.mem_cons_self ..)
    have ih := ih fun z hz => h z (List.mem_cons_of_mem _ hz)
    rw [List.map_cons, List.map_cons]
    unfold lcL
    simp only [h1, h2, if_true, ih, e_ok, List.map_cons]
theorem are_terms_ok (d : PyData) (S : List Ob) (hs : ∀ ds, d = .tuple ds → ds.length ≤ 1000) : m_are_terms [.d d] S = .ok (.w (.d (.bool (termsB d)))) S := by
  cases d with
  | tuple ds =>
    have hl := hs ds rfl
    have st : start0 7 [W.d (.tuple ds)] = [.w (.d (.tuple ds)), .un, .un, .un, .un, .un, .un] := rfl
    have a0 : fAll (fItO (fLc (fIt (fVar 0)) [2] (gN 2) (fun _ S => .ok true S) e_are_terms_0)) [.w (.d (.tuple ds)), .un, .un, .un, .un, .un, .un] S = .ok (.d (.bool (ds.all termB))) S := by
      have e : fLc (fIt (fVar 0)) [2] (gN 2) (fun _ S => .ok true S) e_are_terms_0 [.w (.d (.tuple ds)), .un, .un, .un, .un, .un, .un] S = .ok (.lst ((ds.map termB).map fun b => .d (.bool b))) S := by
        rw [e_Lc (xs := ds.map .d) (S' := S) _ _ _ (by simp) rfl]
        show (lcL (gN 2) (fun _ S => Res.ok true S) e_are_terms_0 [.w (.d (.tuple ds)), .un, .un, .un, .un, .un, .un] (ds.map .d) S).bind _ = _
        rw [lc_judge e_are_terms_0 termB 2 _ S ds fun d _ => by simp [e_are_terms_0, is_term_ok]]
        rfl
      rw [e_All, e_ItO, e, e_ok, e_lstOf, e_ok, e_onB, all_map_id]
    unfold m_are_terms b_are_terms
    rw [e_runF, st, e_Seq, e_IfS]
    cases q : ds.all termB with
    | false =>
      rw [q] at a0
      simp [-e_All, isTup, a0, termsB, q]
    | true =>
      rw [q] at a0
      obtain ⟨T, rfl, hT⟩ := termB_pd q
      have hv : (T.map pd).map varD = T.map (fun t => t.1 / 2) := by rw [List.map_map]; rfl
      have e1 : fLc (fIt (fVar 0)) [3, 4] (gT 2 (gsC (gN 3) (gsC (gN 4) gsN))) (fun _ S => .ok true S) e_are_terms_1 [.w (.d (.tuple (T.map pd))), .un, .un, .un, .un, .un, .un] S = .ok (.lst ((T.map (fun t => t.1 / 2)).map fun i => .d (.int i))) S := by
        rw [e_Lc (xs := (T.map pd).map .d) (S' := S) _ _ _ (by simp) rfl]
        show (lcL _ (fun _ S => Res.ok true S) e_are_terms_1 [.w (.d (.tuple (T.map pd))), .un, .un, .un, .un, .un, .un] ((T.map pd).map .d) S).bind _ = _
        rw [lc_all _ e_are_terms_1 _ S (fun t => .d (.int (t.1 / 2))) T fun q _ => ⟨[.w (.d (.tuple (T.map pd))), .un, .un, .w (.d (.int q.1)), .w (.d (.int q.2)), .un, .un], by simp [pd], by simp [e_are_terms_1, show divC q.1 2 = true from divC_of (by omega) (by omega)]⟩]
        rw [e_ok, List.map_map]; rfl
      have hl1 : T.length ≤ 16777216 := by simp at hl; omega
      have e2 : fAll (fItO (fLc (fZip (fVar 1) (fCut (fVar 1) (fP (fC (.int 1))) fNoP)) [5, 6] (gT 2 (gsC (gN 5) (gsC (gN 6) gsN))) (fun _ S => .ok true S) e_are_terms_2)) [.w (.d (.tuple (T.map pd))), .w (.d (.list ((T.map (fun t => t.1 / 2)).map .int))), .un, .un, .un, .un, .un] S = .ok (.d (.bool (incB (T.map fun t => t.1 / 2)))) S := by
        have z : fZip (fVar 1) (fCut (fVar 1) (fP (fC (.int 1))) fNoP) [.w (.d (.tuple (T.map pd))), .w (.d (.list ((T.map (fun t => t.1 / 2)).map .int))), .un, .un, .un, .un, .un] S = .ok ((((T.map fun t => t.1 / 2).zip ((T.map fun t => t.1 / 2).drop 1)).map pd).map .d) S := by
          unfold fZip
          simp only [e_var, List.getElem?_cons_succ, List.getElem?_cons_zero, e_ok, e_Cut, e_P, e_c, e_NoP, e_cutL]
          rw [cut_one, ← List.map_drop]
          unfold zipV
          dsimp only
          rw [if_pos (by simpa using hl1), zipD_ints]
        have e : fLc (fZip (fVar 1) (fCut (fVar 1) (fP (fC (.int 1))) fNoP)) [5, 6] (gT 2 (gsC (gN 5) (gsC (gN 6) gsN))) (fun _ S => .ok true S) e_are_terms_2 [.w (.d (.tuple (T.map pd))), .w (.d (.list ((T.map (fun t => t.1 / 2)).map .int))), .un, .un, .un, .un, .un] S = .ok (.lst ((((T.map fun t => t.1 / 2).zip ((T.map fun t => t.1 / 2).drop 1)).map fun p => decide (p.1 < p.2)).map fun b => .d (.bool b))) S := by
          rw [e_Lc (S' := S) _ _ _ z rfl]
          show (lcL _ (fun _ S => Res.ok true S) e_are_terms_2 [.w (.d (.tuple (T.map pd))), .w (.d (.list ((T.map (fun t => t.1 / 2)).map .int))), .un, .un, .un, .un, .un] _ S).bind _ = _
          rw [lc_all _ e_are_terms_2 _ S (fun p => .d (.bool (decide (p.1 < p.2)))) _ fun q _ => ⟨[.w (.d (.tuple (T.map pd))), .w (.d (.list ((T.map (fun t => t.1 / 2)).map .int))), .un, .un, .un, .w (.d (.int q.1)), .w (.d (.int q.2))], by simp [pd], by simp [e_are_terms_2]⟩]
          rw [e_ok, List.map_map]; rfl
        rw [e_All, e_ItO, e, e_ok, e_lstOf, e_ok, e_onB, all_map_id]
        rfl
      have f1 : fSetO 1 (fLc (fIt (fVar 0)) [3, 4] (gT 2 (gsC (gN 3) (gsC (gN 4) gsN))) (fun _ S => .ok true S) e_are_terms_1) [.w (.d (.tuple (T.map pd))), .un, .un, .un, .un, .un, .un] S = .nx [.w (.d (.tuple (T.map pd))), .own (.lst ((T.map (fun t => t.1 / 2)).map fun i => .d (.int i))), .un, .un, .un, .un, .un] S := by
        rw [e_SetO, e1]; rfl
      have t0 : fOr (fNot (fT (fIsi "tuple" (fVar 0)))) (fNot (fT (fAll (fItO (fLc (fIt (fVar 0)) [2] (gN 2) (fun _ S => .ok true S) e_are_terms_0))))) [.w (.d (.tuple (T.map pd))), .un, .un, .un, .un, .un, .un] S = .ok false S := by
        simp [-e_All, isTup, a0]
      rw [t0, e_flok]
      simp only [Bool.false_eq_true, if_false, e_Nx, e_thenN]
      rw [e_Seq, f1, e_thenN, e_Frz]
      simp only [List.getElem?_cons_succ, List.getElem?_cons_zero, e_frz, dats_ints, Option.map_some, List.set_cons_succ, List.set_cons_zero]
      rw [e_Ret, e2]
      simp [termsB, q, hv]
  | _ => simp [m_are_terms, b_are_terms, start0, isTup, termsB]
def sumB (d : PyData) : Bool := match d with
  | .tuple [x, .int _] => termsB x
  | _ => false
def Sml (d : PyData) : Prop := ∀ ds y, d = .tuple [.tuple ds, y] → ds.length ≤ 1000
theorem sum_judged (d : PyData) (S : List Ob) (hs : Sml d) : m_is_sum [.d d] S = .ok (.w (.d (.bool (sumB d)))) S := by
  cases d with
  | tuple xs =>
    match xs with
    | [] => simp [m_is_sum, b_is_sum, start0, is_row_ok, rowB, sumB]
    | [x] => simp [m_is_sum, b_is_sum, start0, is_row_ok, rowB, sumB]
    | [x, y] =>
      have e := are_terms_ok x S fun ds h => hs ds y (by rw [h])
      cases h : termsB x with
      | true => rw [h] at e; cases y <;> simp [m_is_sum, b_is_sum, start0, is_row_ok, rowB, sumB, is_int_ok, intB, e, h]
      | false => rw [h] at e; cases y <;> simp [m_is_sum, b_is_sum, start0, is_row_ok, rowB, sumB, is_int_ok, intB, e, h]
    | x :: y :: z :: r =>
      have h : ¬ ((r.length : Int) + 1 + 1 + 1 ≤ 2) := by omega
      simp [m_is_sum, b_is_sum, start0, is_row_ok, rowB, sumB, h]
  | _ => simp [m_is_sum, b_is_sum, start0, is_row_ok, rowB, sumB]
end L2.Q.P
namespace L2.Q.P
open PySem PySem.Spec PyProof.Rows
/-! reckonings on right sums -/
def sD (T : Prs) (g : Int) : PyData := .tuple [pD T, .int g]
structure Rt (T : Prs) : Prop where
  len : T.length ≤ 20
  lo : ∀ t ∈ T, 0 ≤ t.1 ∧ t.1 < 2 ^ 20 ∧ 1 ≤ t.2 ∧ t.2 < 2 ^ 250
  inc : incB (T.map fun t => t.1 / 2) = true
theorem Rt.terms {T : Prs} (h : Rt T) : termsB (pD T) = true := by
  unfold pD termsB
  rw [Bool.and_eq_true, List.all_map, List.all_eq_true, List.map_map]
  refine ⟨fun t ht => ?_, h.inc⟩
  have := h.lo t ht
  simp [pd, termB]; omega
theorem Rt.sum {T : Prs} (h : Rt T) (g : Int) : sumB (sD T g) = true := h.terms
theorem Rt.sml {T : Prs} (h : T.length ≤ 1000) (g : Int) : Sml (sD T g) := fun ds y e => by
  unfold sD pD at e
  injection e with e
  injection e with e1 e2
  injection e1 with e1
  subst e1
  simpa using h
theorem judged {T : Prs} (h : Rt T) (g : Int) (S : List Ob) : m_is_sum [.d (sD T g)] S = .ok (.w (.d (.bool true))) S := by
  rw [sum_judged _ S (Rt.sml (by have := h.len; omega) g), h.sum g]
/-- a tuple made of a sum's terms -/
theorem tup_map (fi : FA) (own : List Nat) (g : FG) (fe : FE) (ρ : List Sl) (S : List Ob) (T : Prs) (f : Int × Int → Int × Int) (hi : fi ρ S = .ok ((T.map pd).map .d) S) (ho : own.any (fun i => isOwn ρ[i]?) = false)
    (h : ∀ q ∈ T, ∃ ρ1, g (.d (pd q)) (unset ρ own) = some ρ1 ∧ fe ρ1 S = .ok (.d (pd (f q))) S) : fTupL (fItO (fLc fi own g (fun _ S => .ok true S) fe)) ρ S = .ok (.d (pD (T.map f))) S := by
  rw [e_TupL, e_ItO, e_Lc _ _ _ hi ho, lc_all g fe _ S (fun q => .d (pd (f q))) T h]
  simp [pD]
theorem tup_filter (fi : FA) (own : List Nat) (g : FG) (t : FB) (fe : FE) (ρ : List Sl) (S : List Ob) (T : Prs) (p : Int × Int → Bool) (hi : fi ρ S = .ok ((T.map pd).map .d) S) (ho : own.any (fun i => isOwn ρ[i]?) = false)
    (h : ∀ q ∈ T, ∃ ρ1, g (.d (pd q)) (unset ρ own) = some ρ1 ∧ t ρ1 S = .ok (p q) S ∧ fe ρ1 S = .ok (.d (pd q)) S) : fTupL (fItO (fLc fi own g t fe)) ρ S = .ok (.d (pD (T.filter p))) S := by
  have e : lcL g t fe (unset ρ own) ((T.map pd).map .d) S = .ok (((T.filter p).map pd).map .d) S := by
    clear hi
    induction T with
    | nil => rfl
    | cons q r ih =>
      obtain ⟨ρ1, h1, h2, h3⟩ := h q (List.mem_cons_self ..)
      have ih := ih fun z hz => h z (List.mem_cons_of_mem _ hz)
      rw [List.map_cons, List.map_cons]
      unfold lcL
      cases hp : p q with
      | true => simp only [h1, h2, hp, if_true, h3, ih, e_ok, List.filter_cons_of_pos hp, List.map_cons]
      | false => simp only [h1, h2, hp, Bool.false_eq_true, if_false, ih]; rw [List.filter_cons_of_neg (by rw [hp]; exact Bool.false_ne_true)]
  rw [e_TupL, e_ItO, e_Lc _ _ _ hi ho, e]
  simp [pD]
/-- a sum over a sum's terms -/
theorem sum_over (fi : FA) (own : List Nat) (g : FG) (t : FB) (fe : FE) (ρ : List Sl) (S : List Ob) (T : Prs) (p : Int → Bool) (hi : fi ρ S = .ok ((T.map pd).map .d) S) (ho : own.any (fun i => isOwn ρ[i]?) = false)
    (h : ∀ q ∈ T, ∃ ρ1, g (.d (pd q)) (unset ρ own) = some ρ1 ∧ t ρ1 S = .ok (p q.1) S ∧ (p q.1 = true → fe ρ1 S = .ok (.d (.int q.2)) S)) : fSum (fItO (fLc fi own g t fe)) ρ S = .ok (.d (.int (lin (fun l => if p l = true then 1 else 0) T))) S := by
  rw [e_Sum, e_ItO, e_Lc _ _ _ hi ho, lc_pairs g t fe _ S p T h, e_ok, e_ok, e_lstOf, e_ok, e_onI, sum_lin]
theorem terms_at (ρ : List Sl) (S : List Ob) (T : Prs) (g : Int) (i : Nat) (h : ρ[i]? = some (.w (.d (sD T g)))) : fIt (fBin oIx (fVar i) (fC (.int 0))) ρ S = .ok ((T.map pd).map .d) S := by
  simp [h, sD, pD]
theorem pair_inc : ∀ {vs : List Int}, vs.Pairwise (· < ·) → incB vs = true
  | [], _ => rfl
  | [x], _ => rfl
  | x :: y :: r, h => by
    have h' := List.pairwise_cons.mp h
    have ih := pair_inc h'.2
    unfold incB at ih ⊢
    simp only [List.drop_succ_cons, List.drop_zero, List.zip_cons_cons, List.all_cons, Bool.and_eq_true]
    exact ⟨decide_eq_true (h'.1 y (List.mem_cons_self ..)), by simpa using ih⟩
end L2.Q.P
namespace L2.Q.P
open PySem PySem.Spec PyProof.Rows
/-! images -/
/-- a literal that a witness moves -/
def mv (K : Prs) (l : Int) : Int := match lkO K (l / 2) with
  | some v => Builtin.bitXor v (l % 2)
  | none => l
def mvT (K T : Prs) : Prs := T.map fun t => (mv K t.1, t.2)
/-- right images of a witness -/
def Wit (m : Int) (K : Prs) : Prop := ∀ p ∈ K, 0 ≤ p.1 ∧ p.1 < m ∧ -2 ≤ p.2 ∧ p.2 < 2 * m
theorem xor1 (v : Int) : Builtin.bitXor v 1 = v + 1 - 2 * (v % 2) := by rw [bitXor_and, bitAnd_m1]
theorem mv_bd {m : Int} {K : Prs} (h : Wit m K) {l : Int} (h0 : 0 ≤ l) (h1 : l / 2 < m) : -2 ≤ mv K l ∧ mv K l < 2 * m := by
  unfold mv
  split
  · rename_i v e
    have := h _ (lkO_mem e)
    dsimp only at this
    rcases (by omega : l % 2 = 0 ∨ l % 2 = 1) with q | q <;> rw [q]
    · rw [bitXor_zero]; omega
    · rw [xor1]; omega
  · omega
section
variable {n : Nat} {K : Prs} {S : List Ob} (hS : dctS (.ref n) S = some (kvN K))
include hS
theorem moved_ok {l : Int} (h0 : 0 ≤ l) : m_moved [.d (.int l), .ref n] S = .ok (.w (.d (.int (mv K l)))) S := by
  have k1 : divC l 2 = true := divC_of (by omega) (by omega)
  have i := in_lk hS false (l / 2)
  cases e : lkO K (l / 2) with
  | none =>
    rw [e] at i
    simp [m_moved, b_moved, start0, k1, i, mv, e]
  | some v =>
    rw [e] at i
    have g := get_lk hS e
    simp [m_moved, b_moved, start0, k1, i, g, mv, e, bitAnd_m1]
theorem law_moved_ok {l : Int} (h0 : 0 ≤ l) : m__law_moved [.d (.int l), .ref n] S = .ok (.w (.d (.int (mv K l)))) S := by
  have k1 : divC l 2 = true := divC_of (by omega) (by omega)
  have k2 : modC l 2 = true := modC_of (by omega)
  have i := in_lk hS false (l / 2)
  cases e : lkO K (l / 2) with
  | none =>
    rw [e] at i
    simp [m__law_moved, b__law_moved, start0, k1, i, mv, e]
  | some v =>
    rw [e] at i
    have g := get_lk hS e
    simp [m__law_moved, b__law_moved, start0, k1, k2, i, g, mv, e]
theorem lc_moved {T : Prs} (g : Int) (fe : FE) (hT : ∀ t ∈ T, 0 ≤ t.1) (he : ∀ t : Int × Int, 0 ≤ t.1 → fe [.w (.d (sD T g)), .w (.ref n), .w (.d (.int t.1)), .w (.d (.int t.2))] S = .ok (.d (pd (mv K t.1, t.2))) S) :
    fFz (fLc (fIt (fBin oIx (fVar 0) (fC (.int 0)))) [2, 3] (gT 2 (gsC (gN 2) (gsC (gN 3) gsN))) (fun _ S => .ok true S) fe) [.w (.d (sD T g)), .w (.ref n), .un, .un] S = .ok (.d (.list ((mvT K T).map pd))) S := by
  rw [e_Fz, e_Lc (xs := (T.map pd).map .d) (S' := S) _ _ _ (terms_at _ S T g 0 rfl) rfl]
  show ((lcL _ (fun _ S => Res.ok true S) fe [.w (.d (sD T g)), .w (.ref n), .un, .un] ((T.map pd).map .d) S).bind _).bind _ = _
  rw [lc_all _ fe _ S (fun t => .d (pd (mv K t.1, t.2))) T fun q hq => ⟨[.w (.d (sD T g)), .w (.ref n), .w (.d (.int q.1)), .w (.d (.int q.2))], by simp [pd], he q (hT q hq)⟩]
  rw [e_ok, e_ok, e_frz]
  have : (T.map fun t => W.d (pd (mv K t.1, t.2))) = ((mvT K T).map pd).map W.d := by unfold mvT; rw [List.map_map, List.map_map]; rfl
  rw [this, e_datsm]
  rfl
theorem image_ok {T : Prs} (g : Int) {m : Int} (hm : m ≤ 2 ^ 20) (hT : Rt T) (hV : ∀ t ∈ T, t.1 / 2 < m) (hK : Wit m K) : m_image [.d (sD T g), .ref n] S = .ok (.w (.d (PT (mvT K T) g))) S ∧ m__law_image [.d (sD T g), .ref n] S = .ok (.w (.d (PT (mvT K T) g))) S := by
  have e1 := lc_moved hS (T := T) g e_image_0 (fun t ht => (hT.lo t ht).1) fun t h0 => by simp [e_image_0, moved_ok hS h0, pd]
  have e2 := lc_moved hS (T := T) g e__law_image_0 (fun t ht => (hT.lo t ht).1) fun t h0 => by simp [e__law_image_0, law_moved_ok hS h0, pd]
  have hb : ∀ p ∈ mvT K T, Bd p := fun p hp => by
    obtain ⟨t, ht, rfl⟩ := List.mem_map.mp hp
    have h1 := hT.lo t ht
    have h2 := mv_bd hK h1.1 (hV t ht)
    exact ⟨h2.1, by dsimp only; omega, by dsimp only; omega⟩
  have hl : (mvT K T).length < 64 := by unfold mvT; rw [List.length_map]; have := hT.len; omega
  have p1 := put_together_lst (mvT K T) g S hb hl
  have p2 := together_any (P := .list ((mvT K T).map pd)) (mvT K T) g S rfl (fun p hp => ⟨(hb p hp).lo, (hb p hp).hi⟩) hl
  have st : start0 4 [W.d (sD T g), W.ref n] = [.w (.d (sD T g)), .w (.ref n), .un, .un] := rfl
  constructor
  · unfold m_image b_image
    rw [e_runF, st, e_Ret, e_Call, e_Cons, e1]
    simp [sD, p1]
  · unfold m__law_image b__law_image
    rw [e_runF, st, e_Ret, e_Call, e_Cons, e2]
    simp [sD, p2]
end
/-! what an image weighs -/
/-- what a literal of a witness is worth -/
def vl (vs : List Int) (l : Int) : Int := if l = -1 then 1 else if l < 0 then 0 else tb vs l
theorem vl_01 (vs : List Int) (l : Int) : vl vs l = 0 ∨ vl vs l = 1 := by
  unfold vl
  split
  · exact .inr rfl
  · split
    · exact .inl rfl
    · exact tb_01 vs l
theorem vl_pos {vs : List Int} {l : Int} (h : 0 ≤ l) : vl vs l = tb vs l := by
  unfold vl
  rw [if_neg (by omega), if_neg (by omega)]
theorem tb_x {vs : List Int} (hb : ∀ x ∈ vs, x = 0 ∨ x = 1) {l : Int} : tb vs (Builtin.bitXor l 1) = 1 - tb vs l := by
  have e : Builtin.bitXor l 1 / 2 = l / 2 := by rw [xor1]; omega
  have hx := xof_bits hb (l / 2)
  unfold tb trueB
  rw [e]
  have e2 : Builtin.bitXor l 1 % 2 = 1 - l % 2 := by rw [xor1]; omega
  rw [e2]
  have h2 : l % 2 = 0 ∨ l % 2 = 1 := by omega
  rcases hx with hx | hx <;> rcases h2 with h2 | h2 <;> rw [hx, h2] <;> decide
theorem vl_x {vs : List Int} (hb : ∀ x ∈ vs, x = 0 ∨ x = 1) {l : Int} (h : -2 ≤ l) : vl vs (Builtin.bitXor l 1) = 1 - vl vs l := by
  by_cases h1 : l = -1
  · subst h1; rw [xor1]; rfl
  · by_cases h2 : l = -2
    · subst h2; rw [xor1]; rfl
    · have h3 : 0 ≤ Builtin.bitXor l 1 := by rw [xor1]; omega
      rw [vl_pos h3, vl_pos (by omega), tb_x hb]
theorem lit_vl {vs : List Int} (hb : ∀ x ∈ vs, x = 0 ∨ x = 1) {l : Int} (h : -2 ≤ l) : (if 0 ≤ l / 2 then xof vs (l / 2) * (1 - 2 * (l % 2)) else 0) + (if oddB l = true then 1 else 0) = vl vs l := by
  by_cases h1 : l = -1
  · subst h1; rfl
  · by_cases h2 : l = -2
    · subst h2; rfl
    · rw [vl_pos (by omega)]
      exact tb_lit hb (by omega)
theorem wl_PTv {vs : List Int} (hb : ∀ x ∈ vs, x = 0 ∨ x = 1) {ps : Prs} (g : Int) (h : ∀ p ∈ ps, -2 ≤ p.1) : wl vs (termsO (netO ps g).1) - restO (netO ps g) = lin (vl vs) ps - g := by
  have nd := netO_nd ps g
  have kp : ∀ k ∈ skeys (netO ps g).1, 0 ≤ k := fun k hk => by
    have hk : k ∈ keys (netO ps g).1 := (List.mem_mergeSort).mp hk
    obtain ⟨p, hp, h1, h2⟩ := netO_pos hk
    omega
  have e1 := lin_flat (fun l => if trueB vs l = true then 1 else 0) (netO ps g).1 (xof vs) (skeys (netO ps g).1) fun k hk => trm_lin vs _ k (kp k hk) (xof_bits hb k)
  have e2 := sum_skeys (xof vs) nd
  have e3 := netS_rest ps ([], g)
  have e4 := netS_lin (xof vs) ps ([], g) (by simp [keys])
  have e40 : lin (xof vs) ([] : Prs) = 0 := rfl
  rw [e40, Int.zero_add] at e4
  rw [e2] at e1
  have e6 : lin (fun l => if 0 ≤ l / 2 then xof vs (l / 2) * (1 - 2 * (l % 2)) else 0) ps + lin (fun l => if oddB l = true then 1 else 0) ps = lin (vl vs) ps := by
    rw [← lin_add]
    exact lin_congr fun p hp => lit_vl hb (h p hp)
  have e5 : (netO ps g).2 = g - lin (fun l => if oddB l = true then 1 else 0) ps := e3
  have e7 : wl vs (termsO (netO ps g).1) + ((skeys (netO ps g).1).map (rst (netO ps g).1)).sum = lin (xof vs) (netO ps g).1 := e1
  have e8 : lin (xof vs) (netO ps g).1 = lin (fun l => if 0 ≤ l / 2 then xof vs (l / 2) * (1 - 2 * (l % 2)) else 0) ps := e4
  unfold restO
  omega
/-! values that a witness changes -/
def chg (vs : List Int) (K : Prs) (r : List Int) : List Int := K.foldl (fun r p => r.set p.1.toNat (vl vs p.2)) r
theorem chg_len (vs : List Int) : ∀ (K : Prs) (r : List Int), (chg vs K r).length = r.length
  | [], _ => rfl
  | p :: K, r => by
    show (chg vs K (r.set p.1.toNat (vl vs p.2))).length = _
    rw [chg_len vs K, List.length_set]
theorem chg_bits (vs : List Int) : ∀ (K : Prs) (r : List Int), (∀ x ∈ r, x = 0 ∨ x = 1) → ∀ x ∈ chg vs K r, x = 0 ∨ x = 1
  | [], _, h => h
  | p :: K, r, h => chg_bits vs K (r.set p.1.toNat (vl vs p.2)) fun x hx => by
    rcases List.mem_or_eq_of_mem_set hx with hx | rfl
    · exact h x hx
    · exact vl_01 vs p.2
theorem xof_set {r : List Int} {k j x : Int} (h0 : 0 ≤ k) (h1 : k < r.length) (hj : 0 ≤ j) : xof (r.set k.toNat x) j = if k = j then x else xof r j := by
  unfold xof
  by_cases h : k = j
  · subst h
    rw [List.getElem?_set_self (by omega), if_pos rfl]
    rfl
  · rw [List.getElem?_set_ne (by omega), if_neg h]
theorem xof_chg {vs : List Int} {m : Int} : ∀ {K : Prs} {r : List Int}, Wit m K → (r.length : Int) = m → (keys K).Nodup → ∀ {j : Int}, 0 ≤ j → xof (chg vs K r) j = match lkO K j with
      | some v => vl vs v
      | none => xof r j
  | [], r, _, _, _, j, hj => rfl
  | p :: K, r, h, hl, hn, j, hj => by
    have hn' : p.1 ∉ keys K ∧ (keys K).Nodup := List.nodup_cons.mp hn
    have hp := h p (List.mem_cons_self ..)
    have ih := xof_chg (vs := vs) (K := K) (r := r.set p.1.toNat (vl vs p.2)) (fun q hq => h q (List.mem_cons_of_mem _ hq)) (by rw [List.length_set]; exact hl) hn'.2 hj
    show xof (chg vs K (r.set p.1.toNat (vl vs p.2))) j = _
    rw [ih, xof_set hp.1 (by omega) hj, lkO_cons]
    by_cases e : p.1 = j
    · subst e
      rw [lkO_none hn'.1, if_pos rfl, if_pos rfl]
    · rw [if_neg e, if_neg e]
theorem tb_xof {vs : List Int} (hb : ∀ x ∈ vs, x = 0 ∨ x = 1) (l : Int) : tb vs l = if l % 2 = 0 then xof vs (l / 2) else 1 - xof vs (l / 2) := by
  have hx := xof_bits hb (l / 2)
  have h2 : l % 2 = 0 ∨ l % 2 = 1 := by omega
  unfold tb trueB
  rcases hx with hx | hx <;> rcases h2 with h2 | h2 <;> rw [hx, h2] <;> decide
theorem tb_chg {vs : List Int} {m : Int} {K : Prs} (hb : ∀ x ∈ vs, x = 0 ∨ x = 1) (hK : Wit m K) (hl : (vs.length : Int) = m) (hn : (keys K).Nodup) {l : Int} (h0 : 0 ≤ l) : vl vs (mv K l) = tb (chg vs K vs) l := by
  rw [tb_xof (chg_bits vs K vs hb), xof_chg hK hl hn (by omega : 0 ≤ l / 2)]
  unfold mv
  cases e : lkO K (l / 2) with
  | none =>
    dsimp only
    rw [vl_pos h0, tb_xof hb]
  | some v =>
    dsimp only
    have := hK _ (lkO_mem e)
    dsimp only at this
    rcases (by omega : l % 2 = 0 ∨ l % 2 = 1) with q | q <;> rw [q]
    · rw [bitXor_zero]; rfl
    · rw [vl_x hb (by omega)]; rfl
/-- the law of images -/
theorem image_law {vs : List Int} {m : Int} {K T : Prs} (g : Int) (hb : ∀ x ∈ vs, x = 0 ∨ x = 1) (hl : (vs.length : Int) = m) (hK : Wit m K) (hn : (keys K).Nodup) (hT : ∀ t ∈ T, 0 ≤ t.1 ∧ t.1 / 2 < m) :
    wl vs (termsO (netO (mvT K T) g).1) - restO (netO (mvT K T) g) = wl (chg vs K vs) T - g := by
  rw [wl_PTv hb g fun p hp => by
    obtain ⟨t, ht, rfl⟩ := List.mem_map.mp hp
    exact (mv_bd hK (hT t ht).1 (hT t ht).2).1]
  congr 1

  have : ∀ T : Prs, (∀ t ∈ T, vl vs (mv K t.1) = tb (chg vs K vs) t.1) → lin (vl vs) (mvT K T) = wl (chg vs K vs) T := fun T h => by
    induction T with
    | nil => rfl
    | cons t r ih =>
      have ih := ih fun x hx => h x (List.mem_cons_of_mem _ hx)
      show vl vs (mv K t.1) * t.2 + lin (vl vs) (mvT K r) = _
      rw [ih, h t (List.mem_cons_self ..), wl_cons]
  exact this T fun t ht => tb_chg hb hK hl hn (hT t ht).1
end L2.Q.P
namespace L2.Q.P
open PySem PySem.Spec PyProof.Rows
/-! a sum, judged by the law -/
def wholeB (d : PyData) (lo : Int) : Bool := match d with
  | .int i => decide (lo ≤ i)
  | _ => false
theorem whole_ok (d : PyData) (lo : Int) (S : List Ob) : m__law_whole [.d d, .d (.int lo)] S = .ok (.w (.d (.bool (wholeB d lo)))) S := by
  cases d <;> simp [m__law_whole, b__law_whole, start0, isInt, isBool, wholeB]
theorem loop_sum (P : W) (S : List Ob) : ∀ (T : Prs) (last : Int) (x : Sl), okT last T → ∃ last' x', forL (gN 2) l__law_is_sum_0 ((T.map pd).map .d) [.w P, .w (.d (.int last)), x] S = .nx [.w P, .w (.d (.int last')), x'] S
  | [], last, x, _ => ⟨last, x, rfl⟩
  | p :: r, last, x, h => by
    obtain ⟨h1, h2, h3, h4⟩ := h
    obtain ⟨last', x', e⟩ := loop_sum P S r (p.1 / 2) (.w (.d (pd p))) h4
    refine ⟨last', x', ?_⟩
    have k1 : divC p.1 2 = true := divC_of (by omega) (by omega)
    have k2 : ¬ p.1 / 2 ≤ last := by omega
    rw [List.map_cons, List.map_cons, for_cons, e_gN, e_setG]
    have b : l__law_is_sum_0 ([Sl.w P, .w (.d (.int last)), x].set 2 (.w (.d (pd p)))) S = .nx [.w P, .w (.d (.int (p.1 / 2))), .w (.d (pd p))] S := by
      simp [l__law_is_sum_0, pd, isTup, whole_ok, wholeB, h1, h2, k1, k2]
    rw [b, e_turnN, e]
theorem is_sum_ok (T : Prs) (r : Int) (S : List Ob) (h : okT (-1) T) : m__law_is_sum [.d (.tuple [pD T, .int r])] S = .ok (.w (.d (.bool true))) S := by
  obtain ⟨last', x', e⟩ := loop_sum (.d (.tuple [pD T, .int r])) S T (-1) .un h
  have f0 : fFor (fIt (fBin oIx (fVar 0) (fC (PyData.int 0)))) (gN 2) l__law_is_sum_0 [.w (.d (.tuple [pD T, .int r])), .w (.d (.int (-1))), .un] S = .nx [.w (.d (.tuple [pD T, .int r])), .w (.d (.int last')), x'] S := by
    rw [e_For (xs := (T.map pd).map .d) (S' := S) _ (by simp [pD])]
    exact e
  simp [m__law_is_sum, b__law_is_sum, start0, isTup, isInt, isBool, pD] at f0 ⊢
  simp [f0]
end L2.Q.P
namespace L2.Q.P
open PySem PySem.Spec PyProof.Rows
/-! witnesses, judged: the package's and the law's judge tell the same, whatever they are asked -/
def fstD (d : PyData) : Int := match d with
  | .tuple [.int k, _] => k
  | _ => 0
def pairB (d : PyData) : Bool := match d with
  | .tuple [_, _] => true
  | _ => false
def imgB (d : PyData) : Bool := match d with
  | .tuple [a, b] => idxB a && wholeB b (-2)
  | _ => false
/-- all from behind last on -/
def witL : Int → List PyData → Bool
  | _, [] => true
  | last, d :: r => imgB d && (decide (last < fstD d) && witL (fstD d) r)
def witB (d : PyData) : Bool := match d with
  | .tuple ds => witL (-1) ds
  | _ => false
theorem imgB_pd : ∀ {ds : List PyData}, ds.all imgB = true → ∃ K : Prs, ds = K.map pd ∧ ∀ t ∈ K, 0 ≤ t.1 ∧ -2 ≤ t.2
  | [], _ => ⟨[], rfl, fun t h => by cases h⟩
  | d :: r, h => by
    rw [List.all_cons, Bool.and_eq_true] at h
    obtain ⟨T, rfl, hT⟩ := imgB_pd h.2
    have hd := h.1
    unfold imgB at hd
    split at hd
    · rename_i a b
      rw [Bool.and_eq_true] at hd
      cases a <;> simp [idxB] at hd
      cases b <;> simp [wholeB] at hd
      rename_i l w
      exact ⟨(l, w) :: T, rfl, fun t ht => by
        rcases List.mem_cons.mp ht with rfl | ht
        · exact hd
        · exact hT t ht⟩
    · cases hd
theorem witL_inc : ∀ (ds : List PyData) (last : Int), witL last ds = (ds.all imgB && (incB (ds.map fstD) && (match ds with | [] => true | d :: _ => decide (last < fstD d))))
  | [], last => by simp [witL, incB]
  | [d], last => by
    simp only [witL, List.all_cons, List.all_nil, List.map_cons, List.map_nil, incB]
    cases imgB d <;> simp
  | d :: e :: r, last => by
    have ih := witL_inc (e :: r) (fstD d)
    have hi : incB ((d :: e :: r).map fstD) = (decide (fstD d < fstD e) && incB ((e :: r).map fstD)) := by
      simp only [incB, List.map_cons, List.drop_succ_cons, List.drop_zero, List.zip_cons_cons, List.all_cons]
    rw [witL, ih, hi]
    simp only [List.all_cons]
    cases imgB d <;> cases imgB e <;> cases r.all imgB <;> cases decide (fstD d < fstD e) <;> cases decide (last < fstD d) <;> cases incB ((e :: r).map fstD) <;> rfl
theorem witL_all (ds : List PyData) : witL (-1) ds = (ds.all imgB && incB (ds.map fstD)) := by
  rw [witL_inc]
  cases ds with
  | nil => simp
  | cons d r =>
    dsimp only
    by_cases h : imgB d = true
    · have : -1 < fstD d := by
        unfold imgB at h
        split at h
        · rename_i a b
          rw [Bool.and_eq_true] at h
          cases a <;> simp [idxB] at h
          simp only [fstD]; omega
        · cases h
      simp [this]
    · have h : imgB d = false := by simpa using h
      simp [h]
theorem all_mono {α : Type} {p q : α → Bool} {l : List α} (h : ∀ x, p x = true → q x = true) (k : l.all p = true) : l.all q = true := by
  rw [List.all_eq_true] at k ⊢
  exact fun x hx => h x (k x hx)
theorem img_pair {d : PyData} (h : imgB d = true) : pairB d = true := by
  unfold imgB at h
  split at h
  · rfl
  · cases h
theorem pair_row (d : PyData) : rowB d 2 2 = pairB d := by
  cases d with
  | tuple xs =>
    match xs with
    | [] => rfl
    | [x] => rfl
    | [x, y] => rfl
    | x :: y :: z :: r =>
      have h : ¬ ((r.length : Int) + 1 + 1 + 1 ≤ 2) := by omega
      simp [rowB, pairB, h]
  | _ => rfl
theorem ascending_ok (vs : List Int) (hl : vs.length ≤ 1000) (S : List Ob) : m_is_ascending [.d (.list (vs.map .int))] S = .ok (.w (.d (.bool (incB vs)))) S := by
  have st : start0 3 [W.d (.list (vs.map .int))] = [.w (.d (.list (vs.map .int))), .un, .un] := rfl
  have z : fZip (fVar 0) (fCut (fVar 0) (fP (fC (.int 1))) fNoP) [.w (.d (.list (vs.map .int))), .un, .un] S = .ok (((vs.zip (vs.drop 1)).map pd).map .d) S := by
    unfold fZip
    simp only [e_var, List.getElem?_cons_succ, List.getElem?_cons_zero, e_ok, e_Cut, e_P, e_c, e_NoP, e_cutL]
    rw [cut_one, ← List.map_drop]
    unfold zipV
    dsimp only
    rw [if_pos (by simp; omega), zipD_ints]
  have e : fLc (fZip (fVar 0) (fCut (fVar 0) (fP (fC (.int 1))) fNoP)) [1, 2] (gT 2 (gsC (gN 1) (gsC (gN 2) gsN))) (fun _ S => .ok true S) e_is_ascending_0 [.w (.d (.list (vs.map .int))), .un, .un] S = .ok (.lst (((vs.zip (vs.drop 1)).map fun p => decide (p.1 < p.2)).map fun b => .d (.bool b))) S := by
    rw [e_Lc (S' := S) _ _ _ z rfl]
    show (lcL _ (fun _ S => Res.ok true S) e_is_ascending_0 [.w (.d (.list (vs.map .int))), .un, .un] _ S).bind _ = _
    rw [lc_all _ e_is_ascending_0 _ S (fun p => .d (.bool (decide (p.1 < p.2)))) _ fun q _ => ⟨[.w (.d (.list (vs.map .int))), .w (.d (.int q.1)), .w (.d (.int q.2))], by simp [pd], by simp [e_is_ascending_0]⟩]
    rw [e_ok, List.map_map]; rfl
  unfold m_is_ascending b_is_ascending
  rw [e_runF, st, e_Ret, e_All, e_ItO, e, e_ok, e_lstOf, e_ok, e_onB, all_map_id]
  rfl
theorem is_witness_ok (d : PyData) (S : List Ob) (hs : ∀ ds, d = .tuple ds → ds.length ≤ 1000) : m_is_witness [.d d] S = .ok (.w (.d (.bool (witB d)))) S := by
  cases d with
  | tuple ds =>
    have hl := hs ds rfl
    have st : start0 2 [W.d (.tuple ds)] = [.w (.d (.tuple ds)), .un] := rfl
    have a0 : fAll (fItO (fLc (fIt (fVar 0)) [1] (gN 1) (fun _ S => .ok true S) e_is_witness_0)) [.w (.d (.tuple ds)), .un] S = .ok (.d (.bool (ds.all pairB))) S := by
      have e : fLc (fIt (fVar 0)) [1] (gN 1) (fun _ S => .ok true S) e_is_witness_0 [.w (.d (.tuple ds)), .un] S = .ok (.lst ((ds.map pairB).map fun b => .d (.bool b))) S := by
        rw [e_Lc (xs := ds.map .d) (S' := S) _ _ _ (by simp) rfl]
        show (lcL (gN 1) (fun _ S => Res.ok true S) e_is_witness_0 [.w (.d (.tuple ds)), .un] (ds.map .d) S).bind _ = _
        rw [lc_judge e_is_witness_0 pairB 1 _ S ds fun d _ => by simp [e_is_witness_0, is_row_ok, pair_row]]
        rfl
      rw [e_All, e_ItO, e, e_ok, e_lstOf, e_ok, e_onB, all_map_id]
    unfold m_is_witness b_is_witness
    rw [e_runF, st, e_Seq, e_IfS]
    cases q : ds.all pairB with
    | false =>
      rw [q] at a0
      have n : ds.all imgB = false := by
        cases k : ds.all imgB with
        | false => rfl
        | true => rw [all_mono (fun x => img_pair) k] at q; cases q
      simp [-e_All, isTup, a0, witB, witL_all, n]
    | true =>
      rw [q] at a0
      have t0 : fOr (fNot (fT (fIsi "tuple" (fVar 0)))) (fNot (fT (fAll (fItO (fLc (fIt (fVar 0)) [1] (gN 1) (fun _ S => .ok true S) e_is_witness_0))))) [.w (.d (.tuple ds)), .un] S = .ok false S := by
        simp [-e_All, isTup, a0]
      have a1 : fAll (fItO (fLc (fIt (fVar 0)) [1] (gN 1) (fun _ S => .ok true S) e_is_witness_1)) [.w (.d (.tuple ds)), .un] S = .ok (.d (.bool (ds.all imgB))) S := by
        have e : fLc (fIt (fVar 0)) [1] (gN 1) (fun _ S => .ok true S) e_is_witness_1 [.w (.d (.tuple ds)), .un] S = .ok (.lst ((ds.map imgB).map fun b => .d (.bool b))) S := by
          rw [e_Lc (xs := ds.map .d) (S' := S) _ _ _ (by simp) rfl]
          show (lcL (gN 1) (fun _ S => Res.ok true S) e_is_witness_1 [.w (.d (.tuple ds)), .un] (ds.map .d) S).bind _ = _
          rw [lc_judge e_is_witness_1 imgB 1 _ S ds fun d hd => ?_]
          · rfl
          · have hp := List.all_eq_true.mp q d hd
            unfold pairB at hp
            split at hp
            · rename_i a b
              cases h : idxB a with
              | false => simp [e_is_witness_1, is_index_ok, imgB, h]
              | true => cases b <;> simp [e_is_witness_1, is_index_ok, is_int_ok, intB, imgB, h, wholeB]
            · cases hp
        rw [e_All, e_ItO, e, e_ok, e_lstOf, e_ok, e_onB, all_map_id]
      rw [t0, e_flok]
      simp only [Bool.false_eq_true, if_false, e_Nx, e_thenN]
      rw [e_Seq, e_IfS]
      cases k : ds.all imgB with
      | false =>
        rw [k] at a1
        simp [-e_All, a1, witB, witL_all, k]
      | true =>
        rw [k] at a1
        obtain ⟨K, rfl, hK⟩ := imgB_pd k
        have t1 : fNot (fT (fAll (fItO (fLc (fIt (fVar 0)) [1] (gN 1) (fun _ S => .ok true S) e_is_witness_1)))) [.w (.d (.tuple (K.map pd))), .un] S = .ok false S := by
          simp [-e_All, a1]
        have hv : (K.map pd).map fstD = keys K := by unfold keys; rw [List.map_map]; rfl
        have e2 : fFz (fLc (fIt (fVar 0)) [1] (gN 1) (fun _ S => .ok true S) e_is_witness_2) [.w (.d (.tuple (K.map pd))), .un] S = .ok (.d (.list ((keys K).map .int))) S := by
          rw [e_Fz, e_Lc (xs := (K.map pd).map .d) (S' := S) _ _ _ (by simp) rfl]
          show ((lcL (gN 1) (fun _ S => Res.ok true S) e_is_witness_2 [.w (.d (.tuple (K.map pd))), .un] ((K.map pd).map .d) S).bind _).bind _ = _
          rw [lc_all _ e_is_witness_2 _ S (fun t => .d (.int t.1)) K fun q _ => ⟨[.w (.d (.tuple (K.map pd))), .w (.d (pd q))], by simp, by simp [e_is_witness_2, pd]⟩]
          rw [e_ok, e_ok, e_frz]
          have : (K.map fun t => W.d (.int t.1)) = ((keys K).map PyData.int).map W.d := by unfold keys; rw [List.map_map, List.map_map]; rfl
          rw [this, e_datsm]
          rfl
        rw [t1, e_flok]
        simp only [Bool.false_eq_true, if_false, e_Nx, e_thenN]
        have as := ascending_ok (keys K) (by unfold keys; simp at hl ⊢; omega) S
        rw [e_Ret, e_Call, e_Cons, e2]
        simp [as, witB, witL_all, k, hv]
  | _ => simp [m_is_witness, b_is_witness, start0, isTup, witB]
/-! the law's judge -/
theorem loop_wit (P : W) (S : List Ob) : ∀ (ds : List PyData) (last : Int) (x : Sl), -1 ≤ last → ∃ last' x', forL (gN 2) l__law_is_witness_0 (ds.map .d) [.w P, .w (.d (.int last)), x] S = (if witL last ds = true then .nx [.w P, .w (.d (.int last')), x'] S else .rt (.w (.d (.bool false))) S)
  | [], last, x, _ => ⟨last, x, by simp [witL, for_nil]⟩
  | d :: r, last, x, h1 => by
    rw [List.map_cons, for_cons, e_gN, e_setG]
    show ∃ last' x', turnF (l__law_is_witness_0 [.w P, .w (.d (.int last)), .w (.d d)] S) _ = _
    by_cases ht : imgB d = true
    · have hd : ∃ l w, d = .tuple [.int l, .int w] ∧ 0 ≤ l ∧ -2 ≤ w := by
        obtain ⟨K, e, hK⟩ := imgB_pd (ds := [d]) (by simp [ht])
        match K, e with
        | [p], e =>
          simp at e
          exact ⟨p.1, p.2, e, hK p (List.mem_singleton.mpr rfl)⟩
      obtain ⟨l, w, rfl, h0, h2⟩ := hd
      by_cases hv : last < l
      · obtain ⟨last', x', e⟩ := loop_wit P S r l (.w (.d (.tuple [.int l, .int w]))) (by omega)
        refine ⟨last', x', ?_⟩
        have b : l__law_is_witness_0 [.w P, .w (.d (.int last)), .w (.d (.tuple [.int l, .int w]))] S = .nx [.w P, .w (.d (.int l)), .w (.d (.tuple [.int l, .int w]))] S := by
          simp [l__law_is_witness_0, isTup, whole_ok, wholeB, h2, show last + 1 ≤ l by omega]
        rw [b, e_turnN, e]
        simp [witL, ht, fstD, hv]
      · refine ⟨last, x, ?_⟩
        have b : l__law_is_witness_0 [.w P, .w (.d (.int last)), .w (.d (.tuple [.int l, .int w]))] S = .rt (.w (.d (.bool false))) S := by
          simp [l__law_is_witness_0, isTup, whole_ok, wholeB, h2, show ¬ last + 1 ≤ l by omega]
        rw [b, e_turnR]
        simp [witL, ht, fstD, hv]
    · have ht : imgB d = false := by simpa using ht
      refine ⟨last, x, ?_⟩
      have b : l__law_is_witness_0 [.w P, .w (.d (.int last)), .w (.d d)] S = .rt (.w (.d (.bool false))) S := by
        cases d with
        | tuple xs =>
          match xs with
          | [] => simp [l__law_is_witness_0, isTup]
          | [y] => simp [l__law_is_witness_0, isTup]
          | [y, z] =>
            cases hy : wholeB y (last + 1) with
            | false => simp [l__law_is_witness_0, isTup, whole_ok, hy]
            | true =>
              have hi : idxB y = true := by
                cases y <;> simp [wholeB] at hy
                simp [idxB]; omega
              have hz : wholeB z (-2) = false := by simpa [imgB, hi] using ht
              simp [l__law_is_witness_0, isTup, whole_ok, hy, hz]
          | y :: z :: u :: r =>
            have h : ¬ ((r.length : Int) + 1 + 1 + 1 = 2) := by omega
            simp [l__law_is_witness_0, isTup, h]
        | _ => simp [l__law_is_witness_0, isTup]
      rw [b, e_turnR]
      simp [witL, ht]
theorem law_is_witness_ok (d : PyData) (S : List Ob) : m__law_is_witness [.d d] S = .ok (.w (.d (.bool (witB d)))) S := by
  cases d with
  | tuple ds =>
    obtain ⟨last', x', e⟩ := loop_wit (.d (.tuple ds)) S ds (-1) .un (by omega)
    have f0 : fFor (fIt (fVar 0)) (gN 2) l__law_is_witness_0 [.w (.d (.tuple ds)), .w (.d (.int (-1))), .un] S = (if witL (-1) ds = true then .nx [.w (.d (.tuple ds)), .w (.d (.int last')), x'] S else .rt (.w (.d (.bool false))) S) := by
      rw [e_For (xs := ds.map .d) (S' := S) _ (by simp)]
      exact e
    simp [m__law_is_witness, b__law_is_witness, start0, isTup] at f0 ⊢
    rw [f0]
    cases h : witL (-1) ds <;> simp [witB, h]
  | _ => simp [m__law_is_witness, b__law_is_witness, start0, isTup, witB]
end L2.Q.P
namespace L2.Q.P
open PySem PySem.Spec PyProof.Rows
/-! within -/
def inB (d : PyData) (lo hi : Int) : Bool := match d with
  | .int i => decide (lo ≤ i) && decide (i ≤ hi)
  | _ => false
theorem within_ok (d : PyData) (lo hi : Int) (S : List Ob) : m_within [.d d, .d (.int lo), .d (.int hi)] S = .ok (.w (.d (.bool (inB d lo hi)))) S := by
  cases d with
  | int i =>
    by_cases h : lo ≤ i
    · simp [m_within, b_within, start0, is_int_ok, intB, inB, h]
    · simp [m_within, b_within, start0, is_int_ok, intB, inB, h]
  | _ => simp [m_within, b_within, start0, is_int_ok, intB, inB]
end L2.Q.P
namespace L2.Q.P
open PySem PySem.Spec PyProof.Rows
/-! are_bits -/
def bitsB (ds : List PyData) : Bool := ds.all fun d => inB d 0 1
theorem bits_row (d : PyData) (lo hi : Int) (S : List Ob) : m_are_bits [.d d, .d (.int lo), .d (.int hi)] S = .ok (.w (.d (.bool (rowB d lo hi && (match d with | .tuple ds => bitsB ds | _ => false))))) S := by
  cases h : rowB d lo hi with
  | false => simp [m_are_bits, b_are_bits, start0, is_row_ok, h]
  | true =>
    cases d with
    | tuple ds =>
      have st : start0 4 [W.d (.tuple ds), .d (.int lo), .d (.int hi)] = [.w (.d (.tuple ds)), .w (.d (.int lo)), .w (.d (.int hi)), .un] := rfl
      have a0 : fAll (fItO (fLc (fIt (fVar 0)) [3] (gN 3) (fun _ S => .ok true S) e_are_bits_0)) [.w (.d (.tuple ds)), .w (.d (.int lo)), .w (.d (.int hi)), .un] S = .ok (.d (.bool (bitsB ds))) S := by
        have e : fLc (fIt (fVar 0)) [3] (gN 3) (fun _ S => .ok true S) e_are_bits_0 [.w (.d (.tuple ds)), .w (.d (.int lo)), .w (.d (.int hi)), .un] S = .ok (.lst ((ds.map fun d => inB d 0 1).map fun b => .d (.bool b))) S := by
          rw [e_Lc (xs := ds.map .d) (S' := S) _ _ _ (by simp) rfl]
          show (lcL (gN 3) (fun _ S => Res.ok true S) e_are_bits_0 [.w (.d (.tuple ds)), .w (.d (.int lo)), .w (.d (.int hi)), .un] (ds.map .d) S).bind _ = _
          rw [lc_judge e_are_bits_0 (fun d => inB d 0 1) 3 _ S ds fun d _ => by simp [e_are_bits_0, within_ok]]
          rfl
        rw [e_All, e_ItO, e, e_ok, e_lstOf, e_ok, e_onB, all_map_id]
        rfl
      unfold m_are_bits b_are_bits
      rw [e_runF, st, e_Ret, e_AndV]
      simp [-e_All, is_row_ok, h, a0]
    | _ => simp [rowB] at h
theorem are_bits_ok (ds : List PyData) (S : List Ob) : m_are_bits [.d (.tuple ds), .d (.int 0), .d (.int ds.length)] S = .ok (.w (.d (.bool (bitsB ds)))) S := by
  rw [bits_row]
  simp [rowB]
theorem bits_app (xs ys : List PyData) : bitsB (xs ++ ys) = (bitsB xs && bitsB ys) := by unfold bitsB; rw [List.all_append]
end L2.Q.P
namespace L2.Q.P
open PySem PySem.Spec PyProof.Rows
theorem need_ok {d : PyData} (S : List Ob) (hs : Sml d) (h : sumB d = true) : m_need_sum [.d d] S = .ok (.w (.d .none)) S := by
  have e := sum_judged d S hs
  rw [h] at e
  simp [m_need_sum, b_need_sum, start0, e]
theorem need_bad {d : PyData} (S : List Ob) (hs : Sml d) (h : sumB d = false) : m_need_sum [.d d] S = .err "BadSum" S := by
  have e := sum_judged d S hs
  rw [h] at e
  simp [m_need_sum, b_need_sum, start0, e]
end L2.Q.P
namespace L2.Q.P
open PySem PySem.Spec PyProof.Rows
/-! lists: places, cuts, ranges -/
theorem at_mem {α : Type} {xs : List α} {v : Int} (h0 : 0 ≤ v) (h1 : v < xs.length) : ∃ d, atI xs v = some d ∧ d ∈ xs := by
  have hk : v.toNat < xs.length := by omega
  have := atI_nat (List.getElem?_eq_getElem hk)
  rw [show ((v.toNat : Nat) : Int) = v by omega] at this
  exact ⟨_, this, List.getElem_mem hk⟩
theorem cut_len {α : Type} (xs : List α) (lo hi : Option Int) : (cut xs lo hi).length ≤ xs.length := by unfold cut; simp; omega
theorem addT_ok {xs ys : List PyData} {S : List Ob} (h : xs.length + ys.length ≤ 16777216) : oAddA (.d (.tuple xs)) (.d (.tuple ys)) S = .ok (.d (.tuple (xs ++ ys))) S := by rw [e_addT, if_pos h]
theorem str_eq (s : Str) (S : List Ob) (h : SeqAt.shaped (.str s) = true) : oEqS false (.d (.str s)) (.d (.str s)) S = .ok (.d (.bool true)) S := by
  rw [e_eqD false _ _ h h]
  have : PyData.eqv (.str s) (.str s) = true := by simp [PyData.eqv]
  rw [this]; rfl
theorem str_ne (s : Str) (S : List Ob) (h : SeqAt.shaped (.str s) = true) : oEqS true (.d (.str s)) (.d (.str s)) S = .ok (.d (.bool false)) S := by
  rw [e_eqD true _ _ h h]
  have : PyData.eqv (.str s) (.str s) = true := by simp [PyData.eqv]
  rw [this]; rfl
theorem rngL_cons (a : Int) (n : Nat) : rngL a (n + 1) = .d (.int a) :: rngL (a + 1) n := by
  unfold rngL
  rw [List.range_succ_eq_map, List.map_cons, List.map_map]
  congr 1
  · simp
  · apply List.map_congr_left
    intro i _
    simp only [Function.comp, Nat.succ_eq_add_one]
    congr 2
    omega
theorem p8000 {i : Int} (h : i ≤ 16777216) : i < 2 ^ 8000 := by
  have h1 : (2 : Int) ^ 25 ≤ 2 ^ 8000 := by exact_mod_cast Nat.pow_le_pow_right (by omega) (by omega)
  have h2 : (16777216 : Int) < 2 ^ 25 := by decide
  omega
end L2.Q.P
namespace L2.Q.P
open PySem PySem.Spec PyProof.Rows
/-! the deck: [cells, a, b]; what a pick gives -/
/-- the store of a law with a deck alone: the cells, the deck -/
def DK (cs : List Int) (a b : Int) : List Ob := [.lst (cs.map fun i => .d (.int i)), .lst [.ref 0, .d (.int a), .d (.int b)]]
/-- the same with more objects behind -/
def DKR (cs : List Int) (a b : Int) (R : List Ob) : List Ob := .lst (cs.map fun i => .d (.int i)) :: .lst [.ref 0, .d (.int a), .d (.int b)] :: R
structure DkOk (cs : List Int) (a b : Int) : Prop where
  len : cs.length ≤ 63
  bits : ∀ z ∈ cs, Builtin.Int.intBits z ≤ 1048576
  a0 : 0 ≤ a
  a1 : a < 10 ^ 60
  b0 : 0 ≤ b
  b1 : b < 2147483647
def DkR (R S : List Ob) : Prop := ∃ cs a b, S = DKR cs a b R ∧ DkOk cs a b
/-- a deck, and perhaps more objects -/
def Dk (S : List Ob) : Prop := ∃ R, DkR R S
/-- one more object behind -/
theorem Dk.more {S : List Ob} (h : Dk S) (o : Ob) : Dk (S ++ [o]) := by
  obtain ⟨R, cs, a, b, rfl, k⟩ := h
  exact ⟨R ++ [o], cs, a, b, rfl, k⟩
theorem Dk.two {S : List Ob} (h : Dk S) : 2 ≤ S.length := by
  obtain ⟨R, cs, a, b, rfl, k⟩ := h
  simp [DKR]
@[simp] theorem DK_0 (cs : List Int) (a b : Int) : (DK cs a b)[0]? = some (.lst (cs.map fun i => .d (.int i))) := rfl
@[simp] theorem DK_1 (cs : List Int) (a b : Int) : (DK cs a b)[1]? = some (.lst [.ref 0, .d (.int a), .d (.int b)]) := rfl
theorem asD_cells (R : List Ob) (cs : List Int) (a b : Int) : asD (.ref 0) (DKR cs a b R) = some (.list (cs.map .int)) := by
  show (dats (cs.map fun i => W.d (.int i))).map PyData.list = _
  rw [dats_ints]; rfl
theorem cells_ne (R : List Ob) (cs : List Int) (a b : Int) : oEqS true (.ref 0) (.d (.list [])) (DKR cs a b R) = .ok (.d (.bool (!cs.isEmpty))) (DKR cs a b R) := by
  rw [e_eqS true (asD_cells R cs a b) rfl (shp_mono (shp_ints cs) (by omega)) (show shp 64 (.list []) from shp_mono (shp_ints []) (by omega)), eqv_nil]
  cases cs <;> rfl
@[simp] theorem DKR_0 (R : List Ob) (cs : List Int) (a b : Int) : (DKR cs a b R)[0]? = some (.lst (cs.map fun i => .d (.int i))) := rfl
@[simp] theorem DKR_1 (R : List Ob) (cs : List Int) (a b : Int) : (DKR cs a b R)[1]? = some (.lst [.ref 0, .d (.int a), .d (.int b)]) := rfl
@[simp] theorem DKR_s1 (R : List Ob) (cs : List Int) (a b a' b' : Int) : (DKR cs a b R).set 1 (.lst [.ref 0, .d (.int a'), .d (.int b')]) = DKR cs a' b' R := rfl
@[simp] theorem DKR_s0 (R : List Ob) (cs cs' : List Int) (a b : Int) : (DKR cs a b R).set 0 (.lst (cs'.map fun i => .d (.int i))) = DKR cs' a b R := rfl
theorem pop0 (R : List Ob) (c : Int) (cs : List Int) (a b : Int) (h : cs.length < 100) : popSt (.ref 0) (.d (.int 0)) (DKR (c :: cs) a b R) = .ok (.d (.int c)) (DKR cs a b R) := by
  unfold popSt
  simp only [DKR_0, List.length_map, List.map_cons, List.length_cons, ix0, List.getElem?_cons_zero, List.eraseIdx_cons_zero]
  rw [if_pos (by omega)]
  rfl
/-- behind the reading of a cell -/
theorem pick_tail (R : List Ob) (cs : List Int) (a b many : Int) (h : DkOk cs a b) (hm : 0 < many) (hm2 : many < 2 ^ 8000) (x y : Sl) : ∃ v S', outF (thenF (fIfS (fT (fBin oGe (fBin oIx (fVar 0) (fC (PyData.int 1))) (fBin oPow (fC (PyData.int 10)) (fC (PyData.int 6)))))
          (fSeq (fSet 5 (fBin oMod (fInt (fBin oIx (fVar 0) (fC (PyData.int 1)))) (fVar 1)))
            (fSeq (fSetIx (fBin oDiv (fBin oIx (fVar 0) (fC (PyData.int 1))) (fVar 1)) (fVar 0) (fC (PyData.int 1))) (fRet (fVar 5)))) fNx [.w (.ref 1), .w (.d (.int many)), .w (.ref 0), x, y, .un] (DKR cs a b R))
        (fSeq (fSetIx (fBin oMod (fInt (fBin oAddA (fBin oMulA (fBin oIx (fVar 0) (fC (PyData.int 2))) (fC (PyData.int 48271))) (fC (PyData.int 11)))) (fC (PyData.int 2147483647))) (fVar 0) (fC (PyData.int 2)))
          (fRet (fBin oMod (fInt (fBin oDiv (fBin oIx (fVar 0) (fC (PyData.int 2))) (fC (PyData.int 53)))) (fVar 1))))) = .ok (.w (.d (.int v))) S' ∧ 0 ≤ v ∧ v < many ∧ DkR R S' := by
  have k1 : modC a many = true := modC_of hm
  have k2 : divC a many = true := divC_of hm hm2
  have hb0 := h.b0
  have hb1 := h.b1
  have k3 : mulC b 48271 = true := mulC_of 32 32 (by omega) (by omega) (by omega) (by omega) (by omega)
  have k4 : ∀ i, modC i 2147483647 = true := fun i => modC_of (by omega)
  have k5 : ∀ i, divC i 53 = true := fun i => divC_of (by omega) (by omega)
  have k6 : ∀ i, modC i many = true := fun i => modC_of hm
  by_cases q : (10 : Int) ^ 6 ≤ a
  · have q' : (1000000 : Int) ≤ a := q
    have ha0 := h.a0
    have ha1 := h.a1
    refine ⟨a % many, DKR cs (a / many) b R, ?_, Int.emod_nonneg _ (by omega), Int.emod_lt_of_pos _ hm, cs, a / many, b, rfl, h.len, h.bits, Int.ediv_nonneg ha0 (by omega), ?_, h.b0, h.b1⟩
    · simp [pow6, q', k1, k2]
    · have := Int.ediv_le_self many ha0
      omega
  · have q' : ¬ (1000000 : Int) ≤ a := q
    refine ⟨(b * 48271 + 11) % 2147483647 / 53 % many, DKR cs a ((b * 48271 + 11) % 2147483647) R, ?_, Int.emod_nonneg _ (by omega), Int.emod_lt_of_pos _ hm, cs, a, _, rfl, h.len, h.bits, h.a0, h.a1, Int.emod_nonneg _ (by omega), Int.emod_lt_of_pos _ (by omega)⟩
    simp [pow6, q', k3, k4, k5, k6]
theorem pickR_ok {R S : List Ob} (hS : DkR R S) {many : Int} (hm : 0 < many) (hm2 : many < 2 ^ 8000) : ∃ v S', m__law_pick [.ref 1, .d (.int many)] S = .ok (.w (.d (.int v))) S' ∧ 0 ≤ v ∧ v < many ∧ DkR R S' := by
  obtain ⟨cs, a, b, rfl, h⟩ := hS
  unfold m__law_pick b__law_pick
  simp only [e_runF, e_Seq]
  have e0 : fSet 2 (fBin oIx (fVar 0) (fC (PyData.int 0))) (start0 6 [W.ref 1, W.d (PyData.int many)]) (DKR cs a b R) = .nx [.w (.ref 1), .w (.d (.int many)), .w (.ref 0), .un, .un, .un] (DKR cs a b R) := by simp [start0]
  rw [e0, e_thenN]
  -- the reading of a cell
  have mid : ∃ cs' a' b' x y, DkOk cs' a' b' ∧ (fIfS (fAnd (fT (fBin oLt (fBin oIx (fVar 0) (fC (PyData.int 1))) (fBin oPow (fC (PyData.int 10)) (fC (PyData.int 6))))) (fT (fBin (oEqS true) (fVar 2) (fFz (fNewL fNil)))))
      (fSeq (fSet 3 (fPopS (fVar 2) (fC (PyData.int 0))))
        (fSeq (fSet 4 (fBin oAddA (fBin oMulA (fC (PyData.int 2)) (fUn oAbs (fVar 3))) (fInt (fBin oLt (fVar 3) (fC (PyData.int 0))))))
          (fIfS (fT (fBin oGe (fVar 4) (fBin oPow (fC (PyData.int 10)) (fC (PyData.int 18)))))
            (fSetIx (fBin oMod (fInt (fVar 4)) (fBin oPow (fC (PyData.int 10)) (fC (PyData.int 60)))) (fVar 0) (fC (PyData.int 1)))
            (fSetIx (fBin oMod (fInt (fBin oAddA (fBin oAddA (fBin oMulA (fBin oIx (fVar 0) (fC (PyData.int 2))) (fC (PyData.int 69621))) (fBin oMulA (fBin oMod (fInt (fVar 4)) (fC (PyData.int 2147483563))) (fC (PyData.int 40014)))) (fC (PyData.int 3)))) (fC (PyData.int 2147483563))) (fVar 0) (fC (PyData.int 2))))))
      fNx) [.w (.ref 1), .w (.d (.int many)), .w (.ref 0), .un, .un, .un] (DKR cs a b R) = .nx [.w (.ref 1), .w (.d (.int many)), .w (.ref 0), x, y, .un] (DKR cs' a' b' R) := by
    by_cases q : a < 10 ^ 6
    · have q' : a < 1000000 := q
      cases cs with
      | nil => exact ⟨[], a, b, .un, .un, h, by simp [pow6, q', cells_ne]⟩
      | cons c cs =>
        have hl : cs.length < 100 := by have := h.len; simp at this; omega
        have hc := h.bits c (List.mem_cons_self ..)
        have k0 : DkOk cs a b := ⟨by have := h.len; simp at this; omega, fun z hz => h.bits z (List.mem_cons_of_mem _ hz), h.a0, h.a1, h.b0, h.b1⟩
        have k1 : mulC 2 (if c < 0 then -c else c) = true := by
          refine mulC_log ?_
          have e : (if c < 0 then -c else c).natAbs = c.natAbs := by split <;> omega
          rw [e]
          have := log2_bits c
          have e2 : (2 : Int).natAbs.log2 = 1 := by decide
          omega
        generalize hz : 2 * (if c < 0 then -c else c) + (if c < 0 then 1 else 0) = z
        have z0 : 0 ≤ z := by rw [← hz]; split <;> omega
        have k2 : ∀ i, modC i 1000000000000000000000000000000000000000000000000000000000000 = true := fun i => modC_of (by decide)
        have k3 : ∀ i, modC i 2147483563 = true := fun i => modC_of (by omega)
        have hb0 := h.b0
        have hb1 := h.b1
        have k4 : mulC b 69621 = true := mulC_of 32 32 (by omega) (by omega) (by omega) (by omega) (by omega)
        have k5 : mulC (z % 2147483563) 40014 = true := by
          have := Int.emod_lt_of_pos z (show (0 : Int) < 2147483563 by omega)
          have := Int.emod_nonneg z (show (2147483563 : Int) ≠ 0 by omega)
          exact mulC_of 32 32 (by omega) (by omega) (by omega) (by omega) (by omega)
        by_cases q2 : (10 : Int) ^ 18 ≤ z
        · have q2' : (1000000000000000000 : Int) ≤ z := q2
          refine ⟨cs, z % 10 ^ 60, b, .w (.d (.int c)), .w (.d (.int z)), ⟨k0.len, k0.bits, Int.emod_nonneg _ (by decide), Int.emod_lt_of_pos _ (by decide), h.b0, h.b1⟩, ?_⟩
          simp [pow6, pow18, pow60, q', cells_ne, pop0, hl, k1, hz, q2', k2]
        · have q2' : ¬ (1000000000000000000 : Int) ≤ z := q2
          refine ⟨cs, a, (b * 69621 + z % 2147483563 * 40014 + 3) % 2147483563, .w (.d (.int c)), .w (.d (.int z)), ⟨k0.len, k0.bits, h.a0, h.a1, Int.emod_nonneg _ (by omega), ?_⟩, ?_⟩
          · have := Int.emod_lt_of_pos (b * 69621 + z % 2147483563 * 40014 + 3) (show (0 : Int) < 2147483563 by omega)
            omega
          · simp [pow6, pow18, pow60, q', cells_ne, pop0, hl, k1, hz, q2', k3, k4, k5]
    · have q' : ¬ a < 1000000 := q
      exact ⟨cs, a, b, .un, .un, h, by simp [pow6, q']⟩
  obtain ⟨cs', a', b', x, y, h', e⟩ := mid
  rw [e_Seq, e, e_thenN, e_Seq]
  exact pick_tail R cs' a' b' many h' hm hm2 x y
theorem pick_ok {S : List Ob} (hS : Dk S) {many : Int} (hm : 0 < many) (hm2 : many < 2 ^ 8000) : ∃ v S', m__law_pick [.ref 1, .d (.int many)] S = .ok (.w (.d (.int v))) S' ∧ 0 ≤ v ∧ v < many ∧ Dk S' := by
  obtain ⟨R, h⟩ := hS
  obtain ⟨v, S', e, a, b, d⟩ := pickR_ok h hm hm2
  exact ⟨v, S', e, a, b, R, d⟩
theorem deck_ok (ns : List Int) (hl : ns.length ≤ 63) : m__law_deck [.d (.list (ns.map .int))] [] = .ok (.own (.lst [.ref 0, .d (.int 0), .d (.int 7919)])) [.lst (ns.map fun i => .d (.int i))] := by
  have hc : cut (ns.map PyData.int) none (some 63) = ns.map .int := by
    unfold cut
    have : HT.sIx (ns.map PyData.int).length (ns.map PyData.int).length (some 63) = (ns.map PyData.int).length := by
      have := HT.sIx_nat (ns.map PyData.int).length (ns.map PyData.int).length 63
      rw [show ((63 : Nat) : Int) = 63 from rfl] at this
      rw [this]; simp; omega
    rw [this, HT.sIx_none]
    simp
    exact List.take_of_length_le (by simp)
  have e : fLc (fIt (fCut (fVar 0) fNoP (fP (fC (.int 63))))) [1] (gN 1) (fun _ S => .ok true S) e__law_deck_0 [.w (.d (.list (ns.map .int))), .un] [] = .ok (.lst (ns.map fun i => .d (.int i))) [] := by
    rw [e_Lc (xs := ns.map fun i => .d (.int i)) (S' := []) _ _ _ (by simp [hc]) rfl]
    show (lcL (gN 1) (fun _ S => Res.ok true S) e__law_deck_0 [.w (.d (.list (ns.map .int))), .un] (ns.map fun i => .d (.int i)) []).bind _ = _
    rw [lc_pure (gN 1) _ e__law_deck_0 _ [] (fun _ => true) id _ fun w hw => ?_]
    · rw [List.filter_eq_self.mpr (fun _ _ => rfl), List.map_id]; rfl
    · obtain ⟨i, _, rfl⟩ := List.mem_map.mp hw
      exact ⟨_, rfl, rfl, fun _ => by simp [e__law_deck_0]⟩
  have st : start0 2 [W.d (.list (ns.map .int))] = [.w (.d (.list (ns.map .int))), .un] := rfl
  unfold m__law_deck b__law_deck
  rw [e_runF, st, e_RetO, e_NewL, e_Cons, e_Sto, e]
  simp
end L2.Q.P
namespace L2.Q.P
open PySem PySem.Spec PyProof.Rows
/-! images and changes, told and refused -/
theorem need_wit_ok {d : PyData} (S : List Ob) (hs : ∀ ds, d = .tuple ds → ds.length ≤ 1000) (h : witB d = true) : m_need_witness [.d d] S = .ok (.w (.d .none)) S := by
  have e := is_witness_ok d S hs
  rw [h] at e
  simp [m_need_witness, b_need_witness, start0, e]
theorem need_wit_bad {d : PyData} (S : List Ob) (hs : ∀ ds, d = .tuple ds → ds.length ≤ 1000) (h : witB d = false) : m_need_witness [.d d] S = .err "BadWitness" S := by
  have e := is_witness_ok d S hs
  rw [h] at e
  simp [m_need_witness, b_need_witness, start0, e]
theorem image_of_ok {T K : Prs} (g : Int) (S : List Ob) {m : Int} (hm : m ≤ 2 ^ 20) (hT : Rt T) (hV : ∀ t ∈ T, t.1 / 2 < m) (hK : Wit m K) (hw : witB (pD K) = true) (hl : K.length ≤ 1000) (hn : (keys K).Nodup) :
    m_image_of [.d (sD T g), .d (pD K)] S = .ok (.w (.d (PT (mvT K T) g))) (S ++ [.dct (kvN K)]) := by
  have e1 := need_ok (d := sD T g) S (Rt.sml (by have := hT.len; omega) g) (hT.sum g)
  have e2 := need_wit_ok (d := pD K) S (fun ds e => by unfold pD at e; cases e; simpa using hl) hw
  have e3 := dct_pd hn S
  have hS : dctS (.ref S.length) (S ++ [.dct (kvN K)]) = some (kvN K) := dctS_at (by simp)
  have e4 := (image_ok hS g hm hT hV hK).1
  simp [m_image_of, b_image_of, start0, e1, e2, e3, e4]
theorem image_of_wit {T : Prs} (g : Int) {d : PyData} (S : List Ob) (hT : Rt T) (hs : ∀ ds, d = .tuple ds → ds.length ≤ 1000) (h : witB d = false) : m_image_of [.d (sD T g), .d d] S = .err "BadWitness" S := by
  have e1 := need_ok (d := sD T g) S (Rt.sml (by have := hT.len; omega) g) (hT.sum g)
  have e2 := need_wit_bad S hs h
  simp [m_image_of, b_image_of, start0, e1, e2]
theorem image_of_sum {d : PyData} (S : List Ob) : m_image_of [.d .none, .d d] S = .err "BadSum" S := by
  have e1 := need_bad (d := .none) S (fun ds y e => nomatch e) rfl
  simp [m_image_of, b_image_of, start0, e1]
theorem bits_of {vs : List Int} (hb : ∀ x ∈ vs, x = 0 ∨ x = 1) : bitsB (vs.map .int) = true := by
  unfold bitsB
  rw [List.all_map, List.all_eq_true]
  intro x hx
  rcases hb x hx with rfl | rfl <;> rfl
theorem value_by_ok {vs : List Int} {l : Int} (S : List Ob) (hb : ∀ x ∈ vs, x = 0 ∨ x = 1) (h0 : -2 ≤ l) (h : l / 2 < vs.length) : m_value_by [.d (.int l), .d (vD vs)] S = .ok (.w (.d (.int (vl vs l)))) S := by
  by_cases h1 : l = -1
  · subst h1
    simp [m_value_by, b_value_by, start0, vl]
  · by_cases h2 : l = -2
    · subst h2
      simp [m_value_by, b_value_by, start0, vl]
    · have k1 : divC l 2 = true := divC_of (by omega) (by omega)
      have k3 := at_vs (vs := vs) (k := l / 2) (by omega) h
      have n : ¬ l < 0 := by omega
      rw [vl_pos (by omega)]
      by_cases q : xof vs (l / 2) = l % 2
      · simp [m_value_by, b_value_by, start0, vD, k1, k3, n, bitAnd_m1, tb, trueB, q]
      · simp [m_value_by, b_value_by, start0, vD, k1, k3, n, bitAnd_m1, tb, trueB, q]
/-- what the law tells of a literal -/
theorem law_val_ok {vs : List Int} {l : Int} (a b c d : Sl) (S : List Ob) (hb : ∀ x ∈ vs, x = 0 ∨ x = 1) (h0 : -2 ≤ l) (h : l / 2 < vs.length) :
    fInt (fOrV (fBin (oEqS false) (fVar 4) (fUn oNeg (fC (.int 1)))) (fAndV (fBin oGe (fVar 4) (fC (.int 0))) (fCall m__law_true (fCons (fVar 4) (fCons (fVar 0) fNil))))) [.w (.d (vD vs)), a, b, c, .w (.d (.int l))] S = .ok (.d (.int (vl vs l))) S := by
  by_cases h1 : l = -1
  · subst h1
    simp [vl]
  · by_cases h2 : l = -2
    · subst h2
      simp [vl]
    · have n : 0 ≤ l := by omega
      have e := true_ok (vs := vs) (l := l) S n h
      rw [vl_pos n]
      cases q : trueB vs l with
      | true => rw [q] at e; simp [h1, n, e, tb, q]
      | false => rw [q] at e; simp [h1, n, e, tb, q]
theorem ix_set {vs : List Int} {k : Int} (h0 : 0 ≤ k) (h : k < vs.length) (x : Int) : ixN ((vs.map fun i => W.d (.int i)).length) k = some k.toNat ∧ (vs.map fun i => W.d (.int i)).set k.toNat (.d (.int x)) = (vs.set k.toNat x).map fun i => W.d (.int i) := by
  constructor
  · unfold ixN
    rw [List.length_map, if_pos h0, if_pos h]
  · rw [List.map_set]
/-- the walk over the witness -/
theorem loop_changed {vs : List Int} (hb : ∀ x ∈ vs, x = 0 ∨ x = 1) (Q : Sl) (S : List Ob) : ∀ (K : Prs) (r : List Int) (x y z : Sl), Wit vs.length K → r.length = vs.length → ∃ x' y',
    forL (gT 2 (gsC (gN 3) (gsC (gN 4) gsN))) l_changed_0 ((K.map pd).map .d) [.w (.d (vD vs)), Q, .own (.lst (r.map fun i => .d (.int i))), x, y, z] S = .nx [.w (.d (vD vs)), Q, .own (.lst ((chg vs K r).map fun i => .d (.int i))), x', y', z] S
  | [], r, x, y, z, _, _ => ⟨x, y, rfl⟩
  | p :: K, r, x, y, z, h, hl => by
    have hp := h p (List.mem_cons_self ..)
    have e := value_by_ok (vs := vs) (l := p.2) S hb hp.2.2.1 (by omega)
    obtain ⟨i1, i2⟩ := ix_set (vs := r) (k := p.1) hp.1 (by omega) (vl vs p.2)
    obtain ⟨x', y', e2⟩ := loop_changed hb Q S K (r.set p.1.toNat (vl vs p.2)) (.w (.d (.int p.1))) (.w (.d (.int p.2))) z (fun q hq => h q (List.mem_cons_of_mem _ hq)) (by rw [List.length_set]; exact hl)
    refine ⟨x', y', ?_⟩
    rw [List.map_cons, List.map_cons, for_cons]
    have g : gT 2 (gsC (gN 3) (gsC (gN 4) gsN)) (.d (pd p)) [.w (.d (vD vs)), Q, .own (.lst (r.map fun i => .d (.int i))), x, y, z] = some [.w (.d (vD vs)), Q, .own (.lst (r.map fun i => .d (.int i))), .w (.d (.int p.1)), .w (.d (.int p.2)), z] := by simp [pd]
    have b : l_changed_0 [.w (.d (vD vs)), Q, .own (.lst (r.map fun i => .d (.int i))), .w (.d (.int p.1)), .w (.d (.int p.2)), z] S = .nx [.w (.d (vD vs)), Q, .own (.lst ((r.set p.1.toNat (vl vs p.2)).map fun i => .d (.int i))), .w (.d (.int p.1)), .w (.d (.int p.2)), z] S := by
      have v : fCall m_value_by (fCons (fVar 4) (fCons (fVar 0) fNil)) [.w (.d (vD vs)), Q, .own (.lst (r.map fun i => .d (.int i))), .w (.d (.int p.1)), .w (.d (.int p.2)), z] S = .ok (.d (.int (vl vs p.2))) S := by simp [e]
      unfold l_changed_0
      rw [e_PutO, v, e_flok]
      simp only [List.getElem?_cons_succ, List.getElem?_cons_zero, e_var, e_flok, i1, List.set_cons_succ, List.set_cons_zero]
      rw [i2]
    rw [g, e_setG, b, e_turnN]
    exact e2
theorem loop_law_changed {vs : List Int} (hb : ∀ x ∈ vs, x = 0 ∨ x = 1) {n : Nat} {S : List Ob} {K0 : Prs} (hS : dctS (.ref n) S = some (kvN K0)) (hn : (keys K0).Nodup) : ∀ (K : Prs) (r : List Int) (x y : Sl), (∀ p ∈ K, p ∈ K0) → Wit vs.length K → r.length = vs.length → ∃ x' y',
    forL (gN 3) l__law_changed_0 ((keys K).map fun k => .d (.int k)) [.w (.d (vD vs)), .w (.ref n), .own (.lst (r.map fun i => .d (.int i))), x, y] S = .nx [.w (.d (vD vs)), .w (.ref n), .own (.lst ((chg vs K r).map fun i => .d (.int i))), x', y'] S
  | [], r, x, y, _, _, _ => ⟨x, y, rfl⟩
  | p :: K, r, x, y, hm, h, hl => by
    have hp := h p (List.mem_cons_self ..)
    have e := law_val_ok (vs := vs) (l := p.2) (.w (.ref n)) (.own (.lst (r.map fun i => .d (.int i)))) (.w (.d (.int p.1))) .un S hb hp.2.2.1 (by omega)
    have gl := get_lk hS (lkO_of hn (hm p (List.mem_cons_self ..)))
    obtain ⟨i1, i2⟩ := ix_set (vs := r) (k := p.1) hp.1 (by omega) (vl vs p.2)
    obtain ⟨x', y', e2⟩ := loop_law_changed hb hS hn K (r.set p.1.toNat (vl vs p.2)) (.w (.d (.int p.1))) (.w (.d (.int p.2))) (fun q hq => hm q (List.mem_cons_of_mem _ hq)) (fun q hq => h q (List.mem_cons_of_mem _ hq)) (by rw [List.length_set]; exact hl)
    refine ⟨x', y', ?_⟩
    show forL _ _ (W.d (.int p.1) :: (keys K).map fun k => W.d (.int k)) _ S = _
    rw [for_cons, e_gN, e_setG]
    have b : l__law_changed_0 [.w (.d (vD vs)), .w (.ref n), .own (.lst (r.map fun i => .d (.int i))), .w (.d (.int p.1)), y] S = .nx [.w (.d (vD vs)), .w (.ref n), .own (.lst ((r.set p.1.toNat (vl vs p.2)).map fun i => .d (.int i))), .w (.d (.int p.1)), .w (.d (.int p.2))] S := by
      have s : fSet 4 (fSget (fVar 1) (fVar 3)) [.w (.d (vD vs)), .w (.ref n), .own (.lst (r.map fun i => .d (.int i))), .w (.d (.int p.1)), y] S = .nx [.w (.d (vD vs)), .w (.ref n), .own (.lst (r.map fun i => .d (.int i))), .w (.d (.int p.1)), .w (.d (.int p.2))] S := by simp [gl]
      unfold l__law_changed_0
      rw [e_Seq, s, e_thenN, e_PutO]
      have e := law_val_ok (vs := vs) (l := p.2) (.w (.ref n)) (.own (.lst (r.map fun i => .d (.int i)))) (.w (.d (.int p.1))) .un S hb hp.2.2.1 (by omega)
      rw [e, e_flok]
      simp only [List.getElem?_cons_succ, List.getElem?_cons_zero, e_var, e_flok, i1, List.set_cons_succ, List.set_cons_zero]
      rw [i2]
    show turnF (l__law_changed_0 [.w (.d (vD vs)), .w (.ref n), .own (.lst (r.map fun i => .d (.int i))), .w (.d (.int p.1)), y] S) _ = _
    rw [b, e_turnN]
    exact e2
theorem all_chg {vs : List Int} (a b c d : Sl) {K : Prs} (j : PyData → Bool) (hj : ∀ p ∈ K, j (pd p) = (decide (0 ≤ p.1) && decide (p.1 ≤ vs.length - 1) && decide (p.2 / 2 < vs.length))) (S : List Ob) :
    fAll (fItO (fLc (fIt (fVar 1)) [5] (gN 5) (fun _ S => .ok true S) e_changed_0)) [.w (.d (vD vs)), .w (.d (pD K)), b, c, d, .un] S = .ok (.d (.bool ((K.map pd).all j))) S := by
  have e : fLc (fIt (fVar 1)) [5] (gN 5) (fun _ S => .ok true S) e_changed_0 [.w (.d (vD vs)), .w (.d (pD K)), b, c, d, .un] S = .ok (.lst (((K.map pd).map j).map fun b => .d (.bool b))) S := by
    rw [e_Lc (xs := (K.map pd).map .d) (S' := S) _ _ _ (by simp [pD]) rfl]
    show (lcL (gN 5) (fun _ S => Res.ok true S) e_changed_0 [.w (.d (vD vs)), .w (.d (pD K)), b, c, d, .un] ((K.map pd).map .d) S).bind _ = _
    rw [lc_judge e_changed_0 j 5 _ S (K.map pd) fun q hq => ?_]
    · rfl
    · obtain ⟨p, hp, rfl⟩ := List.mem_map.mp hq
      have k1 : divC p.2 2 = true := divC_of (by omega) (by omega)
      have w := within_ok (.int p.1) 0 ((vs.length : Int) - 1) S
      rw [hj p hp]
      cases h : (decide (0 ≤ p.1) && decide (p.1 ≤ vs.length - 1)) with
      | false =>
        have : inB (.int p.1) 0 ((vs.length : Int) - 1) = false := h
        rw [this] at w
        simp [e_changed_0, pd, vD, w]
      | true =>
        have : inB (.int p.1) 0 ((vs.length : Int) - 1) = true := h
        rw [this] at w
        simp [e_changed_0, pd, vD, w, k1]
  rw [e_All, e_ItO, e, e_ok, e_lstOf, e_ok, e_onB, all_map_id]
def inW (n : Int) (d : PyData) : Bool := match d with
  | .tuple [.int k, .int l] => decide (0 ≤ k) && decide (k ≤ n - 1) && decide (l / 2 < n)
  | _ => false
section
variable {vs : List Int} {K : Prs} (S : List Ob) (hb : ∀ x ∈ vs, x = 0 ∨ x = 1) (hz : vs.length ≤ 1000)
include hb
theorem chg_t0 (P b c d e : Sl) : fOr (fNot (fT (fIsi "tuple" (fVar 0)))) (fNot (fT (fCall m_are_bits (fCons (fVar 0) (fCons (fC (.int 0)) (fCons (fLen (fIt (fVar 0))) fNil)))))) [.w (.d (vD vs)), P, b, c, d, e] S = .ok false S := by
  have a := are_bits_ok (vs.map .int) S
  rw [bits_of hb, List.length_map] at a
  simp [isTup, vD, a]
include hz
theorem changed_ok (hK : Wit vs.length K) (hw : witB (pD K) = true) (hl : K.length ≤ 1000) : m_changed [.d (vD vs), .d (pD K)] S = .ok (.w (.d (vD (chg vs K vs)))) S := by
  have e2 := need_wit_ok (d := pD K) S (fun ds e => by unfold pD at e; cases e; simpa using hl) hw
  have st : start0 6 [W.d (vD vs), .d (pD K)] = [.w (.d (vD vs)), .w (.d (pD K)), .un, .un, .un, .un] := rfl
  have t0 := chg_t0 S hb (.w (.d (pD K))) .un .un .un .un
  have t1 := all_chg (vs := vs) .un .un .un .un (K := K) (inW vs.length) (fun p hp => rfl) S
  have t2 : (K.map pd).all (inW vs.length) = true := by
    rw [List.all_map, List.all_eq_true]
    intro p hp
    have := hK p hp
    show (decide (0 ≤ p.1) && decide (p.1 ≤ vs.length - 1) && decide (p.2 / 2 < vs.length)) = true
    simp
    omega
  rw [t2] at t1
  obtain ⟨x', y', e4⟩ := loop_changed hb (.w (.d (pD K))) S K vs .un .un .un hK rfl
  unfold m_changed b_changed
  rw [e_runF, st, e_Seq, e_IfS, t0, e_flok]
  simp only [Bool.false_eq_true, if_false, e_Nx, e_thenN]
  have s1 : fDrop (fCall m_need_witness (fCons (fVar 1) fNil)) [.w (.d (vD vs)), .w (.d (pD K)), .un, .un, .un, .un] S = .nx [.w (.d (vD vs)), .w (.d (pD K)), .un, .un, .un, .un] S := by simp [e2]
  have s2 : fIfS (fNot (fT (fAll (fItO (fLc (fIt (fVar 1)) [5] (gN 5) (fun _ S => .ok true S) e_changed_0))))) (fRaise "BadWitness") fNx [.w (.d (vD vs)), .w (.d (pD K)), .un, .un, .un, .un] S = .nx [.w (.d (vD vs)), .w (.d (pD K)), .un, .un, .un, .un] S := by simp [-e_All, t1]
  have s3 : fSetO 2 (fNewL (fIt (fVar 0))) [.w (.d (vD vs)), .w (.d (pD K)), .un, .un, .un, .un] S = .nx [.w (.d (vD vs)), .w (.d (pD K)), .own (.lst (vs.map fun i => .d (.int i))), .un, .un, .un] S := by
    simp [vD]
  have s4 : fFor (fIt (fVar 1)) (gT 2 (gsC (gN 3) (gsC (gN 4) gsN))) l_changed_0 [.w (.d (vD vs)), .w (.d (pD K)), .own (.lst (vs.map fun i => .d (.int i))), .un, .un, .un] S = .nx [.w (.d (vD vs)), .w (.d (pD K)), .own (.lst ((chg vs K vs).map fun i => .d (.int i))), x', y', .un] S := by
    rw [e_For (xs := (K.map pd).map .d) (S' := S) _ (by simp [pD])]
    exact e4
  rw [e_Seq, s1, e_thenN, e_Seq, s2, e_thenN, e_Seq, s3, e_thenN, e_Seq, s4, e_thenN]
  simp [dats_ints, vD]
theorem changed_wit {d : PyData} (hs : ∀ ds, d = .tuple ds → ds.length ≤ 1000) (h : witB d = false) : m_changed [.d (vD vs), .d d] S = .err "BadWitness" S := by
  have e2 := need_wit_bad (d := d) S hs h
  have st : start0 6 [W.d (vD vs), .d d] = [.w (.d (vD vs)), .w (.d d), .un, .un, .un, .un] := rfl
  have t0 := chg_t0 S hb (.w (.d d)) .un .un .un .un
  unfold m_changed b_changed
  rw [e_runF, st, e_Seq, e_IfS, t0, e_flok]
  simp [e2]
theorem changed_out (hw : witB (pD K) = true) (hl : K.length ≤ 1000) (hK : (K.map pd).all (inW vs.length) = false) : m_changed [.d (vD vs), .d (pD K)] S = .err "BadWitness" S := by
  have e2 := need_wit_ok (d := pD K) S (fun ds e => by unfold pD at e; cases e; simpa using hl) hw
  have st : start0 6 [W.d (vD vs), .d (pD K)] = [.w (.d (vD vs)), .w (.d (pD K)), .un, .un, .un, .un] := rfl
  have t0 := chg_t0 S hb (.w (.d (pD K))) .un .un .un .un
  have t1 := all_chg (vs := vs) .un .un .un .un (K := K) (inW vs.length) (fun p hp => rfl) S
  rw [hK] at t1
  unfold m_changed b_changed
  rw [e_runF, st, e_Seq, e_IfS, t0, e_flok]
  simp only [Bool.false_eq_true, if_false, e_Nx, e_thenN]
  have s1 : fDrop (fCall m_need_witness (fCons (fVar 1) fNil)) [.w (.d (vD vs)), .w (.d (pD K)), .un, .un, .un, .un] S = .nx [.w (.d (vD vs)), .w (.d (pD K)), .un, .un, .un, .un] S := by simp [e2]
  rw [e_Seq, s1, e_thenN, e_Seq, e_IfS]
  simp [-e_All, t1]
theorem law_changed_ok {n : Nat} {o : Ob} (ho : S[n]? = some o) (hd : o = .dct (kvN K) ∨ o = .fdc (kvN K)) (hK : Wit vs.length K) (hn : (keys K).Nodup) (hl : K.length ≤ 1000) :
    m__law_changed [.d (vD vs), .ref n] S = .ok (.w (.d (vD (chg vs K vs)))) (S.set n (.fdc (kvN K))) := by
  have hS' : (S.set n (.fdc (kvN K)))[n]? = some (.fdc (kvN K)) := List.getElem?_set_self (List.getElem?_eq_some_iff.mp ho).1
  have hS := dctS_fdc hS'
  have st : start0 5 [W.d (vD vs), .ref n] = [.w (.d (vD vs)), .w (.ref n), .un, .un, .un] := rfl
  obtain ⟨x', y', e4⟩ := loop_law_changed hb hS hn K vs .un .un (fun _ h => h) hK rfl
  have km : ((kvN K).map fun p => W.d (kD p.1)) = (keys K).map fun k => W.d (.int k) := by unfold kvN keys; rw [List.map_map, List.map_map]; rfl
  have ek : keysF (.ref n) S = .ok ((keys K).map fun k => W.d (.int k)) (S.set n (.fdc (kvN K))) := by
    have hk : (kvN K).length ≤ 16777216 := by rw [kvN_len]; omega
    rw [← km]
    rcases hd with rfl | rfl
    · exact e_keysD ho hk
    · rw [e_keysF ho hk]
      congr 1
      obtain ⟨h, e⟩ := List.getElem?_eq_some_iff.mp ho
      rw [← e, List.set_getElem_self]
  have s3 : fSetO 2 (fNewL (fIt (fVar 0))) [.w (.d (vD vs)), .w (.ref n), .un, .un, .un] S = .nx [.w (.d (vD vs)), .w (.ref n), .own (.lst (vs.map fun i => .d (.int i))), .un, .un] S := by
    simp [vD]
  have s4 : fFor (fKeysF (fVar 1)) (gN 3) l__law_changed_0 [.w (.d (vD vs)), .w (.ref n), .own (.lst (vs.map fun i => .d (.int i))), .un, .un] S = .nx [.w (.d (vD vs)), .w (.ref n), .own (.lst ((chg vs K vs).map fun i => .d (.int i))), x', y'] (S.set n (.fdc (kvN K))) := by
    rw [e_For (xs := (keys K).map fun k => W.d (.int k)) (S' := S.set n (.fdc (kvN K))) _ (by simp [ek])]
    exact e4
  unfold m__law_changed b__law_changed
  rw [e_runF, st, e_Seq, s3, e_thenN, e_Seq, s4, e_thenN]
  simp [dats_ints, vD]
end
theorem changed_vals {xs : List PyData} {d : PyData} (S : List Ob) : m_changed [.d (.list xs), .d d] S = .err "BadValues" S := by
  simp [m_changed, b_changed, start0, isTup]
/-! refused -/
theorem s_w_s : subQ "BadWitness" "BadSum" = false := by decide +kernel
theorem s_w_v : subQ "BadWitness" "BadValues" = false := by decide +kernel
theorem s_w_w : subQ "BadWitness" "BadWitness" = true := by decide +kernel
theorem s_s_s : subQ "BadSum" "BadSum" = true := by decide +kernel
theorem s_v_s : subQ "BadValues" "BadSum" = false := by decide +kernel
theorem s_v_v : subQ "BadValues" "BadValues" = true := by decide +kernel
section
variable {a b : PyData} {S : List Ob}
theorem ref0_wit (e : m_image_of [.d a, .d b] S = .err "BadWitness" S) : m__law_refused [.d (.int 0), .d a, .d b] S = .ok (.w (.d (.str "witness"))) S := by
  simp [m__law_refused, b__law_refused, start0, fTry, e, handle, s_w_s, s_w_v, s_w_w, endSlot, quiet, unSlot]
theorem ref0_sum (e : m_image_of [.d a, .d b] S = .err "BadSum" S) : m__law_refused [.d (.int 0), .d a, .d b] S = .ok (.w (.d (.str "sum"))) S := by
  simp [m__law_refused, b__law_refused, start0, fTry, e, handle, s_s_s, endSlot, quiet, unSlot]
theorem ref1_wit (e : m_changed [.d a, .d b] S = .err "BadWitness" S) : m__law_refused [.d (.int 1), .d a, .d b] S = .ok (.w (.d (.str "witness"))) S := by
  simp [m__law_refused, b__law_refused, start0, fTry, e, handle, s_w_s, s_w_v, s_w_w, endSlot, quiet, unSlot]
theorem ref1_val (e : m_changed [.d a, .d b] S = .err "BadValues" S) : m__law_refused [.d (.int 1), .d a, .d b] S = .ok (.w (.d (.str "values"))) S := by
  simp [m__law_refused, b__law_refused, start0, fTry, e, handle, s_v_s, s_v_v, endSlot, quiet, unSlot]
end
end L2.Q.P
namespace L2.Q.P
open PySem PySem.Spec PyProof.Rows
/-! drawn terms -/
structure Ty (n : Nat) (V W : Int) (T : Prs) : Prop where
  len : T.length ≤ n
  lo : ∀ t ∈ T, 0 ≤ t.1 ∧ t.1 / 2 < V ∧ 1 ≤ t.2 ∧ t.2 ≤ W
  inc : (T.map fun t => t.1 / 2).Pairwise (· < ·)
theorem Ty.nil (n : Nat) (V W : Int) : Ty n V W [] := ⟨by simp, fun t ht => by simp at ht, by simp⟩
theorem Ty.snoc {n : Nat} {V V' W : Int} {T : Prs} (h : Ty n V W T) {l w : Int} {n' : Nat} (hl : T.length + 1 ≤ n') (h1 : V ≤ l / 2) (hv : l / 2 < V') (h0 : 0 ≤ l) (h2 : 1 ≤ w) (h3 : w ≤ W) : Ty n' V' W (T ++ [(l, w)]) := by
  refine ⟨by simpa using hl, fun t ht => ?_, ?_⟩
  · rcases List.mem_append.mp ht with ht | ht
    · have := h.lo t ht; omega
    · simp at ht; subst ht; dsimp only; omega
  · rw [List.map_append]
    refine List.pairwise_append.mpr ⟨h.inc, by simp, fun a ha b hb => ?_⟩
    obtain ⟨t, ht, rfl⟩ := List.mem_map.mp ha
    simp at hb
    subst hb
    have := h.lo t ht
    omega
theorem Ty.mono {n n' : Nat} {V V' W : Int} {T : Prs} (h : Ty n V W T) (hl : n ≤ n') (hV : V ≤ V') : Ty n' V' W T := ⟨by have := h.len; omega, fun t ht => by have := h.lo t ht; omega, h.inc⟩
theorem Ty.rt {n : Nat} {V W : Int} {T : Prs} (h : Ty n V W T) (hn : n ≤ 20) (hV : V < 2 ^ 18) (hW : W < 2 ^ 250) : Rt T := ⟨by have := h.len; omega, fun t ht => by have := h.lo t ht; omega, pair_inc h.inc⟩
theorem lin_le {T : Prs} (h : ∀ t ∈ T, 1 ≤ t.2 ∧ t.2 ≤ 100000) : 0 ≤ lin (fun _ => 1) T ∧ lin (fun _ => 1) T ≤ T.length * 100000 := by
  induction T with
  | nil => simp [lin]
  | cons t r ih =>
    have h1 := h t (List.mem_cons_self ..)
    have ih := ih fun x hx => h x (List.mem_cons_of_mem _ hx)
    simp only [lin, List.length_cons]
    omega
end L2.Q.P
namespace L2.Q.P
open PySem PySem.Spec PyProof.Rows
/-- drawn things, one by one -/
theorem lc_drawn {α : Type} (D : α → W) (P : α → Prop) (fe : FE) (ρ : List Sl) (i : Nat) (he : ∀ w S, Dk S → ∃ a S', fe (ρ.set i (.w w)) S = .ok (D a) S' ∧ P a ∧ Dk S') :
    ∀ (xs : List W) (S : List Ob), Dk S → ∃ (as : List α) (S' : List Ob), lcL (gN i) (fun _ S => .ok true S) fe ρ xs S = .ok (as.map D) S' ∧ (∀ a ∈ as, P a) ∧ as.length = xs.length ∧ Dk S'
  | [], S, hS => ⟨[], S, rfl, by simp, rfl, hS⟩
  | w :: r, S, hS => by
    obtain ⟨a, S1, e, ha, d1⟩ := he w S hS
    obtain ⟨as, S2, e2, h2, l2, d2⟩ := lc_drawn D P fe ρ i he r S1 d1
    refine ⟨a :: as, S2, ?_, ?_, by simp [l2], d2⟩
    · unfold lcL
      simp only [e_gN, if_true, e, e_ok, e2, List.map_cons]
    · intro x hx
      rcases List.mem_cons.mp hx with rfl | hx
      · exact ha
      · exact h2 x hx
end L2.Q.P
namespace L2.Q.P
open PySem PySem.Spec PyProof.Rows
/-! drawn sums, the weights up to 10 ** 20 -/
theorem p8000b {i : Int} (h : i ≤ 10 ^ 30) : i < 2 ^ 8000 := by
  have h1 : (2 : Int) ^ 120 ≤ 2 ^ 8000 := by exact_mod_cast Nat.pow_le_pow_right (by omega) (by omega)
  have h2 : (10 : Int) ^ 30 < 2 ^ 120 := by decide
  omega
theorem lin_leB {T : Prs} (h : ∀ t ∈ T, 1 ≤ t.2 ∧ t.2 ≤ 10 ^ 20) : 0 ≤ lin (fun _ => 1) T ∧ lin (fun _ => 1) T ≤ T.length * 10 ^ 20 := by
  induction T with
  | nil => simp [lin]
  | cons t r ih =>
    have h1 := h t (List.mem_cons_self ..)
    have ih := ih fun x hx => h x (List.mem_cons_of_mem _ hx)
    simp only [lin, List.length_cons]
    omega
abbrev rhoS (many size most kind : Int) (T : Prs) (x : Sl) : List Sl := [.w (.ref 1), .w (.d (.int many)), .w (.d (.int size)), .w (.d (.int most)), .w (.d (.int kind)), .own (.lst (pW T)), x, .un, .un, .un]
theorem sum_turnB (many : Int) (size : Nat) (hz : size ≤ 20) (most kind : Int) (h0 : 1 ≤ most) (h1 : most ≤ 10 ^ 20) (i : Nat) (hi : i < 1000) (T : Prs) (S : List Ob) (hS : Dk S) (hT : Ty size i most T) :
    ∃ (T' : Prs) (S' : List Ob), l__law_sum_0 (rhoS many size most kind T (.w (.d (.int i)))) S = .nx (rhoS many size most kind T' (.w (.d (.int i)))) S' ∧ Ty size ((i + 1 : Nat) : Int) most T' ∧ Dk S' := by
  have ln : (pW T).length = T.length := pW_len T
  by_cases hl : T.length < size
  · have hl' : (T.length : Int) < size := by omega
    obtain ⟨v1, S1, e1, a1, b1, d1⟩ := pick_ok hS (many := 3) (by omega) (by omega)
    by_cases hv : 0 < v1
    · obtain ⟨v2, S2, e2, a2, b2, d2⟩ := pick_ok d1 (many := 2) (by omega) (by omega)
      obtain ⟨v3, S3, e3, a3, b3, d3⟩ := pick_ok d2 (many := most) (by omega) (p8000b (by omega))
      have km : mulC 2 i = true := mulC_of 3 12 (by decide) (by omega) (by omega) (by omega) (by omega)
      refine ⟨T ++ [(2 * (i : Int) + v2, 1 + v3)], S3, ?_, hT.snoc (by omega) (by omega) (by omega) (by omega) (by omega) (by omega), d3⟩
      have sm : T.length < 16777216 := by omega
      simp [l__law_sum_0, rhoS, ln, hl', e1, hv, e2, e3, km, sm, pW_app, pd]
    · refine ⟨T, S1, ?_, hT.mono (Nat.le_refl _) (by omega), d1⟩
      simp [l__law_sum_0, rhoS, ln, hl', e1, hv]
  · have hl' : ¬ (T.length : Int) < size := by omega
    exact ⟨T, S, by simp [l__law_sum_0, rhoS, ln, hl'], hT.mono (Nat.le_refl _) (by omega), hS⟩
theorem sum_okB {S : List Ob} (hS : Dk S) {many most : Int} {size : Nat} (hz : size ≤ 20) (m0 : 0 ≤ many) (m1 : many ≤ 60) (h0 : 1 ≤ most) (h1 : most ≤ 10 ^ 20) :
    ∃ (T : Prs) (g : Int) (S' : List Ob), m__law_sum [.ref 1, .d (.int many), .d (.int size), .d (.int most)] S = .ok (.w (.d (sD T g))) S' ∧ Ty size many most T ∧ -2 ≤ g ∧ g ≤ lin (fun _ => 1) T + 1 ∧ Dk S' := by
  obtain ⟨k, S1, e1, a1, b1, d1⟩ := pick_ok hS (many := 4) (by omega) (by omega)
  have loop := for_inv (f := l__law_sum_0) (gN 6) (fun i ρ S' => Dk S' ∧ ∃ (T : Prs) (x : Sl), ρ = rhoS many size most k T x ∧ Ty size i most T) (rngL 0 many.toNat) 0 (rhoS many size most k [] .un) S1 ⟨d1, [], .un, rfl, Ty.nil _ _ _⟩ fun i w ρ S' hi hP => by
    obtain ⟨hd, T, x, rfl, hT⟩ := hP
    have hi' : i < many.toNat := by have := (List.getElem?_eq_some_iff.mp hi).1; rw [rngL_len] at this; exact this
    rw [rngL_get hi'] at hi
    cases hi
    rw [Nat.zero_add] at hT
    obtain ⟨T', S'', e, hT', hd'⟩ := sum_turnB many size hz most k h0 h1 i (by omega) T S' hd hT
    refine ⟨_, S'', ?_, hd', T', .w (.d (.int i)), rfl, by rw [Nat.zero_add]; exact hT'⟩
    rw [e_gN, e_setG, Int.zero_add]
    exact e
  obtain ⟨ρ', S2, e2, d2, T, x, rfl, hT⟩ := loop
  rw [rngL_len, Nat.zero_add] at hT
  have hT : Ty size many most T := hT.mono (Nat.le_refl _) (by omega)
  have tot := lin_leB (T := T) fun t ht => by have := hT.lo t ht; omega
  have ln := hT.len
  generalize hL : lin (fun _ => 1) T = L at tot
  have st : start0 10 [W.ref 1, .d (.int many), .d (.int size), .d (.int most)] = [.w (.ref 1), .w (.d (.int many)), .w (.d (.int size)), .w (.d (.int most)), .un, .un, .un, .un, .un, .un] := rfl
  have x0 : fPar 4 5 (fCw (fCall m__law_pick (fCons (fVar 0) (fCons (fC (.int 4)) fNil)))) (fCo (fNewL fNil)) [.w (.ref 1), .w (.d (.int many)), .w (.d (.int size)), .w (.d (.int most)), .un, .un, .un, .un, .un, .un] S = .nx (rhoS many size most k [] .un) S1 := by
    simp [e1, rhoS, pW]
  have x1 : fFor (fRng1 (fVar 1)) (gN 6) l__law_sum_0 (rhoS many size most k [] .un) S1 = .nx (rhoS many size most k T x) S2 := by
    rw [e_For (xs := rngL 0 many.toNat) (S' := S1) _ (by simp [rhoS]; omega)]
    exact e2
  have s1 := sum_over (fIt (fVar 5)) [8, 9] (gT 2 (gsC (gN 8) (gsC (gN 9) gsN))) (fun _ S => .ok true S) e__law_sum_0 [.w (.ref 1), .w (.d (.int many)), .w (.d (.int size)), .w (.d (.int most)), .w (.d (.int k)), .w (.d (.list (T.map pd))), x, .un, .un, .un] S2 T (fun _ => true) (by simp) rfl fun q _ => ⟨[.w (.ref 1), .w (.d (.int many)), .w (.d (.int size)), .w (.d (.int most)), .w (.d (.int k)), .w (.d (.list (T.map pd))), x, .un, .w (.d (.int q.1)), .w (.d (.int q.2))], by simp [pd, unset], rfl, fun _ => by simp [e__law_sum_0]⟩
  simp only [if_true] at s1
  rw [hL] at s1
  have x2 : fFrz 5 (fSet 7 (fSum (fItO (fLc (fIt (fVar 5)) [8, 9] (gT 2 (gsC (gN 8) (gsC (gN 9) gsN))) (fun _ S => .ok true S) e__law_sum_0)))) (rhoS many size most k T x) S2 = .nx [.w (.ref 1), .w (.d (.int many)), .w (.d (.int size)), .w (.d (.int most)), .w (.d (.int k)), .w (.d (.list (T.map pd))), x, .w (.d (.int L)), .un, .un] S2 := by
    rw [e_Frz]
    simp only [rhoS, List.getElem?_cons_succ, List.getElem?_cons_zero, e_frz, dats_pW, Option.map_some, List.set_cons_succ, List.set_cons_zero]
    rw [e_Set, s1]
    rfl
  unfold m__law_sum b__law_sum
  rw [e_runF, st, e_Seq, x0, e_thenN, e_Seq, x1, e_thenN, e_Seq, x2, e_thenN]
  by_cases k0 : k = 0
  · subst k0
    exact ⟨T, 1, S2, by simp [sD, pD], hT, by omega, by omega, d2⟩
  · by_cases k1 : k = 1
    · subst k1
      obtain ⟨v, S3, e3, a3, b3, d3⟩ := pick_ok d2 (many := L + 1) (by omega) (p8000b (by omega))
      exact ⟨T, 1 + v, S3, by simp [sD, pD, e3], hT, by omega, by omega, d3⟩
    · by_cases k2 : k = 2
      · subst k2
        have dv : divC L 2 = true := divC_of (by omega) (by omega)
        exact ⟨T, L / 2, S2, by simp [sD, pD, dv], hT, by omega, by omega, d2⟩
      · obtain ⟨v, S3, e3, a3, b3, d3⟩ := pick_ok d2 (many := 3) (by omega) (by omega)
        exact ⟨T, L - v, S3, by simp [sD, pD, k0, k1, k2, e3], hT, by omega, by omega, d3⟩
end L2.Q.P
namespace L2.Q.P
open PySem PySem.Spec PyProof.Rows
/-! items of what is well shaped -/
theorem shp_in {k : Nat} : ∀ {xs : List PyData}, PyData.canLayAll0 xs = true → PyData.depthAll xs ≤ k → ∀ x ∈ xs, shp k x
  | y :: r, h, d, x, hx => by
    have h : (PyData.canLay0 y && PyData.canLayAll0 r) = true := by simpa [PyData.canLayAll0] using h
    have d : max (PyData.depth y) (PyData.depthAll r) ≤ k := by simpa [PyData.depthAll] using d
    obtain ⟨h1, h2⟩ := Bool.and_eq_true_iff.mp h
    rcases List.mem_cons.mp hx with rfl | hx
    · exact ⟨h1, by omega⟩
    · exact shp_in h2 (by omega) x hx
theorem shp_items {k : Nat} {xs : List PyData} (h : shp k (.tuple xs)) : ∀ x ∈ xs, shp k x := by
  have h1 : PyData.canLayAll0 xs = true := by simpa [PyData.canLay0] using h.1
  have h2 : PyData.depthAll xs + 1 ≤ k := by simpa [PyData.depth] using h.2
  exact shp_in h1 (by omega)
theorem shp_sub {k : Nat} {xs : List PyData} (h : shp (k + 1) (.tuple xs)) : ∀ x ∈ xs, shp k x := by
  have h1 : PyData.canLayAll0 xs = true := by simpa [PyData.canLay0] using h.1
  have h2 : PyData.depthAll xs + 1 ≤ k + 1 := by simpa [PyData.depth] using h.2
  exact shp_in h1 (by omega)
end L2.Q.P
namespace L2.Q.P
open PySem PySem.Spec PyProof.Rows
/-! alike of a thing with itself -/
mutual
def plB : PyData → Bool
  | .int _ => true
  | .none => true
  | .bool _ => true
  | .str _ => true
  | .tuple xs => plBs xs
  | _ => false
def plBs : List PyData → Bool
  | [] => true
  | x :: r => plB x && plBs r
end
mutual
def szD : PyData → Nat
  | .tuple xs => szDs xs + 1
  | _ => 1
def szDs : List PyData → Nat
  | [] => 0
  | x :: r => szD x + szDs r
end
theorem plBs_app : ∀ xs ys : List PyData, plBs (xs ++ ys) = (plBs xs && plBs ys)
  | [], ys => by simp [plBs]
  | x :: r, ys => by simp [plBs, plBs_app r ys, Bool.and_assoc]
theorem szDs_app : ∀ xs ys : List PyData, szDs (xs ++ ys) = szDs xs + szDs ys
  | [], ys => by simp [szDs]
  | x :: r, ys => by simp [szDs, szDs_app r ys]; omega
theorem szDs_len : ∀ xs : List PyData, xs.length ≤ szDs xs
  | [] => by simp [szDs]
  | x :: r => by
    have := szDs_len r
    have h : 1 ≤ szD x := by cases x <;> simp [szD]
    simp only [szDs, List.length_cons]
    omega
def dup (z : PyData) : PyData := .tuple [z, z]
theorem rng_map (xs : List PyData) (f : W → W) (h : ∀ (k : Nat) (x : PyData), xs[k]? = some x → f (.d (.int (k : Int))) = .d (dup x)) : (rngL 0 xs.length).map f = (xs.map dup).map .d := by
  apply List.ext_getElem?
  intro i
  by_cases hi : i < xs.length
  · rw [List.getElem?_map, rngL_get hi, List.getElem?_map, List.getElem?_map, List.getElem?_eq_getElem hi]
    have := h i xs[i] (List.getElem?_eq_getElem hi)
    simp only [Option.map_some, Int.zero_add, this]
  · rw [List.getElem?_eq_none (by simp [rngL]; omega), List.getElem?_eq_none (by simp; omega)]
def fdup (xs : List PyData) (w : W) : W := match w with
  | .d (.int k) => (match xs[k.toNat]? with
    | some x => .d (dup x)
    | none => .d .none)
  | w => w
theorem lc_dup (a b w : Sl) (xs : List PyData) (k : Sl) (S : List Ob) (hl : xs.length < 1000) :
    fFz (fLc (fRng1 (fLen (fIt (fVar 4)))) [5] (gN 5) (fun _ S => .ok true S) e__law_alike_0) [a, b, w, .w (.d (.tuple xs)), .w (.d (.tuple xs)), .un] S = .ok (.d (.list (xs.map dup))) S := by
  have q : fLc (fRng1 (fLen (fIt (fVar 4)))) [5] (gN 5) (fun _ S => .ok true S) e__law_alike_0 [a, b, w, .w (.d (.tuple xs)), .w (.d (.tuple xs)), .un] S = .ok (.lst ((xs.map dup).map .d)) S := by
    rw [e_Lc (xs := rngL 0 xs.length) (S' := S) _ _ _ (by simp [show (-4611686018427387904 : Int) ≤ (xs.length : Int) by omega, show (xs.length : Int) ≤ 16777216 by omega]) rfl]
    show (lcL (gN 5) (fun _ S => Res.ok true S) e__law_alike_0 [a, b, w, .w (.d (.tuple xs)), .w (.d (.tuple xs)), .un] (rngL 0 xs.length) S).bind _ = _
    rw [lc_pure (gN 5) _ e__law_alike_0 _ S (fun _ => true) (fdup xs) (rngL 0 xs.length) fun v hv => ?_]
    · rw [List.filter_eq_self.mpr (fun _ _ => rfl), rng_map xs (fdup xs) fun k x hx => by simp [fdup, hx]]
      rfl
    · obtain ⟨i, hi, rfl⟩ := List.mem_map.mp hv
      have hi : i < xs.length := by simpa using hi
      have hx := List.getElem?_eq_getElem hi
      have ha := atI_nat hx
      refine ⟨_, rfl, rfl, fun _ => ?_⟩
      show e__law_alike_0 [a, b, w, .w (.d (.tuple xs)), .w (.d (.tuple xs)), .w (.d (.int (0 + (i : Int))))] S = _
      rw [Int.zero_add]
      simp [e__law_alike_0, ha, fdup, hx, dup]
  rw [e_Fz, q]
  simp
theorem dup_pop (zs : List PyData) (z : PyData) : ((zs ++ [z]).map fun z => W.d (dup z))[((zs ++ [z]).map fun z => W.d (dup z)).length - 1]? = some (.d (dup z)) ∧ ((zs ++ [z]).map fun z => W.d (dup z)).dropLast = zs.map fun z => W.d (dup z) := by
  constructor <;> simp
def pile (zs : List PyData) : List W := (zs.map dup).map .d
theorem pile_len (zs : List PyData) : (pile zs).length = zs.length := by simp [pile]
theorem shp_pile {zs : List PyData} (h : ∀ z ∈ zs, shp 60 z) : shp 64 (.list (zs.map dup)) := shp_mono (k := 62) (shp_list fun d hd => by
  obtain ⟨z, hz, rfl⟩ := List.mem_map.mp hd
  exact shp_tup fun x hx => by simp at hx; rw [hx]; exact h z hz) (by omega)
theorem pile_ne (a b x y k : Sl) (zs : List PyData) (S : List Ob) (h : ∀ z ∈ zs, shp 60 z) : t__law_alike_0 [a, b, .own (.lst (pile zs)), x, y, k] S = .ok (!zs.isEmpty) S := by
  have h1 := shaped_of (shp_pile h)
  have h2 : SeqAt.shaped (.list []) = true := shaped_of (shp_mono (shp_list (k := 0) (ds := []) (by simp)) (by omega))
  have e : cmpO true (pile zs) (.d (.list [])) S = .ok (.d (.bool (!zs.isEmpty))) S := by
    unfold cmpO pile
    rw [e_datsm]
    dsimp only
    rw [h1, h2, eqv_nil]
    cases zs <;> rfl
  simp [t__law_alike_0, e]
theorem body_int (a b x y : Sl) (zs : List PyData) (i : Int) (S : List Ob) : l__law_alike_0 [a, b, .own (.lst (pile (zs ++ [.int i]))), x, y, .un] S = .nx [a, b, .own (.lst (pile zs)), .w (.d (.int i)), .w (.d (.int i)), .un] S := by
  have e1 : (pile (zs ++ [.int i]))[(pile (zs ++ [.int i])).length - 1]? = some (.d (dup (.int i))) := by simp [pile]
  have e2 : (pile (zs ++ [.int i])).dropLast = pile zs := by simp [pile]
  have f : fPop 2 [a, b, .own (.lst (pile (zs ++ [.int i]))), x, y, .un] S = .ok (.d (dup (.int i)), [a, b, .own (.lst (pile zs)), x, y, .un]) S := by
    rw [e_Pop]
    simp only [List.getElem?_cons_succ, List.getElem?_cons_zero, e1, e2, List.set_cons_succ, List.set_cons_zero]
  unfold l__law_alike_0
  rw [e_Seq, e_AsgX, f]
  simp [dup, isTup, isNon, isBool, isStr, isInt]
theorem pop_pile (a b x y : Sl) (zs : List PyData) (z : PyData) (S : List Ob) : fPop 2 [a, b, .own (.lst (pile (zs ++ [z]))), x, y, .un] S = .ok (.d (dup z), [a, b, .own (.lst (pile zs)), x, y, .un]) S := by
  have e1 : (pile (zs ++ [z]))[(pile (zs ++ [z])).length - 1]? = some (.d (dup z)) := by simp [pile]
  have e2 : (pile (zs ++ [z])).dropLast = pile zs := by simp [pile]
  rw [e_Pop]
  simp only [List.getElem?_cons_succ, List.getElem?_cons_zero, e1, e2, List.set_cons_succ, List.set_cons_zero]
theorem body_non (a b x y : Sl) (zs : List PyData) (S : List Ob) : l__law_alike_0 [a, b, .own (.lst (pile (zs ++ [.none]))), x, y, .un] S = .nx [a, b, .own (.lst (pile zs)), .w (.d .none), .w (.d .none), .un] S := by
  unfold l__law_alike_0
  rw [e_Seq, e_AsgX, pop_pile]
  simp [dup, isTup, isNon]
theorem body_bool (a b x y : Sl) (zs : List PyData) (i : Bool) (S : List Ob) : l__law_alike_0 [a, b, .own (.lst (pile (zs ++ [.bool i]))), x, y, .un] S = .nx [a, b, .own (.lst (pile zs)), .w (.d (.bool i)), .w (.d (.bool i)), .un] S := by
  have q : oEqS true (.d (.bool i)) (.d (.bool i)) S = .ok (.d (.bool false)) S := by cases i <;> rfl
  unfold l__law_alike_0
  rw [e_Seq, e_AsgX, pop_pile]
  simp [dup, isTup, isNon, isBool, q]
theorem body_str (a b x y : Sl) (zs : List PyData) (s : Str) (hs : shp 60 (.str s)) (S : List Ob) : l__law_alike_0 [a, b, .own (.lst (pile (zs ++ [.str s]))), x, y, .un] S = .nx [a, b, .own (.lst (pile zs)), .w (.d (.str s)), .w (.d (.str s)), .un] S := by
  have k := shaped_of (shp_mono hs (show 60 ≤ 64 by omega))
  have v : PyData.eqv (.str s) (.str s) = true := by simp [PyData.eqv]
  have q : oEqS true (.d (.str s)) (.d (.str s)) S = .ok (.d (.bool false)) S := by rw [e_eqD true _ _ k k, v]; rfl
  unfold l__law_alike_0
  rw [e_Seq, e_AsgX, pop_pile]
  simp [dup, isTup, isNon, isBool, isStr, q]
theorem body_tup (a b x y : Sl) (zs xs : List PyData) (S : List Ob) (hl : xs.length < 1000) (hz : zs.length < 1000) : l__law_alike_0 [a, b, .own (.lst (pile (zs ++ [.tuple xs]))), x, y, .un] S = .nx [a, b, .own (.lst (pile (zs ++ xs))), .w (.d (.tuple xs)), .w (.d (.tuple xs)), .un] S := by
  have e1 : (pile (zs ++ [.tuple xs]))[(pile (zs ++ [.tuple xs])).length - 1]? = some (.d (dup (.tuple xs))) := by simp [pile]
  have e2 : (pile (zs ++ [.tuple xs])).dropLast = pile zs := by simp [pile]
  have f : fPop 2 [a, b, .own (.lst (pile (zs ++ [.tuple xs]))), x, y, .un] S = .ok (.d (dup (.tuple xs)), [a, b, .own (.lst (pile zs)), x, y, .un]) S := by
    rw [e_Pop]
    simp only [List.getElem?_cons_succ, List.getElem?_cons_zero, e1, e2, List.set_cons_succ, List.set_cons_zero]
  have g := lc_dup a b (.own (.lst (pile zs))) xs .un S hl
  have k : (pile zs).length + (xs.map dup).length ≤ 16777216 := by rw [pile_len]; simp; omega
  have c : pile zs ++ (xs.map dup).map .d = pile (zs ++ xs) := by simp [pile]
  unfold l__law_alike_0
  rw [e_Seq, e_AsgX, f]
  have k' : (pile zs).length + xs.length ≤ 16777216 := by simpa using k
  simp [dup, isTup, -e_Fz, g, k']
  rw [← c, List.map_map]
theorem alike_loop (a b : Sl) (S : List Ob) : ∀ (n : Nat) (zs : List PyData) (x y : Sl), plBs zs = true → (∀ z ∈ zs, shp 60 z) → szDs zs < n → szDs zs < 1000 → ∃ x' y',
    whileN t__law_alike_0 l__law_alike_0 n [a, b, .own (.lst (pile zs)), x, y, .un] S = .nx [a, b, .own (.lst (pile [])), x', y', .un] S
  | 0, _, _, _, _, _, h, _ => by omega
  | n + 1, zs, x, y, hp, hs, hn, h1 => by
    rw [while_succ, pile_ne a b x y .un zs S hs, e_flok]
    rcases List.eq_nil_or_concat zs with rfl | ⟨r, z, rfl⟩
    · exact ⟨x, y, rfl⟩
    · have hne : (!(r ++ [z]).isEmpty) = true := by simp
      rw [List.concat_eq_append] at *
      rw [hne, if_pos rfl]
      rw [plBs_app] at hp
      rw [szDs_app] at hn h1
      have hp1 : plBs r = true := (Bool.and_eq_true_iff.mp hp).1
      have hp2 : plB z = true := by have := (Bool.and_eq_true_iff.mp hp).2; simpa [plBs] using this
      have hr : ∀ z ∈ r, shp 60 z := fun w hw => hs w (List.mem_append_left _ hw)
      have hz : shp 60 z := hs z (by simp)
      have hrl := szDs_len r
      cases z with
      | int i =>
        rw [body_int, e_turnN]
        have e : szDs [PyData.int i] = 1 := by simp [szDs, szD]
        exact alike_loop a b S n r _ _ hp1 hr (by omega) (by omega)
      | tuple xs =>
        have e : szDs [PyData.tuple xs] = szDs xs + 1 := by simp [szDs, szD]
        have hxl := szDs_len xs
        rw [body_tup a b x y r xs S (by omega) (by omega), e_turnN]
        have hpx : plBs xs = true := by simpa [plB] using hp2
        refine alike_loop a b S n (r ++ xs) _ _ (by rw [plBs_app, hp1, hpx]; rfl) (fun w hw => ?_) (by rw [szDs_app]; omega) (by rw [szDs_app]; omega)
        rcases List.mem_append.mp hw with hw | hw
        · exact hr w hw
        · exact shp_items hz w hw
      | none =>
        rw [body_non, e_turnN]
        have e : szDs [PyData.none] = 1 := by simp [szDs, szD]
        exact alike_loop a b S n r _ _ hp1 hr (by omega) (by omega)
      | bool i =>
        rw [body_bool, e_turnN]
        have e : szDs [PyData.bool i] = 1 := by simp [szDs, szD]
        exact alike_loop a b S n r _ _ hp1 hr (by omega) (by omega)
      | str i =>
        rw [body_str a b x y r i hz, e_turnN]
        have e : szDs [PyData.str i] = 1 := by simp [szDs, szD]
        exact alike_loop a b S n r _ _ hp1 hr (by omega) (by omega)
      | list _ => simp [plB] at hp2
      | dict _ => simp [plB] at hp2
theorem alike_ok (z : PyData) (S : List Ob) (hp : plB z = true) (hs : shp 60 z) (h : szD z < 1000) : m__law_alike [.d z, .d z] S = .ok (.w (.d (.bool true))) S := by
  obtain ⟨x', y', e⟩ := alike_loop (.w (.d z)) (.w (.d z)) S fuelW [z] .un .un (by simp [plBs, hp]) (fun w hw => by simp at hw; subst hw; exact hs) (by simp [szDs]; unfold fuelW; omega) (by simp [szDs]; omega)
  have st : start0 6 [W.d z, W.d z] = [.w (.d z), .w (.d z), .un, .un, .un, .un] := rfl
  have g : fSetO 2 (fNewL (fCons (fTup (fCons (fVar 0) (fCons (fVar 1) fNil))) fNil)) [.w (.d z), .w (.d z), .un, .un, .un, .un] S = .nx [.w (.d z), .w (.d z), .own (.lst (pile [z])), .un, .un, .un] S := by simp [dup, pile]
  unfold m__law_alike b__law_alike
  rw [e_runF, st, e_Seq, g, e_thenN, e_Seq, e_While, e, e_thenN]
  rfl
end L2.Q.P
namespace L2.Q.P
open PySem PySem.Spec PyProof.Rows
/-! sums and values are alike themselves -/
theorem plB_pairs (ps : Prs) : plBs (ps.map pd) = true := by
  induction ps with
  | nil => rfl
  | cons p r ih => simp [plBs, pd, plB]; exact ih
theorem sz_pairs (ps : Prs) : szDs (ps.map pd) = 3 * ps.length := by
  induction ps with
  | nil => rfl
  | cons p r ih => simp [szDs, pd, szD]; rw [show szDs (r.map pd) = _ from ih]; omega
theorem alike_sum (T : Prs) (g : Int) (S : List Ob) (hl : T.length ≤ 60) : m__law_alike [.d (sD T g), .d (sD T g)] S = .ok (.w (.d (.bool true))) S := by
  refine alike_ok _ S ?_ ?_ ?_
  · simp [sD, pD, plB, plBs, plB_pairs]
  · refine shp_mono (k := 3) (shp_tup fun d hd => ?_) (by omega)
    simp at hd
    rcases hd with rfl | rfl
    · exact shp_tup fun d hd => by obtain ⟨p, _, rfl⟩ := List.mem_map.mp hd; exact shp_pd p
    · exact shp_int _ _
  · simp [sD, pD, szD, szDs, sz_pairs]; omega
theorem plB_nums (zs : List Int) : plBs (zs.map .int) = true := by
  induction zs with
  | nil => rfl
  | cons p r ih => simp [plBs, plB]; exact ih
theorem sz_nums (zs : List Int) : szDs (zs.map .int) = zs.length := by
  induction zs with
  | nil => rfl
  | cons p r ih => simp [szDs, szD]; rw [show szDs (r.map .int) = _ from ih]; omega
theorem alike_vals (vs : List Int) (S : List Ob) (hl : vs.length ≤ 60) : m__law_alike [.d (vD vs), .d (vD vs)] S = .ok (.w (.d (.bool true))) S := by
  refine alike_ok _ S ?_ ?_ ?_
  · simp [vD, plB, plB_nums]
  · exact shp_mono (k := 2) (shp_tup fun d hd => by obtain ⟨p, _, rfl⟩ := List.mem_map.mp hd; exact shp_int _ _) (by omega)
  · simp [vD, szD, sz_nums]; omega
end L2.Q.P
namespace L2.Q.P
open PySem PySem.Spec PyProof.Rows
/-! _law_rows: all values -/
def rowsOf : Nat → List (List Int)
  | 0 => [[]]
  | n + 1 => (rowsOf n).map (· ++ [0]) ++ (rowsOf n).map (· ++ [1])
theorem rows_len : ∀ n, (rowsOf n).length = 2 ^ n
  | 0 => rfl
  | n + 1 => by simp only [rowsOf, List.length_append, List.length_map, rows_len n]; omega
theorem rows_vz : ∀ (n : Nat) (vs : List Int), vs ∈ rowsOf n → Vz n vs
  | 0, vs, h => by
    simp [rowsOf] at h
    subst h
    exact ⟨by simp, rfl⟩
  | n + 1, vs, h => by
    unfold rowsOf at h
    rcases List.mem_append.mp h with h | h
    · obtain ⟨ws, hw, rfl⟩ := List.mem_map.mp h
      have := rows_vz n ws hw
      refine ⟨fun x hx => ?_, by have := this.len; simp; omega⟩
      rcases List.mem_append.mp hx with hx | hx
      · exact this.bits x hx
      · exact .inl (List.mem_singleton.mp hx)
    · obtain ⟨ws, hw, rfl⟩ := List.mem_map.mp h
      have := rows_vz n ws hw
      refine ⟨fun x hx => ?_, by have := this.len; simp; omega⟩
      rcases List.mem_append.mp hx with hx | hx
      · exact this.bits x hx
      · exact .inr (List.mem_singleton.mp hx)
theorem rows_all : ∀ (n : Nat) (vs : List Int), Vz n vs → vs ∈ rowsOf n
  | 0, vs, h => by
    have : vs = [] := List.eq_nil_of_length_eq_zero (by have := h.len; omega)
    subst this
    simp [rowsOf]
  | n + 1, vs, h => by
    have hl := h.len
    rcases List.eq_nil_or_concat vs with rfl | ⟨ws, x, rfl⟩
    · simp at hl; omega
    · rw [List.concat_eq_append] at h hl ⊢
      have hw : Vz n ws := ⟨fun y hy => h.bits y (List.mem_append_left _ hy), by simp at hl; omega⟩
      have := rows_all n ws hw
      unfold rowsOf
      rcases h.bits x (by simp) with rfl | rfl
      · exact List.mem_append_left _ (List.mem_map.mpr ⟨ws, this, rfl⟩)
      · exact List.mem_append_right _ (List.mem_map.mpr ⟨ws, this, rfl⟩)
theorem alike_ints : ∀ xs ys : List Int, PySem.W.alikeAll (xs.map .int) (ys.map .int) = true
  | [], _ => by simp [PySem.W.alikeAll]
  | _ :: _, [] => by simp [PySem.W.alikeAll]
  | x :: r, y :: s => by simp [PySem.W.alikeAll, PySem.W.alike, alike_ints r s]
theorem alike_vD (xs ys : List Int) : PySem.W.alike (vD xs) (vD ys) = true := by simp [vD, PySem.W.alike, alike_ints]
theorem alikes_vD : ∀ rs : List (List Int), alikes (rs.map vD) = true
  | [] => rfl
  | a :: r => by
    rw [List.map_cons]
    unfold alikes
    rw [alike_vD, alikes_vD r, Bool.and_true, Bool.true_and, List.all_map, List.all_eq_true]
    intro b _
    simp [alike_vD]
theorem shp_vD (vs : List Int) : shp 1 (vD vs) := shp_tup fun d hd => by
  obtain ⟨i, rfl⟩ := mem_ints hd
  exact shp_int _ _
/-- lists that are told by members -/
theorem pick_map {α β : Type} (f : α → β) (P : α → Prop) : ∀ ds : List β, (∀ d ∈ ds, ∃ a, P a ∧ d = f a) → ∃ as : List α, ds = as.map f ∧ ∀ a ∈ as, P a
  | [], _ => ⟨[], rfl, by simp⟩
  | d :: r, h => by
    obtain ⟨a, ha, rfl⟩ := h d (List.mem_cons_self ..)
    obtain ⟨as, rfl, hs⟩ := pick_map f P r fun x hx => h x (List.mem_cons_of_mem _ hx)
    refine ⟨a :: as, rfl, fun x hx => ?_⟩
    rcases List.mem_cons.mp hx with rfl | hx
    · exact ha
    · exact hs x hx
theorem srt_rows {rs : List (List Int)} {n : Nat} (hn : 1 ≤ n) (h : ∀ vs ∈ rs, vs.length = n) (S : List Ob) : ∃ ss : List (List Int), srt ((rs.map vD).map .d) S = .ok (.d (.list (ss.map vD))) S ∧ (∀ vs ∈ ss, vs ∈ rs) := by
  have e : srt ((rs.map vD).map .d) S = .ok (.d (.list (sortD (rs.map vD)))) S := by
    unfold srt
    rw [e_datsm]
    dsimp only
    rw [if_pos]
    refine ⟨alikes_vD rs, ?_, ?_⟩
    · unfold sortableD
      rw [Bool.or_eq_true]
      left
      rw [List.all_map, List.all_eq_true]
      intro vs hv
      have := h vs hv
      cases vs with
      | nil => simp at this; omega
      | cons x r => rfl
    · rw [List.all_map, List.all_eq_true]
      intro vs _
      have := (shp_vD vs).2
      exact decide_eq_true (by show (vD vs).depth ≤ 64; omega)
  obtain ⟨ss, e2, hs⟩ := pick_map vD (fun vs => vs ∈ rs) (sortD (rs.map vD)) fun d hd => by
    have := (List.mem_mergeSort).mp hd
    obtain ⟨vs, hv, rfl⟩ := List.mem_map.mp this
    exact ⟨vs, hv, rfl⟩
  exact ⟨ss, by rw [e, e2], hs⟩
theorem lc_rows (fe : FE) (b : Int) (ρ : List Sl) (S : List Ob) (rs : List (List Int)) (h : ∀ vs ∈ rs, fe (ρ.set 3 (.w (.d (vD vs)))) S = .ok (.d (vD (vs ++ [b]))) S) :
    lcL (gN 3) (fun _ S => .ok true S) fe ρ ((rs.map vD).map .d) S = .ok (((rs.map (· ++ [b])).map vD).map .d) S := by
  induction rs with
  | nil => rfl
  | cons a r ih =>
    have ih := ih fun z hz => h z (List.mem_cons_of_mem _ hz)
    rw [List.map_cons, List.map_cons]
    unfold lcL
    simp only [e_gN, h a (List.mem_cons_self ..), if_true, ih, e_ok, List.map_cons]
abbrev rhoW (m x : Sl) (rs : List (List Int)) : List Sl := [m, .w (.d (.list (rs.map vD))), x, .un]
theorem rows_one (m x : Sl) (rs : List (List Int)) (fe : FE) (b : Int) (S : List Ob) (h : ∀ vs ∈ rs, fe [m, .w (.d (.list (rs.map vD))), x, .w (.d (vD vs))] S = .ok (.d (vD (vs ++ [b]))) S) :
    fFz (fLc (fIt (fVar 1)) [3] (gN 3) (fun _ S => .ok true S) fe) (rhoW m x rs) S = .ok (.d (.list ((rs.map (· ++ [b])).map vD))) S := by
  rw [e_Fz, e_Lc (xs := (rs.map vD).map .d) (S' := S) _ _ _ (by simp [rhoW]) rfl, show unset (rhoW m x rs) [3] = rhoW m x rs from rfl, lc_rows fe b (rhoW m x rs) S rs h, e_ok, e_ok, e_frz, e_datsm]
  rfl
theorem rows_turn (m x : Sl) (i : Nat) (hi : i < 20) (S : List Ob) : l__law_rows_0 (rhoW m x (rowsOf i)) S = .nx (rhoW m x (rowsOf (i + 1))) S := by
  have ln := rows_len i
  have pw : 2 ^ i ≤ 2 ^ 20 := Nat.pow_le_pow_right (by omega) (by omega)
  have len : ∀ vs ∈ rowsOf i, vs.length + 1 ≤ 16777216 := fun vs hv => by have := (rows_vz i vs hv).len; omega
  have e0 := rows_one m x (rowsOf i) e__law_rows_0 0 S fun vs hv => by simp [e__law_rows_0, vD, len vs hv]
  have e1 := rows_one m x (rowsOf i) e__law_rows_1 1 S fun vs hv => by simp [e__law_rows_1, vD, len vs hv]
  have l2 : (((rowsOf i).map (· ++ [0])).map vD).length + (((rowsOf i).map (· ++ [1])).map vD).length ≤ 16777216 := by simp only [List.length_map]; omega
  unfold l__law_rows_0
  rw [e_Set, e_Fz, e_AddN, e0, e_ok, e1, e_ok, e_addN, if_pos l2, e_ok, e_frz, e_datsm, ← List.map_append]
  rfl
end L2.Q.P
namespace L2.Q.P
open PySem PySem.Spec PyProof.Rows
theorem law_rows_ok {many : Int} (h0 : 1 ≤ many) (h1 : many ≤ 20) (S : List Ob) : ∃ rs : List (List Int), m__law_rows [.d (.int many)] S = .ok (.w (.d (.list (rs.map vD)))) S ∧ ∀ vs ∈ rs, Vz many vs := by
  have st : start0 4 [W.d (.int many)] = [.w (.d (.int many)), .un, .un, .un] := rfl
  have loop := for_inv (f := l__law_rows_0) (gN 2) (fun i ρ S' => S' = S ∧ ∃ x, ρ = rhoW (.w (.d (.int many))) x (rowsOf i)) (rngL 0 many.toNat) 0 (rhoW (.w (.d (.int many))) .un (rowsOf 0)) S ⟨rfl, .un, rfl⟩ fun i w ρ S' hi hP => by
    obtain ⟨rfl, x, rfl⟩ := hP
    have hi' : i < many.toNat := by have := (List.getElem?_eq_some_iff.mp hi).1; rw [rngL_len] at this; exact this
    refine ⟨_, S', ?_, rfl, .w w, rfl⟩
    rw [e_gN, e_setG]
    exact rows_turn _ (.w w) (0 + i) (by omega) S'
  obtain ⟨ρ', S', e2, rfl, x, rfl⟩ := loop
  rw [rngL_len, Nat.zero_add] at e2
  have vz : ∀ vs ∈ rowsOf many.toNat, Vz many vs := fun vs hv => by
    have := rows_vz _ vs hv
    rw [show ((many.toNat : Nat) : Int) = many by omega] at this
    exact this
  obtain ⟨ss, e3, hs⟩ := srt_rows (rs := rowsOf many.toNat) (n := many.toNat) (by omega) (fun vs hv => by have := (vz vs hv).len; omega) S'
  refine ⟨ss, ?_, fun vs hv => vz vs (hs vs hv)⟩
  have x0 : fSet 1 (fFz (fNewL (fCons (fTup fNil) fNil))) [.w (.d (.int many)), .un, .un, .un] S' = .nx (rhoW (.w (.d (.int many))) .un (rowsOf 0)) S' := rfl
  have x1 : fFor (fRng1 (fVar 0)) (gN 2) l__law_rows_0 (rhoW (.w (.d (.int many))) .un (rowsOf 0)) S' = .nx (rhoW (.w (.d (.int many))) x (rowsOf many.toNat)) S' := by
    rw [e_For (xs := rngL 0 many.toNat) (S' := S') _ (by simp [rhoW]; omega)]
    exact e2
  have x2 : fSrt (fLv (fVar 1)) (rhoW (.w (.d (.int many))) x (rowsOf many.toNat)) S' = .ok (.d (.list (ss.map vD))) S' := by
    rw [e_Srt, e_Lv]
    exact e3
  unfold m__law_rows b__law_rows
  rw [e_runF, st, e_Seq, x0, e_thenN, e_Seq, x1, e_thenN, e_Ret, x2]
  rfl
end L2.Q.P
namespace L2.Q.P
open PySem PySem.Spec PyProof.Rows
/-! what is drawn -/
theorem Dk.setAt {S : List Ob} (h : Dk S) {n : Nat} (hn : 2 ≤ n) (o : Ob) : Dk (S.set n o) := by
  obtain ⟨R, cs, a, b, rfl, k⟩ := h
  refine ⟨R.set (n - 2) o, cs, a, b, ?_, k⟩
  obtain ⟨k, rfl⟩ : ∃ k, n = k + 2 := ⟨n - 2, by omega⟩
  rfl
theorem lc_some (t : FB) (fe : FE) (ρ : List Sl) (i : Nat) (ht : ∀ w S, Dk S → ∃ b S', t (ρ.set i (.w w)) S = .ok b S' ∧ Dk S') (hf : ∀ w S, fe (ρ.set i (.w w)) S = .ok w S) : ∀ (n : Nat) (lo : Int) (S : List Ob), Dk S →
    ∃ (cs : List Int) (S' : List Ob), lcL (gN i) t fe ρ (rngL lo n) S = .ok (cs.map fun k => .d (.int k)) S' ∧ cs.Pairwise (· < ·) ∧ (∀ c ∈ cs, lo ≤ c ∧ c < lo + n) ∧ cs.length ≤ n ∧ Dk S'
  | 0, lo, S, hS => ⟨[], S, rfl, .nil, (fun c h => by cases h), Nat.le_refl _, hS⟩
  | n + 1, lo, S, hS => by
    obtain ⟨b, S1, e1, d1⟩ := ht (.d (.int lo)) S hS
    obtain ⟨cs, S2, e2, h2, h3, h4, d2⟩ := lc_some t fe ρ i ht hf n (lo + 1) S1 d1
    rw [rngL_cons]
    unfold lcL
    cases b with
    | true =>
      refine ⟨lo :: cs, S2, ?_, List.pairwise_cons.mpr ⟨fun c hc => by have := h3 c hc; omega, h2⟩, fun c hc => ?_, by simp; omega, d2⟩
      · simp only [e_gN, e1, hf, if_true, e_ok, e2, List.map_cons]
      · rcases List.mem_cons.mp hc with rfl | hc
        · omega
        · have := h3 c hc; omega
    | false =>
      refine ⟨cs, S2, ?_, h2, fun c hc => by have := h3 c hc; omega, by omega, d2⟩
      simp only [e_gN, e1, Bool.false_eq_true, if_false, e2]
theorem lc_wit (fe : FE) (ρ : List Sl) (i : Nat) (m : Int) (hf : ∀ k S, Dk S → ∃ v S', fe (ρ.set i (.w (.d (.int k)))) S = .ok (.d (pd (k, v))) S' ∧ -2 ≤ v ∧ v < 2 * m ∧ Dk S') : ∀ (cs : List Int) (S : List Ob), Dk S →
    ∃ (K : Prs) (S' : List Ob), lcL (gN i) (fun _ S => .ok true S) fe ρ ((cs.map .int).map .d) S = .ok ((K.map pd).map .d) S' ∧ keys K = cs ∧ (∀ p ∈ K, -2 ≤ p.2 ∧ p.2 < 2 * m) ∧ Dk S'
  | [], S, hS => ⟨[], S, rfl, rfl, (fun p h => by cases h), hS⟩
  | c :: cs, S, hS => by
    obtain ⟨v, S1, e1, a1, b1, d1⟩ := hf c S hS
    obtain ⟨K, S2, e2, h2, h3, d2⟩ := lc_wit fe ρ i m hf cs S1 d1
    refine ⟨(c, v) :: K, S2, ?_, by show c :: keys K = _; rw [h2], fun p hp => ?_, d2⟩
    · rw [List.map_cons, List.map_cons]
      unfold lcL
      simp only [e_gN, if_true, e1, e_ok, e2, List.map_cons]
    · rcases List.mem_cons.mp hp with rfl | hp
      · exact ⟨a1, b1⟩
      · exact h3 p hp
abbrev rhoL (sc t m one ch wit img fnd vals new bent right : Sl) : List Sl := [sc, .w (.ref 1), t, m, one, ch, wit, img, fnd, vals, new, bent, right, .un]
/-- what a turn draws -/
structure Dr (m : Int) (T : Prs) (g : Int) (K : Prs) : Prop where
  m1 : 1 ≤ m
  m6 : m ≤ 6
  rt : Rt T
  fit : ∀ t ∈ T, 0 ≤ t.1 ∧ t.1 / 2 < m
  wit : Wit m K
  inc : (keys K).Pairwise (· < ·)
  len : K.length ≤ 6
  tl : T.length ≤ 6
theorem Dr.nd {m : Int} {T : Prs} {g : Int} {K : Prs} (h : Dr m T g K) : (keys K).Nodup := h.inc.imp fun q e => by omega
theorem Dr.good {m : Int} {T : Prs} {g : Int} {K : Prs} (h : Dr m T g K) : witB (pD K) = true := by
  show witL (-1) (K.map pd) = true
  rw [witL_all]
  have e : (K.map pd).map fstD = keys K := by unfold keys; rw [List.map_map]; rfl
  rw [e, pair_inc h.inc, Bool.and_true, List.all_map, List.all_eq_true]
  intro p hp
  have := h.wit p hp
  show (decide (0 ≤ p.1) && decide (-2 ≤ p.2)) = true
  simp
  omega
theorem draws (sc t a3 a4 a6 a7 a8 a9 a10 a11 a12 : Sl) (a5 : Sl) (S : List Ob) (hS : Dk S) (f : FT) : ∃ (m : Int) (T : Prs) (g : Int) (K : Prs) (a5' : Sl) (S' : List Ob), Dr m T g K ∧ Dk S' ∧
    fSeq (fSet 3 (fBin oAddA (fC (.int 1)) (fCall m__law_pick (fCons (fVar 1) (fCons (fC (.int 6)) fNil)))))
    (fSeq (fSet 4 (fCall m__law_sum (fCons (fVar 1) (fCons (fVar 3) (fCons (fC (.int 6)) (fCons (fBin oIx (fFz (fNewL (fCons (fC (.int 2)) (fCons (fC (.int 9)) (fCons (fBin oPow (fC (.int 10)) (fC (.int 20))) fNil))))) (fCall m__law_pick (fCons (fVar 1) (fCons (fC (.int 3)) fNil)))) fNil))))))
    (fSeq (fSetO 5 (fLc (fRng1 (fVar 3)) [13] (gN 13) t_law_0 e_law_0))
    (fSeq (fFrz 5 (fSet 6 (fTupL (fItO (fLc (fIt (fVar 5)) [13] (gN 13) (fun _ S => .ok true S) e_law_1))))) f))) (rhoL sc t a3 a4 a5 a6 a7 a8 a9 a10 a11 a12) S
      = f (rhoL sc t (.w (.d (.int m))) (.w (.d (sD T g))) a5' (.w (.d (pD K))) a7 a8 a9 a10 a11 a12) S' := by
  obtain ⟨v, S1, e1, v0, v1, d1⟩ := pick_ok hS (many := 6) (by omega) (by omega)
  obtain ⟨w, S2, e2, w0, w1, d2⟩ := pick_ok d1 (many := 3) (by omega) (by omega)
  have h0 : ∃ m : Int, m = 1 + v := ⟨_, rfl⟩
  obtain ⟨m, hm⟩ := h0
  obtain ⟨z, hz, hm3⟩ := at_mem (xs := [(2 : Int), 9, 10 ^ 20]) w0 (by simpa using w1)
  have hz2 : 1 ≤ z ∧ z ≤ 10 ^ 20 := by
    simp only [List.mem_cons, List.not_mem_nil, or_false] at hm3
    rcases hm3 with rfl | rfl | rfl <;> decide
  have hzd : atI [PyData.int 2, .int 9, .int (10 ^ 20)] w = some (.int z) := by
    have := congrArg (Option.map PyData.int) hz
    have e : atI ([(2 : Int), 9, 10 ^ 20].map PyData.int) w = (atI [(2 : Int), 9, 10 ^ 20] w).map PyData.int := by
      unfold atI
      rw [List.length_map]
      cases ixN _ w with
      | none => rfl
      | some j => simp only [Option.bind_some, List.getElem?_map]
    rw [hz] at e
    exact e
  obtain ⟨T, g, S3, e3, hT, _, _, d3⟩ := sum_okB d2 (size := 6) (many := m) (most := z) (by omega) (by omega) (by omega) hz2.1 hz2.2
  have x1 : fSet 3 (fBin oAddA (fC (.int 1)) (fCall m__law_pick (fCons (fVar 1) (fCons (fC (.int 6)) fNil)))) (rhoL sc t a3 a4 a5 a6 a7 a8 a9 a10 a11 a12) S = .nx (rhoL sc t (.w (.d (.int m))) a4 a5 a6 a7 a8 a9 a10 a11 a12) S1 := by
    simp [rhoL, e1, hm]
  have p20 : powC 10 20 = true := by decide +kernel
  have p20v : (10 : Int) ^ (20 : Int).toNat = 10 ^ 20 := rfl
  have x2 : fSet 4 (fCall m__law_sum (fCons (fVar 1) (fCons (fVar 3) (fCons (fC (.int 6)) (fCons (fBin oIx (fFz (fNewL (fCons (fC (.int 2)) (fCons (fC (.int 9)) (fCons (fBin oPow (fC (.int 10)) (fC (.int 20))) fNil))))) (fCall m__law_pick (fCons (fVar 1) (fCons (fC (.int 3)) fNil)))) fNil))))) (rhoL sc t (.w (.d (.int m))) a4 a5 a6 a7 a8 a9 a10 a11 a12) S1 = .nx (rhoL sc t (.w (.d (.int m))) (.w (.d (sD T g))) a5 a6 a7 a8 a9 a10 a11 a12) S3 := by
    have ix : oIx (.d (.list [.int 2, .int 9, .int (10 ^ 20)])) (.d (.int w)) S2 = .ok (.d (.int z)) S2 := by
      show (match atI [PyData.int 2, .int 9, .int (10 ^ 20)] w with | some z => Res.ok (W.d z) S2 | none => .bad) = _
      rw [hzd]
    have lst : fFz (fNewL (fCons (fC (.int 2)) (fCons (fC (.int 9)) (fCons (fBin oPow (fC (.int 10)) (fC (.int 20))) fNil)))) (rhoL sc t (.w (.d (.int m))) a4 a5 a6 a7 a8 a9 a10 a11 a12) S1 = .ok (.d (.list [.int 2, .int 9, .int (10 ^ 20)])) S1 := by
      simp [p20]
    have e3' : m__law_sum [.ref 1, .d (.int m), .d (.int 6), .d (.int z)] S2 = .ok (.w (.d (sD T g))) S3 := e3
    have ix' : fBin oIx (fFz (fNewL (fCons (fC (.int 2)) (fCons (fC (.int 9)) (fCons (fBin oPow (fC (.int 10)) (fC (.int 20))) fNil))))) (fCall m__law_pick (fCons (fVar 1) (fCons (fC (.int 3)) fNil))) (rhoL sc t (.w (.d (.int m))) a4 a5 a6 a7 a8 a9 a10 a11 a12) S1 = .ok (.d (.int z)) S2 := by
      have pk : fCall m__law_pick (fCons (fVar 1) (fCons (fC (.int 3)) fNil)) (rhoL sc t (.w (.d (.int m))) a4 a5 a6 a7 a8 a9 a10 a11 a12) S1 = .ok (.d (.int w)) S2 := by simp [rhoL, e2]
      rw [e_bin, lst, e_ok, pk, e_ok, ix]
    simp only [rhoL] at ix' ⊢
    generalize fBin oIx (fFz (fNewL (fCons (fC (.int 2)) (fCons (fC (.int 9)) (fCons (fBin oPow (fC (.int 10)) (fC (.int 20))) fNil))))) (fCall m__law_pick (fCons (fVar 1) (fCons (fC (.int 3)) fNil))) = ff at ix' ⊢
    simp [ix', e3']
  obtain ⟨cs, S4, e4, c1, c2, c3, d4⟩ := lc_some t_law_0 e_law_0 (rhoL sc t (.w (.d (.int m))) (.w (.d (sD T g))) a5 a6 a7 a8 a9 a10 a11 a12) 13 (fun w S hS => by
      obtain ⟨v, S', e, _, _, d⟩ := pick_ok hS (many := 2) (by omega) (by omega)
      exact ⟨decide (v = 0), S', by simp [t_law_0, rhoL, e], d⟩) (fun w S => by simp [e_law_0, rhoL]) m.toNat 0 S3 d3
  have x3 : fSetO 5 (fLc (fRng1 (fVar 3)) [13] (gN 13) t_law_0 e_law_0) (rhoL sc t (.w (.d (.int m))) (.w (.d (sD T g))) a5 a6 a7 a8 a9 a10 a11 a12) S3 = .nx (rhoL sc t (.w (.d (.int m))) (.w (.d (sD T g))) (.own (.lst (cs.map fun k => .d (.int k)))) a6 a7 a8 a9 a10 a11 a12) S4 := by
    rw [e_SetO, e_Lc (xs := rngL 0 m.toNat) (S' := S3) _ _ _ (by simp [rhoL]; omega) rfl]
    show fl ((lcL (gN 13) t_law_0 e_law_0 (rhoL sc t (.w (.d (.int m))) (.w (.d (sD T g))) a5 a6 a7 a8 a9 a10 a11 a12) (rngL 0 m.toNat) S3).bind _) _ _ = _
    rw [e4]
    rfl
  obtain ⟨K, S5, e5, k1, k2, d5⟩ := lc_wit e_law_1 (rhoL sc t (.w (.d (.int m))) (.w (.d (sD T g))) (.w (.d (.list (cs.map .int)))) a6 a7 a8 a9 a10 a11 a12) 13 m (fun k S hS => by
      obtain ⟨v, S', e, b0, b1, d⟩ := pick_ok hS (many := 2 * m + 2) (by omega) (p8000b (by omega))
      have km : mulC 2 m = true := mulC_of 3 12 (by decide) (by omega) (by omega) (by omega) (by omega)
      exact ⟨v - 2, S', by simp [e_law_1, rhoL, e, km, pd], by omega, by omega, d⟩) cs S4 d4
  refine ⟨m, T, g, K, .w (.d (.list (cs.map .int))), S5, ⟨by omega, by omega, hT.rt (by omega) (by omega) (by omega), fun t ht => by have := hT.lo t ht; omega, fun p hp => ?_, by rw [k1]; exact c1, ?_, hT.len⟩, d5, ?_⟩
  · have h1 := k2 p hp
    have h2 := c2 p.1 (by rw [← k1]; exact List.mem_map.mpr ⟨p, hp, rfl⟩)
    omega
  · have : K.length = cs.length := by rw [← k1]; simp [keys]
    omega
  · have x4 : fFrz 5 (fSet 6 (fTupL (fItO (fLc (fIt (fVar 5)) [13] (gN 13) (fun _ S => .ok true S) e_law_1)))) (rhoL sc t (.w (.d (.int m))) (.w (.d (sD T g))) (.own (.lst (cs.map fun k => .d (.int k)))) a6 a7 a8 a9 a10 a11 a12) S4 = .nx (rhoL sc t (.w (.d (.int m))) (.w (.d (sD T g))) (.w (.d (.list (cs.map .int)))) (.w (.d (pD K))) a7 a8 a9 a10 a11 a12) S5 := by
      rw [e_Frz]
      simp only [rhoL, List.getElem?_cons_succ, List.getElem?_cons_zero, e_frz, dats_ints, Option.map_some, List.set_cons_succ, List.set_cons_zero]
      rw [e_Set, e_TupL, e_ItO, e_Lc (xs := (cs.map PyData.int).map .d) (S' := S4) _ _ _ (by simp) rfl]
      simp only [rhoL] at e5
      show fl ((((lcL (gN 13) (fun _ S => Res.ok true S) e_law_1 _ ((cs.map PyData.int).map .d) S4).bind _).bind _).bind _) _ _ = _
      rw [show unset [sc, Sl.w (W.ref 1), t, Sl.w (W.d (PyData.int m)), Sl.w (W.d (sD T g)), Sl.w (W.d (PyData.list (List.map PyData.int cs))), a6, a7, a8, a9, a10, a11, a12, Sl.un] [13] = [sc, Sl.w (W.ref 1), t, Sl.w (W.d (PyData.int m)), Sl.w (W.d (sD T g)), Sl.w (W.d (PyData.list (List.map PyData.int cs))), a6, a7, a8, a9, a10, a11, a12, Sl.un] from rfl, e5, e_ok, e_ok, e_lstOf, e_ok]
      unfold mkTup
      rw [e_datsm]
      rfl
    rw [e_Seq, x1, e_thenN, e_Seq, x2, e_thenN, e_Seq, x3, e_thenN, e_Seq, x4, e_thenN]
end L2.Q.P
namespace L2.Q.P
open PySem PySem.Spec PyProof.Rows
/-! bent witnesses -/
def bent1 (K : Prs) : List PyData := [.list (K.map pd), .none, .tuple [.int 1], .tuple (K.map pd ++ [pd (0, 0)]), .tuple (K.map pd ++ [pd (90, -3)]), .tuple (K.map pd ++ [.tuple [.int 90, .bool true]]), .tuple (K.map pd).reverse, .tuple (pd (-1, 0) :: K.map pd)]
def bent2 (K : Prs) : List PyData := [.tuple (K.map pd ++ [pd (90, -1)]), .tuple (K.map pd ++ [.tuple [.int 90]]), .tuple (K.map pd ++ [.list [.int 90, .int 1]]), .tuple (K.map pd ++ [.tuple [.int 90, .int 1, .int 1]]), .tuple ((K.map pd).drop 1), .tuple (.tuple [.int 0, .none] :: (K.map pd).drop 1)]
theorem bent_small {K : Prs} (hl : K.length ≤ 6) {d : PyData} (h : d ∈ bent1 K ++ bent2 K) : ∀ ds, d = .tuple ds → ds.length ≤ 1000 := fun ds e => by
  subst e
  simp only [bent1, bent2, List.cons_append, List.nil_append, List.mem_cons, List.not_mem_nil, or_false, PyData.tuple.injEq, reduceCtorEq, false_or] at h
  rcases h with rfl | rfl | rfl | rfl | rfl | rfl | rfl | rfl | rfl | rfl | rfl | rfl <;> simp <;> omega
theorem bent_ok {K : Prs} (hl : K.length ≤ 6) {S : List Ob} (hS : Dk S) : ∃ (d : PyData) (S' : List Ob), m__law_bent [.ref 1, .d (pD K)] S = .ok (.w (.d d)) S' ∧ (∀ ds, d = .tuple ds → ds.length ≤ 1000) ∧ Dk S' := by
  obtain ⟨w, S1, e1, a1, b1, d1⟩ := pick_ok hS (many := 14) (by omega) (by omega)
  have l14 : (bent1 K ++ bent2 K).length = 14 := rfl
  obtain ⟨d, hd, hm⟩ := at_mem (xs := bent1 K ++ bent2 K) a1 (by rw [l14]; exact b1)
  refine ⟨d, S1, ?_, bent_small hl hm, d1⟩
  have st : start0 3 [W.ref 1, .d (pD K)] = [.w (.ref 1), .w (.d (pD K)), .un] := rfl
  have q1 : K.length + 1 ≤ 16777216 := by omega
  have q2 : 1 + K.length ≤ 16777216 := by omega
  have q3 : 1 + (K.length - 1) ≤ 16777216 := by omega
  have c1 : cut (K.map pd) (some 1) none = (K.map pd).drop 1 := cut_one _
  have x1 : fSet 2 (fFz (fNewL (fCons (fFz (fNewL (fIt (fVar 1)))) (fCons (fC .none) (fCons (fTup (fCons (fC (.int 1)) fNil)) (fCons (fBin oAddA (fVar 1) (fTup (fCons (fTup (fCons (fC (.int 0)) (fCons (fC (.int 0)) fNil))) fNil))) (fCons (fBin oAddA (fVar 1) (fTup (fCons (fTup (fCons (fC (.int 90)) (fCons (fUn oNeg (fC (.int 3))) fNil))) fNil))) (fCons (fBin oAddA (fVar 1) (fTup (fCons (fTup (fCons (fC (.int 90)) (fCons (fC (.bool true)) fNil))) fNil))) (fCons (fRevT (fVar 1)) (fCons (fBin oAddA (fTup (fCons (fTup (fCons (fUn oNeg (fC (.int 1))) (fCons (fC (.int 0)) fNil))) fNil)) (fVar 1)) fNil)))))))))) [.w (.ref 1), .w (.d (pD K)), .un] S = .nx [.w (.ref 1), .w (.d (pD K)), .w (.d (.list (bent1 K)))] S := by
    simp [pD, q1, q2, bent1, pd]
  have x2 : fSet 2 (fFz (fAddN (fVar 2) (fFz (fNewL (fCons (fBin oAddA (fVar 1) (fTup (fCons (fTup (fCons (fC (.int 90)) (fCons (fUn oNeg (fC (.int 1))) fNil))) fNil))) (fCons (fBin oAddA (fVar 1) (fTup (fCons (fTup (fCons (fC (.int 90)) fNil)) fNil))) (fCons (fBin oAddA (fVar 1) (fTup (fCons (fFz (fNewL (fCons (fC (.int 90)) (fCons (fC (.int 1)) fNil)))) fNil))) (fCons (fBin oAddA (fVar 1) (fTup (fCons (fTup (fCons (fC (.int 90)) (fCons (fC (.int 1)) (fCons (fC (.int 1)) fNil)))) fNil))) (fCons (fCut (fVar 1) (fP (fC (.int 1))) fNoP) (fCons (fBin oAddA (fTup (fCons (fTup (fCons (fC (.int 0)) (fCons (fC .none) fNil))) fNil)) (fCut (fVar 1) (fP (fC (.int 1))) fNoP)) fNil)))))))))) [.w (.ref 1), .w (.d (pD K)), .w (.d (.list (bent1 K)))] S = .nx [.w (.ref 1), .w (.d (pD K)), .w (.d (.list (bent1 K ++ bent2 K)))] S := by
    have e2 : fFz (fNewL (fCons (fBin oAddA (fVar 1) (fTup (fCons (fTup (fCons (fC (.int 90)) (fCons (fUn oNeg (fC (.int 1))) fNil))) fNil))) (fCons (fBin oAddA (fVar 1) (fTup (fCons (fTup (fCons (fC (.int 90)) fNil)) fNil))) (fCons (fBin oAddA (fVar 1) (fTup (fCons (fFz (fNewL (fCons (fC (.int 90)) (fCons (fC (.int 1)) fNil)))) fNil))) (fCons (fBin oAddA (fVar 1) (fTup (fCons (fTup (fCons (fC (.int 90)) (fCons (fC (.int 1)) (fCons (fC (.int 1)) fNil)))) fNil))) (fCons (fCut (fVar 1) (fP (fC (.int 1))) fNoP) (fCons (fBin oAddA (fTup (fCons (fTup (fCons (fC (.int 0)) (fCons (fC .none) fNil))) fNil)) (fCut (fVar 1) (fP (fC (.int 1))) fNoP)) fNil))))))) [.w (.ref 1), .w (.d (pD K)), .w (.d (.list (bent1 K)))] S = .ok (.d (.list (bent2 K))) S := by
      simp [pD, q1, q2, q3, c1, bent2, pd]
    generalize bent1 K = L1 at e2 l14 ⊢
    generalize bent2 K = L2 at e2 l14 ⊢
    have hl2 : (L1.length : Nat) + L2.length ≤ 16777216 := by rw [List.length_append] at l14; omega
    rw [e_Set, e_Fz, e_AddN, e_var]
    simp only [List.getElem?_cons_succ, List.getElem?_cons_zero]
    rw [e_ok, e2, e_ok, e_addN, if_pos hl2, e_ok, e_frz, e_datsm]
    rfl
  have x3 : fBin oIx (fVar 2) (fCall m__law_pick (fCons (fVar 0) (fCons (fC (.int 14)) fNil))) [.w (.ref 1), .w (.d (pD K)), .w (.d (.list (bent1 K ++ bent2 K)))] S = .ok (.d d) S1 := by
    generalize bent1 K ++ bent2 K = L at hd ⊢
    simp [e1, hd]
  unfold m__law_bent b__law_bent
  rw [e_runF, st, e_Seq, x1, e_thenN, e_Seq, x2, e_thenN, e_Ret, x3]
  rfl
end L2.Q.P
namespace L2.Q.P
open PySem PySem.Spec PyProof.Rows
/-! a turn of the law -/
section
variable {m : Int} {T K : Prs} {g : Int} (h : Dr m T g K) (sc t a5 a7 a8 a9 a10 a11 a12 : Sl)
include h
theorem st_images (S : List Ob) : fPar 7 8 (fCw (fSto (fDctT (fVar 6)))) (fCw (fCall m_image_of (fCons (fVar 4) (fCons (fVar 6) fNil)))) (rhoL sc t (.w (.d (.int m))) (.w (.d (sD T g))) a5 (.w (.d (pD K))) a7 a8 a9 a10 a11 a12) S = .nx (rhoL sc t (.w (.d (.int m))) (.w (.d (sD T g))) a5 (.w (.d (pD K))) (.w (.ref S.length)) (.w (.d (PT (mvT K T) g))) a9 a10 a11 a12) (S ++ [.dct (kvN K)] ++ [.dct (kvN K)]) := by
  have e1 := dct_pd h.nd S
  have e2 := image_of_ok (T := T) (K := K) g (S ++ [.dct (kvN K)]) (m := m) (by have := h.m6; omega) h.rt (fun t ht => (h.fit t ht).2) h.wit h.good (by have := h.len; omega) h.nd
  simp [-List.append_assoc, rhoL, e1, e2]
theorem moved_fit : ∀ p ∈ mvT K T, -2 ≤ p.1 ∧ p.1 < 2 * m := fun p hp => by
  obtain ⟨t, ht, rfl⟩ := List.mem_map.mp hp
  exact mv_bd h.wit (h.fit t ht).1 (h.fit t ht).2
theorem terms_len : (termsO (netO (mvT K T) g).1).length ≤ 6 := by
  have h1 := netS_len (mvT K T) ([], g)
  have h2 : (mvT K T).length = T.length := by unfold mvT; rw [List.length_map]
  have h3 := h.tl
  have h4 : (skeys (netO (mvT K T) g).1).length = (netO (mvT K T) g).1.length := by unfold skeys; rw [List.length_mergeSort]; simp [keys]
  have h5 : ∀ (N : Prs) (ks : List Int), (ks.flatMap (trm N)).length ≤ ks.length := fun N ks => by
    induction ks with
    | nil => simp
    | cons k r ih =>
      have : (trm N k).length ≤ 1 := by unfold trm; split; simp; split <;> simp
      rw [List.flatMap_cons, List.length_append, List.length_cons]; omega
  have h6 := h5 (netO (mvT K T) g).1 (skeys (netO (mvT K T) g).1)
  have h7 : (netO (mvT K T) g).1.length ≤ (mvT K T).length := by unfold netO; simpa using h1
  show ((skeys (netO (mvT K T) g).1).flatMap (trm (netO (mvT K T) g).1)).length ≤ 6
  omega
theorem st_sum {n : Nat} {S : List Ob} (hS : S[n]? = some (.dct (kvN K))) : fIfS (fOr (fNot (fT (fCall m__law_is_sum (fCons (fVar 8) fNil)))) (fNot (fT (fCall m__law_alike (fCons (fVar 8) (fCons (fCall m__law_image (fCons (fVar 4) (fCons (fVar 7) fNil))) fNil)))))) (fRet (fC (.bool false))) fNx (rhoL sc t (.w (.d (.int m))) (.w (.d (sD T g))) a5 (.w (.d (pD K))) (.w (.ref n)) (.w (.d (PT (mvT K T) g))) a9 a10 a11 a12) S = .nx (rhoL sc t (.w (.d (.int m))) (.w (.d (sD T g))) a5 (.w (.d (pD K))) (.w (.ref n)) (.w (.d (PT (mvT K T) g))) a9 a10 a11 a12) S := by
  have e1 : m__law_is_sum [.d (PT (mvT K T) g)] S = .ok (.w (.d (.bool true))) S := is_sum_ok _ _ S (okT_terms (mvT K T) g)
  have e2 := (image_ok (dctS_at hS) g (m := m) (by have := h.m6; omega) h.rt (fun t ht => (h.fit t ht).2) h.wit).2
  have e3 : m__law_alike [.d (PT (mvT K T) g), .d (PT (mvT K T) g)] S = .ok (.w (.d (.bool true))) S := alike_sum _ _ S (by have := terms_len h; omega)
  generalize hP : PT (mvT K T) g = P at e1 e2 e3
  simp [rhoL, e1, e2, e3]
theorem turn_rows {n : Nat} (hn : 2 ≤ n) {vs : List Int} (hz : Vz m vs) (x : Sl) {S : List Ob} (hS : S[n]? = some (.dct (kvN K)) ∨ S[n]? = some (.fdc (kvN K))) (hd : Dk S) : ∃ x', l_law_0 (rhoL sc t (.w (.d (.int m))) (.w (.d (sD T g))) a5 (.w (.d (pD K))) (.w (.ref n)) (.w (.d (PT (mvT K T) g))) (.w (.d (vD vs))) x a11 a12) S = .nx (rhoL sc t (.w (.d (.int m))) (.w (.d (sD T g))) a5 (.w (.d (pD K))) (.w (.ref n)) (.w (.d (PT (mvT K T) g))) (.w (.d (vD vs))) x' a11 a12) (S.set n (.fdc (kvN K))) := by
  have hl := hz.len
  have m6 := h.m6
  have hw : Wit vs.length K := by rw [hl]; exact h.wit
  have hk : K.length ≤ 1000 := by have := h.len; omega
  have e1 := changed_ok (K := K) S hz.bits (by omega) hw h.good hk
  have cb := chg_bits vs K vs hz.bits
  have cl := chg_len vs K vs
  have e2 : m__law_changed [.d (vD vs), .ref n] S = .ok (.w (.d (vD (chg vs K vs)))) (S.set n (.fdc (kvN K))) := by
    rcases hS with hS | hS
    · exact law_changed_ok S hz.bits (by omega) hS (.inl rfl) hw h.nd hk
    · exact law_changed_ok S hz.bits (by omega) hS (.inr rfl) hw h.nd hk
  have e3 := alike_vals (chg vs K vs) (S.set n (.fdc (kvN K))) (by rw [cl]; omega)
  have il := image_law (T := T) g hz.bits hl h.wit h.nd h.fit
  generalize chg vs K vs = ws at e1 e2 e3 il cl
  generalize S.set n (.fdc (kvN K)) = S' at e2 e3 ⊢
  refine ⟨.w (.d (vD ws)), ?_⟩
  have tl := terms_lt (ps := mvT K T) (g := g) (m := m) fun p hp => (moved_fit h p hp).2
  have e4 : m__law_worth [.d (PT (mvT K T) g), .d (vD vs)] S' = .ok (.w (.d (.int (wl vs (termsO (netO (mvT K T) g).1))))) S' := worth_ok _ S' fun t ht => by
    have := tl t ht
    omega
  have e5 : m__law_worth [.d (sD T g), .d (vD ws)] S' = .ok (.w (.d (.int (wl ws T)))) S' := worth_ok _ S' fun t ht => by
    have := h.fit t ht
    omega
  have i4 : oIx (.d (PT (mvT K T) g)) (.d (.int 1)) S' = .ok (.d (.int (restO (netO (mvT K T) g)))) S' := by unfold PT; simp
  have i5 : oIx (.d (sD T g)) (.d (.int 1)) S' = .ok (.d (.int g)) S' := by unfold sD; simp
  generalize wl vs (termsO (netO (mvT K T) g).1) = A at e4 il
  generalize restO (netO (mvT K T) g) = B at i4 il
  generalize PT (mvT K T) g = P at e4 i4 ⊢
  generalize wl ws T = C at e5 il
  generalize sD T g = O at e5 i5 ⊢
  have x1 : fSet 10 (fCall m_changed (fCons (fVar 9) (fCons (fVar 6) fNil))) (rhoL sc t (.w (.d (.int m))) (.w (.d O)) a5 (.w (.d (pD K))) (.w (.ref n)) (.w (.d P)) (.w (.d (vD vs))) x a11 a12) S = .nx (rhoL sc t (.w (.d (.int m))) (.w (.d O)) a5 (.w (.d (pD K))) (.w (.ref n)) (.w (.d P)) (.w (.d (vD vs))) (.w (.d (vD ws))) a11 a12) S := by
    simp [rhoL, e1]
  have x2 : fIfS (fNot (fT (fCall m__law_alike (fCons (fVar 10) (fCons (fCall m__law_changed (fCons (fVar 9) (fCons (fVar 7) fNil))) fNil))))) (fRet (fC (.bool false))) fNx (rhoL sc t (.w (.d (.int m))) (.w (.d O)) a5 (.w (.d (pD K))) (.w (.ref n)) (.w (.d P)) (.w (.d (vD vs))) (.w (.d (vD ws))) a11 a12) S = .nx (rhoL sc t (.w (.d (.int m))) (.w (.d O)) a5 (.w (.d (pD K))) (.w (.ref n)) (.w (.d P)) (.w (.d (vD vs))) (.w (.d (vD ws))) a11 a12) S' := by
    simp [rhoL, e2, e3]
  have x3 : fIfS (fT (fBin (oEqS true) (fBin oSub (fCall m__law_worth (fCons (fVar 8) (fCons (fVar 9) fNil))) (fBin oIx (fVar 8) (fC (.int 1)))) (fBin oSub (fCall m__law_worth (fCons (fVar 4) (fCons (fVar 10) fNil))) (fBin oIx (fVar 4) (fC (.int 1)))))) (fRet (fC (.bool false))) fNx (rhoL sc t (.w (.d (.int m))) (.w (.d O)) a5 (.w (.d (pD K))) (.w (.ref n)) (.w (.d P)) (.w (.d (vD vs))) (.w (.d (vD ws))) a11 a12) S' = .nx (rhoL sc t (.w (.d (.int m))) (.w (.d O)) a5 (.w (.d (pD K))) (.w (.ref n)) (.w (.d P)) (.w (.d (vD vs))) (.w (.d (vD ws))) a11 a12) S' := by
    simp [rhoL, e4, e5, i4, i5, il]
  unfold l_law_0
  rw [e_Seq, x1, e_thenN, e_Seq, x2, e_thenN, x3]
theorem st_rows {n : Nat} (hn : 2 ≤ n) {S : List Ob} (hS : S[n]? = some (.dct (kvN K))) (hd : Dk S) : ∃ x y S', fFor (fIt (fCall m__law_rows (fCons (fVar 3) fNil))) (gN 9) l_law_0 (rhoL sc t (.w (.d (.int m))) (.w (.d (sD T g))) a5 (.w (.d (pD K))) (.w (.ref n)) (.w (.d (PT (mvT K T) g))) a9 a10 a11 a12) S = .nx (rhoL sc t (.w (.d (.int m))) (.w (.d (sD T g))) a5 (.w (.d (pD K))) (.w (.ref n)) (.w (.d (PT (mvT K T) g))) x y a11 a12) S' ∧ Dk S' := by
  obtain ⟨rs, e1, hz⟩ := law_rows_ok h.m1 (by have := h.m6; omega) S
  have loop := for_inv (f := l_law_0) (gN 9) (fun i ρ S' => Dk S' ∧ (S'[n]? = some (.dct (kvN K)) ∨ S'[n]? = some (.fdc (kvN K))) ∧ ∃ x y, ρ = rhoL sc t (.w (.d (.int m))) (.w (.d (sD T g))) a5 (.w (.d (pD K))) (.w (.ref n)) (.w (.d (PT (mvT K T) g))) x y a11 a12) ((rs.map vD).map .d) 0 _ S ⟨hd, .inl hS, a9, a10, rfl⟩ fun i w ρ S' hi hP => by
    obtain ⟨d, hk, x, y, rfl⟩ := hP
    obtain ⟨vs, hv, rfl⟩ : ∃ vs ∈ rs, w = .d (vD vs) := by
      have := List.mem_of_getElem? hi
      rw [List.map_map] at this
      obtain ⟨vs, hv, rfl⟩ := List.mem_map.mp this
      exact ⟨vs, hv, rfl⟩
    obtain ⟨x', e⟩ := turn_rows h sc t a5 a11 a12 hn (hz vs hv) y hk d
    have lt : n < S'.length := by
      rcases hk with hk | hk <;> exact (List.getElem?_eq_some_iff.mp hk).1
    refine ⟨_, _, by rw [e_gN, e_setG]; exact e, d.setAt hn _, .inr (List.getElem?_set_self lt), _, _, rfl⟩
  obtain ⟨ρ', S', e2, d, _, x, y, rfl⟩ := loop
  refine ⟨x, y, S', ?_, d⟩
  rw [e_For (xs := (rs.map vD).map .d) (S' := S) _ (by simp only [rhoL]; simp [e1])]
  exact e2
theorem st_bent {S : List Ob} (hS : Dk S) (x8 x7 : Sl) : ∃ (d : PyData) (S' : List Ob), fSet 11 (fCall m__law_bent (fCons (fVar 1) (fCons (fVar 6) fNil))) (rhoL sc t (.w (.d (.int m))) (.w (.d (sD T g))) a5 (.w (.d (pD K))) x7 x8 a9 a10 a11 a12) S = .nx (rhoL sc t (.w (.d (.int m))) (.w (.d (sD T g))) a5 (.w (.d (pD K))) x7 x8 a9 a10 (.w (.d d)) a12) S' ∧ (∀ ds, d = .tuple ds → ds.length ≤ 1000) ∧ Dk S' := by
  obtain ⟨d, S', e, hs, d1⟩ := bent_ok h.len hS
  exact ⟨d, S', by simp [rhoL, e], hs, d1⟩
omit h in
theorem isB_ok (neg a b : Bool) (S : List Ob) : oIsB neg (.d (.bool a)) (.d (.bool b)) S = .ok (.d (.bool (neg ^^ (a == b)))) S := by cases neg <;> cases a <;> cases b <;> rfl
omit h in
theorem st_right (d : PyData) (S : List Ob) (x3 x4 x6 : Sl) : fSet 12 (fCall m__law_is_witness (fCons (fVar 11) fNil)) (rhoL sc t x3 x4 a5 x6 a7 a8 a9 a10 (.w (.d d)) a12) S = .nx (rhoL sc t x3 x4 a5 x6 a7 a8 a9 a10 (.w (.d d)) (.w (.d (.bool (witB d))))) S := by
  have e := law_is_witness_ok d S
  simp [rhoL, e]
theorem st_judged {d : PyData} (hs : ∀ ds, d = .tuple ds → ds.length ≤ 1000) (S : List Ob) (x3 x4 : Sl) : fIfS (fOr (fT (fBin (oIsB true) (fCall m_is_witness (fCons (fVar 6) fNil)) (fC (.bool true)))) (fNot (fT (fCall m__law_is (fCons (fCall m_is_witness (fApd fNil (fCons (fVar 11) fNil))) (fCons (fVar 12) fNil)))))) (fRet (fC (.bool false))) fNx (rhoL sc t x3 x4 a5 (.w (.d (pD K))) a7 a8 a9 a10 (.w (.d d)) (.w (.d (.bool (witB d))))) S = .nx (rhoL sc t x3 x4 a5 (.w (.d (pD K))) a7 a8 a9 a10 (.w (.d d)) (.w (.d (.bool (witB d))))) S := by
  have e1 := is_witness_ok d S hs
  have e2 := is_witness_ok (pD K) S (fun ds e => by unfold pD at e; cases e; have := h.len; simp; omega)
  rw [h.good] at e2
  generalize witB d = b at e1 ⊢
  have e3 : m__law_is [.d (.bool b), .d (.bool b)] S = .ok (.w (.d (.bool true))) S := by
    cases b <;> simp [m__law_is, b__law_is, start0, isB_ok]
  simp [rhoL, e1, e2, e3, isB_ok]
theorem zeros_rep (k : Nat) : (List.replicate k [PyData.int 0]).flatten = (List.replicate k (0 : Int)).map .int := by
  rw [List.map_replicate]
  induction k with
  | zero => rfl
  | succ k ih => rw [List.replicate_succ, List.flatten_cons, ih]; rfl
theorem zeros_mul (S : List Ob) : oMulT (.d (.tuple [.int 0])) (.d (.int m)) S = .ok (.d (vD (List.replicate m.toNat 0))) S := by
  rw [e_mulTt ⟨by simp, by have := h.m1; omega, by have := h.m6; omega, by simp⟩, zeros_rep h]
  rfl
theorem zeros_bits : ∀ x ∈ List.replicate m.toNat (0 : Int), x = 0 ∨ x = 1 := fun x hx => .inl (List.mem_replicate.mp hx).2
theorem st_wrong {d : PyData} (hs : ∀ ds, d = .tuple ds → ds.length ≤ 1000) (S : List Ob) : fIfS (fNot (fT (fVar 12))) (fSeq (fIfS (fOr (fT (fBin (oEqS true) (fCall m__law_refused (fCons (fC (.int 0)) (fCons (fVar 4) (fCons (fVar 11) fNil)))) (fC (.str "witness")))) (fT (fBin (oEqS true) (fCall m__law_refused (fCons (fC (.int 0)) (fCons (fC .none) (fCons (fVar 11) fNil)))) (fC (.str "sum"))))) (fRet (fC (.bool false))) fNx) (fIfS (fOr (fT (fBin (oEqS true) (fCall m__law_refused (fCons (fC (.int 1)) (fCons (fBin oMulT (fTup (fCons (fC (.int 0)) fNil)) (fVar 3)) (fCons (fVar 11) fNil)))) (fC (.str "witness")))) (fT (fBin (oEqS true) (fCall m__law_refused (fCons (fC (.int 1)) (fCons (fFz (fRep (fNewL (fCons (fC (.int 0)) fNil)) (fVar 3))) (fCons (fVar 11) fNil)))) (fC (.str "values"))))) (fRet (fC (.bool false))) fNx)) fNx (rhoL sc t (.w (.d (.int m))) (.w (.d (sD T g))) a5 (.w (.d (pD K))) a7 a8 a9 a10 (.w (.d d)) (.w (.d (.bool (witB d))))) S = .nx (rhoL sc t (.w (.d (.int m))) (.w (.d (sD T g))) a5 (.w (.d (pD K))) a7 a8 a9 a10 (.w (.d d)) (.w (.d (.bool (witB d))))) S := by
  cases hb : witB d with
  | true => simp [rhoL]
  | false =>
    have zb := zeros_bits h
    have r1 := ref0_wit (image_of_wit (T := T) g S h.rt hs hb)
    have r2 := ref0_sum (image_of_sum (d := d) S)
    have r3 := ref1_wit (changed_wit (vs := List.replicate m.toNat 0) S zb (by have := h.m6; simp; omega) hs hb)
    have r4 := ref1_val (changed_vals (xs := (List.replicate m.toNat (0 : Int)).map .int) (d := d) S)
    have z1 := zeros_mul h S
    have z2 : fFz (fRep (fNewL (fCons (fC (.int 0)) fNil)) (fVar 3)) (rhoL sc t (.w (.d (.int m))) (.w (.d (sD T g))) a5 (.w (.d (pD K))) a7 a8 a9 a10 (.w (.d d)) (.w (.d (.bool false)))) S = .ok (.d (.list ((List.replicate m.toNat (0 : Int)).map .int))) S := by
      have hm : -(2 ^ 63) ≤ m ∧ m < 2 ^ 63 ∧ 1 * m.toNat ≤ 16777216 := by have := h.m1; have := h.m6; omega
      have er : (List.replicate m.toNat [W.d (.int 0)]).flatten = ((List.replicate m.toNat (0 : Int)).map PyData.int).map W.d := by
        generalize m.toNat = k
        rw [List.map_replicate, List.map_replicate]
        induction k with
        | zero => rfl
        | succ k ih => rw [List.replicate_succ, List.flatten_cons, ih]; rfl
      have o : oRep (.lst [.d (.int 0)]) (.d (.int m)) S = .ok (.lst (((List.replicate m.toNat (0 : Int)).map PyData.int).map .d)) S := by
        unfold oRep
        rw [← er]
        exact if_pos hm
      generalize (List.replicate m.toNat (0 : Int)).map PyData.int = Z at o ⊢
      simp [rhoL, o]
    have s1 := str_ne "witness" S (by decide +kernel)
    have s2 := str_ne "sum" S (by decide +kernel)
    have s3 := str_ne "values" S (by decide +kernel)
    generalize vD (List.replicate m.toNat 0) = Z1 at r3 z1
    generalize (List.replicate m.toNat (0 : Int)).map PyData.int = Z2 at r4 z2
    generalize fFz (fRep (fNewL (fCons (fC (.int 0)) fNil)) (fVar 3)) = zz at z2 ⊢
    generalize sD T g = O at r1 z2 ⊢
    simp only [rhoL] at z2
    simp [rhoL, r1, r2, r3, r4, z1, z2, s1, s2, s3]
theorem wit_one {k v : Int} (h0 : 0 ≤ k) (h1 : -2 ≤ v) : witB (pD [(k, v)]) = true := by
  show witL (-1) [pd (k, v)] = true
  have : imgB (pd (k, v)) = true := by
    show (decide (0 ≤ k) && decide (-2 ≤ v)) = true
    rw [decide_eq_true h0, decide_eq_true h1]; rfl
  have q : decide ((-1 : Int) < fstD (pd (k, v))) = true := decide_eq_true (by show -1 < k; omega)
  simp only [witL, this, q, Bool.true_and, Bool.and_true]
theorem st_out (S : List Ob) : fIfS (fOr (fT (fBin (oEqS true) (fCall m__law_refused (fCons (fC (.int 1)) (fCons (fBin oMulT (fTup (fCons (fC (.int 0)) fNil)) (fVar 3)) (fCons (fTup (fCons (fTup (fCons (fVar 3) (fCons (fC (.int 0)) fNil))) fNil)) fNil)))) (fC (.str "witness")))) (fT (fBin (oEqS true) (fCall m__law_refused (fCons (fC (.int 1)) (fCons (fBin oMulT (fTup (fCons (fC (.int 0)) fNil)) (fVar 3)) (fCons (fTup (fCons (fTup (fCons (fC (.int 0)) (fCons (fBin oAddA (fBin oMulT (fC (.int 2)) (fVar 3)) (fC (.int 1))) fNil))) fNil)) fNil)))) (fC (.str "witness"))))) (fRet (fC (.bool false))) fNx (rhoL sc t (.w (.d (.int m))) (.w (.d (sD T g))) a5 (.w (.d (pD K))) a7 a8 a9 a10 a11 a12) S = .nx (rhoL sc t (.w (.d (.int m))) (.w (.d (sD T g))) a5 (.w (.d (pD K))) a7 a8 a9 a10 a11 a12) S := by
  have zb := zeros_bits h
  have zl : (List.replicate m.toNat (0 : Int)).length ≤ 1000 := by have := h.m6; simp; omega
  have ll : ((List.replicate m.toNat (0 : Int)).length : Int) = m := by have := h.m1; simp; omega
  have r1 := ref1_wit (changed_out (K := [(m, 0)]) S zb zl (wit_one h (by have := h.m1; omega) (by omega)) (by simp) (by
    show (inW _ (pd (m, 0)) && true) = false
    rw [ll]
    simp [inW, pd]
    omega))
  have r2 := ref1_wit (changed_out (K := [(0, 2 * m + 1)]) S zb zl (wit_one h (by omega) (by have := h.m1; omega)) (by simp) (by
    show (inW _ (pd (0, 2 * m + 1)) && true) = false
    rw [ll]
    simp [inW, pd]
    omega))
  have z1 := zeros_mul h S
  have s1 := str_ne "witness" S (by decide +kernel)
  have km : mulC 2 m = true := mulC_of 3 12 (by decide) (by have := h.m1; have := h.m6; omega) (by omega) (by omega) (by omega)
  generalize vD (List.replicate m.toNat 0) = Z1 at r1 r2 z1
  simp only [pD, List.map_cons, List.map_nil, pd] at r1 r2
  simp [rhoL, r1, r2, z1, s1, km]
end

theorem law_body (sc t a3 a4 a5 a6 a7 a8 a9 a10 a11 a12 : Sl) (S : List Ob) (hS : Dk S) : ∃ (b3 b4 b5 b6 b7 b8 b9 b10 b11 b12 : Sl) (S' : List Ob), l_law_1 (rhoL sc t a3 a4 a5 a6 a7 a8 a9 a10 a11 a12) S = .nx (rhoL sc t b3 b4 b5 b6 b7 b8 b9 b10 b11 b12) S' ∧ Dk S' := by
  obtain ⟨m, T, g, K, a5', S1, h, d1, e1⟩ := draws sc t a3 a4 a6 a7 a8 a9 a10 a11 a12 a5 S hS (fSeq (fPar 7 8 (fCw (fSto (fDctT (fVar 6)))) (fCw (fCall m_image_of (fCons (fVar 4) (fCons (fVar 6) fNil))))) (fSeq (fIfS (fOr (fNot (fT (fCall m__law_is_sum (fCons (fVar 8) fNil)))) (fNot (fT (fCall m__law_alike (fCons (fVar 8) (fCons (fCall m__law_image (fCons (fVar 4) (fCons (fVar 7) fNil))) fNil)))))) (fRet (fC (.bool false))) fNx) (fSeq (fFor (fIt (fCall m__law_rows (fCons (fVar 3) fNil))) (gN 9) l_law_0) (fSeq (fSet 11 (fCall m__law_bent (fCons (fVar 1) (fCons (fVar 6) fNil)))) (fSeq (fSet 12 (fCall m__law_is_witness (fCons (fVar 11) fNil))) (fSeq (fIfS (fOr (fT (fBin (oIsB true) (fCall m_is_witness (fCons (fVar 6) fNil)) (fC (.bool true)))) (fNot (fT (fCall m__law_is (fCons (fCall m_is_witness (fApd fNil (fCons (fVar 11) fNil))) (fCons (fVar 12) fNil)))))) (fRet (fC (.bool false))) fNx) (fSeq (fIfS (fNot (fT (fVar 12))) (fSeq (fIfS (fOr (fT (fBin (oEqS true) (fCall m__law_refused (fCons (fC (.int 0)) (fCons (fVar 4) (fCons (fVar 11) fNil)))) (fC (.str "witness")))) (fT (fBin (oEqS true) (fCall m__law_refused (fCons (fC (.int 0)) (fCons (fC .none) (fCons (fVar 11) fNil)))) (fC (.str "sum"))))) (fRet (fC (.bool false))) fNx) (fIfS (fOr (fT (fBin (oEqS true) (fCall m__law_refused (fCons (fC (.int 1)) (fCons (fBin oMulT (fTup (fCons (fC (.int 0)) fNil)) (fVar 3)) (fCons (fVar 11) fNil)))) (fC (.str "witness")))) (fT (fBin (oEqS true) (fCall m__law_refused (fCons (fC (.int 1)) (fCons (fFz (fRep (fNewL (fCons (fC (.int 0)) fNil)) (fVar 3))) (fCons (fVar 11) fNil)))) (fC (.str "values"))))) (fRet (fC (.bool false))) fNx)) fNx) (fIfS (fOr (fT (fBin (oEqS true) (fCall m__law_refused (fCons (fC (.int 1)) (fCons (fBin oMulT (fTup (fCons (fC (.int 0)) fNil)) (fVar 3)) (fCons (fTup (fCons (fTup (fCons (fVar 3) (fCons (fC (.int 0)) fNil))) fNil)) fNil)))) (fC (.str "witness")))) (fT (fBin (oEqS true) (fCall m__law_refused (fCons (fC (.int 1)) (fCons (fBin oMulT (fTup (fCons (fC (.int 0)) fNil)) (fVar 3)) (fCons (fTup (fCons (fTup (fCons (fC (.int 0)) (fCons (fBin oAddA (fBin oMulT (fC (.int 2)) (fVar 3)) (fC (.int 1))) fNil))) fNil)) fNil)))) (fC (.str "witness"))))) (fRet (fC (.bool false))) fNx))))))))
  have e2 := st_images h sc t a5' a7 a8 a9 a10 a11 a12 S1
  have n2 : 2 ≤ S1.length := d1.two
  have hS2 : (S1 ++ [Ob.dct (kvN K)] ++ [.dct (kvN K)])[S1.length]? = some (.dct (kvN K)) := by simp
  have d2 : Dk (S1 ++ [Ob.dct (kvN K)] ++ [.dct (kvN K)]) := (d1.more _).more _
  generalize S1 ++ [Ob.dct (kvN K)] ++ [.dct (kvN K)] = S2 at e2 hS2 d2
  have e3 := st_sum h sc t a5' a9 a10 a11 a12 hS2
  obtain ⟨x, y, S3, e4, d3⟩ := st_rows h sc t a5' a9 a10 a11 a12 n2 hS2 d2
  obtain ⟨d, S4, e5, hs, d4⟩ := st_bent h sc t a5' x y a11 a12 d3 (.w (.d (PT (mvT K T) g))) (.w (.ref S1.length))
  have e6 := st_right sc t a5' (.w (.ref S1.length)) (.w (.d (PT (mvT K T) g))) x y a12 d S4 (.w (.d (.int m))) (.w (.d (sD T g))) (.w (.d (pD K)))
  have e7 := st_judged h sc t a5' (.w (.ref S1.length)) (.w (.d (PT (mvT K T) g))) x y hs S4 (.w (.d (.int m))) (.w (.d (sD T g)))
  have e8 := st_wrong h sc t a5' (.w (.ref S1.length)) (.w (.d (PT (mvT K T) g))) x y hs S4
  have e9 := st_out h sc t a5' (.w (.ref S1.length)) (.w (.d (PT (mvT K T) g))) x y (.w (.d d)) (.w (.d (.bool (witB d)))) S4
  refine ⟨.w (.d (.int m)), .w (.d (sD T g)), a5', .w (.d (pD K)), .w (.ref S1.length), .w (.d (PT (mvT K T) g)), x, y, .w (.d d), .w (.d (.bool (witB d))), S4, ?_, d4⟩
  unfold l_law_1
  rw [e1, e_Seq, e2, e_thenN, e_Seq, e3, e_thenN, e_Seq, e4, e_thenN, e_Seq, e5, e_thenN, e_Seq, e6, e_thenN, e_Seq, e7, e_thenN, e_Seq, e8, e_thenN, e9]
theorem law_ok (ns : List Int) (hl : ns.length ≤ 63) (hb : ∀ z ∈ ns, Builtin.Int.intBits z ≤ 1048576) : ∃ S, m_law [.d (.list (ns.map .int))] [] = .ok (.w (.d (.bool true))) S := by
  have d0 : Dk (DK ns 0 7919) := ⟨[], ns, 0, 7919, rfl, hl, hb, by omega, by decide, by omega, by omega⟩
  have st : start0 14 [W.d (.list (ns.map .int))] = [.w (.d (.list (ns.map .int))), .un, .un, .un, .un, .un, .un, .un, .un, .un, .un, .un, .un, .un] := rfl
  have x1 : fSet 1 (fSto (fCallO m__law_deck (fCons (fVar 0) fNil))) [.w (.d (.list (ns.map .int))), .un, .un, .un, .un, .un, .un, .un, .un, .un, .un, .un, .un, .un] [] = .nx (rhoL (.w (.d (.list (ns.map .int)))) .un .un .un .un .un .un .un .un .un .un .un) (DK ns 0 7919) := by
    simp [deck_ok ns hl, DK, rhoL]
  have loop := for_inv (f := l_law_1) (gN 2) (fun i ρ S' => Dk S' ∧ ∃ t a3 a4 a5 a6 a7 a8 a9 a10 a11 a12, ρ = rhoL (.w (.d (.list (ns.map .int)))) t a3 a4 a5 a6 a7 a8 a9 a10 a11 a12) (rngL 0 (1 + (if (6 : Int) < ns.length then 6 else (ns.length : Int))).toNat) 0 _ _ ⟨d0, .un, .un, .un, .un, .un, .un, .un, .un, .un, .un, .un, rfl⟩ fun i w ρ S' hi hP => by
    obtain ⟨hd, t, a3, a4, a5, a6, a7, a8, a9, a10, a11, a12, rfl⟩ := hP
    obtain ⟨b3, b4, b5, b6, b7, b8, b9, b10, b11, b12, S'', e, d⟩ := law_body (.w (.d (.list (ns.map .int)))) (.w w) a3 a4 a5 a6 a7 a8 a9 a10 a11 a12 S' hd
    exact ⟨_, _, by rw [e_gN, e_setG]; exact e, d, .w w, b3, b4, b5, b6, b7, b8, b9, b10, b11, b12, rfl⟩
  obtain ⟨ρ', S', e2, hd, t, a3, a4, a5, a6, a7, a8, a9, a10, a11, a12, rfl⟩ := loop
  refine ⟨S', ?_⟩
  have f : fFor (fRng1 (fBin oAddA (fC (.int 1)) (fBin oMin (fLen (fIt (fVar 0))) (fC (.int 6))))) (gN 2) l_law_1 (rhoL (.w (.d (.list (ns.map .int)))) .un .un .un .un .un .un .un .un .un .un .un) (DK ns 0 7919) = .nx (rhoL (.w (.d (.list (ns.map .int)))) t a3 a4 a5 a6 a7 a8 a9 a10 a11 a12) S' := by
    rw [e_For (xs := rngL 0 (1 + (if (6 : Int) < ns.length then 6 else (ns.length : Int))).toNat) (S' := DK ns 0 7919) _ ?_]
    · exact e2
    · simp [rhoL]
      split <;> omega
  unfold m_law b_law
  rw [e_runF, st, e_Seq, x1, e_thenN, e_Seq, f, e_thenN]
  rfl
end L2.Q.P
theorem PySem.Challenge.cw_sumsworn_k05_whole_images_and_changes_holds : PySem.Challenge.rw_sumsworn_k05_whole_images_and_changes.Holds := by
  exact L2.Q.P.holds_of L2.Q.P.law_ok
