import PyProof.Rows.All
import HandS.ForMost
import HandS.Exc
import HandS.ExcOwn
import HandS.TryMany
import HandS.Walk
import HandS.WordsExc
import HandS.HeadHook1
import KE.KDictKeyed
import HandS.TupAny
import HandS.TupMul
import HandS.Style
import HandS.IsInst
import HandS.Wide
import HandS.Zip
import HandS.Rev
import KE.SortData
import HandS.SortKw
import HandS.ExcIs
import HandS.Defaults
import HandS.More
import HandS.HeadHook2
import HandS.HeadEnd
import HandS.EndBits
import HandS.Head2
import KE.GoesMore
import HandS.SetFor
import HandS.Strs
import HandS.SortOrd
import HandS.TupLen
import KE.KDictWalk
import PySem.Challenge.RW_sumsworn_k43_marks_of_sums
import KE.BitLaws
set_option Elab.async false
set_option linter.all false
set_option maxRecDepth 100000
set_option autoImplicit false
set_option maxHeartbeats 0
set_option exponentiation.threshold 9000
/-! Layer Q, part A: deep values, slots that may own an object, a store of shared objects, how all this lies in the abstract heap. -/
namespace L2.Q
open PySem PySem.Spec PyProof.Rows

/-- a value: data, or a shared object by its number -/
inductive W where
  | d (x : PyData)
  | ref (n : Nat)
/-- an object that may change -/
inductive Ob where
  | lst (xs : List W)
  | dct (kvs : List (Key × W))
  /-- a dict that no longer changes (the kit's lock is on it) -/
  | fdc (kvs : List (Key × W))
  /-- an instance of a class of the program, by the class's name -/
  | ins (c : Str) (fs : List (Str × W))
  /-- a dict whose keys are tuples of whole numbers, of such, ..; whether it no longer changes -/
  | dcn (fz : Bool) (kvs : List (PyData × W))
/-- a name's slot: nothing, a value, an object that this slot alone holds -/
inductive Sl where
  | un
  | w (x : W)
  | own (o : Ob)
/-- what a call hands back -/
inductive Rv where
  | w (x : W)
  | own (o : Ob)
inductive Res (α : Type) where
  | ok (a : α) (S : List Ob)
  | err (c : Str) (S : List Ob)
  | bad
inductive Fl where
  | nx (ρ : List Sl) (S : List Ob)
  | rt (r : Rv) (S : List Ob)
  | bk (ρ : List Sl) (S : List Ob)
  | ct (ρ : List Sl) (S : List Ob)
  | ex (c : Str) (ρ : List Sl) (S : List Ob)
  | bad
abbrev FE := List Sl → List Ob → Res W
abbrev FA := List Sl → List Ob → Res (List W)
abbrev FB := List Sl → List Ob → Res Bool
abbrev FO := List Sl → List Ob → Res Ob
abbrev FT := List Sl → List Ob → Fl
def Res.bind {α β : Type} (r : Res α) (k : α → List Ob → Res β) : Res β :=
  match r with
  | .ok a S => k a S
  | .err c S => .err c S
  | .bad => .bad
theorem bind_ok {α β : Type} (a : α) (S : List Ob) (k : α → List Ob → Res β) : (Res.ok a S).bind k = k a S := rfl
theorem bind_err {α β : Type} (c : Str) (S : List Ob) (k : α → List Ob → Res β) : (Res.err c S).bind k = .err c S := rfl
theorem bind_bad {α β : Type} (k : α → List Ob → Res β) : (Res.bad).bind k = .bad := rfl

/-! ### frozen objects -/
/-- a part of a heap -/
def Le (F G : Hp) : Prop := ∀ a o, F a = some o → G a = some o
theorem Le.refl {F : Hp} : Le F F := fun _ _ h => h
theorem Le.trans {F G J : Hp} (h : Le F G) (k : Le G J) : Le F J := fun a o e => k a o (h a o e)
theorem Le.upd {F : Hp} {p : Addr} {o : HO} (h : F p = none) : Le F (upd F p o) := fun a u e => by
  rw [upd_ne (ne_of_none e h)]; exact e
theorem Le.rd {F G : Hp} (h : Le F G) {a : Addr} {u : HO} (r : Rd F a u) : Rd G a u := by
  rcases r with r | ⟨o, r⟩
  · exact .inl (h a _ r)
  · exact .inr ⟨o, h a _ r⟩
theorem Le.sqL {K : PySem.W.Frag} {F G : Hp} (h : Le F G) {a : Addr} {xs : List V} (r : SqL K F a xs) : SqL K G a xs := r.imp h.rd id
theorem Le.sqT {K : PySem.W.Frag} {F G : Hp} (h : Le F G) {a : Addr} {xs : List V} (r : SqT K F a xs) : SqT K G a xs := r.imp h.rd id
mutual
theorem Le.dp {K : PySem.W.Frag} {F G : Hp} (h : Le F G) : ∀ (d : PyData) (v : V), Dp K F v d → Dp K G v d
  | .none, _, r => by cases r; exact .non
  | .bool b, _, r => by cases r; exact .bl b
  | .int i, _, r => by cases r; exact .int i
  | .str x, _, r => by cases r; exact .str x
  | .list ds, _, r => by
    cases r with
    | lst hs ha => exact .lst (h.sqL hs) (Le.dps h ds _ ha)
  | .tuple ds, _, r => by
    cases r with
    | tup hs ha => exact .tup (h.sqT hs) (Le.dps h ds _ ha)
theorem Le.dps {K : PySem.W.Frag} {F G : Hp} (h : Le F G) : ∀ (ds : List PyData) (vs : List V), DpAll K F vs ds → DpAll K G vs ds
  | [], _, r => by cases r; exact .nil
  | d :: ds, _, r => by
    cases r with
    | cons h1 h2 => exact .cons (Le.dp h d _ h1) (Le.dps h ds _ h2)
end

/-! ### values, objects -/
def RepW (K : PySem.W.Frag) (Fr : Hp) (μ : List Addr) : W → V → Prop
  | .d x, v => Dp K Fr v x
  | .ref n, v => ∃ a, μ[n]? = some a ∧ v = .ref a
abbrev RepWs (K : PySem.W.Frag) (Fr : Hp) (μ : List Addr) : List W → List V → Prop := Paired (RepW K Fr μ)
def RepKV (K : PySem.W.Frag) (Fr : Hp) (μ : List Addr) : List (Key × W) → List (Key × V) → Prop := Paired fun p q => p.1 = q.1 ∧ RepW K Fr μ p.2 q.2
def RepFs (K : PySem.W.Frag) (Fr : Hp) (μ : List Addr) : List (Str × W) → List (Str × V) → Prop := Paired fun p q => p.1 = q.1 ∧ RepW K Fr μ p.2 q.2
/-! keys of whole numbers and tuples -/
mutual
def nk : PyData → NestedKey
  | .int i => .num i
  | .tuple ds => .tup (nks ds)
  | _ => .none
def nks : List PyData → List NestedKey
  | [] => []
  | d :: r => nk d :: nks r
end
mutual
def nkB : PyData → Bool
  | .int _ => true
  | .tuple ds => nkBs ds
  | _ => false
def nkBs : List PyData → Bool
  | [] => true
  | d :: r => nkB d && nkBs r
end
mutual
def nhash : PyData → Int
  | .int i => hashInt i
  | .tuple ds => reduceHash (Builtin.Tuple.tupleHashOf (nhashes ds))
  | _ => 0
def nhashes : List PyData → List Int
  | [] => []
  | d :: r => nhash d :: nhashes r
end
/-- what may be a key: a tuple of whole numbers and tuples, not deep -/
def keyB : PyData → Bool
  | .tuple ds => nkBs ds && decide ((NestedKey.tup (nks ds)).depth ≤ 8)
  | _ => false
def RepEn (K : PySem.W.Frag) (Fr : Hp) (μ : List Addr) (p : PyData × W) (e : DictEntry) : Prop :=
  keyB p.1 = true ∧ ∃ b v, e.key = .ref b ∧ e.hash = nhash p.1 ∧ Dp K Fr (.ref b) p.1 ∧ RepW K Fr μ p.2 v ∧ RelV v e.val
/-- a dict with these entries -/
def DnO (a : Addr) (es : Array DictEntry) (ep : Nat) : HO := .ext fun h => (a == sysModules) = false ∧ ∃ o, h.get? a = some o ∧ o.ExactDict ∧ o.data = .dict es ep
def RepN (K : PySem.W.Frag) (Fr : Hp) (μ : List Addr) (a : Addr) (kvs : List (PyData × W)) (o : HO) : Prop :=
  ∃ es ep, o = DnO a es ep ∧ (kvs.map fun p => nk p.1).Nodup ∧ Paired (RepEn K Fr μ) kvs es.toList
def RepO (K : PySem.W.Frag) (Fr : Hp) (μ : List Addr) : Ob → HO → Prop
  | .lst xs, o => ∃ vs, o = .lst vs ∧ RepWs K Fr μ xs vs
  | .dct kvs, o => ∃ vs, o = .dK vs ∧ RepKV K Fr μ kvs vs
  | .fdc _, _ => False
  | .ins _ _, _ => False
  | .dcn _ _, _ => False
/-- .. of an object of the store; what of it is frozen -/
def RepT (K : PySem.W.Frag) (Fr : Hp) (μ : List Addr) (a : Addr) : Ob → HO → Prop
  | .lst xs, o => ∃ vs, o = .lst vs ∧ RepWs K Fr μ xs vs
  | .dct kvs, o => ∃ vs, o = .dK vs ∧ RepKV K Fr μ kvs vs
  | .fdc kvs, o => ∃ od vs, o = .frz od (.dK vs) ∧ RepKV K Fr μ kvs vs
  | .ins c fs, o => ∃ dx vs, o = .ins (He.ga K c) dx vs ∧ RepFs K Fr μ fs vs
  | .dcn _ kvs, o => RepN K Fr μ a kvs o
def frO : Ob → HO → Option HO
  | .lst _, _ => none
  | .dct _, _ => none
  | .fdc _, o => some o
  | .ins _ _, _ => none
  | .dcn fz _, o => if fz = true then some o else none
theorem RepO.toT {K : PySem.W.Frag} {Fr : Hp} {μ : List Addr} {a : Addr} {o : Ob} {ho : HO} (h : RepO K Fr μ o ho) : RepT K Fr μ a o ho ∧ frO o ho = none := by
  cases o with
  | lst xs => exact ⟨h, rfl⟩
  | dct kvs => exact ⟨h, rfl⟩
  | fdc kvs => exact h.elim
  | ins c fs => exact h.elim
  | dcn fz kvs => exact h.elim
theorem pre_get {α : Type} {l m : List α} (h : l <+: m) {i : Nat} {x : α} (e : l[i]? = some x) : m[i]? = some x := by
  obtain ⟨t, rfl⟩ := h
  rw [List.getElem?_append_left (List.getElem?_eq_some_iff.mp e).1]
  exact e
section
variable {K : PySem.W.Frag} {Fr Fr' : Hp} {μ μ' : List Addr}
theorem RepW.mono {x : W} {v : V} (h : Le Fr Fr') (m : μ <+: μ') (r : RepW K Fr μ x v) : RepW K Fr' μ' x v := by
  cases x with
  | d x => exact Le.dp h _ _ r
  | ref n =>
    obtain ⟨a, e, rfl⟩ := r
    exact ⟨a, pre_get m e, rfl⟩
theorem RepWs.mono (h : Le Fr Fr') (m : μ <+: μ') : ∀ {xs : List W} {vs : List V}, RepWs K Fr μ xs vs → RepWs K Fr' μ' xs vs
  | _, _, .nil => .nil
  | _, _, .cons r t => .cons (r.mono h m) (RepWs.mono h m t)
theorem RepKV.mono (h : Le Fr Fr') (m : μ <+: μ') : ∀ {xs : List (Key × W)} {vs : List (Key × V)}, RepKV K Fr μ xs vs → RepKV K Fr' μ' xs vs
  | _, _, .nil => .nil
  | _, _, .cons r t => .cons ⟨r.1, r.2.mono h m⟩ (RepKV.mono h m t)
theorem RepFs.mono (h : Le Fr Fr') (m : μ <+: μ') : ∀ {xs : List (Str × W)} {vs : List (Str × V)}, RepFs K Fr μ xs vs → RepFs K Fr' μ' xs vs
  | _, _, .nil => .nil
  | _, _, .cons r t => .cons ⟨r.1, r.2.mono h m⟩ (RepFs.mono h m t)
theorem RepEn.mono {p : PyData × W} {e : DictEntry} (h : Le Fr Fr') (m : μ <+: μ') (r : RepEn K Fr μ p e) : RepEn K Fr' μ' p e := by
  obtain ⟨k, b, v, e1, e2, e3, e4, e5⟩ := r
  exact ⟨k, b, v, e1, e2, Le.dp h _ _ e3, e4.mono h m, e5⟩
theorem RepEns.mono (h : Le Fr Fr') (m : μ <+: μ') : ∀ {xs : List (PyData × W)} {es : List DictEntry}, Paired (RepEn K Fr μ) xs es → Paired (RepEn K Fr' μ') xs es
  | _, _, .nil => .nil
  | _, _, .cons r t => .cons (r.mono h m) (RepEns.mono h m t)
theorem RepO.mono {x : Ob} {o : HO} (h : Le Fr Fr') (m : μ <+: μ') (r : RepO K Fr μ x o) : RepO K Fr' μ' x o := by
  cases x with
  | lst xs => obtain ⟨vs, e, r⟩ := r; exact ⟨vs, e, r.mono h m⟩
  | dct kvs => obtain ⟨vs, e, r⟩ := r; exact ⟨vs, e, r.mono h m⟩
  | fdc kvs => exact r.elim
  | ins c fs => exact r.elim
  | dcn fz kvs => exact r.elim
theorem RepT.mono {a : Addr} {x : Ob} {o : HO} (h : Le Fr Fr') (m : μ <+: μ') (r : RepT K Fr μ a x o) : RepT K Fr' μ' a x o := by
  cases x with
  | lst xs => obtain ⟨vs, e, r⟩ := r; exact ⟨vs, e, r.mono h m⟩
  | dct kvs => obtain ⟨vs, e, r⟩ := r; exact ⟨vs, e, r.mono h m⟩
  | fdc kvs => obtain ⟨od, vs, e, r⟩ := r; exact ⟨od, vs, e, r.mono h m⟩
  | ins c fs => obtain ⟨dx, vs, e, r⟩ := r; exact ⟨dx, vs, e, r.mono h m⟩
  | dcn fz kvs => obtain ⟨es, ep, e, n, r⟩ := r; exact ⟨es, ep, e, n, RepEns.mono h m r⟩
end

/-! ### how slots, store and heap belong together -/
/-- slot i owns the object at a -/
def Owns (ρ : List Sl) (σ : St) (i : Nat) (a : Addr) : Prop := (∃ o, ρ[i]? = some (.own o)) ∧ σ[i]? = some (some (.ref a))
def SlOk (K : PySem.W.Frag) (Fr Hd : Hp) (μ : List Addr) (H : Hp) (v : Option (Option V)) : Sl → Prop
  | .un => True
  | .w x => ∃ u, v = some (some u) ∧ RepW K Fr μ x u
  | .own o => ∃ a ho, v = some (some (.ref a)) ∧ H a = some ho ∧ RepO K Fr μ o ho ∧ Fr a = none ∧ Hd a = none ∧ a ∉ μ
/-- frozen objects Fr, hidden ones Hd, the store S at the addresses μ -/
structure RB (K : PySem.W.Frag) (Fr Hd : Hp) (μ : List Addr) (S : List Ob) (H : Hp) : Prop where
  fr : Le Fr H
  hd : ∀ a o, Hd a = some o → H a = some o ∧ Fr a = none
  len : μ.length = S.length
  st : ∀ (n : Nat) (a : Addr) (o : Ob), μ[n]? = some a → S[n]? = some o → ∃ ho, H a = some ho ∧ RepT K Fr μ a o ho ∧ Fr a = frO o ho ∧ Hd a = none
  nd : μ.Nodup
structure RS (K : PySem.W.Frag) (Fr Hd : Hp) (μ : List Addr) (ρ : List Sl) (σ : St) (H : Hp) : Prop where
  len : ρ.length = σ.length
  sl : ∀ (i : Nat) (x : Sl), ρ[i]? = some x → SlOk K Fr Hd μ H σ[i]? x
  inj : ∀ i j a, Owns ρ σ i a → Owns ρ σ j a → i = j
structure R (K : PySem.W.Frag) (Fr Hd : Hp) (μ : List Addr) (ρ : List Sl) (S : List Ob) (σ : St) (H : Hp) : Prop where
  b : RB K Fr Hd μ S H
  s : RS K Fr Hd μ ρ σ H
/-- an object of the heap that nothing here knows of -/
structure Free (Fr Hd : Hp) (μ : List Addr) (ρ : List Sl) (σ : St) (p : Addr) : Prop where
  fr : Fr p = none
  hd : Hd p = none
  mu : p ∉ μ
  ow : ∀ i, ¬ Owns ρ σ i p
section
variable {K : PySem.W.Frag} {Fr Hd : Hp} {μ : List Addr} {ρ : List Sl} {S : List Ob} {σ : St} {H : Hp} {p : Addr} {o : HO}
theorem R.owns (r : R K Fr Hd μ ρ S σ H) {i : Nat} {a : Addr} (h : Owns ρ σ i a) : ∃ ho, H a = some ho ∧ Fr a = none ∧ Hd a = none ∧ a ∉ μ ∧ True := by
  obtain ⟨⟨o, e⟩, e2⟩ := h
  obtain ⟨b, ho, e3, h1, h2, h3, h4, h5⟩ := r.s.sl i _ e
  rw [e2] at e3
  cases e3
  exact ⟨ho, h1, h3, h4, h5, trivial⟩
theorem RB.muH (r : RB K Fr Hd μ S H) {a : Addr} (h : a ∈ μ) : ∃ ho, H a = some ho ∧ True ∧ Hd a = none ∧ True := by
  obtain ⟨n, hn, e⟩ := List.getElem_of_mem h
  have hs : n < S.length := by rw [← r.len]; exact hn
  obtain ⟨ho, h1, h2, h3, h4⟩ := r.st n a S[n] (by rw [List.getElem?_eq_getElem hn, e]) (List.getElem?_eq_getElem hs)
  exact ⟨ho, h1, trivial, h4, trivial⟩
theorem R.new (r : R K Fr Hd μ ρ S σ H) (h : H p = none) : Free Fr Hd μ ρ σ p := by
  refine ⟨?_, ?_, fun m => ?_, fun i w => ?_⟩
  · cases e : Fr p with
    | none => rfl
    | some o => rw [r.b.fr p o e] at h; cases h
  · cases e : Hd p with
    | none => rfl
    | some o => rw [(r.b.hd p o e).1] at h; cases h
  · obtain ⟨ho, e, _⟩ := r.b.muH m
    rw [e] at h; cases h
  · obtain ⟨ho, e, _⟩ := r.owns w
    rw [e] at h; cases h
/-- an object that is free is written, or laid anew -/
theorem RB.upd (r : RB K Fr Hd μ S H) (h1 : Fr p = none) (h2 : Hd p = none) (h3 : p ∉ μ) : RB K Fr Hd μ S (upd H p o) := by
  refine ⟨fun a u e => ?_, fun a u e => ⟨?_, (r.hd a u e).2⟩, r.len, fun n a x e1 e2 => ?_, r.nd⟩
  · rw [upd_ne (ne_of_none e h1)]; exact r.fr a u e
  · rw [upd_ne (ne_of_none e h2)]; exact (r.hd a u e).1
  · obtain ⟨ho, q1, q2⟩ := r.st n a x e1 e2
    refine ⟨ho, ?_, q2⟩
    rw [upd_ne]
    · exact q1
    · rintro rfl; exact h3 (List.mem_of_getElem? e1)
theorem R.upd (r : R K Fr Hd μ ρ S σ H) (f : Free Fr Hd μ ρ σ p) : R K Fr Hd μ ρ S σ (upd H p o) := by
  refine ⟨r.b.upd f.fr f.hd f.mu, r.s.len, fun i x e => ?_, r.s.inj⟩
  have q := r.s.sl i x e
  cases x with
  | un => trivial
  | w x => exact q
  | own x =>
    obtain ⟨a, ho, e1, e2, rest⟩ := q
    refine ⟨a, ho, e1, ?_, rest⟩
    rw [upd_ne]
    · exact e2
    · rintro rfl; exact f.ow i ⟨⟨x, e⟩, e1⟩
/-- a free object is frozen -/
theorem RB.freeze (r : RB K Fr Hd μ S H) (h : H p = some o) (h1 : Fr p = none) (h2 : Hd p = none) (h3 : p ∉ μ) : RB K (L2.upd Fr p o) Hd μ S H := by
  have le : Le Fr (L2.upd Fr p o) := Le.upd h1
  refine ⟨fun a u e => ?_, fun a u e => ⟨(r.hd a u e).1, ?_⟩, r.len, fun n a x e1 e2 => ?_, r.nd⟩
  · by_cases q : a = p
    · subst q; rw [upd_same] at e; cases e; exact h
    · rw [upd_ne q] at e; exact r.fr a u e
  · rw [upd_ne (ne_of_none e h2)]; exact (r.hd a u e).2
  · obtain ⟨ho, q1, q2, q3, q4⟩ := r.st n a x e1 e2
    refine ⟨ho, q1, q2.mono le (List.prefix_refl μ), ?_, q4⟩
    rw [upd_ne]
    · exact q3
    · rintro rfl; exact h3 (List.mem_of_getElem? e1)
theorem R.freeze (r : R K Fr Hd μ ρ S σ H) (h : H p = some o) (f : Free Fr Hd μ ρ σ p) : R K (L2.upd Fr p o) Hd μ ρ S σ H := by
  have le : Le Fr (L2.upd Fr p o) := Le.upd f.fr
  refine ⟨r.b.freeze h f.fr f.hd f.mu, r.s.len, fun i x e => ?_, r.s.inj⟩
  have q := r.s.sl i x e
  cases x with
  | un => trivial
  | w x => obtain ⟨u, e1, e2⟩ := q; exact ⟨u, e1, e2.mono le (List.prefix_refl μ)⟩
  | own x =>
    obtain ⟨a, ho, e1, e2, e3, e4, e5, e6⟩ := q
    refine ⟨a, ho, e1, e2, e3.mono le (List.prefix_refl μ), ?_, e5, e6⟩
    rw [upd_ne]
    · exact e4
    · rintro rfl; exact f.ow i ⟨⟨x, e⟩, e1⟩
/-- a free object is hidden; less is hidden -/
theorem RB.hide (r : RB K Fr Hd μ S H) (h : H p = some o) (h1 : Fr p = none) (h3 : p ∉ μ) : RB K Fr (L2.upd Hd p o) μ S H := by
  refine ⟨r.fr, fun a u e => ?_, r.len, fun n a x e1 e2 => ?_, r.nd⟩
  · by_cases q : a = p
    · subst q; rw [upd_same] at e; cases e; exact ⟨h, h1⟩
    · rw [upd_ne q] at e; exact r.hd a u e
  · obtain ⟨ho, q1, q2, q3, q4⟩ := r.st n a x e1 e2
    refine ⟨ho, q1, q2, q3, ?_⟩
    rw [upd_ne]
    · exact q4
    · rintro rfl; exact h3 (List.mem_of_getElem? e1)
theorem R.hide (r : R K Fr Hd μ ρ S σ H) (h : H p = some o) (f : Free Fr Hd μ ρ σ p) : R K Fr (L2.upd Hd p o) μ ρ S σ H := by
  refine ⟨r.b.hide h f.fr f.mu, r.s.len, fun i x e => ?_, r.s.inj⟩
  have q := r.s.sl i x e
  cases x with
  | un => trivial
  | w x => exact q
  | own x =>
    obtain ⟨a, ho, e1, e2, e3, e4, e5, e6⟩ := q
    refine ⟨a, ho, e1, e2, e3, e4, ?_, e6⟩
    rw [upd_ne]
    · exact e5
    · rintro rfl; exact f.ow i ⟨⟨x, e⟩, e1⟩
theorem RB.unhide {Hd' : Hp} (r : RB K Fr Hd μ S H) (h : Le Hd' Hd) : RB K Fr Hd' μ S H := by
  refine ⟨r.fr, fun a u e => r.hd a u (h a u e), r.len, fun n a x e1 e2 => ?_, r.nd⟩
  obtain ⟨ho, q1, q2, q3, q4⟩ := r.st n a x e1 e2
  refine ⟨ho, q1, q2, q3, ?_⟩
  cases e : Hd' a with
  | none => rfl
  | some u => rw [h a u e] at q4; cases q4
theorem none_le {F G : Hp} (h : Le F G) {a : Addr} (e : G a = none) : F a = none := by
  cases q : F a with
  | none => rfl
  | some u => rw [h a u q] at e; cases e
theorem R.unhide {Hd' : Hp} (r : R K Fr Hd μ ρ S σ H) (h : Le Hd' Hd) : R K Fr Hd' μ ρ S σ H := by
  refine ⟨r.b.unhide h, r.s.len, fun i x e => ?_, r.s.inj⟩
  have q := r.s.sl i x e
  cases x with
  | un => trivial
  | w x => exact q
  | own x =>
    obtain ⟨a, ho, e1, e2, e3, e4, e5, e6⟩ := q
    exact ⟨a, ho, e1, e2, e3, e4, none_le h e5, e6⟩
/-- a slot takes a value -/
theorem R.setW (r : R K Fr Hd μ ρ S σ H) {i : Nat} {x : W} {v : V} (e : RepW K Fr μ x v) : R K Fr Hd μ (ρ.set i (.w x)) S (σ.set i (some v)) H := by
  refine ⟨r.b, by simp [r.s.len], fun j y ej => ?_, fun j k a h1 h2 => ?_⟩
  · by_cases q : i = j
    · subst q
      by_cases hi : i < ρ.length
      · rw [List.getElem?_set_self hi] at ej
        cases ej
        exact ⟨v, by rw [List.getElem?_set_self (by rw [← r.s.len]; exact hi)], e⟩
      · rw [List.getElem?_eq_none (by simpa using hi)] at ej; cases ej
    · rw [List.getElem?_set_ne q] at ej ⊢
      exact r.s.sl j y ej
  · have one : ∀ j a, Owns (ρ.set i (.w x)) (σ.set i (some v)) j a → Owns ρ σ j a := fun j a ⟨⟨o, h1⟩, h2⟩ => by
      by_cases q : i = j
      · subst q
        by_cases hi : i < ρ.length
        · rw [List.getElem?_set_self hi] at h1; cases h1
        · rw [List.getElem?_eq_none (by simpa using hi)] at h1; cases h1
      · rw [List.getElem?_set_ne q] at h1 h2
        exact ⟨⟨o, h1⟩, h2⟩
    exact r.s.inj j k a (one j a h1) (one k a h2)
/-- a slot takes a free object as its own -/
theorem R.setOwn (r : R K Fr Hd μ ρ S σ H) {i : Nat} {x : Ob} (h : H p = some o) (f : Free Fr Hd μ ρ σ p) (e : RepO K Fr μ x o) : R K Fr Hd μ (ρ.set i (.own x)) S (σ.set i (some (.ref p))) H := by
  refine ⟨r.b, by simp [r.s.len], fun j y ej => ?_, fun j k a h1 h2 => ?_⟩
  · by_cases q : i = j
    · subst q
      by_cases hi : i < ρ.length
      · rw [List.getElem?_set_self hi] at ej
        cases ej
        exact ⟨p, o, by rw [List.getElem?_set_self (by rw [← r.s.len]; exact hi)], h, e, f.fr, f.hd, f.mu⟩
      · rw [List.getElem?_eq_none (by simpa using hi)] at ej; cases ej
    · rw [List.getElem?_set_ne q] at ej ⊢
      exact r.s.sl j y ej
  · have one : ∀ j a, Owns (ρ.set i (.own x)) (σ.set i (some (.ref p))) j a → (j = i ∧ a = p) ∨ (j ≠ i ∧ Owns ρ σ j a) := fun j a ⟨⟨u, h1⟩, h2⟩ => by
      by_cases q : i = j
      · subst q
        by_cases hi : i < σ.length
        · rw [List.getElem?_set_self hi] at h2; cases h2; exact .inl ⟨rfl, rfl⟩
        · rw [List.getElem?_eq_none (by simpa using hi)] at h2; cases h2
      · rw [List.getElem?_set_ne q] at h1 h2
        exact .inr ⟨fun z => q z.symm, ⟨u, h1⟩, h2⟩
    rcases one j a h1 with ⟨e1, e2⟩ | ⟨e1, e2⟩
    · rcases one k a h2 with ⟨e3, e4⟩ | ⟨e3, e4⟩
      · rw [e1, e3]
      · rw [e2] at e4; exact absurd e4 (f.ow k)
    · rcases one k a h2 with ⟨e3, e4⟩ | ⟨e3, e4⟩
      · rw [e4] at e2; exact absurd e2 (f.ow j)
      · exact r.s.inj j k a e2 e4
/-- a slot is forgotten (whatever lies there); its object is then free -/
theorem owns_un {i : Nat} {v : Option V} {j : Nat} {a : Addr} (h : Owns (ρ.set i .un) (σ.set i v) j a) : j ≠ i ∧ Owns ρ σ j a := by
  obtain ⟨⟨u, h1⟩, h2⟩ := h
  by_cases q : i = j
  · subst q
    by_cases hi : i < ρ.length
    · rw [List.getElem?_set_self hi] at h1; cases h1
    · rw [List.getElem?_eq_none (by simpa using hi)] at h1; cases h1
  · rw [List.getElem?_set_ne q] at h1 h2
    exact ⟨fun z => q z.symm, ⟨u, h1⟩, h2⟩
theorem R.setUn (r : R K Fr Hd μ ρ S σ H) {i : Nat} {v : Option V} : R K Fr Hd μ (ρ.set i .un) S (σ.set i v) H := by
  refine ⟨r.b, by simp [r.s.len], fun j y ej => ?_, fun j k a h1 h2 => r.s.inj j k a (owns_un h1).2 (owns_un h2).2⟩
  by_cases q : i = j
  · subst q
    by_cases hi : i < ρ.length
    · rw [List.getElem?_set_self hi] at ej; cases ej; trivial
    · rw [List.getElem?_eq_none (by simpa using hi)] at ej; cases ej
  · rw [List.getElem?_set_ne q] at ej ⊢
    exact r.s.sl j y ej
theorem set_at {α : Type} {l : List α} {i : Nat} {x : α} (h : l[i]? = some x) : l.set i x = l := by
  apply List.ext_getElem?
  intro j
  by_cases q : i = j
  · subst q
    have hi : i < l.length := (List.getElem?_eq_some_iff.mp h).1
    rw [List.getElem?_set_self hi, h]
  · rw [List.getElem?_set_ne q]
/-- the slot alone forgets -/
theorem R.un (r : R K Fr Hd μ ρ S σ H) (i : Nat) : R K Fr Hd μ (ρ.set i .un) S σ H := by
  by_cases hi : i < σ.length
  · have e : σ.set i σ[i] = σ := set_at (List.getElem?_eq_getElem hi)
    have q := r.setUn (i := i) (v := σ[i])
    rw [e] at q
    exact q
  · have e : ρ.set i .un = ρ := List.set_eq_of_length_le (by have := r.s.len; omega)
    rw [e]; exact r
/-- what a slot owned is free when it is forgotten -/
theorem R.free_un (r : R K Fr Hd μ ρ S σ H) {i : Nat} (h : Owns ρ σ i p) : Free Fr Hd μ (ρ.set i .un) σ p := by
  obtain ⟨ho, h1, h2, h3, h4, _⟩ := r.owns h
  refine ⟨h2, h3, h4, fun j w => ?_⟩
  have e : σ.set i (some (.ref p)) = σ := set_at h.2
  rw [← e] at w
  obtain ⟨n, w⟩ := owns_un w
  exact n (r.s.inj j i p w h)
end
end L2.Q
/-! Layer Q, part B: readings by functions; the step lemma; names, operators, tests, displays, plain statements. -/
namespace L2.Q
open PySem PySem.Spec PyProof.Rows

/-- how a result lies in the heap: frozen, hidden, store's addresses, slots, their values, heap, the result, its value -/
abbrev Rep (α β : Type) := Hp → Hp → List Addr → List Sl → St → Hp → α → β → Prop
def cont (K : PySem.W.Frag) (mg : Str → Option Value) (Wc : WX) {α β : Type} (rep : Rep α β) (Fr Hd : Hp) (μ : List Addr) (ρ : List Sl) (σ : St) (Q : β → Hp → Prop) : Res α → Prop
  | .ok a S' => ∀ Fr' μ' b H', Le Fr Fr' → μ <+: μ' → R K Fr' Hd μ' ρ S' σ H' → rep Fr' Hd μ' ρ σ H' a b → Q b H'
  | .err c S' => ∀ Fr' μ' C H', Le Fr Fr' → μ <+: μ' → R K Fr' Hd μ' ρ S' σ H' → mg c = some (.ref C) → Wc (.ref C) none σ H'
  | .bad => False
def lift (K : PySem.W.Frag) (mg : Str → Option Value) (Wc : WX) {α β : Type} (rep : Rep α β) (f : List Sl → List Ob → Res α) : St → Hp → (β → Hp → Prop) → Prop := fun σ H Q =>
  ∃ Fr Hd μ ρ S, R K Fr Hd μ ρ S σ H ∧ cont K mg Wc rep Fr Hd μ ρ σ Q (f ρ S)
def contS (K : PySem.W.Frag) (mg : Str → Option Value) (Wc : WX) (Fr Hd : Hp) (μ : List Addr) (D : Ends) : Fl → Prop
  | .nx ρ' S' => ∀ Fr' μ' σ' H', Le Fr Fr' → μ <+: μ' → R K Fr' Hd μ' ρ' S' σ' H' → D.nx σ' H'
  | .bk ρ' S' => ∀ Fr' μ' σ' H', Le Fr Fr' → μ <+: μ' → R K Fr' Hd μ' ρ' S' σ' H' → D.bk σ' H'
  | .ct ρ' S' => ∀ Fr' μ' σ' H', Le Fr Fr' → μ <+: μ' → R K Fr' Hd μ' ρ' S' σ' H' → D.ct σ' H'
  | .rt (.w x) S' => ∀ Fr' μ' v H', Le Fr Fr' → μ <+: μ' → RB K Fr' Hd μ' S' H' → RepW K Fr' μ' x v → D.rt v H'
  | .rt (.own o) S' => ∀ Fr' μ' p ho H', Le Fr Fr' → μ <+: μ' → RB K Fr' Hd μ' S' H' → H' p = some ho → RepO K Fr' μ' o ho → Fr' p = none → Hd p = none → p ∉ μ' → D.rt (.ref p) H'
  | .ex c ρ' S' => ∀ Fr' μ' σ' C H', Le Fr Fr' → μ <+: μ' → R K Fr' Hd μ' ρ' S' σ' H' → mg c = some (.ref C) → Wc (.ref C) none σ' H'
  | .bad => False
def liftS (K : PySem.W.Frag) (mg : Str → Option Value) (Wc : WX) (f : FT) : TS := fun D σ H =>
  ∃ Fr Hd μ ρ S, R K Fr Hd μ ρ S σ H ∧ contS K mg Wc Fr Hd μ D (f ρ S)
def repE (K : PySem.W.Frag) : Rep W V := fun Fr _ μ _ _ _ x v => RepW K Fr μ x v
def repA (K : PySem.W.Frag) : Rep (List W) (List V) := fun Fr _ μ _ _ _ xs vs => RepWs K Fr μ xs vs
def repB : Rep Bool Bool := fun _ _ _ _ _ _ a b => a = b
def repO (K : PySem.W.Frag) : Rep Ob V := fun Fr Hd μ ρ σ H o v => ∃ p ho, v = .ref p ∧ H p = some ho ∧ RepO K Fr μ o ho ∧ Free Fr Hd μ ρ σ p
/-- a list or tuple as it stands now -/
def repQ (K : PySem.W.Frag) : Rep (List W) V := fun Fr _ μ _ _ H xs v => ∃ a vs, v = .ref a ∧ (SqL K H a vs ∨ SqT K H a vs) ∧ RepWs K Fr μ xs vs
/-- a slice's part -/
def repP : Rep (Option Int) (Option Int) := fun _ _ _ _ _ _ a b => a = b
abbrev LE (X : Cx) (Wc : WX) (f : FE) : TE := lift X.K X.mg Wc (repE X.K) f
abbrev LA (X : Cx) (Wc : WX) (f : FA) : TA := lift X.K X.mg Wc (repA X.K) f
abbrev LB (X : Cx) (Wc : WX) (f : FB) : TT := lift X.K X.mg Wc repB f
abbrev LO (X : Cx) (Wc : WX) (f : FO) : TE := lift X.K X.mg Wc (repO X.K) f
abbrev LQ (X : Cx) (Wc : WX) (f : FA) : TE := lift X.K X.mg Wc (repQ X.K) f
abbrev LS (X : Cx) (Wc : WX) (f : FT) : TS := liftS X.K X.mg Wc f

section
variable {K : PySem.W.Frag} {mg : Str → Option Value} {Wc : WX} {α β γ δ : Type} {rep : Rep α β} {rep2 : Rep γ δ} {Fr Fr' Hd : Hp} {μ μ' : List Addr} {ρ : List Sl} {S : List Ob} {σ : St} {H : Hp} {Q Q' : β → Hp → Prop} {Q2 : δ → Hp → Prop}
theorem cont.mono {r : Res α} (h1 : Le Fr Fr') (h2 : μ <+: μ') (hq : ∀ b H, Q b H → Q' b H) (c : cont K mg Wc rep Fr Hd μ ρ σ Q r) : cont K mg Wc rep Fr' Hd μ' ρ σ Q' r := by
  cases r with
  | ok a S => exact fun F m b H' l p r e => hq b H' (c F m b H' (h1.trans l) (List.IsPrefix.trans h2 p) r e)
  | err x S => exact fun F m C H' l p r e => c F m C H' (h1.trans l) (List.IsPrefix.trans h2 p) r e
  | bad => exact c
theorem contS.mono {f : Fl} {D : Ends} (h1 : Le Fr Fr') (h2 : μ <+: μ') (c : contS K mg Wc Fr Hd μ D f) : contS K mg Wc Fr' Hd μ' D f := by
  cases f with
  | nx ρ S => exact fun F m s H' l p r => c F m s H' (h1.trans l) (List.IsPrefix.trans h2 p) r
  | bk ρ S => exact fun F m s H' l p r => c F m s H' (h1.trans l) (List.IsPrefix.trans h2 p) r
  | ct ρ S => exact fun F m s H' l p r => c F m s H' (h1.trans l) (List.IsPrefix.trans h2 p) r
  | rt r S =>
    cases r with
    | w x => exact fun F m s H' l p r => c F m s H' (h1.trans l) (List.IsPrefix.trans h2 p) r
    | own o => exact fun F m q ho H' l p r => c F m q ho H' (h1.trans l) (List.IsPrefix.trans h2 p) r
  | ex x ρ S => exact fun F m s C H' l p r => c F m s C H' (h1.trans l) (List.IsPrefix.trans h2 p) r
  | bad => exact c
theorem lift.imp {f : List Sl → List Ob → Res α} (hq : ∀ b H, Q b H → Q' b H) (h : lift K mg Wc rep f σ H Q) : lift K mg Wc rep f σ H Q' := by
  obtain ⟨F, D, m, ρ, S, r, c⟩ := h
  exact ⟨F, D, m, ρ, S, r, c.mono Le.refl (List.prefix_refl m) hq⟩
/-- THE STEP: the first part of a reading -/
theorem step {f : List Sl → List Ob → Res α} {k : α → List Ob → Res γ} (r : R K Fr Hd μ ρ S σ H) (c : cont K mg Wc rep2 Fr Hd μ ρ σ Q2 ((f ρ S).bind k))
    (hk : ∀ Fr' μ' a b S1 H1, Le Fr Fr' → μ <+: μ' → R K Fr' Hd μ' ρ S1 σ H1 → rep Fr' Hd μ' ρ σ H1 a b → cont K mg Wc rep2 Fr' Hd μ' ρ σ Q2 (k a S1) → Q b H1) : lift K mg Wc rep f σ H Q := by
  refine ⟨Fr, Hd, μ, ρ, S, r, ?_⟩
  cases e : f ρ S with
  | ok a S1 =>
    rw [e] at c
    exact fun F m b H' l p r' q => hk F m a b S1 H' l p r' q (cont.mono l p (fun _ _ z => z) c)
  | err x S1 => rw [e] at c; exact c
  | bad => rw [e] at c; exact c
def fl {α : Type} (r : Res α) (ρ : List Sl) (k : α → List Ob → Fl) : Fl :=
  match r with
  | .ok a S => k a S
  | .err c S => .ex c ρ S
  | .bad => .bad
theorem stepS {f : List Sl → List Ob → Res α} {k : α → List Ob → Fl} {D : Ends} (r : R K Fr Hd μ ρ S σ H) (c : contS K mg Wc Fr Hd μ D (fl (f ρ S) ρ k))
    (hk : ∀ Fr' μ' a b S1 H1, Le Fr Fr' → μ <+: μ' → R K Fr' Hd μ' ρ S1 σ H1 → rep Fr' Hd μ' ρ σ H1 a b → contS K mg Wc Fr' Hd μ' D (k a S1) → Q b H1) : lift K mg Wc rep f σ H Q := by
  refine ⟨Fr, Hd, μ, ρ, S, r, ?_⟩
  cases e : f ρ S with
  | ok a S1 =>
    rw [e] at c
    exact fun F m b H' l p r' q => hk F m a b S1 H' l p r' q (contS.mono l p c)
  | err x S1 => rw [e] at c; exact fun F m C H' l p r' q => c F m σ C H' l p r' q
  | bad => rw [e] at c; exact c
end

/-! ### weaker readings -/
theorem PE.imp {X : Cx} {e : Expr} {t t' : TE} (h : PE X e t) (i : ∀ σ H Q, t' σ H Q → t σ H Q) : PE X e t' := ⟨fun pins s σ H Q I q => h.run pins s σ H Q I (i σ H Q q)⟩
theorem PT.imp {X : Cx} {e : Expr} {t t' : TT} (h : PT X e t) (i : ∀ σ H Q, t' σ H Q → t σ H Q) : PT X e t' := ⟨fun pins s σ H Q I q => h.run pins s σ H Q I (i σ H Q q)⟩
theorem PW.imp {X : Cx} {e : Expr} {t t' : TT} (h : PW X e t) (i : ∀ σ H Q, t' σ H Q → t σ H Q) : PW X e t' := ⟨fun w pins s σ H Q I q => h.run w pins s σ H Q I (i σ H Q q)⟩
theorem PA.imp {X : Cx} {e : List Expr} {t t' : TA} (h : PA X e t) (i : ∀ σ H Q, t' σ H Q → t σ H Q) : PA X e t' := ⟨fun p pins s σ H Q I q => h.run p pins s σ H Q I (i σ H Q q)⟩
theorem PS.imp {X : Cx} {e : Stmt} {t t' : TS} (h : PS X e t) (i : ∀ D σ H, t' D σ H → t D σ H) : PS X e t' := ⟨fun pins s σ H D I q => h.run pins s σ H D I (i D σ H q)⟩
theorem PSs.imp {X : Cx} {e : List Stmt} {t t' : TS} (h : PSs X e t) (i : ∀ D σ H, t' D σ H → t D σ H) : PSs X e t' := ⟨fun pins s σ H D I q => h.run pins s σ H D I (i D σ H q)⟩
theorem PO.imp {X : Cx} {e : Option Expr} {t t' : TO} (h : PO X e t) (i : ∀ σ H Q, t' σ H Q → t σ H Q) : PO X e t' := ⟨fun pins s σ H Q I q => h.run pins s σ H Q I (i σ H Q q)⟩

/-! ### names and constants -/
def fVar (i : Nat) : FE := fun ρ S => match ρ[i]? with
  | some (.w x) => .ok x S
  | _ => .bad
def fC (x : PyData) : FE := fun _ S => .ok (.d x) S
section
variable {X : Cx} {Wc : WX} {a b : Expr} {es : List Expr} {pos : Pos} {fa fb : FE}
theorem q_var {i : Nat} {x : Str} (hN : X.N[i]? = some x) (hv : Vis X.env.scope x) (hd : (x == ("__debug__" : Str)) = false := by decide) (hcd : (x == ("__classdict__" : Str)) = false := by decide) : PE X (.Name x pos) (LE X Wc (fVar i)) := by
  refine PE.imp (pe_var hN hv hd hcd) fun σ H Q h => ?_
  obtain ⟨F, D, m, ρ, S, r, c⟩ := h
  unfold fVar at c
  cases e : ρ[i]? with
  | none => rw [e] at c; exact c.elim
  | some y =>
    rw [e] at c
    cases y with
    | un => exact c.elim
    | own o => exact c.elim
    | w x =>
      obtain ⟨u, e1, e2⟩ := r.s.sl i _ e
      exact ⟨u, e1, c F m u H Le.refl (List.prefix_refl m) r e2⟩
theorem q_c {v : V} {d : PyData} {e : Expr} (h : PE X e (tC v)) (hd : ∀ F : Hp, Dp X.K F v d) : PE X e (LE X Wc (fC d)) := by
  refine PE.imp h fun σ H Q h => ?_
  obtain ⟨F, D, m, ρ, S, r, c⟩ := h
  exact c F m v H Le.refl (List.prefix_refl m) r (hd F)
theorem q_int {i j} : PE X (.Constant (.int i) j pos) (LE X Wc (fC (.int i))) := q_c pe_int fun _ => .int i
theorem q_bl {b j} : PE X (.Constant (.bool b) j pos) (LE X Wc (fC (.bool b))) := q_c pe_bl fun _ => .bl b
theorem q_non {j} : PE X (.Constant .none j pos) (LE X Wc (fC .none)) := q_c pe_non fun _ => .non
theorem q_str {x j} : PE X (.Constant (.str x) j pos) (LE X Wc (fC (.str x))) := q_c pe_str fun _ => .str x
/-- a module's constant -/
theorem q_glob {x : Str} {v : V} {u : Value} {d : PyData} (hg : Gl X x) (hm : X.mg x = some u) (r : RelV v u) (hd : ∀ F : Hp, Dp X.K F v d) (hdb : (x == ("__debug__" : Str)) = false := by decide) : PE X (.Name x pos) (LE X Wc (fC d)) :=
  q_c (pe_glob hg hm r hdb) hd

/-! ### operators -/
def fBin (op : W → W → List Ob → Res W) (fa fb : FE) : FE := fun ρ S => (fa ρ S).bind fun x S1 => (fb ρ S1).bind fun y S2 => op x y S2
def fUn (op : W → List Ob → Res W) (fa : FE) : FE := fun ρ S => (fa ρ S).bind fun x S1 => op x S1
/-- an operator's function tells what the operator's rule asks -/
def OpF (X : Cx) (Wc : WX) (r : R2) (op : W → W → List Ob → Res W) : Prop := ∀ (Fr Hd : Hp) (μ : List Addr) (ρ : List Sl) (S : List Ob) (σ : St) (H : Hp) (x y : W) (v u : V) (Q : VK),
  R X.K Fr Hd μ ρ S σ H → RepW X.K Fr μ x v → RepW X.K Fr μ y u → cont X.K X.mg Wc (repE X.K) Fr Hd μ ρ σ Q (op x y S) → r v u H Q
def UnF (X : Cx) (Wc : WX) (r : V → Hp → VK → Prop) (op : W → List Ob → Res W) : Prop := ∀ (Fr Hd : Hp) (μ : List Addr) (ρ : List Sl) (S : List Ob) (σ : St) (H : Hp) (x : W) (v : V) (Q : VK),
  R X.K Fr Hd μ ρ S σ H → RepW X.K Fr μ x v → cont X.K X.mg Wc (repE X.K) Fr Hd μ ρ σ Q (op x S) → r v H Q
theorem bin_imp {r : R2} {op : W → W → List Ob → Res W} (hr : OpF X Wc r op) {σ : St} {H : Hp} {Q : VK} (h : LE X Wc (fBin op fa fb) σ H Q) : tOp r (LE X Wc fa) (LE X Wc fb) σ H Q := by
  obtain ⟨F, D, m, ρ, S, r0, c⟩ := h
  refine step r0 c fun F1 m1 x v S1 H1 l1 p1 r1 e1 c1 => ?_
  refine step r1 c1 fun F2 m2 y u S2 H2 l2 p2 r2 e2 c2 => ?_
  exact hr F2 D m2 ρ S2 σ H2 x y v u Q r2 (RepW.mono l2 p2 e1) e2 c2
theorem q_op {op : Operator} {r : R2} {fop : W → W → List Ob → Res W} (ho : OpR X (binaryOp op) r) (hr : OpF X Wc r fop) (ha : PE X a (LE X Wc fa)) (hb : PE X b (LE X Wc fb)) : PE X (.BinOp a op b pos) (LE X Wc (fBin fop fa fb)) :=
  PE.imp (pe_op ho ha hb) fun _ _ _ h => bin_imp hr h
theorem q_cmp {op : CmpOp} {r : R2} {fop : W → W → List Ob → Res W} (ho : OpR X (compareOp op) r) (hr : OpF X Wc r fop) (ha : PE X a (LE X Wc fa)) (hb : PE X b (LE X Wc fb)) (hm : behindInMarks op b = false) : PE X (.Compare a [op] [b] pos) (LE X Wc (fBin fop fa fb)) :=
  PE.imp (pe_cmpR ho ha hb hm) fun _ _ _ h => bin_imp hr h
theorem un_imp {r : V → Hp → VK → Prop} {op : W → List Ob → Res W} (hr : UnF X Wc r op) {σ : St} {H : Hp} {Q : VK} (h : LE X Wc (fUn op fa) σ H Q) : tUn r (LE X Wc fa) σ H Q := by
  obtain ⟨F, D, m, ρ, S, r0, c⟩ := h
  refine step r0 c fun F1 m1 x v S1 H1 l1 p1 r1 e1 c1 => ?_
  exact hr F1 D m1 ρ S1 σ H1 x v Q r1 e1 c1
theorem q_un {op : UnaryOp} {r : V → Hp → VK → Prop} {fop : W → List Ob → Res W} (ho : UnR X (unaryOp op) r) (hr : UnF X Wc r fop) (ha : PE X a (LE X Wc fa)) : PE X (.UnaryOp op a pos) (LE X Wc (fUn fop fa)) :=
  PE.imp (pe_un ho ha) fun _ _ _ h => un_imp hr h

/-! ### tests -/
def toB : W → List Ob → Res Bool
  | .d (.bool c), S => .ok c S
  | _, _ => .bad
/-- an expression whose value is a bool, as a test -/
def fT (fa : FE) : FB := fun ρ S => (fa ρ S).bind toB
theorem t_imp {σ : St} {H : Hp} {Q : Bool → Hp → Prop} (h : LB X Wc (fT fa) σ H Q) : tB (LE X Wc fa) σ H Q := by
  obtain ⟨F, D, m, ρ, S, r0, c⟩ := h
  refine step r0 c fun F1 m1 x v S1 H1 l1 p1 r1 e1 c1 => ?_
  cases x with
  | ref n => exact c1.elim
  | d x =>
    cases x with
    | bool b => cases e1; exact ⟨b, rfl, c1 F1 m1 b H1 Le.refl (List.prefix_refl m1) r1 rfl⟩
    | none => exact c1.elim
    | int i => exact c1.elim
    | str z => exact c1.elim
    | list z => exact c1.elim
    | tuple z => exact c1.elim
    | dict z => exact c1.elim
theorem q_tv (h : PE X a (LE X Wc fa)) (he : ∀ whole, isTrue a X.env whole = (do let v ← whole; standAt a.pos; holding [v] (truthy v)) := by intro _; rfl) : PT X a (LB X Wc (fT fa)) :=
  PT.imp (pt_val h he) fun _ _ _ h => t_imp h
theorem q_tc {op : CmpOp} {r : R2} {fop : W → W → List Ob → Res W} (ho : OpR X (compareOp op) r) (hr : OpF X Wc r fop) (ha : PE X a (LE X Wc fa)) (hb : PE X b (LE X Wc fb)) (hm : behindInMarks op b = false) : PT X (.Compare a [op] [b] pos) (LB X Wc (fT (fBin fop fa fb))) := by
  refine PT.imp (pt_cmpR ho ha hb hm) fun σ H Q h => ?_
  obtain ⟨F, D, m, ρ, S, r0, c⟩ := h
  unfold fT at c
  have q : tB (LE X Wc (fBin fop fa fb)) σ H Q := t_imp ⟨F, D, m, ρ, S, r0, c⟩
  exact bin_imp hr q
def fAnd (ta tb : FB) : FB := fun ρ S => (ta ρ S).bind fun c S1 => if c = true then tb ρ S1 else .ok false S1
def fOr (ta tb : FB) : FB := fun ρ S => (ta ρ S).bind fun c S1 => if c = true then .ok true S1 else tb ρ S1
def fNot (ta : FB) : FB := fun ρ S => (ta ρ S).bind fun c S1 => .ok (!c) S1
variable {ta tb : FB} {rest : List Expr}
theorem q_and1 (ha : PT X a (LB X Wc ta)) : PW X (.BoolOp .And [a] pos) (LB X Wc ta) := pw_and1 ha
theorem q_or1 (ha : PT X a (LB X Wc ta)) : PW X (.BoolOp .Or [a] pos) (LB X Wc ta) := pw_or1 ha
theorem q_and (ha : PT X a (LB X Wc ta)) (hb : PW X (.BoolOp .And (b :: rest) pos) (LB X Wc tb)) : PW X (.BoolOp .And (a :: b :: rest) pos) (LB X Wc (fAnd ta tb)) := by
  refine PW.imp (pw_and ha hb) fun σ H Q h => ?_
  obtain ⟨F, D, m, ρ, S, r0, c⟩ := h
  refine step r0 c fun F1 m1 x v S1 H1 l1 p1 r1 e1 c1 => ?_
  cases e1
  cases x with
  | true => exact ⟨F1, D, m1, ρ, S1, r1, c1⟩
  | false => exact c1 F1 m1 false H1 Le.refl (List.prefix_refl m1) r1 rfl
theorem q_or (ha : PT X a (LB X Wc ta)) (hb : PW X (.BoolOp .Or (b :: rest) pos) (LB X Wc tb)) : PW X (.BoolOp .Or (a :: b :: rest) pos) (LB X Wc (fOr ta tb)) := by
  refine PW.imp (pw_or ha hb) fun σ H Q h => ?_
  obtain ⟨F, D, m, ρ, S, r0, c⟩ := h
  refine step r0 c fun F1 m1 x v S1 H1 l1 p1 r1 e1 c1 => ?_
  cases e1
  cases x with
  | false => exact ⟨F1, D, m1, ρ, S1, r1, c1⟩
  | true => exact c1 F1 m1 true H1 Le.refl (List.prefix_refl m1) r1 rfl
theorem q_not (ha : PT X a (LB X Wc ta)) : PT X (.UnaryOp .Not a pos) (LB X Wc (fNot ta)) := by
  refine PT.imp (pt_not ha) fun σ H Q h => ?_
  obtain ⟨F, D, m, ρ, S, r0, c⟩ := h
  refine step r0 c fun F1 m1 x v S1 H1 l1 p1 r1 e1 c1 => ?_
  cases e1
  exact c1 F1 m1 _ H1 Le.refl (List.prefix_refl m1) r1 rfl
/-- as values -/
def fAndV (fa fb : FE) : FE := fun ρ S => ((fa ρ S).bind toB).bind fun c S1 => if c = true then fb ρ S1 else .ok (.d (.bool false)) S1
def fOrV (fa fb : FE) : FE := fun ρ S => ((fa ρ S).bind toB).bind fun c S1 => if c = true then .ok (.d (.bool true)) S1 else fb ρ S1
def fNotV (fa : FE) : FE := fun ρ S => ((fa ρ S).bind toB).bind fun c S1 => .ok (.d (.bool (!c))) S1
theorem q_one {op} (h : PE X a (LE X Wc fa)) : PE X (.BoolOp op [a] pos) (LE X Wc fa) := pe_one h
theorem toB_step {K : PySem.W.Frag} {mg : Str → Option Value} {Fr Hd : Hp} {μ : List Addr} {ρ : List Sl} {S : List Ob} {σ : St} {Q : VK} {x : W} {v : V} {k : Bool → List Ob → Res W} (e : RepW K Fr μ x v)
    (c : cont K mg Wc (repE K) Fr Hd μ ρ σ Q ((toB x S).bind k)) : ∃ b, v = .bl b ∧ cont K mg Wc (repE K) Fr Hd μ ρ σ Q (k b S) := by
  cases x with
  | ref n => exact c.elim
  | d x =>
    cases x with
    | bool b => cases e; exact ⟨b, rfl, c⟩
    | none => exact c.elim
    | int i => exact c.elim
    | str z => exact c.elim
    | list z => exact c.elim
    | tuple z => exact c.elim
    | dict z => exact c.elim
theorem bind_assoc {α β γ : Type} (r : Res α) (k : α → List Ob → Res β) (l : β → List Ob → Res γ) : (r.bind k).bind l = r.bind fun a S => (k a S).bind l := by cases r <;> rfl
theorem q_andV (ha : PE X a (LE X Wc fa)) (hb : PE X (.BoolOp .And (b :: rest) pos) (LE X Wc fb)) : PE X (.BoolOp .And (a :: b :: rest) pos) (LE X Wc (fAndV fa fb)) := by
  refine PE.imp (pe_and ha hb) fun σ H Q h => ?_
  obtain ⟨F, D, m, ρ, S, r0, c⟩ := h
  unfold fAndV at c
  rw [bind_assoc] at c
  refine step r0 c fun F1 m1 x v S1 H1 l1 p1 r1 e1 c1 => ?_
  obtain ⟨k, rfl, c2⟩ := toB_step e1 c1
  refine ⟨k, rfl, ?_⟩
  cases k with
  | true => exact ⟨F1, D, m1, ρ, S1, r1, c2⟩
  | false => exact c2 F1 m1 (.bl false) H1 Le.refl (List.prefix_refl m1) r1 (Dp.bl false)
theorem q_orV (ha : PE X a (LE X Wc fa)) (hb : PE X (.BoolOp .Or (b :: rest) pos) (LE X Wc fb)) : PE X (.BoolOp .Or (a :: b :: rest) pos) (LE X Wc (fOrV fa fb)) := by
  refine PE.imp (pe_or ha hb) fun σ H Q h => ?_
  obtain ⟨F, D, m, ρ, S, r0, c⟩ := h
  unfold fOrV at c
  rw [bind_assoc] at c
  refine step r0 c fun F1 m1 x v S1 H1 l1 p1 r1 e1 c1 => ?_
  obtain ⟨k, rfl, c2⟩ := toB_step e1 c1
  refine ⟨k, rfl, ?_⟩
  cases k with
  | false => exact ⟨F1, D, m1, ρ, S1, r1, c2⟩
  | true => exact c2 F1 m1 (.bl true) H1 Le.refl (List.prefix_refl m1) r1 (Dp.bl true)
theorem q_notV (ha : PE X a (LE X Wc fa)) : PE X (.UnaryOp .Not a pos) (LE X Wc (fNotV fa)) := by
  refine PE.imp (pe_not ha) fun σ H Q h => ?_
  obtain ⟨F, D, m, ρ, S, r0, c⟩ := h
  unfold fNotV at c
  rw [bind_assoc] at c
  refine step r0 c fun F1 m1 x v S1 H1 l1 p1 r1 e1 c1 => ?_
  obtain ⟨k, rfl, c2⟩ := toB_step e1 c1
  exact ⟨k, rfl, c2 F1 m1 _ H1 Le.refl (List.prefix_refl m1) r1 (Dp.bl _)⟩
def fIf (t : FB) (fa fb : FE) : FE := fun ρ S => (t ρ S).bind fun c S1 => if c = true then fa ρ S1 else fb ρ S1
theorem q_if {c : Expr} {t : FB} (hc : PT X c (LB X Wc t)) (ha : PE X a (LE X Wc fa)) (hb : PE X b (LE X Wc fb)) : PE X (.IfExp c a b pos) (LE X Wc (fIf t fa fb)) := by
  refine PE.imp (pe_ifExp hc ha hb) fun σ H Q h => ?_
  obtain ⟨F, D, m, ρ, S, r0, c⟩ := h
  refine step r0 c fun F1 m1 x v S1 H1 l1 p1 r1 e1 c1 => ?_
  cases e1
  cases x with
  | true => exact ⟨F1, D, m1, ρ, S1, r1, c1⟩
  | false => exact ⟨F1, D, m1, ρ, S1, r1, c1⟩

/-! ### argument lists, tuples -/
def fNil : FA := fun _ S => .ok [] S
def fCons (fa : FE) (fr : FA) : FA := fun ρ S => (fa ρ S).bind fun x S1 => (fr ρ S1).bind fun xs S2 => .ok (x :: xs) S2
variable {fr : FA} {e : Expr}
theorem q_anil : PA X [] (LA X Wc fNil) := by
  refine PA.imp pa_nil fun σ H Q h => ?_
  obtain ⟨F, D, m, ρ, S, r0, c⟩ := h
  exact c F m [] H Le.refl (List.prefix_refl m) r0 .nil
theorem q_acons (ha : PE X e (LE X Wc fa)) (hr : PA X es (LA X Wc fr)) (hs : starEach (e :: es) X.env = (false, eval e X.env) :: starEach es X.env := by rfl) : PA X (e :: es) (LA X Wc (fCons fa fr)) := by
  refine PA.imp (pa_cons ha hr hs) fun σ H Q h => ?_
  obtain ⟨F, D, m, ρ, S, r0, c⟩ := h
  refine step r0 c fun F1 m1 x v S1 H1 l1 p1 r1 e1 c1 => ?_
  refine step r1 c1 fun F2 m2 xs vs S2 H2 l2 p2 r2 e2 c2 => ?_
  exact c2 F2 m2 _ H2 Le.refl (List.prefix_refl m2) r2 (.cons (RepW.mono l2 p2 e1) e2)
/-- data alone -/
def dats : List W → Option (List PyData)
  | [] => some []
  | .d x :: r => (dats r).map (x :: ·)
  | .ref _ :: _ => none
theorem dats_rep {K : PySem.W.Frag} {Fr : Hp} {μ : List Addr} : ∀ {xs : List W} {vs : List V} {ds : List PyData}, dats xs = some ds → RepWs K Fr μ xs vs → DpAll K Fr vs ds
  | [], _, _, e, .nil => by cases e; exact .nil
  | .d x :: r, _, ds, e, .cons h t => by
    unfold dats at e
    cases q : dats r with
    | none => rw [q] at e; cases e
    | some es => rw [q] at e; cases e; exact .cons h (dats_rep q t)
  | .ref _ :: _, _, _, e, _ => by cases e
theorem rep_dats {K : PySem.W.Frag} {Fr : Hp} {μ : List Addr} : ∀ {ds : List PyData} {vs : List V}, DpAll K Fr vs ds → RepWs K Fr μ (ds.map .d) vs
  | [], _, h => by cases h; exact .nil
  | d :: ds, _, h => by
    cases h with
    | cons h1 h2 => exact .cons h1 (rep_dats h2)
theorem DpAll.len {K : PySem.W.Frag} {Fr : Hp} : ∀ {ds : List PyData} {vs : List V}, DpAll K Fr vs ds → vs.length = ds.length
  | [], _, h => by cases h; rfl
  | d :: ds, _, h => by
    cases h with
    | cons h1 h2 => simp [DpAll.len h2]
def mkTup (xs : List W) (S : List Ob) : Res W := match dats xs with
  | some ds => .ok (.d (.tuple ds)) S
  | none => .bad
def fTup (fr : FA) : FE := fun ρ S => (fr ρ S).bind mkTup
/-- a new tuple of data is laid -/
theorem new_tup {K : PySem.W.Frag} {mg : Str → Option Value} {Fr Hd : Hp} {μ : List Addr} {ρ : List Sl} {S : List Ob} {σ : St} {H : Hp} {Q : VK} {ds : List PyData} {vs : List V} {p : Addr} (r : R K Fr Hd μ ρ S σ H) (e : DpAll K Fr vs ds) (hp : H p = none)
    (c : cont K mg Wc (repE K) Fr Hd μ ρ σ Q (.ok (.d (.tuple ds)) S)) : Q (.ref p) (upd H p (.tup vs)) := by
  have f := r.new hp
  have le : Le Fr (upd Fr p (.tup vs)) := Le.upd f.fr
  have r2 := (r.upd (o := .tup vs) f).freeze upd_same f
  exact c _ μ (.ref p) _ le (List.prefix_refl μ) r2 (Dp.tup (.inl (.inl upd_same)) (Le.dps le _ _ e))
/-- how many values an argument list has -/
def LenN (fr : FA) (n : Nat) : Prop := ∀ ρ S xs S', fr ρ S = .ok xs S' → xs.length = n
theorem ln_nil : LenN fNil 0 := fun ρ S xs S' e => by cases e; rfl
theorem ln_cons {n : Nat} (h : LenN fr n) : LenN (fCons fa fr) (n + 1) := fun ρ S xs S' e => by
  unfold fCons at e
  cases q : fa ρ S with
  | err c S1 => rw [q] at e; cases e
  | bad => rw [q] at e; cases e
  | ok x S1 =>
    rw [q] at e
    have e : (fr ρ S1).bind (fun ys S2 => Res.ok (x :: ys) S2) = .ok xs S' := e
    cases q2 : fr ρ S1 with
    | err c S2 => rw [q2] at e; cases e
    | bad => rw [q2] at e; cases e
    | ok ys S2 =>
      rw [q2] at e
      cases e
      simp [h _ _ _ _ q2]
theorem q_tup {x1} {n : Nat} (h : PA X es (LA X Wc fr)) (hl : LenN fr n) (hn : n ≤ sizeLine := by decide) : PE X (.Tuple es x1 pos) (LE X Wc (fTup fr)) := by
  refine PE.imp (pe_tup h) fun σ H Q h => ?_
  obtain ⟨F, D, m, ρ, S, r0, c⟩ := h
  refine ⟨F, D, m, ρ, S, r0, ?_⟩
  unfold fTup at c
  cases e : fr ρ S with
  | err x S1 => rw [e] at c; exact c
  | bad => rw [e] at c; exact c
  | ok xs S1 =>
    rw [e] at c
    intro F1 m1 vs H1 l1 p1 r1 e1
    refine ⟨?_, fun p hp => ?_⟩
    · have := Paired.length e1
      have := hl ρ S xs S1 e
      omega
    · have c : cont X.K X.mg Wc (repE X.K) F D m ρ σ Q (mkTup xs S1) := c
      unfold mkTup at c
      cases q : dats xs with
      | none => rw [q] at c; exact c.elim
      | some ds =>
        rw [q] at c
        exact new_tup r1 (dats_rep q e1) hp (cont.mono l1 p1 (fun _ _ z => z) c)
end
end L2.Q
/-! Layer Q, part C: statements, defs, calls. -/
namespace L2.Q
open PySem PySem.Spec PyProof.Rows

section
variable {K : PySem.W.Frag} {mg : Str → Option Value} {Wc : WX} {Fr Hd : Hp} {μ : List Addr} {ρ : List Sl} {S : List Ob} {σ : St} {H : Hp}
/-! ### blocks -/
def fNx : FT := fun ρ S => .nx ρ S
def thenF (x : Fl) (g : FT) : Fl := match x with
  | .nx ρ S => g ρ S
  | .bk ρ S => .bk ρ S
  | .ct ρ S => .ct ρ S
  | .rt r S => .rt r S
  | .ex c ρ S => .ex c ρ S
  | .bad => .bad
def fSeq (f g : FT) : FT := fun ρ S => thenF (f ρ S) g
end
section
variable {X : Cx} {Wc : WX} {st : Stmt} {rest : List Stmt} {f g : FT} {fa : FE} {fo : FO} {e : Expr} {pos : Pos} {tb : FB}
theorem s_nil : PSs X [] (LS X Wc fNx) := PSs.imp pss_nil fun D σ H h => by
  obtain ⟨F, Hd, m, ρ, S, r, c⟩ := h
  exact c F m σ H Le.refl (List.prefix_refl m) r
/-- a statement's reading goes on as the next ones want -/
theorem seq_imp {D : Ends} {σ : St} {H : Hp} (h : LS X Wc (fSeq f g) D σ H) : LS X Wc f { D with nx := LS X Wc g D } σ H := by
  obtain ⟨F, Hd, m, ρ, S, r, c⟩ := h
  refine ⟨F, Hd, m, ρ, S, r, ?_⟩
  unfold fSeq at c
  cases q : f ρ S with
  | nx ρ1 S1 =>
    rw [q] at c
    exact fun F1 m1 σ1 H1 l p r1 => ⟨F1, Hd, m1, ρ1, S1, r1, contS.mono l p c⟩
  | bk ρ1 S1 => rw [q] at c; exact c
  | ct ρ1 S1 => rw [q] at c; exact c
  | rt x S1 => rw [q] at c; cases x <;> exact c
  | ex x ρ1 S1 => rw [q] at c; exact c
  | bad => rw [q] at c; exact c
theorem s_cons (h1 : PS X st (LS X Wc f)) (h2 : PSs X rest (LS X Wc g)) : PSs X (st :: rest) (LS X Wc (fSeq f g)) := PSs.imp (pss_cons h1 h2) fun _ _ _ h => seq_imp h
theorem s_one (h1 : PS X st (LS X Wc f)) : PSs X [st] (LS X Wc f) := pss_one h1
theorem s_pass : PS X (.Pass pos) (LS X Wc fNx) := PS.imp ps_pass fun D σ H h => by
  obtain ⟨F, Hd, m, ρ, S, r, c⟩ := h
  exact c F m σ H Le.refl (List.prefix_refl m) r
theorem s_doc {x j pos'} : PS X (.Expr (.Constant (.str x) j pos) pos') (LS X Wc fNx) := PS.imp ps_doc fun D σ H h => by
  obtain ⟨F, Hd, m, ρ, S, r, c⟩ := h
  exact c F m σ H Le.refl (List.prefix_refl m) r
def fBk : FT := fun ρ S => .bk ρ S
def fCt : FT := fun ρ S => .ct ρ S
theorem s_break : PS X (.Break pos) (LS X Wc fBk) := PS.imp ps_break fun D σ H h => by
  obtain ⟨F, Hd, m, ρ, S, r, c⟩ := h
  exact c F m σ H Le.refl (List.prefix_refl m) r
theorem s_cont : PS X (.Continue pos) (LS X Wc fCt) := PS.imp ps_continue fun D σ H h => by
  obtain ⟨F, Hd, m, ρ, S, r, c⟩ := h
  exact c F m σ H Le.refl (List.prefix_refl m) r
/-- code that is never come to -/
def fNever : FT := fun _ _ => .bad
theorem s_never : PS X st (LS X Wc fNever) := PS.imp ps_never fun D σ H h => by
  obtain ⟨F, Hd, m, ρ, S, r, c⟩ := h
  exact c
/-- name = value -/
def fSet (i : Nat) (fa : FE) : FT := fun ρ S => fl (fa ρ S) ρ fun x S1 => .nx (ρ.set i (.w x)) S1
theorem s_set {i : Nat} {x : Str} {pos' : Pos} (hN : X.N.Nodup) (hi : X.N[i]? = some x) (hx : Loc X.env.scope x) (he : PE X e (LE X Wc fa)) (hs : swapsWith e (some (.Name x pos')) pos.line X.env = pure false := by rfl) (hf : X.fn x = true ∨ X.env.scope.names.lookup x = some .local := by first | exact .inl rfl | exact .inr rfl | assumption) :
    PS X (.Assign [.Name x pos'] e pos) (LS X Wc (fSet i fa)) := PS.imp (ps_set hN hi hx he hs hf) fun D σ H h => by
  obtain ⟨F, Hd, m, ρ, S, r, c⟩ := h
  exact stepS r c fun F1 m1 x v S1 H1 l1 p1 r1 e1 c1 => c1 F1 m1 _ H1 Le.refl (List.prefix_refl m1) (r1.setW e1)
/-- name = a new object, held by this name alone -/
def fSetO (i : Nat) (fo : FO) : FT := fun ρ S => fl (fo ρ S) ρ fun o S1 => .nx (ρ.set i (.own o)) S1
theorem setO_imp {i : Nat} {D : Ends} {σ : St} {H : Hp} (h : LS X Wc (fSetO i fo) D σ H) : tAsg (LO X Wc fo) (gName i) D σ H := by
  obtain ⟨F, Hd, m, ρ, S, r, c⟩ := h
  refine stepS r c fun F1 m1 x v S1 H1 l1 p1 r1 e1 c1 => ?_
  obtain ⟨p, ho, rfl, h1, h2, h3⟩ := e1
  exact c1 F1 m1 _ H1 Le.refl (List.prefix_refl m1) (r1.setOwn h1 h3 h2)
theorem s_setO {i : Nat} {x : Str} {pos' : Pos} (hN : X.N.Nodup) (hi : X.N[i]? = some x) (hx : Loc X.env.scope x) (he : PE X e (LO X Wc fo)) (hs : swapsWith e (some (.Name x pos')) pos.line X.env = pure false := by rfl) (hf : X.fn x = true ∨ X.env.scope.names.lookup x = some .local := by first | exact .inl rfl | exact .inr rfl | assumption) :
    PS X (.Assign [.Name x pos'] e pos) (LS X Wc (fSetO i fo)) := PS.imp (ps_set hN hi hx he hs hf) fun _ _ _ h => setO_imp h
def fDrop (fa : FE) : FT := fun ρ S => fl (fa ρ S) ρ fun _ S1 => .nx ρ S1
theorem s_expr (he : PE X e (LE X Wc fa)) (hs : swapsWith e none pos.line X.env = pure false := by rfl) : PS X (.Expr e pos) (LS X Wc (fDrop fa)) := PS.imp (ps_expr he hs) fun D σ H h => by
  obtain ⟨F, Hd, m, ρ, S, r, c⟩ := h
  exact stepS r c fun F1 m1 x v S1 H1 l1 p1 r1 e1 c1 => c1 F1 m1 _ H1 Le.refl (List.prefix_refl m1) r1
def fRet (fa : FE) : FT := fun ρ S => fl (fa ρ S) ρ fun x S1 => .rt (.w x) S1
theorem s_ret (he : PE X e (LE X Wc fa)) : PS X (.Return (some e) pos) (LS X Wc (fRet fa)) := PS.imp (ps_ret he) fun D σ H h => by
  obtain ⟨F, Hd, m, ρ, S, r, c⟩ := h
  exact stepS r c fun F1 m1 x v S1 H1 l1 p1 r1 e1 c1 => c1 F1 m1 v H1 Le.refl (List.prefix_refl m1) r1.b e1
def fRetO (fo : FO) : FT := fun ρ S => fl (fo ρ S) ρ fun x S1 => .rt (.own x) S1
theorem s_retO (he : PE X e (LO X Wc fo)) : PS X (.Return (some e) pos) (LS X Wc (fRetO fo)) := PS.imp (ps_ret he) fun D σ H h => by
  obtain ⟨F, Hd, m, ρ, S, r, c⟩ := h
  refine stepS r c fun F1 m1 x v S1 H1 l1 p1 r1 e1 c1 => ?_
  obtain ⟨p, ho, rfl, h1, h2, h3⟩ := e1
  exact c1 F1 m1 p ho H1 Le.refl (List.prefix_refl m1) r1.b h1 h2 h3.fr h3.hd h3.mu
def fRetN : FT := fun _ S => .rt (.w (.d .none)) S
theorem s_retN : PS X (.Return none pos) (LS X Wc fRetN) := PS.imp ps_retN fun D σ H h => by
  obtain ⟨F, Hd, m, ρ, S, r, c⟩ := h
  exact c F m .non H Le.refl (List.prefix_refl m) r.b Dp.non
def fIfS (t : FB) (f g : FT) : FT := fun ρ S => fl (t ρ S) ρ fun c S1 => if c = true then f ρ S1 else g ρ S1
theorem s_if {c : Expr} {a b : List Stmt} (hc : PT X c (LB X Wc tb)) (ha : PSs X a (LS X Wc f)) (hb : PSs X b (LS X Wc g)) : PS X (.If c a b pos) (LS X Wc (fIfS tb f g)) := PS.imp (ps_if hc ha hb) fun D σ H h => by
  obtain ⟨F, Hd, m, ρ, S, r, c⟩ := h
  refine stepS r c fun F1 m1 x v S1 H1 l1 p1 r1 e1 c1 => ?_
  cases e1
  cases x with
  | true => exact ⟨F1, Hd, m1, ρ, S1, r1, c1⟩
  | false => exact ⟨F1, Hd, m1, ρ, S1, r1, c1⟩
/-- raise X('..') -/
def fRaise (c : Str) : FT := fun ρ S => .ex c ρ S
theorem s_raise {x : Str} {C : Addr} (hc : X.calm = true) (tk : Takes X Wc) (hm : X.mg x = some (.ref C)) (he : PMk X e (fun _ H Q => Q (.ref C) none H)) : PS X (.Raise (some e) none pos) (LS X Wc (fRaise x)) :=
  PS.imp (ps_raise hc tk he) fun D σ H h => by
  obtain ⟨F, Hd, m, ρ, S, r, c⟩ := h
  exact c F m σ C H Le.refl (List.prefix_refl m) r hm
/-- a slot gives up its object: it is a value from now on -/
def frz (o : Ob) : Option W := match o with
  | .lst xs => (dats xs).map fun ds => .d (.list ds)
  | _ => none
def fFrz (i : Nat) (f : FT) : FT := fun ρ S => match ρ[i]? with
  | some (.own o) => (match frz o with
    | some x => f (ρ.set i (.w x)) S
    | none => .bad)
  | _ => f ρ S
theorem frz_rep {K : PySem.W.Frag} {Fr : Hp} {μ : List Addr} {o : Ob} {ho : HO} {p : Addr} {x : W} (e : frz o = some x) (h : RepO K Fr μ o ho) (hp : Fr p = none) : RepW K (upd Fr p ho) μ x (.ref p) := by
  cases o with
  | dct kvs => cases e
  | fdc kvs => cases e
  | ins c fs => cases e
  | dcn fz kvs => cases e
  | lst xs =>
    obtain ⟨vs, rfl, r⟩ := h
    have e : (dats xs).map (fun ds => W.d (.list ds)) = some x := e
    cases q : dats xs with
    | none => rw [q] at e; cases e
    | some ds =>
      rw [q] at e
      cases e
      exact Dp.lst (.inl (.inl upd_same)) (Le.dps (Le.upd hp) _ _ (dats_rep q r))
theorem R.give {K : PySem.W.Frag} {Fr Hd : Hp} {μ : List Addr} {ρ : List Sl} {S : List Ob} {σ : St} {H : Hp} (r : R K Fr Hd μ ρ S σ H) {i : Nat} {o : Ob} {x : W} (e : ρ[i]? = some (.own o)) (q : frz o = some x) :
    ∃ Fr', Le Fr Fr' ∧ R K Fr' Hd μ (ρ.set i (.w x)) S σ H := by
  obtain ⟨a, ho, e1, h1, h2, h3, h4, h5⟩ := r.s.sl i _ e
  have ow : Owns ρ σ i a := ⟨⟨o, e⟩, e1⟩
  have f := r.free_un ow
  have r1 := (r.un i).freeze h1 f
  have r2 := r1.setW (i := i) (frz_rep q h2 h3)
  rw [set_at e1, List.set_set] at r2
  exact ⟨_, Le.upd h3, r2⟩
theorem s_frz (i : Nat) (h : PS X st (LS X Wc f)) : PS X st (LS X Wc (fFrz i f)) := PS.imp h fun D σ H h => by
  obtain ⟨F, Hd, m, ρ, S, r, c⟩ := h
  unfold fFrz at c
  cases e : ρ[i]? with
  | none => rw [e] at c; exact ⟨F, Hd, m, ρ, S, r, c⟩
  | some y =>
    rw [e] at c
    cases y with
    | un => exact ⟨F, Hd, m, ρ, S, r, c⟩
    | w x => exact ⟨F, Hd, m, ρ, S, r, c⟩
    | own o =>
      cases q : frz o with
      | none => simp only [q] at c; exact c.elim
      | some x =>
        simp only [q] at c
        obtain ⟨F', l, r'⟩ := r.give e q
        exact ⟨F', Hd, m, _, S, r', contS.mono l (List.prefix_refl m) c⟩
end

/-! ### defs -/
def start0 (n : Nat) (ws : List W) : List Sl := ws.map .w ++ List.replicate (n - ws.length) .un
def outF (x : Fl) : Res Rv := match x with
  | .rt r S => .ok r S
  | .nx _ S => .ok (.w (.d .none)) S
  | .ex c _ S => .err c S
  | _ => .bad
def runF (n : Nat) (f : FT) : List W → List Ob → Res Rv := fun ws S => outF (f (start0 n ws) S)
abbrev FM := List W → List Ob → Res Rv
def contR (K : PySem.W.Frag) (mg : Str → Option Value) (Fr Hd : Hp) (μ : List Addr) (Q : VK) (E : XK) : Res Rv → Prop
  | .ok (.w x) S' => ∀ Fr' μ' v H', Le Fr Fr' → μ <+: μ' → RB K Fr' Hd μ' S' H' → RepW K Fr' μ' x v → Q v H'
  | .ok (.own o) S' => ∀ Fr' μ' p ho H', Le Fr Fr' → μ <+: μ' → RB K Fr' Hd μ' S' H' → H' p = some ho → RepO K Fr' μ' o ho → Fr' p = none → Hd p = none → p ∉ μ' → Q (.ref p) H'
  | .err c S' => ∀ Fr' μ' C H', Le Fr Fr' → μ <+: μ' → RB K Fr' Hd μ' S' H' → mg c = some (.ref C) → E (.ref C) none H'
  | .bad => False
/-- a def's promise by its function -/
def spOf (K : PySem.W.Frag) (mg : Str → Option Value) (m : FM) (n : Nat) : Sp := fun vs H Q E => vs.length = n ∧
  ∃ Fr Hd μ ws S, RB K Fr Hd μ S H ∧ RepWs K Fr μ ws vs ∧ contR K mg Fr Hd μ Q E (m ws S)
theorem paired_get {α β : Type} {F : α → β → Prop} : ∀ {l₁ : List α} {l₂ : List β} {i : Nat} {a : α}, Paired F l₁ l₂ → l₁[i]? = some a → ∃ b, l₂[i]? = some b ∧ F a b
  | _, _, _, _, .nil, e => by simp at e
  | _, _, 0, _, .cons r _, e => by simp at e; subst e; exact ⟨_, rfl, r⟩
  | _, _, i + 1, x, .cons _ t, e => by
    obtain ⟨u, h1, h2⟩ := paired_get (i := i) (a := x) t (by simpa using e)
    exact ⟨u, by simpa using h1, h2⟩
theorem start_ok {K : PySem.W.Frag} {Fr Hd : Hp} {μ : List Addr} {ws : List W} {vs : List V} {S : List Ob} {H : Hp} {N : List Str} (b : RB K Fr Hd μ S H) (e : RepWs K Fr μ ws vs) : R K Fr Hd μ (start0 N.length ws) S (start N vs) H := by
  have hl := Paired.length e
  have notOwn : ∀ (i : Nat) (o : Ob), (start0 N.length ws)[i]? ≠ some (.own o) := fun i o q => by
    unfold start0 at q
    by_cases hi : i < ws.length
    · rw [List.getElem?_append_left (by simpa using hi), List.getElem?_map, List.getElem?_eq_getElem hi] at q
      cases q
    · rw [List.getElem?_append_right (by simpa using hi), List.getElem?_replicate] at q
      split at q <;> cases q
  refine ⟨b, ?_, fun i x q => ?_, fun i j a h => ?_⟩
  · unfold start0 start
    simp [hl]
  · unfold start0 at q
    by_cases hi : i < ws.length
    · rw [List.getElem?_append_left (by simpa using hi), List.getElem?_map, List.getElem?_eq_getElem hi] at q
      cases q
      obtain ⟨v, h1, h2⟩ := paired_get e (List.getElem?_eq_getElem hi)
      refine ⟨v, ?_, h2⟩
      unfold start
      rw [List.getElem?_append_left (by simp; omega), List.getElem?_map, h1]
      rfl
    · rw [List.getElem?_append_right (by simpa using hi), List.getElem?_replicate] at q
      split at q
      · cases q; trivial
      · cases q
  · obtain ⟨⟨o, q⟩, _⟩ := h
    exact absurd q (notOwn i o)
section
variable {P : Program} {w : World} {K : PySem.W.Frag} {mg : Str → Option Value} {base : Heap}
abbrev FnQ (P : Program) (w : World) (K : PySem.W.Frag) (mg : Str → Option Value) (base : Heap) (k : Nat) (f : Addr) (fd : FuncData) (ps : List Str) (m : FM) : Prop := FnOk P w K mg base (L2.CX P w) k f fd ps (spOf K mg m ps.length)
/-- THE RULE for a def -/
theorem q_fn {x qual : Str} {st : Stmt} {f : Addr} {fd : FuncData} {N ps : List Str} {k : Nat} {fb : FT} {m : FM} (F : Fun K x qual st f fd) (S : FnScope N ps (defScope st)) (hm : m = runF N.length fb)
    (hbody : ∀ (cdv : Value) (A : Around) (outer : List Env) (s : Shared) (H : Hp) (E : XK), Room k (A.deeper (envOfC qual (defScope st) s.heap.objs.size f cdv)) →
      PSs (cxOf (L2.CX P w) P w K mg base N qual (defScope st) f cdv A outer s H E) (defBody st) (LS (cxOf (L2.CX P w) P w K mg base N qual (defScope st) f cdv A outer s H E) (fun cls d _ H' => E cls d H') fb)) : FnQ P w K mg base (k + 1) f fd ps m := by
  refine F.okX S (fun vs H Q E h => h.1) fun cdv A outer s H vs Q E hr h => ⟨_, hbody cdv A outer s H E hr, ?_⟩
  obtain ⟨_, Fr, Hd, μ, ws, St, b, e, c⟩ := h
  refine ⟨Fr, Hd, μ, start0 N.length ws, St, start_ok b e, ?_⟩
  subst hm
  unfold runF at c
  cases q : fb (start0 N.length ws) St with
  | nx ρ1 S1 => rw [q] at c; exact fun F1 m1 σ1 H1 l p r1 => c F1 m1 .non H1 l p r1.b Dp.non
  | bk ρ1 S1 => rw [q] at c; exact c.elim
  | ct ρ1 S1 => rw [q] at c; exact c.elim
  | rt x S1 => rw [q] at c; cases x <;> exact c
  | ex x ρ1 S1 => rw [q] at c; exact fun F1 m1 σ1 C H1 l p r1 hc => c F1 m1 C H1 l p r1.b hc
  | bad => rw [q] at c; exact c
end

/-! ### calls -/
noncomputable def hide1 (Hd H : Hp) (ρ : List Sl) (σ : St) : Hp := fun a => open Classical in if ∃ i, Owns ρ σ i a then H a else Hd a
section
variable {K : PySem.W.Frag} {mg : Str → Option Value} {Fr Hd : Hp} {μ : List Addr} {ρ : List Sl} {S : List Ob} {σ : St} {H : Hp}
/-- what the slots own is hidden from a callee -/
theorem R.hideOwn (r : R K Fr Hd μ ρ S σ H) : RB K Fr (hide1 Hd H ρ σ) μ S H := by
  refine ⟨r.b.fr, fun a o e => ?_, r.b.len, fun n a o e1 e2 => ?_, r.b.nd⟩
  · unfold hide1 at e
    split at e
    · rename_i h
      obtain ⟨i, h⟩ := h
      obtain ⟨_, _, h2, _⟩ := r.owns h
      exact ⟨e, h2⟩
    · exact r.b.hd a o e
  · obtain ⟨ho, h1, h2, h3, h4⟩ := r.b.st n a o e1 e2
    refine ⟨ho, h1, h2, h3, ?_⟩
    unfold hide1
    rw [if_neg]
    · exact h4
    · rintro ⟨i, h⟩
      obtain ⟨_, _, _, _, h5, _⟩ := r.owns h
      exact h5 (List.mem_of_getElem? e1)
/-- behind the callee they are as they were -/
theorem R.unhideOwn (r : R K Fr Hd μ ρ S σ H) {Fr' : Hp} {μ' : List Addr} {S' : List Ob} {H' : Hp} (l : Le Fr Fr') (p : μ <+: μ') (b : RB K Fr' (hide1 Hd H ρ σ) μ' S' H') : R K Fr' Hd μ' ρ S' σ H' := by
  have le : Le Hd (hide1 Hd H ρ σ) := fun a o e => by
    unfold hide1
    rw [if_neg]
    · exact e
    · rintro ⟨i, h⟩
      obtain ⟨_, _, _, h4, _⟩ := r.owns h
      rw [e] at h4; cases h4
  refine ⟨b.unhide le, r.s.len, fun i x e => ?_, r.s.inj⟩
  have q := r.s.sl i x e
  cases x with
  | un => trivial
  | w x => obtain ⟨u, e1, e2⟩ := q; exact ⟨u, e1, e2.mono l p⟩
  | own x =>
    obtain ⟨a, ho, e1, h1, h2, h3, h4, h5⟩ := q
    have ow : Owns ρ σ i a := ⟨⟨x, e⟩, e1⟩
    have hh : hide1 Hd H ρ σ a = some ho := by
      unfold hide1
      rw [if_pos ⟨i, ow⟩, h1]
    obtain ⟨k1, k2⟩ := b.hd a ho hh
    refine ⟨a, ho, e1, k1, h2.mono l p, k2, h4, fun hm => ?_⟩
    obtain ⟨n, hn, en⟩ := List.getElem_of_mem hm
    have hs : n < S'.length := by rw [← b.len]; exact hn
    obtain ⟨_, _, _, _, h9⟩ := b.st n a S'[n] (by rw [List.getElem?_eq_getElem hn, en]) (List.getElem?_eq_getElem hs)
    rw [hh] at h9; cases h9
theorem hide1_none (h : hide1 Hd H ρ σ = hide1 Hd H ρ σ) {a : Addr} {ho : HO} (r : R K Fr Hd μ ρ S σ H) (e : hide1 Hd H ρ σ a = none) : Hd a = none ∧ ∀ i, ¬ Owns ρ σ i a := by
  unfold hide1 at e
  split at e
  · rename_i h
    obtain ⟨i, h⟩ := h
    obtain ⟨ho, h1, _⟩ := r.owns h
    rw [e] at h1; cases h1
  · rename_i h
    exact ⟨e, fun i q => h ⟨i, q⟩⟩
end
/-- what is handed back, as a value -/
def rvW (x : Rv) (S : List Ob) : Res W := match x with
  | .w x => .ok x S
  | .own o => (match frz o with
    | some x => .ok x S
    | none => .bad)
def rvO (x : Rv) (S : List Ob) : Res Ob := match x with
  | .own o => .ok o S
  | .w _ => .bad
def fCall (m : FM) (fr : FA) : FE := fun ρ S => (fr ρ S).bind fun ws S1 => (m ws S1).bind rvW
def fCallO (m : FM) (fr : FA) : FO := fun ρ S => (fr ρ S).bind fun ws S1 => (m ws S1).bind rvO
section
variable {X : Cx} {Wc : WX} {k : Nat} {f : Addr} {fd : FuncData} {ps : List Str} {m : FM} {x : Str} {p pos : Pos} {e : Expr} {es : List Expr} {fr : FA}
theorem sp_call {Fr Hd : Hp} {μ : List Addr} {ρ : List Sl} {S : List Ob} {σ : St} {H : Hp} {Q : VK} {ws : List W} {vs : List V} {n : Nat} (hn : vs.length = n) (r : R X.K Fr Hd μ ρ S σ H) (e : RepWs X.K Fr μ ws vs)
    (c : cont X.K X.mg Wc (repE X.K) Fr Hd μ ρ σ Q ((m ws S).bind rvW)) : spOf X.K X.mg m n vs H Q (WE Wc σ) := by
  refine ⟨hn, Fr, hide1 Hd H ρ σ, μ, ws, S, r.hideOwn, e, ?_⟩
  cases q : m ws S with
  | bad => rw [q] at c; exact c
  | err z S1 => rw [q] at c; exact fun F1 m1 C H1 l p b hc => c F1 m1 C H1 l p (r.unhideOwn l p b) hc
  | ok y S1 =>
    rw [q] at c
    cases y with
    | w y => exact fun F1 m1 v H1 l p b ev => c F1 m1 v H1 l p (r.unhideOwn l p b) ev
    | own o =>
      intro F1 m1 a ho H1 l p b h1 h2 h3 h4 h5
      have c : cont X.K X.mg Wc (repE X.K) Fr Hd μ ρ σ Q (rvW (.own o) S1) := c
      unfold rvW at c
      cases q2 : frz o with
      | none => simp only [q2] at c; exact c.elim
      | some y =>
        simp only [q2] at c
        have r1 := r.unhideOwn l p b
        obtain ⟨k1, k2⟩ := hide1_none (ho := ho) rfl r h4
        have f : Free F1 Hd m1 ρ σ a := ⟨h3, k1, h5, k2⟩
        exact c _ m1 (.ref a) H1 (l.trans (Le.upd h3)) p (r1.freeze h1 f) (frz_rep q2 h2 h3)
theorem sp_callO {Fr Hd : Hp} {μ : List Addr} {ρ : List Sl} {S : List Ob} {σ : St} {H : Hp} {Q : VK} {ws : List W} {vs : List V} {n : Nat} (hn : vs.length = n) (r : R X.K Fr Hd μ ρ S σ H) (e : RepWs X.K Fr μ ws vs)
    (c : cont X.K X.mg Wc (repO X.K) Fr Hd μ ρ σ Q ((m ws S).bind rvO)) : spOf X.K X.mg m n vs H Q (WE Wc σ) := by
  refine ⟨hn, Fr, hide1 Hd H ρ σ, μ, ws, S, r.hideOwn, e, ?_⟩
  cases q : m ws S with
  | bad => rw [q] at c; exact c
  | err z S1 => rw [q] at c; exact fun F1 m1 C H1 l p b hc => c F1 m1 C H1 l p (r.unhideOwn l p b) hc
  | ok y S1 =>
    rw [q] at c
    cases y with
    | w y => exact c.elim
    | own o =>
      intro F1 m1 a ho H1 l p b h1 h2 h3 h4 h5
      have r1 := r.unhideOwn l p b
      obtain ⟨k1, k2⟩ := hide1_none (ho := ho) rfl r h4
      exact c F1 m1 (.ref a) H1 l p r1 ⟨a, ho, rfl, h1, h2, h3, k1, h5, k2⟩
/-- f(e, ..) -/
theorem q_call (F : FnQ X.prog X.w X.K X.mg X.base k f fd ps m) (hr : Room k X.A) (hg : Gl X x) (hm : X.mg x = some (.ref f)) (hk : PySem.W.keepIn X.K (.ref f) = true) (hb : Binds X.K fd ps []) (tk : Takes X Wc)
    (hl : LenN fr ps.length) (ha : PA X (e :: es) (LA X Wc fr)) (hdb : (x == ("__debug__" : Str)) = false := by decide) (he : starEach (e :: es) X.env = (false, eval e X.env) :: starEach es X.env := by rfl) (hpl : (backTo pos (starEach es X.env)).any (·.1) = false := by rfl) :
    PE X (.Call (.Name x p) (e :: es) [] pos) (LE X Wc (fCall m fr)) := by
  refine PE.imp (pe_callS F hr hg hm hk hb (fun σ => passAt tk σ) ha hdb he hpl) fun σ H Q h => ?_
  obtain ⟨F0, Hd, μ, ρ, S, r, c⟩ := h
  cases q : fr ρ S with
  | bad => unfold fCall at c; rw [q] at c; exact c.elim
  | err z S1 => unfold fCall at c; rw [q] at c; exact ⟨F0, Hd, μ, ρ, S, r, by rw [q]; exact c⟩
  | ok ws S1 =>
    refine ⟨F0, Hd, μ, ρ, S, r, ?_⟩
    unfold fCall at c
    rw [q] at c ⊢
    intro F1 m1 vs H1 l1 p1 r1 e1
    refine sp_call ?_ r1 e1 (cont.mono l1 p1 (fun _ _ z => z) c)
    rw [← Paired.length e1]
    exact hl _ _ _ _ q
theorem q_callO (F : FnQ X.prog X.w X.K X.mg X.base k f fd ps m) (hr : Room k X.A) (hg : Gl X x) (hm : X.mg x = some (.ref f)) (hk : PySem.W.keepIn X.K (.ref f) = true) (hb : Binds X.K fd ps []) (tk : Takes X Wc)
    (hl : LenN fr ps.length) (ha : PA X (e :: es) (LA X Wc fr)) (hdb : (x == ("__debug__" : Str)) = false := by decide) (he : starEach (e :: es) X.env = (false, eval e X.env) :: starEach es X.env := by rfl) (hpl : (backTo pos (starEach es X.env)).any (·.1) = false := by rfl) :
    PE X (.Call (.Name x p) (e :: es) [] pos) (LO X Wc (fCallO m fr)) := by
  refine PE.imp (pe_callS F hr hg hm hk hb (fun σ => passAt tk σ) ha hdb he hpl) fun σ H Q h => ?_
  obtain ⟨F0, Hd, μ, ρ, S, r, c⟩ := h
  cases q : fr ρ S with
  | bad => unfold fCallO at c; rw [q] at c; exact c.elim
  | err z S1 => unfold fCallO at c; rw [q] at c; exact ⟨F0, Hd, μ, ρ, S, r, by rw [q]; exact c⟩
  | ok ws S1 =>
    refine ⟨F0, Hd, μ, ρ, S, r, ?_⟩
    unfold fCallO at c
    rw [q] at c ⊢
    intro F1 m1 vs H1 l1 p1 r1 e1
    refine sp_callO ?_ r1 e1 (cont.mono l1 p1 (fun _ _ z => z) c)
    rw [← Paired.length e1]
    exact hl _ _ _ _ q
end
end L2.Q
/-! Layer Q, part D: targets, sources, for, while, list comprehensions. -/
namespace L2.Q
open PySem PySem.Spec PyProof.Rows

/-! ### targets -/
abbrev FG := W → List Sl → Option (List Sl)
abbrev FGs := List PyData → List Sl → Option (List Sl)
def gN (i : Nat) : FG := fun x ρ => some (ρ.set i (.w x))
def gsN : FGs := fun xs ρ => match xs with
  | [] => some ρ
  | _ :: _ => none
def gsC (g : FG) (gs : FGs) : FGs := fun xs ρ => match xs with
  | [] => none
  | x :: r => (g (.d x) ρ).bind (gs r)
def gT (n : Nat) (gs : FGs) : FG := fun x ρ => match x with
  | .d (.tuple xs) => if xs.length = n then gs xs ρ else none
  | _ => none
/-- own: the slots that the target stores -/
def liftG (K : PySem.W.Frag) (own : List Nat) (g : FG) : TG := fun v σ H Q => ∃ Fr Hd μ ρ S x, R K Fr Hd μ ρ S σ H ∧ RepW K Fr μ x v ∧ ∃ ρ', g x ρ = some ρ' ∧ ∀ σ', wipe σ' own = wipe σ own → R K Fr Hd μ ρ' S σ' H → Q σ' H
def liftGs (K : PySem.W.Frag) (own : List Nat) (g : FGs) : TGs := fun vs σ H Q => ∃ Fr Hd μ ρ S xs, R K Fr Hd μ ρ S σ H ∧ DpAll K Fr vs xs ∧ ∃ ρ', g xs ρ = some ρ' ∧ ∀ σ', wipe σ' own = wipe σ own → R K Fr Hd μ ρ' S σ' H → Q σ' H
theorem wipe_get {σ : St} {own : List Nat} {j : Nat} : (wipe σ own)[j]? = if j ∈ own then (if j < σ.length then some none else none) else σ[j]? := by
  induction own with
  | nil => simp [wipe]
  | cons v vs ih =>
    unfold wipe
    by_cases q : v = j
    · subst q
      simp only [List.mem_cons, true_or, if_true]
      by_cases hl : v < σ.length
      · rw [List.getElem?_set_self (by rw [wipe_length]; exact hl), if_pos hl]
      · rw [List.getElem?_eq_none (by simp [wipe_length]; omega), if_neg hl]
    · rw [List.getElem?_set_ne q, ih]
      have e : (j ∈ v :: vs) = (j ∈ vs) := by simp [Ne.symm q]
      simp only [e]
theorem wipe_set {σ : St} {own : List Nat} {i : Nat} {v : Option V} (h : i ∈ own) : wipe (σ.set i v) own = wipe σ own := by
  apply List.ext_getElem?
  intro j
  rw [wipe_get, wipe_get]
  by_cases q : j ∈ own
  · simp [q]
  · have n : i ≠ j := fun e => q (e ▸ h)
    simp [q, List.getElem?_set_ne n]
theorem PG.imp {X : Cx} {e : Expr} {t t' : TG} (h : PG X e t) (i : ∀ v σ H Q, t' v σ H Q → t v σ H Q) : PG X e t' := ⟨fun pins s σ H v u Q I r q => h.run pins s σ H v u Q I r (i v σ H Q q)⟩
theorem PGs.imp {X : Cx} {e : List Expr} {t t' : TGs} (h : PGs X e t) (i : ∀ v σ H Q, t' v σ H Q → t v σ H Q) : PGs X e t' := ⟨fun pins s σ H v u Q I r q => h.run pins s σ H v u Q I r (i v σ H Q q)⟩
theorem PI.imp {X : Cx} {tg e : Expr} {t t' : TI} (h : PI X tg e t) (i : ∀ σ H Q, t' σ H Q → t σ H Q) : PI X tg e t' := ⟨fun pins s σ H R I q => h.run pins s σ H R I (i σ H R q)⟩
def unset (ρ : List Sl) : List Nat → List Sl
  | [] => ρ
  | v :: vs => (unset ρ vs).set v .un
theorem unset_len (ρ : List Sl) : ∀ own : List Nat, (unset ρ own).length = ρ.length
  | [] => rfl
  | v :: vs => by unfold unset; rw [List.length_set, unset_len ρ vs]
theorem unset_get (ρ : List Sl) (own : List Nat) (j : Nat) : (unset ρ own)[j]? = if j ∈ own then (if j < ρ.length then some .un else none) else ρ[j]? := by
  induction own with
  | nil => simp [unset]
  | cons v vs ih =>
    unfold unset
    by_cases q : v = j
    · subst q
      simp only [List.mem_cons, true_or, if_true]
      by_cases hl : v < ρ.length
      · rw [List.getElem?_set_self (by rw [unset_len]; exact hl), if_pos hl]
      · rw [List.getElem?_eq_none (by simp [unset_len]; omega), if_neg hl]
    · rw [List.getElem?_set_ne q, ih]
      have e : (j ∈ v :: vs) = (j ∈ vs) := by simp [Ne.symm q]
      simp only [e]
/-- a target stores at own alone -/
def GO (own : List Nat) (g : FG) : Prop := ∀ x ρ ρ', g x ρ = some ρ' → unset ρ' own = unset ρ own
def GOs (own : List Nat) (g : FGs) : Prop := ∀ x ρ ρ', g x ρ = some ρ' → unset ρ' own = unset ρ own
theorem go_n {own : List Nat} {i : Nat} (h : i ∈ own) : GO own (gN i) := fun x ρ ρ' e => by
  cases e
  apply List.ext_getElem?
  intro j
  rw [unset_get, unset_get]
  by_cases q : j ∈ own
  · simp [q]
  · have n : i ≠ j := fun e => q (e ▸ h)
    simp [q, List.getElem?_set_ne n]
theorem go_nil {own : List Nat} : GOs own gsN := fun x ρ ρ' e => by
  cases x with
  | nil => cases e; rfl
  | cons a b => cases e
theorem go_c {own : List Nat} {g : FG} {gs : FGs} (h : GO own g) (k : GOs own gs) : GOs own (gsC g gs) := fun x ρ ρ' e => by
  cases x with
  | nil => cases e
  | cons a b =>
    have e : (g (.d a) ρ).bind (gs b) = some ρ' := e
    cases q : g (.d a) ρ with
    | none => rw [q] at e; cases e
    | some ρ1 => rw [q] at e; exact (k _ _ _ e).trans (h _ _ _ q)
theorem go_t {own : List Nat} {n : Nat} {gs : FGs} (k : GOs own gs) : GO own (gT n gs) := fun x ρ ρ' e => by
  unfold gT at e
  split at e
  · split at e
    · exact k _ _ _ e
    · cases e
  · cases e
section
variable {X : Cx} {e : Expr} {es : List Expr} {g : FG} {gs : FGs} {pos : Pos} {own : List Nat}
theorem g_name {i : Nat} {x : Str} (ho : i ∈ own) (hN : X.N.Nodup) (hi : X.N[i]? = some x) (hx : Loc X.env.scope x) (hf : X.fn x = true ∨ X.env.scope.names.lookup x = some .local := by first | exact .inl rfl | exact .inr rfl | assumption) : PG X (.Name x pos) (liftG X.K own (gN i)) :=
  PG.imp (pg_name hN hi hx hf) fun v σ H Q h => by
  obtain ⟨F, Hd, m, ρ, S, x, r, e, ρ', e1, q⟩ := h
  cases e1
  exact q _ (wipe_set ho) (r.setW e)
theorem gs_nil : PGs X [] (liftGs X.K own gsN) := PGs.imp pgs_nil fun v σ H Q h => by
  obtain ⟨F, Hd, m, ρ, S, xs, r, e, ρ', e1, q⟩ := h
  cases xs with
  | nil => cases e1; cases e; exact ⟨rfl, q _ rfl r⟩
  | cons x xs => cases e1
theorem gs_cons (h1 : PG X e (liftG X.K own g)) (h2 : PGs X es (liftGs X.K own gs)) (hs : (assignEach (e :: es) X.env).map (·.2) = assign e X.env :: (assignEach es X.env).map (·.2) := by rfl) : PGs X (e :: es) (liftGs X.K own (gsC g gs)) :=
  PGs.imp (pgs_cons h1 h2 hs) fun v σ H Q h => by
  obtain ⟨F, Hd, m, ρ, S, xs, r, e, ρ', e1, q⟩ := h
  cases xs with
  | nil => cases e1
  | cons x xs =>
    cases e with
    | @cons v vs _ _ a b =>
      have e1 : (g (.d x) ρ).bind (gs xs) = some ρ' := e1
      cases q1 : g (.d x) ρ with
      | none => rw [q1] at e1; cases e1
      | some ρ1 =>
        rw [q1] at e1
        exact ⟨v, vs, rfl, F, Hd, m, ρ, S, .d x, r, a, ρ1, q1, fun σ1 w1 r1 => ⟨F, Hd, m, ρ1, S, xs, r1, b, ρ', e1, fun σ2 w2 => q σ2 (w2.trans w1)⟩⟩
theorem g_tup {k n : Nat} (hc : X.calm = true) (h : PGs X es (liftGs X.K own gs)) (hn : (assignEach es X.env).length = n := by rfl) (hst : (assignEach es X.env).findIdx? (·.1) = none := by rfl) : PG X (.Tuple es k pos) (liftG X.K own (gT n gs)) :=
  PG.imp (pg_tup hc h hn hst) fun v σ H Q h => by
  obtain ⟨F, Hd, m, ρ, S, x, r, e, ρ', e1, q⟩ := h
  cases x with
  | ref n => cases e1
  | d x =>
    cases x with
    | tuple xs =>
      unfold gT at e1
      cases e with
      | @tup a vs _ hs ha =>
        dsimp only at e1
        split at e1
        · rename_i hl
          exact ⟨a, vs, rfl, Le.sqT r.b.fr hs, (DpAll.len ha).trans hl, F, Hd, m, ρ, S, xs, r, ha, ρ', e1, q⟩
        · cases e1
    | none => cases e1
    | bool b => cases e1
    | int i => cases e1
    | str z => cases e1
    | list z => cases e1
    | dict z => cases e1
end

/-! ### sources of a loop -/
/-- what a walk gives at turn i: the i-th of xs, or a new tuple that is it -/
def Yq (K : PySem.W.Frag) (Fr : Hp) (μ : List Addr) (xs : List W) : Nat → Hp → V → Hp → Prop := fun i H v H' =>
  ∃ x, xs[i]? = some x ∧ ((H' = H ∧ RepW K Fr μ x v) ∨ ∃ T vs ds, v = .ref T ∧ H T = none ∧ H' = upd H T (.tup vs) ∧ x = .d (.tuple ds) ∧ DpAll K Fr vs ds)
def contI (K : PySem.W.Frag) (mg : Str → Option Value) (Wc : WX) (Fr Hd : Hp) (μ : List Addr) (ρ : List Sl) (σ : St) (Q : It → Hp → Prop) : Res (List W) → Prop
  | .ok xs S' => ∀ Fr' Hd' μ' H' J, Le Fr Fr' → Le Hd Hd' → μ <+: μ' → R K Fr' Hd' μ' ρ S' σ H' → Walk J xs.length (fun H => Le Fr' H ∧ Le Hd' H) (Yq K Fr' μ' xs) → xs.length ≤ sizeLine → Q J H'
  | .err c S' => ∀ Fr' μ' C H', Le Fr Fr' → μ <+: μ' → R K Fr' Hd μ' ρ S' σ H' → mg c = some (.ref C) → Wc (.ref C) none σ H'
  | .bad => False
def liftI (K : PySem.W.Frag) (mg : Str → Option Value) (Wc : WX) (f : FA) : TI := fun σ H Q => ∃ Fr Hd μ ρ S, R K Fr Hd μ ρ S σ H ∧ contI K mg Wc Fr Hd μ ρ σ Q (f ρ S)
abbrev LI (X : Cx) (Wc : WX) (f : FA) : TI := liftI X.K X.mg Wc f
section
variable {K : PySem.W.Frag} {mg : Str → Option Value} {Wc : WX} {α β : Type} {rep : Rep α β} {Fr Fr' Hd : Hp} {μ μ' : List Addr} {ρ : List Sl} {S : List Ob} {σ : St} {H : Hp} {Q : It → Hp → Prop} {Q1 : β → Hp → Prop}
theorem contI.mono {r : Res (List W)} (h1 : Le Fr Fr') (h2 : μ <+: μ') (c : contI K mg Wc Fr Hd μ ρ σ Q r) : contI K mg Wc Fr' Hd μ' ρ σ Q r := by
  cases r with
  | ok a S => exact fun F D m H' J l d p r e => c F D m H' J (h1.trans l) d (List.IsPrefix.trans h2 p) r e
  | err x S => exact fun F m C H' l p r e => c F m C H' (h1.trans l) (List.IsPrefix.trans h2 p) r e
  | bad => exact c
theorem stepI {f : List Sl → List Ob → Res α} {k : α → List Ob → Res (List W)} (r : R K Fr Hd μ ρ S σ H) (c : contI K mg Wc Fr Hd μ ρ σ Q ((f ρ S).bind k))
    (hk : ∀ Fr' μ' a b S1 H1, Le Fr Fr' → μ <+: μ' → R K Fr' Hd μ' ρ S1 σ H1 → rep Fr' Hd μ' ρ σ H1 a b → contI K mg Wc Fr' Hd μ' ρ σ Q (k a S1) → Q1 b H1) : lift K mg Wc rep f σ H Q1 := by
  refine ⟨Fr, Hd, μ, ρ, S, r, ?_⟩
  cases e : f ρ S with
  | ok a S1 =>
    rw [e] at c
    exact fun F m b H' l p r' q => hk F m a b S1 H' l p r' q (contI.mono l p c)
  | err x S1 => rw [e] at c; exact c
  | bad => rw [e] at c; exact c
end
section
variable {X : Cx} {Wc : WX} {tg l e e2 : Expr} {pos p : Pos} {fa fb : FE} {fo fo2 : FO} {fr : FA}
/-- a list or a tuple that is walked -/
def iSeq (K : PySem.W.Frag) (tl : TE) : TI := fun σ H R => tl σ H fun x H1 => ∃ a, x = .ref a ∧ ((∃ xs, SqL K H1 a xs ∧ (xs.length ≤ sizeLine → R (Itl K a) H1)) ∨ (∃ xs, SqT K H1 a xs ∧ (xs.length ≤ sizeLine → R (Itt K a) H1)))
theorem pi_seq {tl : TE} (hl : PE X l tl) : PI X tg l (iSeq X.K tl) := by
  refine ⟨fun pins s σ H R I h => ?_⟩
  refine thn (hl.run pins s σ H _ I h) fun v s1 ⟨x, H1, I1, r1, q1⟩ => ?_
  obtain ⟨a, e, q1⟩ := q1
  subst e
  cases r1
  rcases q1 with ⟨xs, hq, q⟩ | ⟨xs, hq, q⟩
  · obtain ⟨its, rv, p, hz⟩ := I1.list hq
    refine wpAny_pyIter_list p.isList ?_
    refine ⟨s1.heap.objs.size, [s1.heap.objs.size], _, _, H1, rfl, I1.kept (t' := s1.toks) fun b o e => Heap.get?_push_of_some _ e, turn_list a _, ⟨_, Heap.get?_push_size _ rfl, rfl, rfl⟩, fun b hb => ?_, q hz⟩
    have e : b = s1.heap.objs.size := by simpa using hb
    subst e
    exact I1.fpOk (Nat.le_refl _) (I1.hok.fresh (Nat.le_refl _))
  · obtain ⟨its, rv, p, hz⟩ := I1.tuple hq
    refine wpAny_pyIter_tuple (show s1.heap.IsTuple a its.toArray from p) ?_
    refine ⟨s1.heap.objs.size, [s1.heap.objs.size], _, _, H1, rfl, I1.kept (t' := s1.toks) fun b o e => Heap.get?_push_of_some _ e, turn_tuple a _, ⟨_, Heap.get?_push_size _ rfl, rfl, rfl⟩, fun b hb => ?_, q hz⟩
    have e : b = s1.heap.objs.size := by simpa using hb
    subst e
    exact I1.fpOk (Nat.le_refl _) (I1.hok.fresh (Nat.le_refl _))
def seqOf (x : W) (S : List Ob) : Res (List W) := match x with
  | .d (.tuple xs) => .ok (xs.map .d) S
  | .d (.list xs) => .ok (xs.map .d) S
  | _ => .bad
def fIt (fa : FE) : FA := fun ρ S => (fa ρ S).bind seqOf
theorem yq_at {K : PySem.W.Frag} {Fr : Hp} {μ : List Addr} {xs : List W} {vs : List V} (r : RepWs K Fr μ xs vs) {i : Nat} {H : Hp} {v : V} {H' : Hp} (hi : i < xs.length) (y : YAt vs i H v H') : Yq K Fr μ xs i H v H' := by
  obtain ⟨v', e, q⟩ := paired_get r (List.getElem?_eq_getElem hi)
  obtain ⟨e1, e2⟩ := y
  rw [e] at e2
  cases e2
  exact ⟨_, List.getElem?_eq_getElem hi, .inl ⟨e1, q⟩⟩
/-- over a value -/
theorem i_val (h : PE X l (LE X Wc fa)) : PI X tg l (LI X Wc (fIt fa)) := PI.imp (pi_seq h) fun σ H Q h => by
  obtain ⟨F, Hd, m, ρ, S, r, c⟩ := h
  refine stepI r c fun F1 m1 x v S1 H1 l1 p1 r1 e1 c1 => ?_
  cases x with
  | ref n => exact c1.elim
  | d x =>
    cases x with
    | tuple xs =>
      cases e1 with
      | @tup a vs _ hs ha =>
        have hw := walk_tup (K := X.K) (a := a) (xs := vs)
        rw [show vs.length = (xs.map W.d).length by simp [DpAll.len ha]] at hw
        refine ⟨a, rfl, .inr ⟨vs, Le.sqT r1.b.fr hs, fun hz => c1 F1 Hd m1 H1 _ Le.refl Le.refl (List.prefix_refl m1) r1 (hw.mono (fun H h => Le.sqT h.1 hs) fun i H v H' hi _ y => yq_at (rep_dats ha) hi y) (by simpa [DpAll.len ha] using hz)⟩⟩
    | list xs =>
      cases e1 with
      | @lst a vs _ hs ha =>
        have hw := walk_list (K := X.K) (a := a) (xs := vs)
        rw [show vs.length = (xs.map W.d).length by simp [DpAll.len ha]] at hw
        refine ⟨a, rfl, .inl ⟨vs, Le.sqL r1.b.fr hs, fun hz => c1 F1 Hd m1 H1 _ Le.refl Le.refl (List.prefix_refl m1) r1 (hw.mono (fun H h => Le.sqL h.1 hs) fun i H v H' hi _ y => yq_at (rep_dats ha) hi y) (by simpa [DpAll.len ha] using hz)⟩⟩
    | none => exact c1.elim
    | bool b => exact c1.elim
    | int i => exact c1.elim
    | str z => exact c1.elim
    | dict z => exact c1.elim
/-- over a new list -/
def lstOf (o : Ob) (S : List Ob) : Res (List W) := match o with
  | .lst xs => .ok xs S
  | _ => .bad
def fItO (fo : FO) : FA := fun ρ S => (fo ρ S).bind lstOf
theorem i_new (h : PE X l (LO X Wc fo)) : PI X tg l (LI X Wc (fItO fo)) := PI.imp (pi_seq h) fun σ H Q h => by
  obtain ⟨F, Hd, m, ρ, S, r, c⟩ := h
  refine stepI r c fun F1 m1 x v S1 H1 l1 p1 r1 e1 c1 => ?_
  obtain ⟨p, ho, rfl, h1, h2, h3⟩ := e1
  cases x with
  | dct kvs => exact c1.elim
  | fdc kvs => exact c1.elim
  | ins c fs => exact c1.elim
  | dcn fz kvs => exact c1.elim
  | lst xs =>
    obtain ⟨vs, rfl, q⟩ := h2
    have hw := walk_list (K := X.K) (a := p) (xs := vs)
    rw [← Paired.length q] at hw
    refine ⟨p, rfl, .inl ⟨vs, .inl (.inl h1), fun hz => c1 F1 (upd Hd p (.lst vs)) m1 H1 _ Le.refl (Le.upd h3.hd) (List.prefix_refl m1) (r1.hide h1 h3) (hw.mono (fun H h => .inl (.inl (h.2 p _ upd_same))) fun i H v H' hi _ y => yq_at q hi y) (by rw [Paired.length q]; exact hz)⟩⟩
/-- range -/
def rngL (lo : Int) (n : Nat) : List W := (List.range n).map fun (i : Nat) => W.d (.int (lo + (i : Int)))
theorem rngL_len (lo : Int) (n : Nat) : (rngL lo n).length = n := by simp [rngL]
theorem rngL_get {lo : Int} {n i : Nat} (h : i < n) : (rngL lo n)[i]? = some (.d (.int (lo + (i : Int)))) := by simp [rngL, h]
theorem walk_rng {K : PySem.W.Frag} {Fr : Hp} {μ : List Addr} {lo : Int} {n : Nat} {G : Hp → Prop} : Walk (Itr lo n) (rngL lo n).length G (Yq K Fr μ (rngL lo n)) := by
  rw [rngL_len]
  refine Walk.mono walk_range (fun _ _ => trivial) fun i H v H' hi _ y => ?_
  obtain ⟨e1, e2⟩ := y
  subst e2
  exact ⟨_, rngL_get hi, .inl ⟨e1, Dp.int _⟩⟩
def rng1 (x : W) (S : List Ob) : Res (List W) := match x with
  | .d (.int j) => if -(2 ^ 62) ≤ j ∧ j ≤ 16777216 then .ok (rngL 0 j.toNat) S else .bad
  | _ => .bad
def fRng1 (fa : FE) : FA := fun ρ S => (fa ρ S).bind rng1
def tOne (t : TE) : TA := tCons t tNil
theorem i_rng1 (hg : Gl X "range") (hm : X.mg "range" = none) (h : PE X e (LE X Wc fa)) (hs1 : starEach [e] X.env = (false, eval e X.env) :: starEach [] X.env := by rfl) (hs : starEach [e] X.env = [(false, eval e X.env)] := by rfl) : PI X tg (.Call (.Name "range" p) [e] [] pos) (LI X Wc (fRng1 fa)) :=
  PI.imp (pi_range1 hg hm (pa_cons h pa_nil hs1) hs) fun σ H Q h => by
  obtain ⟨F, Hd, m, ρ, S, r, c⟩ := h
  refine stepI r c fun F1 m1 x v S1 H1 l1 p1 r1 e1 c1 => ?_
  show ∃ j : Int, [v] = [V.int j] ∧ _
  cases x with
  | ref n => exact c1.elim
  | d x =>
    cases x with
    | int i =>
      cases e1
      unfold rng1 at c1
      dsimp only at c1
      split at c1
      · rename_i hi
        exact ⟨i, rfl, hi.1, by omega, c1 F1 Hd m1 H1 _ Le.refl Le.refl (List.prefix_refl m1) r1 walk_rng (by rw [rngL_len, sizeLine_eq]; omega)⟩
      · exact c1.elim
    | none => exact c1.elim
    | bool b => exact c1.elim
    | tuple i => exact c1.elim
    | list z => exact c1.elim
    | str z => exact c1.elim
    | dict z => exact c1.elim
def rng2 (x y : W) (S : List Ob) : Res (List W) := match x, y with
  | .d (.int i), .d (.int j) => if -(2 ^ 62) ≤ i ∧ i < 2 ^ 62 ∧ -(2 ^ 62) ≤ j ∧ j < 2 ^ 62 ∧ j - i ≤ 16777216 then .ok (rngL i (j - i).toNat) S else .bad
  | _, _ => .bad
def fRng2 (fa fb : FE) : FA := fun ρ S => (fa ρ S).bind fun x S1 => (fb ρ S1).bind fun y S2 => rng2 x y S2
def intOf : W → Option Int
  | .d (.int i) => some i
  | _ => none
theorem rep_int {K : PySem.W.Frag} {Fr : Hp} {μ : List Addr} {x : W} {v : V} (r : RepW K Fr μ x v) : (∃ i, x = .d (.int i) ∧ v = .int i) ∨ (∀ i, x ≠ .d (.int i)) := by
  cases x with
  | ref n => exact .inr fun i h => by cases h
  | d x =>
    cases x with
    | int i => cases r; exact .inl ⟨i, rfl, rfl⟩
    | none => exact .inr fun i h => by cases h
    | bool b => exact .inr fun i h => by cases h
    | tuple i => exact .inr fun i h => by cases h
    | list z => exact .inr fun i h => by cases h
    | str z => exact .inr fun i h => by cases h
    | dict z => exact .inr fun i h => by cases h
theorem rng2_bad {x y : W} {S : List Ob} (h : (∀ i, x ≠ .d (.int i)) ∨ ∀ i, y ≠ .d (.int i)) : rng2 x y S = .bad := by
  unfold rng2
  split
  · rcases h with h | h
    · exact absurd rfl (h _)
    · exact absurd rfl (h _)
  · rfl
theorem i_rng2 (hg : Gl X "range") (hm : X.mg "range" = none) (h : PE X e (LE X Wc fa)) (h2 : PE X e2 (LE X Wc fb)) (hs1 : starEach [e, e2] X.env = (false, eval e X.env) :: starEach [e2] X.env := by rfl) (hs2 : starEach [e2] X.env = (false, eval e2 X.env) :: starEach [] X.env := by rfl)
    (hs : starEach [e, e2] X.env = [(false, eval e X.env), (false, eval e2 X.env)] := by rfl) (hs3 : starEach [e2] X.env = [(false, eval e2 X.env)] := by rfl) : PI X tg (.Call (.Name "range" p) [e, e2] [] pos) (LI X Wc (fRng2 fa fb)) :=
  PI.imp (pi_range2 hg hm (pa_cons h (pa_cons h2 pa_nil hs2) hs1) hs hs3) fun σ H Q h => by
  obtain ⟨F, Hd, m, ρ, S, r, c⟩ := h
  refine stepI r c fun F1 m1 x v S1 H1 l1 p1 r1 e1 c1 => ?_
  refine stepI r1 c1 fun F2 m2 y u S2 H2 l2 p2 r2 e2 c2 => ?_
  show ∃ i j : Int, [v, u] = [V.int i, V.int j] ∧ _
  rcases rep_int e1 with ⟨i, rfl, rfl⟩ | n
  · rcases rep_int e2 with ⟨j, rfl, rfl⟩ | n
    · unfold rng2 at c2
      dsimp only at c2
      split at c2
      · rename_i hi
        exact ⟨i, j, rfl, ⟨hi.1, hi.2.1, hi.2.2.1, hi.2.2.2.1⟩, c2 F2 Hd m2 H2 _ Le.refl Le.refl (List.prefix_refl m2) r2 walk_rng (by rw [rngL_len, sizeLine_eq]; omega)⟩
      · exact c2.elim
    · rw [rng2_bad (.inr n)] at c2; exact c2.elim
  · rw [rng2_bad (.inl n)] at c2; exact c2.elim
end

/-! ### for -/
def setG (o : Option (List Sl)) (S : List Ob) (k : List Sl → List Ob → Fl) : Fl := match o with
  | some ρ => k ρ S
  | none => .bad
/-- behind a turn's body: go on, or what leaves the loop -/
def turnF (x : Fl) (k : List Sl → List Ob → Fl) : Fl := match x with
  | .nx ρ S => k ρ S
  | .ct ρ S => k ρ S
  | .bk ρ S => .nx ρ S
  | .rt r S => .rt r S
  | .ex c ρ S => .ex c ρ S
  | .bad => .bad
def forL (g : FG) (fb : FT) : List W → FT
  | [] => fun ρ S => .nx ρ S
  | x :: r => fun ρ S => setG (g x ρ) S fun ρ1 S1 => turnF (fb ρ1 S1) (forL g fb r)
def fFor (fi : FA) (g : FG) (fb : FT) : FT := fun ρ S => fl (fi ρ S) ρ fun xs S1 => forL g fb xs ρ S1
theorem yield_ok {K : PySem.W.Frag} {Fr Hd : Hp} {μ : List Addr} {ρ : List Sl} {S : List Ob} {σ : St} {H H' : Hp} {xs : List W} {i : Nat} {v : V} {F1 : Hp} {m1 : List Addr} (r : R K Fr Hd μ ρ S σ H) (l : Le F1 Fr) (p : m1 <+: μ) (y : Yq K F1 m1 xs i H v H') :
    ∃ Fr' x, xs[i]? = some x ∧ Le Fr Fr' ∧ R K Fr' Hd μ ρ S σ H' ∧ RepW K Fr' μ x v := by
  obtain ⟨x, e, h⟩ := y
  rcases h with ⟨rfl, q⟩ | ⟨T, vs, ds, rfl, hT, rfl, rfl, q⟩
  · exact ⟨Fr, x, e, Le.refl, r, q.mono l p⟩
  · have f := r.new hT
    have le : Le Fr (upd Fr T (.tup vs)) := Le.upd f.fr
    exact ⟨_, _, e, le, (r.upd (o := .tup vs) f).freeze upd_same f, Dp.tup (.inl (.inl upd_same)) (Le.dps (l.trans le) _ _ q)⟩
theorem contS.less {K : PySem.W.Frag} {mg : Str → Option Value} {Wc : WX} {Fr Hd Hd' : Hp} {μ : List Addr} {D : Ends} {f : Fl} (h : Le Hd Hd') (c : contS K mg Wc Fr Hd μ D f) : contS K mg Wc Fr Hd' μ D f := by
  cases f with
  | nx ρ S => exact fun F m s H' l p r => c F m s H' l p (r.unhide h)
  | bk ρ S => exact fun F m s H' l p r => c F m s H' l p (r.unhide h)
  | ct ρ S => exact fun F m s H' l p r => c F m s H' l p (r.unhide h)
  | rt r S =>
    cases r with
    | w x => exact fun F m s H' l p r => c F m s H' l p (r.unhide h)
    | own o => exact fun F m q ho H' l p r e1 e2 e3 e4 e5 => c F m q ho H' l p (r.unhide h) e1 e2 e3 (none_le h e4) e5
  | ex x ρ S => exact fun F m s C H' l p r => c F m s C H' l p (r.unhide h)
  | bad => exact c
section
variable {X : Cx} {Wc : WX} {tg iter : Expr} {pos : Pos} {fi : FA} {g : FG} {fb : FT} {body : List Stmt} {own : List Nat}
theorem s_for (hp : PassesOwn (model X.prog X.w) X.A X.env X.xe) (hc : X.calm = true) (hi : PI X tg iter (LI X Wc fi)) (hg : PG X tg (liftG X.K own g)) (hb : PSs X body (LS X Wc fb))
    (hs : ∀ x, foldedSetIterable iter X.env x = pure x := by intro _; rfl) : PS X (.For tg iter body [] pos) (LS X Wc (fFor fi g fb)) := PS.imp (ps_for hp hc hi hg hb hs) fun D σ H h => by
  obtain ⟨F, Hd, m, ρ, S, r, c⟩ := h
  show liftI X.K X.mg Wc fi σ H _
  refine ⟨F, Hd, m, ρ, S, r, ?_⟩
  unfold fFor at c
  cases e : fi ρ S with
  | bad => rw [e] at c; exact c.elim
  | err z S1 => rw [e] at c; exact fun F1 m1 C H1 l p r1 hz => c F1 m1 σ C H1 l p r1 hz
  | ok xs S1 =>
    rw [e] at c
    intro F1 Hd1 m1 H1 J l1 d1 p1 r1 wk hz
    have c : contS X.K X.mg Wc F Hd m D (forL g fb xs ρ S1) := c
    refine for_it wk (fun i σ H => ∃ F2 m2 ρ2 S2, Le F1 F2 ∧ m1 <+: m2 ∧ R X.K F2 Hd1 m2 ρ2 S2 σ H ∧ contS X.K X.mg Wc F2 Hd1 m2 D (forL g fb (xs.drop i) ρ2 S2)) ?_ ?_ ?_ ?_
    · exact ⟨F1, m1, ρ, S1, Le.refl, List.prefix_refl m1, r1, contS.less d1 (contS.mono l1 p1 c)⟩
    · rintro i σ2 H2 hi ⟨F2, m2, ρ2, S2, l2, p2, r2, c2⟩
      exact ⟨l2.trans r2.b.fr, fun a o q => (r2.b.hd a o q).1⟩
    · rintro i v σ2 H2 H3 hi ⟨F2, m2, ρ2, S2, l2, p2, r2, c2⟩ y
      obtain ⟨F3, x, ex, l3, r3, e3⟩ := yield_ok r2 l2 p2 y
      rw [List.drop_eq_getElem_cons hi] at c2
      have ex' : xs[i] = x := by rw [List.getElem?_eq_getElem hi] at ex; exact Option.some.inj ex
      rw [ex'] at c2
      have c2 : contS X.K X.mg Wc F2 Hd1 m2 D (setG (g x ρ2) S2 fun ρ1 S1 => turnF (fb ρ1 S1) (forL g fb (xs.drop (i + 1)))) := c2
      cases q : g x ρ2 with
      | none => rw [q] at c2; exact c2.elim
      | some ρ3 =>
        rw [q] at c2
        have c2 : contS X.K X.mg Wc F2 Hd1 m2 D (turnF (fb ρ3 S2) (forL g fb (xs.drop (i + 1)))) := c2
        refine ⟨F3, Hd1, m2, ρ2, S2, x, r3, e3, ρ3, q, fun σ3 _ r4 => ⟨F3, Hd1, m2, ρ3, S2, r4, ?_⟩⟩
        cases q2 : fb ρ3 S2 with
        | nx ρ4 S4 =>
          rw [q2] at c2
          exact fun F4 m4 σ4 H4 l4 p4 r5 => ⟨F4, m4, ρ4, S4, l2.trans (l3.trans l4), p2.trans p4, r5, contS.mono (l3.trans l4) p4 c2⟩
        | ct ρ4 S4 =>
          rw [q2] at c2
          exact fun F4 m4 σ4 H4 l4 p4 r5 => ⟨F4, m4, ρ4, S4, l2.trans (l3.trans l4), p2.trans p4, r5, contS.mono (l3.trans l4) p4 c2⟩
        | bk ρ4 S4 => rw [q2] at c2; exact contS.mono (f := .nx ρ4 S4) l3 (List.prefix_refl m2) c2
        | rt y S4 => rw [q2] at c2; cases y <;> exact contS.mono (D := D) l3 (List.prefix_refl m2) c2
        | ex z ρ4 S4 => rw [q2] at c2; exact contS.mono (D := D) l3 (List.prefix_refl m2) c2
        | bad => rw [q2] at c2; exact c2
    · rintro σ2 H2 ⟨F2, m2, ρ2, S2, l2, p2, r2, c2⟩
      rw [List.drop_length] at c2
      exact c2 F2 m2 σ2 H2 Le.refl (List.prefix_refl m2) r2

/-! ### while -/
def whileN (t : FB) (fb : FT) : Nat → FT
  | 0 => fun _ _ => .bad
  | n + 1 => fun ρ S => fl (t ρ S) ρ fun c S1 => if c = true then turnF (fb ρ S1) (whileN t fb n) else .nx ρ S1
def fWhile (n : Nat) (t : FB) (fb : FT) : FT := whileN t fb n
theorem s_while {c : Expr} {t : FB} (n : Nat) (hp : PassesOwn (model X.prog X.w) X.A X.env X.xe) (hc : PT X c (LB X Wc t)) (hb : PSs X body (LS X Wc fb)) : PS X (.While c body [] pos) (LS X Wc (fWhile n t fb)) := PS.imp (ps_while hp hc hb) fun D σ H h => by
  obtain ⟨F, Hd, m, ρ, S, r, c0⟩ := h
  refine ⟨fun k σ H => ∃ F2 m2 ρ2 S2, R X.K F2 Hd m2 ρ2 S2 σ H ∧ contS X.K X.mg Wc F2 Hd m2 D (whileN t fb k ρ2 S2), ⟨n, F, m, ρ, S, r, c0⟩, ?_⟩
  rintro k σ2 H2 ⟨F2, m2, ρ2, S2, r2, c2⟩
  cases k with
  | zero => exact c2.elim
  | succ k =>
    refine stepS r2 c2 fun F3 m3 b v S3 H3 l3 p3 r3 e3 c3 => ?_
    cases e3
    cases b with
    | false => exact c3 F3 m3 σ2 H3 Le.refl (List.prefix_refl m3) r3
    | true =>
      refine ⟨fun σ H => ∃ F4 m4 ρ4 S4, R X.K F4 Hd m4 ρ4 S4 σ H ∧ contS X.K X.mg Wc F4 Hd m4 D (whileN t fb k ρ4 S4), fun σ' H' h => ⟨k, Nat.lt_succ_self k, h⟩, F3, Hd, m3, ρ2, S3, r3, ?_⟩
      have c3 : contS X.K X.mg Wc F3 Hd m3 D (turnF (fb ρ2 S3) (whileN t fb k)) := c3
      cases q2 : fb ρ2 S3 with
      | nx ρ4 S4 =>
        rw [q2] at c3
        exact fun F4 m4 σ4 H4 l4 p4 r5 => ⟨F4, m4, ρ4, S4, r5, contS.mono l4 p4 c3⟩
      | ct ρ4 S4 =>
        rw [q2] at c3
        exact fun F4 m4 σ4 H4 l4 p4 r5 => ⟨F4, m4, ρ4, S4, r5, contS.mono l4 p4 c3⟩
      | bk ρ4 S4 => rw [q2] at c3; exact c3
      | rt y S4 => rw [q2] at c3; cases y <;> exact c3
      | ex z ρ4 S4 => rw [q2] at c3; exact c3
      | bad => rw [q2] at c3; exact c3
end
end L2.Q
/-! Layer Q, part E: list comprehensions. -/
namespace L2.Q
open PySem PySem.Spec PyProof.Rows

/-- no exception is let out of a comprehension -/
abbrev W0 : WX := fun _ _ _ _ => False
theorem tk0 {X : Cx} : Takes X W0 := takes0
def isOwn : Option Sl → Bool
  | some (.own _) => true
  | _ => false
def lcL (g : FG) (t : FB) (fe : FE) (ρ : List Sl) : List W → List Ob → Res (List W)
  | [], S => .ok [] S
  | x :: r, S => match g x ρ with
    | none => .bad
    | some ρ1 => match t ρ1 S with
      | .ok c S1 => if c = true then (match fe ρ1 S1 with
          | .ok y S2 => (lcL g t fe ρ r S2).bind fun ys S3 => .ok (y :: ys) S3
          | _ => .bad) else lcL g t fe ρ r S1
      | _ => .bad
def fLc (fi : FA) (own : List Nat) (g : FG) (t : FB) (fe : FE) : FO := fun ρ S => (fi ρ S).bind fun xs S1 =>
  if own.any (fun i => isOwn ρ[i]?) = true then .bad else (lcL g t fe (unset ρ own) xs S1).bind fun ys S2 => .ok (.lst ys) S2
section
variable {K : PySem.W.Frag} {Fr Fr' Hd : Hp} {μ μ' : List Addr} {ρ : List Sl} {S S' : List Ob} {σ : St} {H H' : Hp}
theorem unset_out {own : List Nat} {j : Nat} (h : j ∉ own) : (unset ρ own)[j]? = ρ[j]? := by rw [unset_get, if_neg h]
theorem R.wiped (r : R K Fr Hd μ ρ S σ H) : ∀ own : List Nat, R K Fr Hd μ (unset ρ own) S (wipe σ own) H
  | [] => r
  | v :: vs => (R.wiped r vs).setUn
/-- back from a block -/
theorem R.unwipe {own : List Nat} (r : R K Fr Hd μ ρ S σ H) (h : own.any (fun i => isOwn ρ[i]?) = false) (l : Le Fr Fr') (p : μ <+: μ') (r' : R K Fr' Hd μ' (unset ρ own) S' (wipe σ own) H') : R K Fr' Hd μ' ρ S' σ H' := by
  have no : ∀ (i : Nat) (o : Ob), i ∈ own → ρ[i]? ≠ some (.own o) := fun i o hi e => by
    have := List.any_eq_false.mp h i hi
    rw [e] at this
    exact this rfl
  have out : ∀ i, i ∉ own → (wipe σ own)[i]? = σ[i]? := fun i hi => by rw [wipe_get, if_neg hi]
  refine ⟨r'.b, r.s.len, fun i x e => ?_, fun i j a h1 h2 => ?_⟩
  · by_cases hi : i ∈ own
    · cases x with
      | un => trivial
      | w x => obtain ⟨u, e1, e2⟩ := r.s.sl i _ e; exact ⟨u, e1, e2.mono l p⟩
      | own o => exact absurd e (no i o hi)
    · have q := r'.s.sl i x (by rw [unset_out hi]; exact e)
      rw [out i hi] at q
      exact q
  · have one : ∀ i a, Owns ρ σ i a → Owns (unset ρ own) (wipe σ own) i a := fun i a ⟨⟨o, e1⟩, e2⟩ => by
      have hi : i ∉ own := fun hi => no i o hi e1
      exact ⟨⟨o, by rw [unset_out hi]; exact e1⟩, by rw [out i hi]; exact e2⟩
    exact r'.s.inj i j a (one i a h1) (one j a h2)
end
section
variable {X : Cx} {Wc : WX} {elt tg iter : Expr} {ifs : List Expr} {scope : Scope} {own : List (Str × Nat)} {pos : Pos} {fi : FA} {g : FG} {t : FB} {fe : FE}
/-- the tests of a clause -/
theorem ts_nil : PTs X [] (LB X Wc fun _ S => .ok true S) := ⟨fun pins s σ H Q I h => pts_nil.run pins s σ H Q I (by
  obtain ⟨F, Hd, m, ρ, S, r, c⟩ := h
  exact c F m true H Le.refl (List.prefix_refl m) r rfl)⟩
theorem ts_one {c : Expr} (h : PT X c (LB X Wc t)) : PTs X [c] (LB X Wc t) := pts_one h
theorem hide_upd {K : PySem.W.Frag} {Fr Hd : Hp} {μ : List Addr} {ρ : List Sl} {S : List Ob} {σ : St} {H : Hp} {D : Addr} {o o' : HO} (r : R K Fr (upd Hd D o) μ ρ S σ H) (hD : Hd D = none) : R K Fr (upd Hd D o') μ ρ S σ (upd H D o') := by
  obtain ⟨h1, h2⟩ := r.b.hd D o upd_same
  have r0 : R K Fr Hd μ ρ S σ H := r.unhide (Le.upd hD)
  have hm : D ∉ μ := fun hm => by
    obtain ⟨_, _, _, h4, _⟩ := r.b.muH hm
    rw [upd_same] at h4; cases h4
  have ho : ∀ i, ¬ Owns ρ σ i D := fun i q => by
    obtain ⟨_, _, _, h4, _⟩ := r.owns q
    rw [upd_same] at h4; cases h4
  have f : Free Fr Hd μ ρ σ D := ⟨h2, hD, hm, ho⟩
  exact (r0.upd f).hide upd_same f
theorem lc_imp {σ : St} {H : Hp} {Q : VK} (hgo : GO (own.map (·.2)) g) (h : LO X Wc (fLc fi (own.map (·.2)) g t fe) σ H Q) :
    tLc (LI X Wc fi) (liftG X.K (own.map (·.2)) g) (LB X W0 t) (LE X W0 fe) (own.map (·.2)) σ H Q := by
  obtain ⟨F, Hd, m, ρ, S, r, c⟩ := h
  refine ⟨F, Hd, m, ρ, S, r, ?_⟩
  unfold fLc at c
  cases e : fi ρ S with
  | bad => rw [e] at c; exact c.elim
  | err z S1 => rw [e] at c; exact c
  | ok xs S1 =>
    rw [e] at c
    intro F1 Hd1 m1 H1 J l1 d1 p1 r1 wk hxs D nD
    have c : cont X.K X.mg Wc (repO X.K) F Hd m ρ σ Q (if (own.map (·.2)).any (fun i => isOwn ρ[i]?) = true then .bad else (lcL g t fe (unset ρ (own.map (·.2))) xs S1).bind fun ys S2 => .ok (.lst ys) S2) := c
    cases hno : (own.map (·.2)).any (fun i => isOwn ρ[i]?) with
    | true => rw [if_pos hno] at c; exact c.elim
    | false =>
      rw [if_neg (by rw [hno]; exact Bool.false_ne_true)] at c
      have fD := r1.new nD
      refine lc_it wk (fun i H => ∃ F2 m2 S2 ys vs, Le F1 F2 ∧ m1 <+: m2 ∧ R X.K F2 (upd Hd1 D (.lst vs)) m2 (unset ρ (own.map (·.2))) S2 (wipe σ (own.map (·.2))) H ∧ RepWs X.K F2 m2 ys vs ∧ ys.length ≤ i ∧
        cont X.K X.mg Wc (repO X.K) F2 Hd m2 ρ σ Q ((lcL g t fe (unset ρ (own.map (·.2))) (xs.drop i) S2).bind fun zs S3 => .ok (.lst (ys ++ zs)) S3)) ?_ ?_ ?_ ?_
      · refine ⟨F1, m1, S1, [], [], Le.refl, List.prefix_refl m1, ?_, .nil, Nat.zero_le _, ?_⟩
        · exact ((r1.upd fD).hide upd_same fD).wiped _
        · exact cont.mono l1 p1 (fun _ _ z => z) c
      · rintro i H2 hi ⟨F2, m2, S2, ys, vs, l2, p2, r2, e2, n2, c2⟩
        refine ⟨l2.trans r2.b.fr, fun a o q => (r2.b.hd a o ?_).1⟩
        rw [upd_ne (ne_of_none q fD.hd)]
        exact q
      · rintro i v H2 H3 hi ⟨F2, m2, S2, ys, vs, l2, p2, r2, e2, n2, c2⟩ y
        obtain ⟨F3, x, ex, l3, r3, e3⟩ := yield_ok r2 l2 p2 y
        rw [List.drop_eq_getElem_cons hi] at c2
        have ex' : xs[i] = x := by rw [List.getElem?_eq_getElem hi] at ex; exact Option.some.inj ex
        rw [ex'] at c2
        unfold lcL at c2
        cases q : g x (unset ρ (own.map (·.2))) with
        | none => simp only [q] at c2; exact c2.elim
        | some ρ3 =>
          simp only [q] at c2
          refine ⟨F3, upd Hd1 D (.lst vs), m2, unset ρ (own.map (·.2)), S2, x, r3, e3, ρ3, q, fun σ3 w3 r4 => ⟨?_, F3, upd Hd1 D (.lst vs), m2, ρ3, S2, r4, ?_⟩⟩
          · rw [w3]
            apply List.ext_getElem?
            intro j
            rw [wipe_get, wipe_length, wipe_get]
            split <;> rfl
          have hw : ∀ {F4 : Hp} {m4 : List Addr} {S4 : List Ob} {H4 : Hp}, R X.K F4 (upd Hd1 D (.lst vs)) m4 ρ3 S4 σ3 H4 → R X.K F4 (upd Hd1 D (.lst vs)) m4 (unset ρ (own.map (·.2))) S4 (wipe σ (own.map (·.2))) H4 := fun {F4 m4 S4 H4} r5 => by
            have r6 := r5.wiped (own.map (·.2))
            have e1 : unset ρ3 (own.map (·.2)) = unset ρ (own.map (·.2)) := by
              rw [hgo _ _ _ q]
              apply List.ext_getElem?
              intro j
              rw [unset_get, unset_len, unset_get]
              split <;> rfl
            have e2 : wipe σ3 (own.map (·.2)) = wipe σ (own.map (·.2)) := by
              rw [w3]
              apply List.ext_getElem?
              intro j
              rw [wipe_get, wipe_length, wipe_get]
              split <;> rfl
            rw [e1, e2] at r6
            exact r6
          cases q2 : t ρ3 S2 with
          | bad => simp only [q2] at c2; exact c2.elim
          | err z S4 => simp only [q2] at c2; exact c2.elim
          | ok b S4 =>
            simp only [q2] at c2
            rintro F4 m4 b' H4 l4 p4 r5 rfl
            cases b with
            | false =>
              rw [if_neg Bool.false_ne_true] at c2 ⊢
              exact ⟨F4, m4, S4, ys, vs, l2.trans (l3.trans l4), p2.trans p4, hw r5, e2.mono (l3.trans l4) p4, by omega, cont.mono (l3.trans l4) p4 (fun _ _ z => z) c2⟩
            | true =>
              rw [if_pos rfl] at c2 ⊢
              refine ⟨F4, upd Hd1 D (.lst vs), m4, ρ3, S4, r5, ?_⟩
              cases q3 : fe ρ3 S4 with
              | bad => simp only [q3] at c2; exact c2.elim
              | err z S5 => simp only [q3] at c2; exact c2.elim
              | ok w S5 =>
                simp only [q3, bind_assoc, bind_ok] at c2
                intro F5 m5 v5 H5 l5 p5 r6 e6
                have hlv := Paired.length e2
                refine ⟨vs, (r6.b.hd D _ upd_same).1, by omega, F5, m5, S5, ys ++ [w], vs ++ [v5], l2.trans (l3.trans (l4.trans l5)), p2.trans (p4.trans p5), hide_upd (hw r6) fD.hd, ?_, by simp; omega, ?_⟩
                · exact Paired.snoc (e2.mono (l3.trans (l4.trans l5)) (p4.trans p5)) e6
                · have c3 := cont.mono (l3.trans (l4.trans l5)) (p4.trans p5) (fun _ _ z => z) c2
                  simpa using c3
      · rintro H2 ⟨F2, m2, S2, ys, vs, l2, p2, r2, e2, n2, c2⟩
        rw [List.drop_length] at c2
        have c2 : cont X.K X.mg Wc (repO X.K) F2 Hd m2 ρ σ Q (.ok (.lst (ys ++ [])) S2) := c2
        rw [List.append_nil] at c2
        obtain ⟨h1, h2⟩ := r2.b.hd D _ upd_same
        have r3 : R X.K F2 Hd1 m2 (unset ρ (own.map (·.2))) S2 (wipe σ (own.map (·.2))) H2 := r2.unhide (Le.upd fD.hd)
        have r4 := R.unwipe r1 hno l2 p2 r3
        have r5 := r4.unhide d1
        have hm : D ∉ m2 := fun hm => by
          obtain ⟨_, _, _, h4, _⟩ := r2.b.muH hm
          rw [upd_same] at h4; cases h4
        have ho : ∀ i, ¬ Owns ρ σ i D := fun i q => by
          obtain ⟨_, h3, _⟩ := r1.owns q
          rw [nD] at h3; cases h3
        exact c2 F2 m2 (.ref D) H2 Le.refl (List.prefix_refl m2) r5 ⟨D, .lst vs, rfl, h1, ⟨vs, rfl, e2⟩, h2, none_le d1 fD.hd, hm, ho⟩
/-- [elt for tg in iter if ..], a new list -/
theorem q_lc (hc : X.calm = true) (hN : X.N.Nodup) (hgo : GO (own.map (·.2)) g) (hi : PI X tg iter (LI X Wc fi)) (ok : BlkOk X.N X.env.scope scope own)
    (hg : ∀ (s : Shared) (H : Hp) (C : Addr) (cl : List (Str × Addr)) (fp : List Addr), PG (X.blk s H scope (compEnvC scope cl C X.env) fp) tg (liftG X.K (own.map (·.2)) g))
    (ht : ∀ (s : Shared) (H : Hp) (C : Addr) (cl : List (Str × Addr)) (fp : List Addr), PTs (X.blk s H scope (compEnvC scope cl C X.env) fp) ifs (LB X W0 t))
    (he : ∀ (s : Shared) (H : Hp) (C : Addr) (cl : List (Str × Addr)) (fp : List Addr), PE (X.blk s H scope (compEnvC scope cl C X.env) fp) elt (LE X W0 fe)) (hs : ∀ x, foldedSetIterable iter X.env x = pure x := by intro _; rfl) :
    PE X (.ListComp elt [⟨tg, iter, ifs, 0⟩] scope pos) (LO X Wc (fLc fi (own.map (·.2)) g t fe)) := PE.imp (pe_lc hc hN hi ok hg ht he hs) fun _ _ _ h => lc_imp hgo h
/-- name = [..] on one line -/
theorem s_setLc {i : Nat} {y : Str} {py spos : Pos} (hc : X.calm = true) (hN : X.N.Nodup) (hy : X.N[i]? = some y) (hyl : X.env.scope.names.lookup y = some .local)
    (hsw : swapsWith (.ListComp elt [⟨tg, iter, ifs, 0⟩] scope pos) (some (.Name y py)) spos.line X.env = pure true) (hgo : GO (own.map (·.2)) g) (hi : PI X tg iter (LI X Wc fi)) (ok : BlkOk X.N X.env.scope scope own)
    (hg : ∀ (s : Shared) (H : Hp) (C : Addr) (cl : List (Str × Addr)) (fp : List Addr), PG (X.blk s H scope (compEnvC scope cl C X.env) fp) tg (liftG X.K (own.map (·.2)) g))
    (ht : ∀ (s : Shared) (H : Hp) (C : Addr) (cl : List (Str × Addr)) (fp : List Addr), PTs (X.blk s H scope (compEnvC scope cl C X.env) fp) ifs (LB X W0 t))
    (he : ∀ (s : Shared) (H : Hp) (C : Addr) (cl : List (Str × Addr)) (fp : List Addr), PE (X.blk s H scope (compEnvC scope cl C X.env) fp) elt (LE X W0 fe)) (hs : ∀ x, foldedSetIterable iter X.env x = pure x := by intro _; rfl) :
    PS X (.Assign [.Name y py] (.ListComp elt [⟨tg, iter, ifs, 0⟩] scope pos) spos) (LS X Wc (fSetO i (fLc fi (own.map (·.2)) g t fe))) := PS.imp (ps_setLc hc hN hy hyl hsw hi ok hg ht he hs) fun D σ H h => by
  have q := setO_imp h
  exact lc_imp hgo q
end
end L2.Q
/-! Layer Q, part F: the operators' functions. -/
namespace L2.Q
open PySem PySem.Spec PyProof.Rows

/-- what a value's kind is, for the heap's rules -/
theorem rep_cases {K : PySem.W.Frag} {Fr : Hp} {μ : List Addr} {x : PyData} {v : V} (r : Dp K Fr v x) :
    (x = .none ∧ v = .non) ∨ (∃ b, x = .bool b ∧ v = .bl b) ∨ (∃ i, x = .int i ∧ v = .int i) ∨ (∃ z, x = .str z ∧ v = .str z) ∨
    (∃ a vs ds, x = .list ds ∧ v = .ref a ∧ SqL K Fr a vs ∧ DpAll K Fr vs ds) ∨ (∃ a vs ds, x = .tuple ds ∧ v = .ref a ∧ SqT K Fr a vs ∧ DpAll K Fr vs ds) := by
  cases x with
  | none => cases r; exact .inl ⟨rfl, rfl⟩
  | bool b => cases r; exact .inr (.inl ⟨b, rfl, rfl⟩)
  | int i => cases r; exact .inr (.inr (.inl ⟨i, rfl, rfl⟩))
  | str z => cases r; exact .inr (.inr (.inr (.inl ⟨z, rfl, rfl⟩)))
  | list ds => cases r with | @lst a vs _ h1 h2 => exact .inr (.inr (.inr (.inr (.inl ⟨a, vs, ds, rfl, rfl, h1, h2⟩))))
  | tuple ds => cases r with | @tup a vs _ h1 h2 => exact .inr (.inr (.inr (.inr (.inr ⟨a, vs, ds, rfl, rfl, h1, h2⟩))))
  | dict kvs => cases r

section
variable {X : Cx} {Wc : WX} {Fr Hd : Hp} {μ : List Addr} {ρ : List Sl} {S : List Ob} {σ : St} {H : Hp}
theorem rt {Q : VK} {x : W} {v : V} (r : R X.K Fr Hd μ ρ S σ H) (c : cont X.K X.mg Wc (repE X.K) Fr Hd μ ρ σ Q (.ok x S)) (e : RepW X.K Fr μ x v) : Q v H := c Fr μ v H Le.refl (List.prefix_refl μ) r e
end
/-- two ints -/
def oI (C : Int → Int → Bool) (g : Int → Int → PyData) : W → W → List Ob → Res W := fun x y S => match x, y with
  | .d (.int i), .d (.int j) => if C i j = true then .ok (.d (g i j)) S else .bad
  | _, _ => .bad
theorem oI_bad {C : Int → Int → Bool} {g : Int → Int → PyData} {x y : W} {S : List Ob} (h : (∀ i, x ≠ .d (.int i)) ∨ ∀ i, y ≠ .d (.int i)) : oI C g x y S = .bad := by
  unfold oI
  split
  · rcases h with h | h
    · exact absurd rfl (h _)
    · exact absurd rfl (h _)
  · rfl
section
variable {X : Cx} {Wc : WX}
theorem f_int {C : Int → Int → Bool} {C' : Int → Int → Prop} {g : Int → Int → PyData} {g' : Int → Int → V} (hC : ∀ i j, C i j = true → C' i j) (hg : ∀ (F : Hp) i j, Dp X.K F (g' i j) (g i j)) : OpF X Wc (rI C' g') (oI C g) := by
  intro Fr Hd μ ρ S σ H x y v u Q r ex ey c
  rcases rep_int ex with ⟨i, rfl, rfl⟩ | n
  · rcases rep_int ey with ⟨j, rfl, rfl⟩ | n
    · unfold oI at c
      dsimp only at c
      split at c
      · rename_i h
        exact ⟨i, j, rfl, rfl, hC i j h, rt r c (hg Fr i j)⟩
      · exact c.elim
    · rw [oI_bad (.inr n)] at c; exact c.elim
  · rw [oI_bad (.inl n)] at c; exact c.elim
theorem f_int0 {C : Int → Int → Bool} {g : Int → Int → PyData} {g' : Int → Int → V} (hg : ∀ (F : Hp) i j, Dp X.K F (g' i j) (g i j)) : OpF X Wc (rI0 g') (oI C g) := by
  intro Fr Hd μ ρ S σ H x y v u Q r ex ey c
  have q := f_int (X := X) (Wc := Wc) (C := C) (C' := fun _ _ => True) (g := g) (g' := g') (fun _ _ _ => trivial) hg Fr Hd μ ρ S σ H x y v u Q r ex ey c
  obtain ⟨i, j, e1, e2, _, q⟩ := q
  exact ⟨i, j, e1, e2, q⟩
def yes : Int → Int → Bool := fun _ _ => true
/-- a product that Python's ints can hold here -/
def mulC (i j : Int) : Bool := decide (i.natAbs.log2 + j.natAbs.log2 < 100000000)
def CMulX (i j : Int) : Prop := i.natAbs.log2 + j.natAbs.log2 < 100000000
theorem CMulX.ok {i j : Int} (h : CMulX i j) : IntMulOk i j := by
  have b : ∀ x : Int, Builtin.Int.intBits x ≤ x.natAbs.log2 + 1 := fun x => by
    unfold Builtin.Int.intBits
    split <;> omega
  have h1 := b i
  have h2 := b j
  have h3 : i.natAbs.log2 + j.natAbs.log2 < 100000000 := h
  have e : bitsLine = 134217728 := by decide
  intro z
  have z2 := (Bool.and_eq_true_iff.mp z).2
  unfold Builtin.Int.intTooBig at z2
  have z3 := of_decide_eq_true z2
  rw [e] at z3
  omega
theorem op_mulX {X : Cx} : OpR X (binaryOp .Mult) (rI CMulX fun i j => .int (i * j)) := opI fun _ _ _ _ _ _ _ hc q => mul_int q hc.ok
def divC (_ j : Int) : Bool := decide (0 < j) && decide (j.natAbs.log2 < 9000)
def modC (_ j : Int) : Bool := decide (0 < j)
def powC (i j : Int) : Bool := decide (0 ≤ j) && decide (j ≤ 1000000) && decide (i.natAbs < 2 ^ 64)
abbrev oSub := oI yes fun i j => .int (i - j)
abbrev oMul := oI mulC fun i j => .int (i * j)
abbrev oDiv := oI divC fun i j => .int (i / j)
abbrev oMod := oI modC fun i j => .int (i % j)
abbrev oPow := oI powC fun i j => .int (i ^ j.toNat)
abbrev oBAnd := oI yes fun i j => .int (Builtin.bitAnd i j)
abbrev oBXor := oI yes fun i j => .int (Builtin.bitXor i j)
abbrev oBOr := oI yes fun i j => .int (Builtin.bitOr i j)
abbrev oLt := oI yes fun i j => .bool (decide (i < j))
abbrev oLe := oI yes fun i j => .bool (decide (i ≤ j))
abbrev oGt := oI yes fun i j => .bool (decide (j < i))
abbrev oGe := oI yes fun i j => .bool (decide (j ≤ i))
theorem f_sub : OpF X Wc (rI0 fun i j => .int (i - j)) oSub := f_int0 fun _ _ _ => .int _
theorem f_mul : OpF X Wc (rI CMulX fun i j => .int (i * j)) oMul := f_int (fun i j h => show _ < _ from of_decide_eq_true h) fun _ _ _ => .int _
theorem f_div : OpF X Wc (rI CDivW fun i j => .int (i / j)) oDiv := f_int (fun i j h => by
  unfold divC at h
  rw [Bool.and_eq_true] at h
  exact ⟨of_decide_eq_true h.1, of_decide_eq_true h.2⟩) fun _ _ _ => .int _
theorem f_mod : OpF X Wc (rI (fun _ j => 0 < j) fun i j => .int (i % j)) oMod := f_int (fun i j h => of_decide_eq_true h) fun _ _ _ => .int _
theorem f_pow : OpF X Wc (rI CPow fun i j => .int (i ^ j.toNat)) oPow := f_int (fun i j h => by
  unfold powC at h
  rw [Bool.and_eq_true, Bool.and_eq_true] at h
  exact ⟨of_decide_eq_true h.1.1, of_decide_eq_true h.1.2, of_decide_eq_true h.2⟩) fun _ _ _ => .int _
theorem f_band : OpF X Wc (rI0 fun i j => .int (Builtin.bitAnd i j)) oBAnd := f_int0 fun _ _ _ => .int _
theorem f_bxor : OpF X Wc (rI0 fun i j => .int (Builtin.bitXor i j)) oBXor := f_int0 fun _ _ _ => .int _
theorem f_lt : OpF X Wc (rI0 fun i j => .bl (decide (i < j))) oLt := f_int0 fun _ _ _ => .bl _
theorem f_le : OpF X Wc (rI0 fun i j => .bl (decide (i ≤ j))) oLe := f_int0 fun _ _ _ => .bl _
theorem f_gt : OpF X Wc (rI0 fun i j => .bl (decide (j < i))) oGt := f_int0 fun _ _ _ => .bl _
theorem f_ge : OpF X Wc (rI0 fun i j => .bl (decide (j ≤ i))) oGe := f_int0 fun _ _ _ => .bl _
/-- + of ints and of tuples -/
def oAdd : W → W → List Ob → Res W := fun x y S => match x, y with
  | .d (.int i), .d (.int j) => .ok (.d (.int (i + j))) S
  | .d (.tuple xs), .d (.tuple ys) => if xs.length + ys.length ≤ 16777216 then .ok (.d (.tuple (xs ++ ys))) S else .bad
  | _, _ => .bad
theorem dps_app {K : PySem.W.Frag} {F : Hp} : ∀ {ds es : List PyData} {vs us : List V}, DpAll K F vs ds → DpAll K F us es → DpAll K F (vs ++ us) (ds ++ es)
  | [], _, _, _, h, k => by cases h; exact k
  | d :: ds, _, _, _, h, k => by
    cases h with
    | cons h1 h2 => exact .cons h1 (dps_app h2 k)
theorem f_add : OpF X Wc (fun x y H Q => rI0 (fun i j => .int (i + j)) x y H Q ∨ rCatA X.K x y H Q) oAdd := by
  intro Fr Hd μ ρ S σ H x y v u Q r ex ey c
  cases x with
  | ref n => exact c.elim
  | d x =>
    cases y with
    | ref n => cases x <;> exact c.elim
    | d y =>
      rcases rep_cases (μ := μ) ex with ⟨rfl, rfl⟩ | ⟨b, rfl, rfl⟩ | ⟨i, rfl, rfl⟩ | ⟨z, rfl, rfl⟩ | ⟨a, vs, ds, rfl, rfl, h1, h2⟩ | ⟨a, vs, ds, rfl, rfl, h1, h2⟩
      · exact c.elim
      · exact c.elim
      · cases y with
        | int j => cases ey; exact .inl ⟨i, j, rfl, rfl, rt r c (Dp.int _)⟩
        | none => exact c.elim
        | bool b => exact c.elim
        | str z => exact c.elim
        | list z => exact c.elim
        | tuple z => exact c.elim
        | dict z => exact c.elim
      · exact c.elim
      · exact c.elim
      · cases y with
        | tuple es =>
          cases ey with
          | @tup b us _ k1 k2 =>
            have c : cont X.K X.mg Wc (repE X.K) Fr Hd μ ρ σ Q (if ds.length + es.length ≤ 16777216 then .ok (.d (.tuple (ds ++ es))) S else .bad) := c
            split at c
            · rename_i hl
              have e1 := DpAll.len h2
              have e2 := DpAll.len k2
              have all : DpAll X.K Fr (vs ++ us) (ds ++ es) := dps_app h2 k2
              refine .inr ⟨a, b, vs, us, rfl, rfl, Le.sqT r.b.fr h1, Le.sqT r.b.fr k1, by rw [sizeLine_eq]; omega, fun q => ?_, fun q1 q2 => ?_, fun _ _ p hp => new_tup r all hp c⟩
              · subst q
                have : ds = [] := by cases ds with | nil => rfl | cons a b => simp at e1
                subst this
                exact rt r c (Dp.tup k1 k2)
              · subst q2
                have : es = [] := by cases es with | nil => rfl | cons a b => simp at e2
                subst this
                rw [List.append_nil] at c
                exact rt r c (Dp.tup h1 h2)
            · exact c.elim
        | none => exact c.elim
        | bool b => exact c.elim
        | str z => exact c.elim
        | list z => exact c.elim
        | int z => exact c.elim
        | dict z => exact c.elim
theorem op_addQ : OpR X (binaryOp .Add) (fun x y H Q => rI0 (fun i j => .int (i + j)) x y H Q ∨ rCatA X.K x y H Q) := OpR.or op_add op_catA
/-- == and != of data -/
def oEq : W → W → List Ob → Res W := fun x y S => match x, y with
  | .d x, .d y => if SeqAt.shaped x && SeqAt.shaped y then .ok (.d (.bool (PyData.eqv x y))) S else .bad
  | _, _ => .bad
def oNe : W → W → List Ob → Res W := fun x y S => match x, y with
  | .d x, .d y => if SeqAt.shaped x && SeqAt.shaped y then .ok (.d (.bool (!PyData.eqv x y))) S else .bad
  | _, _ => .bad
theorem f_eq : OpF X Wc (rEqD X.K) oEq := by
  intro Fr Hd μ ρ S σ H x y v u Q r ex ey c
  cases x with
  | ref n => exact c.elim
  | d x =>
    cases y with
    | ref n => exact c.elim
    | d y =>
      unfold oEq at c
      dsimp only at c
      split at c
      · rename_i h
        rw [Bool.and_eq_true] at h
        exact ⟨x, y, Le.dp r.b.fr _ _ ex, Le.dp r.b.fr _ _ ey, h.1, h.2, rt r c (Dp.bl _)⟩
      · exact c.elim
theorem f_ne : OpF X Wc (rNeD X.K) oNe := by
  intro Fr Hd μ ρ S σ H x y v u Q r ex ey c
  cases x with
  | ref n => exact c.elim
  | d x =>
    cases y with
    | ref n => exact c.elim
    | d y =>
      unfold oNe at c
      dsimp only at c
      split at c
      · rename_i h
        rw [Bool.and_eq_true] at h
        exact ⟨x, y, Le.dp r.b.fr _ _ ex, Le.dp r.b.fr _ _ ey, h.1, h.2, rt r c (Dp.bl _)⟩
      · exact c.elim
/-- is None, is not None -/
def isNon : W → Bool
  | .d .none => true
  | _ => false
theorem isNon_rep {K : PySem.W.Frag} {μ : List Addr} {Fr : Hp} {x : W} {v : V} (e : RepW K Fr μ x v) : decide (v = .non) = isNon x := by
  cases x with
  | ref n => obtain ⟨a, _, rfl⟩ := e; rfl
  | d x =>
    rcases rep_cases (μ := μ) e with ⟨rfl, rfl⟩ | ⟨b, rfl, rfl⟩ | ⟨i, rfl, rfl⟩ | ⟨z, rfl, rfl⟩ | ⟨a, vs, ds, rfl, rfl, h1, h2⟩ | ⟨a, vs, ds, rfl, rfl, h1, h2⟩ <;> rfl
def oIsN : W → List Ob → Res W := fun x S => .ok (.d (.bool (isNon x))) S
def oNotN : W → List Ob → Res W := fun x S => .ok (.d (.bool (!isNon x))) S
variable {a b : Expr} {fa fb : FE} {pos : Pos}
theorem q_isN {j p'} (ha : PE X a (LE X Wc fa)) : PE X (.Compare a [.Is] [.Constant .none j p'] pos) (LE X Wc (fUn oIsN fa)) := PE.imp (pe_cmp (pc_isN ha) rfl) fun σ H Q h => by
  obtain ⟨F, D, m, ρ, S, r0, c⟩ := h
  refine step r0 c fun F1 m1 x v S1 H1 l1 p1 r1 e1 c1 => ?_
  show Q (.bl (decide (v = .non))) H1
  rw [isNon_rep e1]
  exact rt r1 c1 (Dp.bl _)
theorem q_notN {j p'} (ha : PE X a (LE X Wc fa)) : PE X (.Compare a [.IsNot] [.Constant .none j p'] pos) (LE X Wc (fUn oNotN fa)) := PE.imp (pe_cmp (pc_notN ha) rfl) fun σ H Q h => by
  obtain ⟨F, D, m, ρ, S, r0, c⟩ := h
  refine step r0 c fun F1 m1 x v S1 H1 l1 p1 r1 e1 c1 => ?_
  show Q (.bl (!decide (v = .non))) H1
  rw [isNon_rep e1]
  exact rt r1 c1 (Dp.bl _)
theorem t_isN {j p'} (ha : PE X a (LE X Wc fa)) : PT X (.Compare a [.Is] [.Constant .none j p'] pos) (LB X Wc (fT (fUn oIsN fa))) := PT.imp (pt_cmp (pc_isN ha) rfl) fun σ H Q h => by
  have q := t_imp h
  obtain ⟨F, D, m, ρ, S, r0, c⟩ := q
  refine step r0 c fun F1 m1 x v S1 H1 l1 p1 r1 e1 c1 => ?_
  have q := rt r1 c1 (Dp.bl _)
  rw [← isNon_rep e1] at q
  exact q
theorem t_notN {j p'} (ha : PE X a (LE X Wc fa)) : PT X (.Compare a [.IsNot] [.Constant .none j p'] pos) (LB X Wc (fT (fUn oNotN fa))) := PT.imp (pt_cmp (pc_notN ha) rfl) fun σ H Q h => by
  have q := t_imp h
  obtain ⟨F, D, m, ρ, S, r0, c⟩ := q
  refine step r0 c fun F1 m1 x v S1 H1 l1 p1 r1 e1 c1 => ?_
  have q := rt r1 c1 (Dp.bl _)
  rw [← isNon_rep e1] at q
  exact q
/-- - of an int -/
def oNeg : W → List Ob → Res W := fun x S => match x with
  | .d (.int i) => .ok (.d (.int (-i))) S
  | _ => .bad
theorem f_neg : UnF X Wc (rU fun i => .int (-i)) oNeg := by
  intro Fr Hd μ ρ S σ H x v Q r ex c
  rcases rep_int ex with ⟨i, rfl, rfl⟩ | n
  · exact ⟨i, rfl, rt r c (Dp.int _)⟩
  · unfold oNeg at c
    split at c
    · exact absurd rfl (n _)
    · exact c.elim
/-- a < b < c, the middle asked once -/
def fChain (op op' : W → W → List Ob → Res W) (fa fb fc : FE) : FE := fun ρ S => (fa ρ S).bind fun x S1 => (fb ρ S1).bind fun y S2 => ((op x y S2).bind toB).bind fun c S3 => if c = true then (fc ρ S3).bind fun z S4 => op' y z S4 else .ok (.d (.bool false)) S3
theorem q_chainI {op op' : CmpOp} {C C' : Int → Int → Bool} {g g' : Int → Int → Bool} {c : Expr} {fc : FE} (ho : OpR X (compareOp op) (rI0 fun i j => .bl (g i j))) (ho' : OpR X (compareOp op') (rI0 fun i j => .bl (g' i j)))
    (ha : PE X a (LE X Wc fa)) (hb : PE X b (LE X Wc fb)) (hc : PE X c (LE X Wc fc)) (hm : lastMarks [op, op'] [b, c] = false := by rfl) :
    PE X (.Compare a [op, op'] [b, c] pos) (LE X Wc (fChain (oI C fun i j => .bool (g i j)) (oI C' fun i j => .bool (g' i j)) fa fb fc)) := PE.imp (pe_chain ho ho' ha hb hc hm) fun σ H Q h => by
  obtain ⟨F, D, m, ρ, S, r0, c⟩ := h
  refine step r0 c fun F1 m1 x v S1 H1 l1 p1 r1 e1 c1 => ?_
  refine step r1 c1 fun F2 m2 y u S2 H2 l2 p2 r2 e2 c2 => ?_
  have e1' := RepW.mono l2 p2 e1
  rcases rep_int e1' with ⟨i, rfl, rfl⟩ | n
  · rcases rep_int e2 with ⟨j, rfl, rfl⟩ | n
    · unfold oI at c2
      dsimp only at c2
      split at c2
      · refine ⟨i, j, rfl, rfl, g i j, rfl, ?_⟩
        have c2 : cont X.K X.mg Wc (repE X.K) F2 D m2 ρ σ Q (if g i j = true then (fc ρ S2).bind fun z S4 => oI C' (fun i j => .bool (g' i j)) (.d (.int j)) z S4 else .ok (.d (.bool false)) S2) := c2
        split at c2
        · rename_i hg
          rw [if_pos hg]
          refine step r2 c2 fun F3 m3 z w S3 H3 l3 p3 r3 e3 c3 => ?_
          exact f_int0 (X := X) (Wc := Wc) (g := fun i j => .bool (g' i j)) (g' := fun i j => .bl (g' i j)) (fun _ _ _ => .bl _) F3 D m3 ρ S3 σ H3 (.d (.int j)) z (.int j) w Q r3 (Dp.int _) e3 c3
        · rename_i hg
          rw [if_neg hg]
          exact rt r2 c2 (Dp.bl _)
      · exact c2.elim
    · rw [oI_bad (.inr n)] at c2; exact c2.elim
  · rw [oI_bad (.inl n)] at c2; exact c2.elim
end
end L2.Q
/-! Layer Q, part G: subscripts, slices, built-in calls, lists. -/
namespace L2.Q
open PySem PySem.Spec PyProof.Rows

/-- a list as it stands now -/
def repL (K : PySem.W.Frag) : Rep (List W) V := fun Fr _ μ _ _ H xs v => ∃ a vs, v = .ref a ∧ SqL K H a vs ∧ RepWs K Fr μ xs vs
abbrev LL (X : Cx) (Wc : WX) (f : FA) : TE := lift X.K X.mg Wc (repL X.K) f
def lstV (x : W) (S : List Ob) : Res (List W) := match x with
  | .d (.list xs) => .ok (xs.map .d) S
  | _ => .bad
def fLv (fa : FE) : FA := fun ρ S => (fa ρ S).bind lstV
def fOwn (i : Nat) : FA := fun ρ S => match ρ[i]? with
  | some (.own (.lst xs)) => .ok xs S
  | some (.w (.d (.list ds))) => .ok (ds.map .d) S
  | _ => .bad
section
variable {X : Cx} {Wc : WX} {a b e e2 : Expr} {es : List Expr} {pos p : Pos} {fa fb : FE} {fo fo2 : FO} {fl1 : FA} {fr : FA}
theorem l_new (h : PE X e (LO X Wc fo)) : PE X e (LL X Wc (fItO fo)) := PE.imp h fun σ H Q h => by
  obtain ⟨F, D, m, ρ, S, r0, c⟩ := h
  refine step r0 c fun F1 m1 x v S1 H1 l1 p1 r1 e1 c1 => ?_
  obtain ⟨p, ho, rfl, h1, h2, h3⟩ := e1
  cases x with
  | dct kvs => exact c1.elim
  | fdc kvs => exact c1.elim
  | ins c fs => exact c1.elim
  | dcn fz kvs => exact c1.elim
  | lst xs =>
    obtain ⟨vs, rfl, q⟩ := h2
    exact c1 F1 m1 _ H1 Le.refl (List.prefix_refl m1) r1 ⟨p, vs, rfl, .inl (.inl h1), q⟩
theorem l_val (h : PE X e (LE X Wc fa)) : PE X e (LL X Wc (fLv fa)) := PE.imp h fun σ H Q h => by
  obtain ⟨F, D, m, ρ, S, r0, c⟩ := h
  refine step r0 c fun F1 m1 x v S1 H1 l1 p1 r1 e1 c1 => ?_
  cases x with
  | ref n => exact c1.elim
  | d x =>
    cases x with
    | list xs =>
      cases e1 with
      | @lst a vs _ hs ha => exact c1 F1 m1 _ H1 Le.refl (List.prefix_refl m1) r1 ⟨a, vs, rfl, Le.sqL r1.b.fr hs, rep_dats ha⟩
    | none => exact c1.elim
    | bool b => exact c1.elim
    | int i => exact c1.elim
    | str z => exact c1.elim
    | tuple z => exact c1.elim
    | dict z => exact c1.elim
theorem own_lst {Fr Hd : Hp} {μ : List Addr} {ρ : List Sl} {S : List Ob} {σ : St} {H : Hp} (r : R X.K Fr Hd μ ρ S σ H) {i : Nat} {xs : List W} (e : ρ[i]? = some (.own (.lst xs))) :
    ∃ a vs, σ[i]? = some (some (.ref a)) ∧ H a = some (.lst vs) ∧ RepWs X.K Fr μ xs vs := by
  obtain ⟨a, ho, e1, h1, ⟨vs, rfl, q⟩, _⟩ := r.s.sl i _ e
  exact ⟨a, vs, e1, h1, q⟩
theorem l_own {i : Nat} {x : Str} (hN : X.N[i]? = some x) (hv : Vis X.env.scope x) (hd : (x == ("__debug__" : Str)) = false := by decide) (hcd : (x == ("__classdict__" : Str)) = false := by decide) : PE X (.Name x pos) (LL X Wc (fOwn i)) :=
  PE.imp (pe_var hN hv hd hcd) fun σ H Q h => by
  obtain ⟨F, D, m, ρ, S, r, c⟩ := h
  unfold fOwn at c
  split at c
  · rename_i xs e
    obtain ⟨a, vs, e1, h1, q⟩ := own_lst r e
    exact ⟨_, e1, c F m _ H Le.refl (List.prefix_refl m) r ⟨a, vs, rfl, .inl (.inl h1), q⟩⟩
  · rename_i ds e
    obtain ⟨u, e1, ru⟩ := r.s.sl i _ e
    cases ru with
    | @lst a vs _ hs ha => exact ⟨_, e1, c F m _ H Le.refl (List.prefix_refl m) r ⟨a, vs, rfl, Le.sqL r.b.fr hs, rep_dats ha⟩⟩
  · exact c.elim
/-- a list or a tuple now -/
theorem qs_l (h : PE X e (LL X Wc fl1)) : PE X e (LQ X Wc fl1) := PE.imp h fun σ H Q h => by
  obtain ⟨F, D, m, ρ, S, r0, c⟩ := h
  refine ⟨F, D, m, ρ, S, r0, ?_⟩
  cases q : fl1 ρ S with
  | bad => rw [q] at c; exact c
  | err z S1 => rw [q] at c; exact c
  | ok xs S1 =>
    rw [q] at c
    intro F1 m1 v H1 l1 p1 r1 ⟨a, vs, e1, e2, e3⟩
    exact c F1 m1 v H1 l1 p1 r1 ⟨a, vs, e1, .inl e2, e3⟩
theorem qs_v (h : PE X e (LE X Wc fa)) : PE X e (LQ X Wc (fIt fa)) := PE.imp h fun σ H Q h => by
  obtain ⟨F, D, m, ρ, S, r0, c⟩ := h
  refine step r0 c fun F1 m1 x v S1 H1 l1 p1 r1 e1 c1 => ?_
  cases x with
  | ref n => exact c1.elim
  | d x =>
    cases x with
    | tuple xs =>
      cases e1 with
      | @tup a vs _ hs ha => exact c1 F1 m1 _ H1 Le.refl (List.prefix_refl m1) r1 ⟨a, vs, rfl, .inr (Le.sqT r1.b.fr hs), rep_dats ha⟩
    | list xs =>
      cases e1 with
      | @lst a vs _ hs ha => exact c1 F1 m1 _ H1 Le.refl (List.prefix_refl m1) r1 ⟨a, vs, rfl, .inl (Le.sqL r1.b.fr hs), rep_dats ha⟩
    | none => exact c1.elim
    | bool b => exact c1.elim
    | int i => exact c1.elim
    | str z => exact c1.elim
    | dict z => exact c1.elim
/-- len -/
def fLen (f : FA) : FE := fun ρ S => (f ρ S).bind fun xs S1 => .ok (.d (.int xs.length)) S1
theorem q_len (hg : Gl X "len") (hm : X.mg "len" = none) (h : PE X e (LQ X Wc fl1)) (hs : starEach [e] X.env = (false, eval e X.env) :: starEach [] X.env := by rfl) (hpl : (backTo pos (starEach [] X.env)).any (·.1) = false := by rfl) : PE X (.Call (.Name "len" p) [e] [] pos) (LE X Wc (fLen fl1)) :=
  PE.imp (pe_callB call_len_seq hg hm PySem.boot_len (pa_cons h pa_nil hs) (he := hs) (hpl := hpl)) fun σ H Q h => by
  obtain ⟨F, D, m, ρ, S, r0, c⟩ := h
  refine step r0 c fun F1 m1 xs v S1 H1 l1 p1 r1 e1 c1 => ?_
  obtain ⟨a, vs, rfl, e2, e3⟩ := e1
  refine ⟨a, vs, rfl, e2, ?_⟩
  rw [← Paired.length e3]
  exact rt r1 c1 (Dp.int _)
/-- len of a text -/
def fLenS (fa : FE) : FE := fun ρ S => (fa ρ S).bind fun x S1 => match x with
  | .d (.str z) => if z.length ≤ 16777216 then .ok (.d (.int z.length)) S1 else .bad
  | _ => .bad
/-- tuple(..) of a list -/
def fTupL (f : FA) : FE := fun ρ S => (f ρ S).bind mkTup
theorem q_tupL (hg : Gl X "tuple") (hm : X.mg "tuple" = none) (h : PE X e (LL X Wc fl1)) (hs : starEach [e] X.env = (false, eval e X.env) :: starEach [] X.env := by rfl) (hpl : (backTo pos (starEach [] X.env)).any (·.1) = false := by rfl) : PE X (.Call (.Name "tuple" p) [e] [] pos) (LE X Wc (fTupL fl1)) :=
  PE.imp (pe_callTy call_tuple_of hg hm (by decide +kernel) (pa_cons h pa_nil hs) (he := hs) (hpl := hpl)) fun σ H Q h => by
  obtain ⟨F, D, m, ρ, S, r0, c⟩ := h
  refine step r0 c fun F1 m1 xs v S1 H1 l1 p1 r1 e1 c1 => ?_
  obtain ⟨a, vs, rfl, e2, e3⟩ := e1
  refine ⟨a, vs, rfl, .inl ⟨e2, fun q hq => ?_⟩⟩
  unfold mkTup at c1
  cases z : dats xs with
  | none => rw [z] at c1; exact c1.elim
  | some ds => rw [z] at c1; exact new_tup r1 (dats_rep z e3) hq c1
/-- list(..), a new list -/
def fNewL (f : FA) : FO := fun ρ S => (f ρ S).bind fun xs S1 => .ok (.lst xs) S1
theorem new_lst {Fr Hd : Hp} {μ : List Addr} {ρ : List Sl} {S : List Ob} {σ : St} {H : Hp} {Q : VK} {xs : List W} {vs : List V} {q : Addr} (r : R X.K Fr Hd μ ρ S σ H) (e : RepWs X.K Fr μ xs vs) (hq : H q = none)
    (c : cont X.K X.mg Wc (repO X.K) Fr Hd μ ρ σ Q (.ok (.lst xs) S)) : Q (.ref q) (upd H q (.lst vs)) := by
  have f := r.new hq
  exact c Fr μ (.ref q) _ Le.refl (List.prefix_refl μ) (r.upd (o := .lst vs) f) ⟨q, .lst vs, rfl, upd_same, ⟨vs, rfl, e⟩, f⟩
theorem q_listOf (hg : Gl X "list") (hm : X.mg "list" = none) (h : PE X e (LQ X Wc fl1)) (hs : starEach [e] X.env = (false, eval e X.env) :: starEach [] X.env := by rfl) (hpl : (backTo pos (starEach [] X.env)).any (·.1) = false := by rfl) : PE X (.Call (.Name "list" p) [e] [] pos) (LO X Wc (fNewL fl1)) :=
  PE.imp (pe_callTy call_list_of hg hm (by decide +kernel) (pa_cons h pa_nil hs) (he := hs) (hpl := hpl)) fun σ H Q h => by
  obtain ⟨F, D, m, ρ, S, r0, c⟩ := h
  refine step r0 c fun F1 m1 xs v S1 H1 l1 p1 r1 e1 c1 => ?_
  obtain ⟨a, vs, rfl, e2, e3⟩ := e1
  exact ⟨a, vs, rfl, e2, fun q hq => new_lst r1 e3 hq c1⟩
/-- [a, b, ..], a new list -/
theorem q_lst {n : Nat} (h : PA X es (LA X Wc fr)) (hl : LenN fr n) (hn : n ≤ sizeLine := by decide) : PE X (.List es pos) (LO X Wc (fNewL fr)) := PE.imp (pe_lst h) fun σ H Q h => by
  obtain ⟨F, D, m, ρ, S, r0, c⟩ := h
  refine ⟨F, D, m, ρ, S, r0, ?_⟩
  unfold fNewL at c
  cases e : fr ρ S with
  | err x S1 => rw [e] at c; exact c
  | bad => rw [e] at c; exact c
  | ok xs S1 =>
    rw [e] at c
    intro F1 m1 vs H1 l1 p1 r1 e1
    refine ⟨?_, fun q hq => new_lst r1 e1 hq (cont.mono l1 p1 (fun _ _ z => z) c)⟩
    have := Paired.length e1
    have := hl ρ S xs S1 e
    omega
/-- a new list as a value: nobody may change it from now on -/
def fFz (fo : FO) : FE := fun ρ S => (fo ρ S).bind fun o S1 => match frz o with
  | some x => .ok x S1
  | none => .bad
theorem q_fz (h : PE X e (LO X Wc fo)) : PE X e (LE X Wc (fFz fo)) := PE.imp h fun σ H Q h => by
  obtain ⟨F, D, m, ρ, S, r0, c⟩ := h
  refine step r0 c fun F1 m1 x v S1 H1 l1 p1 r1 e1 c1 => ?_
  obtain ⟨p, ho, rfl, h1, h2, h3⟩ := e1
  cases z : frz x with
  | none => simp only [z] at c1; exact c1.elim
  | some y =>
    simp only [z] at c1
    exact c1 _ m1 _ H1 (Le.upd h3.fr) (List.prefix_refl m1) (r1.freeze h1 h3) (frz_rep z h2 h3.fr)
/-- + of two new lists -/
def bools : List W → Option (List Bool)
  | [] => some []
  | .d (.bool b) :: r => (bools r).map (b :: ·)
  | _ :: _ => none
def intsW : List W → Option (List Int)
  | [] => some []
  | .d (.int b) :: r => (intsW r).map (b :: ·)
  | _ :: _ => none
theorem bools_rep {K : PySem.W.Frag} {Fr : Hp} {μ : List Addr} : ∀ {xs : List W} {vs : List V} {bs : List Bool}, bools xs = some bs → RepWs K Fr μ xs vs → vs = bs.map V.bl
  | [], _, _, e, .nil => by cases e; rfl
  | x :: r, _, bs, e, .cons h t => by
    unfold bools at e
    split at e
    · rename_i e1; cases e1
    · rename_i b r' e1
      injection e1 with e1 e2
      subst e1 e2
      cases q : bools r with
      | none => rw [q] at e; cases e
      | some es =>
        rw [q] at e
        cases e
        cases h
        rw [bools_rep q t]
        rfl
    · cases e
theorem intsW_rep {K : PySem.W.Frag} {Fr : Hp} {μ : List Addr} : ∀ {xs : List W} {vs : List V} {bs : List Int}, intsW xs = some bs → RepWs K Fr μ xs vs → vs = bs.map V.int
  | [], _, _, e, .nil => by cases e; rfl
  | x :: r, _, bs, e, .cons h t => by
    unfold intsW at e
    split at e
    · rename_i e1; cases e1
    · rename_i b r' e1
      injection e1 with e1 e2
      subst e1 e2
      cases q : intsW r with
      | none => rw [q] at e; cases e
      | some es =>
        rw [q] at e
        cases e
        cases h
        rw [intsW_rep q t]
        rfl
    · cases e
def onB (f : List Bool → Bool) (xs : List W) (S : List Ob) : Res W := match bools xs with
  | some bs => .ok (.d (.bool (f bs))) S
  | none => .bad
def onI (f : List Int → Int) (xs : List W) (S : List Ob) : Res W := match intsW xs with
  | some ns => .ok (.d (.int (f ns))) S
  | none => .bad
def fAll (f : FA) : FE := fun ρ S => (f ρ S).bind (onB fun bs => bs.all id)
def fAny (f : FA) : FE := fun ρ S => (f ρ S).bind (onB fun bs => bs.any id)
def fSum (f : FA) : FE := fun ρ S => (f ρ S).bind (onI List.sum)
theorem q_all (hc : X.calm = true) (hg : Gl X "all") (hm : X.mg "all" = none) (h : PE X e (LL X Wc fl1)) (hs : starEach [e] X.env = (false, eval e X.env) :: starEach [] X.env := by rfl) (hpl : (backTo pos (starEach [] X.env)).any (·.1) = false := by rfl) : PE X (.Call (.Name "all" p) [e] [] pos) (LE X Wc (fAll fl1)) :=
  PE.imp (pe_callB (cr_all hc) hg hm (by decide +kernel) (pa_cons h pa_nil hs) (he := hs) (hpl := hpl)) fun σ H Q h => by
  obtain ⟨F, D, m, ρ, S, r0, c⟩ := h
  refine step r0 c fun F1 m1 xs v S1 H1 l1 p1 r1 e1 c1 => ?_
  obtain ⟨a, vs, rfl, e2, e3⟩ := e1
  unfold onB at c1
  cases z : bools xs with
  | none => rw [z] at c1; exact c1.elim
  | some bs =>
    rw [z] at c1
    rw [bools_rep z e3] at e2
    exact ⟨a, bs, rfl, e2, rt r1 c1 (Dp.bl _)⟩
theorem q_any (hc : X.calm = true) (hg : Gl X "any") (hm : X.mg "any" = none) (h : PE X e (LL X Wc fl1)) (hs : starEach [e] X.env = (false, eval e X.env) :: starEach [] X.env := by rfl) (hpl : (backTo pos (starEach [] X.env)).any (·.1) = false := by rfl) : PE X (.Call (.Name "any" p) [e] [] pos) (LE X Wc (fAny fl1)) :=
  PE.imp (pe_callB (cr_any hc) hg hm (by decide +kernel) (pa_cons h pa_nil hs) (he := hs) (hpl := hpl)) fun σ H Q h => by
  obtain ⟨F, D, m, ρ, S, r0, c⟩ := h
  refine step r0 c fun F1 m1 xs v S1 H1 l1 p1 r1 e1 c1 => ?_
  obtain ⟨a, vs, rfl, e2, e3⟩ := e1
  unfold onB at c1
  cases z : bools xs with
  | none => rw [z] at c1; exact c1.elim
  | some bs =>
    rw [z] at c1
    rw [bools_rep z e3] at e2
    exact ⟨a, bs, rfl, e2, rt r1 c1 (Dp.bl _)⟩
theorem q_sum (hc : X.calm = true) (hg : Gl X "sum") (hm : X.mg "sum" = none) (h : PE X e (LL X Wc fl1)) (hs : starEach [e] X.env = (false, eval e X.env) :: starEach [] X.env := by rfl) (hpl : (backTo pos (starEach [] X.env)).any (·.1) = false := by rfl) : PE X (.Call (.Name "sum" p) [e] [] pos) (LE X Wc (fSum fl1)) :=
  PE.imp (pe_callB (cr_sum hc) hg hm (by decide +kernel) (pa_cons h pa_nil hs) (he := hs) (hpl := hpl)) fun σ H Q h => by
  obtain ⟨F, D, m, ρ, S, r0, c⟩ := h
  refine step r0 c fun F1 m1 xs v S1 H1 l1 p1 r1 e1 c1 => ?_
  obtain ⟨a, vs, rfl, e2, e3⟩ := e1
  unfold onI at c1
  cases z : intsW xs with
  | none => rw [z] at c1; exact c1.elim
  | some bs =>
    rw [z] at c1
    rw [intsW_rep z e3] at e2
    exact ⟨a, bs, rfl, e2, rt r1 c1 (Dp.int _)⟩
/-- x[i] of a value -/
def oIx : W → W → List Ob → Res W := fun x y S => match x, y with
  | .d (.tuple xs), .d (.int i) => (match atI xs i with
    | some z => .ok (.d z) S
    | none => .bad)
  | .d (.list xs), .d (.int i) => (match atI xs i with
    | some z => .ok (.d z) S
    | none => .bad)
  | .ref n, .d (.int i) => (match S[n]? with
    | some (.lst xs) => (match atI xs i with
      | some z => .ok z S
      | none => .bad)
    | _ => .bad)
  | _, _ => .bad
theorem paired_at {α β : Type} {F : α → β → Prop} {l₁ : List α} {l₂ : List β} {i : Int} {a : α} (h : Paired F l₁ l₂) (e : atI l₁ i = some a) : ∃ b, atI l₂ i = some b ∧ F a b := by
  unfold atI at e ⊢
  rw [← Paired.length h]
  cases q : ixN l₁.length i with
  | none => rw [q] at e; cases e
  | some j =>
    rw [q] at e
    exact paired_get h e
theorem dps_at {K : PySem.W.Frag} {F : Hp} {ds : List PyData} {vs : List V} {i : Int} {d : PyData} (h : DpAll K F vs ds) (e : atI ds i = some d) : ∃ v, atI vs i = some v ∧ Dp K F v d := by
  have q : atI (ds.map W.d) i = some (.d d) := by
    unfold atI at e ⊢
    rw [List.length_map]
    cases z : ixN ds.length i with
    | none => rw [z] at e; cases e
    | some j =>
      rw [z] at e
      show (ds.map W.d)[j]? = _
      rw [List.getElem?_map]
      have e : ds[j]? = some d := e
      rw [e]; rfl
  exact paired_at (rep_dats (μ := []) h) q
theorem f_ix : OpF X Wc (rIx X.K) oIx := by
  intro Fr Hd μ ρ S σ H x y v u Q r ex ey c
  rcases rep_int ey with ⟨i, rfl, rfl⟩ | n
  · cases x with
    | ref n =>
      obtain ⟨a, ea, rfl⟩ := ex
      unfold oIx at c
      dsimp only at c
      split at c
      · rename_i xs es
        split at c
        · rename_i z ez
          obtain ⟨ho, h1, ⟨vs, rfl, q⟩, _⟩ := r.b.st n a _ ea es
          obtain ⟨w, e1, e2⟩ := paired_at q ez
          exact .inl ⟨a, vs, i, w, rfl, rfl, .inl (.inl h1), e1, rt r c e2⟩
        · exact c.elim
      · exact c.elim
    | d x =>
      rcases rep_cases (μ := μ) ex with ⟨rfl, rfl⟩ | ⟨b, rfl, rfl⟩ | ⟨i', rfl, rfl⟩ | ⟨z, rfl, rfl⟩ | ⟨a, vs, ds, rfl, rfl, h1, h2⟩ | ⟨a, vs, ds, rfl, rfl, h1, h2⟩
      · exact c.elim
      · exact c.elim
      · exact c.elim
      · exact c.elim
      · unfold oIx at c
        dsimp only at c
        split at c
        · rename_i z ez
          obtain ⟨w, e1, e2⟩ := dps_at h2 ez
          exact .inl ⟨a, vs, i, w, rfl, rfl, Le.sqL r.b.fr h1, e1, rt r c e2⟩
        · exact c.elim
      · unfold oIx at c
        dsimp only at c
        split at c
        · rename_i z ez
          obtain ⟨w, e1, e2⟩ := dps_at h2 ez
          exact .inr (.inl ⟨a, vs, i, w, rfl, rfl, Le.sqT r.b.fr h1, e1, rt r c e2⟩)
        · exact c.elim
  · unfold oIx at c
    split at c
    · exact absurd rfl (n _)
    · exact absurd rfl (n _)
    · exact absurd rfl (n _)
    · exact c.elim
theorem q_ix (ha : PE X a (LE X Wc fa)) (hb : PE X b (LE X Wc fb)) (hs : PlainIx b := by exact fun _ _ => rfl) : PE X (.Subscript a b pos) (LE X Wc (fBin oIx fa fb)) := PE.imp (pe_ix ix_seq ha hb hs) fun _ _ _ h => bin_imp f_ix h
/-- x[i] of a list that x alone holds -/
def ixO (xs : List W) (y : W) (S : List Ob) : Res W := match y with
  | .d (.int k) => (match atI xs k with
    | some z => .ok z S
    | none => .bad)
  | _ => .bad
def fIxO (i : Nat) (fb : FE) : FE := fun ρ S => match ρ[i]? with
  | some (.own (.lst xs)) => (fb ρ S).bind (ixO xs)
  | some (.w x) => (fb ρ S).bind fun y S1 => oIx x y S1
  | _ => .bad
theorem q_ixO {i : Nat} {x : Str} {p' : Pos} (hN : X.N[i]? = some x) (hv : Vis X.env.scope x) (hb : PE X b (LE X Wc fb)) (hs : PlainIx b := by exact fun _ _ => rfl) (hd : (x == ("__debug__" : Str)) = false := by decide) (hcd : (x == ("__classdict__" : Str)) = false := by decide) :
    PE X (.Subscript (.Name x p') b pos) (LE X Wc (fIxO i fb)) := PE.imp (pe_ix ix_seq (pe_var hN hv hd hcd) hb hs) fun σ H Q h => by
  obtain ⟨F, D, m, ρ, S, r, c⟩ := h
  unfold fIxO at c
  split at c
  · rename_i xs e
    obtain ⟨a, vs, e1, _, _⟩ := own_lst r e
    refine ⟨_, e1, ?_⟩
    refine step r c fun F1 m1 y v S1 H1 l1 p1 r1 ey c1 => ?_
    obtain ⟨a', vs', e1', h1, q⟩ := own_lst r1 e
    rw [e1] at e1'
    cases e1'
    rcases rep_int ey with ⟨k, rfl, rfl⟩ | n
    · unfold ixO at c1
      dsimp only at c1
      split at c1
      · rename_i z ez
        obtain ⟨w, k1, k2⟩ := paired_at q ez
        exact .inl ⟨a, vs', k, w, rfl, rfl, .inl (.inl h1), k1, rt r1 c1 k2⟩
      · exact c1.elim
    · unfold ixO at c1
      split at c1
      · exact absurd rfl (n _)
      · exact c1.elim
  · rename_i x e
    obtain ⟨u, e1, ru⟩ := r.s.sl i _ e
    refine ⟨u, e1, ?_⟩
    refine step r c fun F1 m1 y v S1 H1 l1 p1 r1 ey c1 => ?_
    exact f_ix F1 D m1 ρ S1 σ H1 x y u v Q r1 (RepW.mono l1 p1 ru) ey c1
  · exact c.elim
/-- == and != of a list that x alone holds -/
def cmpO (neg : Bool) (xs : List W) (y : W) (S : List Ob) : Res W := match dats xs, y with
  | some ds, .d y => if SeqAt.shaped (.list ds) && SeqAt.shaped y then .ok (.d (.bool (neg ^^ PyData.eqv (.list ds) y))) S else .bad
  | _, _ => .bad
def fCmpO (neg : Bool) (i : Nat) (fb : FE) : FE := fun ρ S => match ρ[i]? with
  | some (.own (.lst xs)) => (fb ρ S).bind (cmpO neg xs)
  | some (.w (.d (.list ds))) => (fb ρ S).bind (cmpO neg (ds.map .d))
  | _ => .bad
theorem dats_same : ∀ ds : List PyData, dats (ds.map .d) = some ds
  | [] => rfl
  | d :: r => by show (dats (r.map .d)).map (d :: ·) = _; rw [dats_same r]; rfl
theorem cmpO_imp {i : Nat} {neg : Bool} {σ : St} {H : Hp} {Q : VK} (h : LE X Wc (fCmpO neg i fb) σ H Q) : tOp (fun x y H Q => ∃ d e, Dp X.K H x d ∧ Dp X.K H y e ∧ SeqAt.shaped d = true ∧ SeqAt.shaped e = true ∧ Q (.bl (neg ^^ PyData.eqv d e)) H) (tVar i) (LE X Wc fb) σ H Q := by
  obtain ⟨F, D, m, ρ, S, r, c⟩ := h
  unfold fCmpO at c
  split at c
  · rename_i xs e
    obtain ⟨a, vs, e1, _, _⟩ := own_lst r e
    refine ⟨_, e1, ?_⟩
    refine step r c fun F1 m1 y v S1 H1 l1 p1 r1 ey c1 => ?_
    obtain ⟨a', vs', e1', h1, q⟩ := own_lst r1 e
    rw [e1] at e1'
    cases e1'
    cases y with
    | ref n =>
      unfold cmpO at c1
      cases z : dats xs with
      | none => rw [z] at c1; exact c1.elim
      | some ds => rw [z] at c1; exact c1.elim
    | d y =>
      unfold cmpO at c1
      cases z : dats xs with
      | none => rw [z] at c1; exact c1.elim
      | some ds =>
        rw [z] at c1
        dsimp only at c1
        split at c1
        · rename_i hh
          rw [Bool.and_eq_true] at hh
          exact ⟨.list ds, y, Dp.lst (.inl (.inl h1)) (Le.dps r1.b.fr _ _ (dats_rep z q)), Le.dp r1.b.fr _ _ ey, hh.1, hh.2, rt r1 c1 (Dp.bl _)⟩
        · exact c1.elim
  · rename_i ds e
    obtain ⟨w, e1, rw'⟩ := r.s.sl i _ e
    refine ⟨w, e1, ?_⟩
    refine step r c fun F1 m1 y v S1 H1 l1 p1 r1 ey c1 => ?_
    unfold cmpO at c1
    rw [dats_same] at c1
    cases y with
    | ref n => exact c1.elim
    | d y =>
      dsimp only at c1
      split at c1
      · rename_i hh
        rw [Bool.and_eq_true] at hh
        exact ⟨.list ds, y, Le.dp (l1.trans r1.b.fr) _ _ rw', Le.dp r1.b.fr _ _ ey, hh.1, hh.2, rt r1 c1 (Dp.bl _)⟩
      · exact c1.elim
  · exact c.elim
theorem op_eqX (hu : X.A.units + 64 < cLine) : OpR X (compareOp .Eq) (fun x y H Q => ∃ d e, Dp X.K H x d ∧ Dp X.K H y e ∧ SeqAt.shaped d = true ∧ SeqAt.shaped e = true ∧ Q (.bl (false ^^ PyData.eqv d e)) H) := fun pins s σ H x y v u Q I r1 r2 ⟨d, e, h1, h2, h3, h4, q⟩ =>
  op_eqD hu pins s σ H x y v u Q I r1 r2 ⟨d, e, h1, h2, h3, h4, by rw [Bool.false_xor] at q; exact q⟩
theorem op_neX (hu : X.A.units + 64 < cLine) : OpR X (compareOp .NotEq) (fun x y H Q => ∃ d e, Dp X.K H x d ∧ Dp X.K H y e ∧ SeqAt.shaped d = true ∧ SeqAt.shaped e = true ∧ Q (.bl (true ^^ PyData.eqv d e)) H) := fun pins s σ H x y v u Q I r1 r2 ⟨d, e, h1, h2, h3, h4, q⟩ =>
  op_neD hu pins s σ H x y v u Q I r1 r2 ⟨d, e, h1, h2, h3, h4, by rw [Bool.true_xor] at q; exact q⟩
theorem q_eqO {i : Nat} {x : Str} {p' : Pos} (hu : X.A.units + 64 < cLine) (hN : X.N[i]? = some x) (hv : Vis X.env.scope x) (hb : PE X b (LE X Wc fb)) (hd : (x == ("__debug__" : Str)) = false := by decide) (hcd : (x == ("__classdict__" : Str)) = false := by decide) :
    PE X (.Compare (.Name x p') [.Eq] [b] pos) (LE X Wc (fCmpO false i fb)) := PE.imp (pe_cmpR (op_eqX hu) (pe_var hN hv hd hcd) hb (nomark _)) fun _ _ _ h => cmpO_imp h
theorem q_neO {i : Nat} {x : Str} {p' : Pos} (hu : X.A.units + 64 < cLine) (hN : X.N[i]? = some x) (hv : Vis X.env.scope x) (hb : PE X b (LE X Wc fb)) (hd : (x == ("__debug__" : Str)) = false := by decide) (hcd : (x == ("__classdict__" : Str)) = false := by decide) :
    PE X (.Compare (.Name x p') [.NotEq] [b] pos) (LE X Wc (fCmpO true i fb)) := PE.imp (pe_cmpR (op_neX hu) (pe_var hN hv hd hcd) hb (nomark _)) fun _ _ _ h => cmpO_imp h
theorem t_eqO {i : Nat} {x : Str} {p' : Pos} (hu : X.A.units + 64 < cLine) (hN : X.N[i]? = some x) (hv : Vis X.env.scope x) (hb : PE X b (LE X Wc fb)) (hd : (x == ("__debug__" : Str)) = false := by decide) (hcd : (x == ("__classdict__" : Str)) = false := by decide) :
    PT X (.Compare (.Name x p') [.Eq] [b] pos) (LB X Wc (fT (fCmpO false i fb))) := PT.imp (pt_cmpR (op_eqX hu) (pe_var hN hv hd hcd) hb (nomark _)) fun _ _ _ h => cmpO_imp (t_imp h)
theorem t_neO {i : Nat} {x : Str} {p' : Pos} (hu : X.A.units + 64 < cLine) (hN : X.N[i]? = some x) (hv : Vis X.env.scope x) (hb : PE X b (LE X Wc fb)) (hd : (x == ("__debug__" : Str)) = false := by decide) (hcd : (x == ("__classdict__" : Str)) = false := by decide) :
    PT X (.Compare (.Name x p') [.NotEq] [b] pos) (LB X Wc (fT (fCmpO true i fb))) := PT.imp (pt_cmpR (op_neX hu) (pe_var hN hv hd hcd) hb (nomark _)) fun _ _ _ h => cmpO_imp (t_imp h)
/-- a comparison as a test, by its value's rule -/
theorem t_of {op : CmpOp} {t : TE} {f : FE} (h : PT X (.Compare a [op] [b] pos) (tTest t)) (i : ∀ σ H Q, LE X Wc f σ H Q → t σ H Q) : PT X (.Compare a [op] [b] pos) (LB X Wc (fT f)) := PT.imp h fun _ _ _ h => i _ _ _ (t_imp h)
end
end L2.Q
/-! Layer Q, part H: == over the store, lists as values, slices, isinstance, small built-ins, the store's objects. -/
namespace L2.Q
open PySem PySem.Spec PyProof.Rows

/-- a value as data, the store's lists read -/
def asD : W → List Ob → Option PyData
  | .d x, _ => some x
  | .ref n, S => match S[n]? with
    | some (.lst xs) => (dats xs).map .list
    | _ => none
section
variable {X : Cx} {Wc : WX} {a b e e2 : Expr} {es : List Expr} {pos p : Pos} {fa fb : FE} {fo fo2 : FO} {fl1 : FA} {fr : FA}
theorem asD_rep {Fr Hd : Hp} {μ : List Addr} {ρ : List Sl} {S : List Ob} {σ : St} {H : Hp} (r : R X.K Fr Hd μ ρ S σ H) {x : W} {v : V} {d : PyData} (e : asD x S = some d) (h : RepW X.K Fr μ x v) : Dp X.K H v d := by
  cases x with
  | d x => cases e; exact Le.dp r.b.fr _ _ h
  | ref n =>
    obtain ⟨a, ea, rfl⟩ := h
    have e : (match S[n]? with | some (.lst xs) => (dats xs).map PyData.list | _ => none) = some d := e
    split at e
    · rename_i xs es
      obtain ⟨ho, h1, ⟨vs, rfl, q⟩, _⟩ := r.b.st n a _ ea es
      cases z : dats xs with
      | none => rw [z] at e; cases e
      | some ds =>
        rw [z] at e
        cases e
        exact Dp.lst (.inl (.inl h1)) (Le.dps r.b.fr _ _ (dats_rep z q))
    · cases e
def oEqS (neg : Bool) : W → W → List Ob → Res W := fun x y S => match asD x S, asD y S with
  | some x, some y => if SeqAt.shaped x && SeqAt.shaped y then .ok (.d (.bool (neg ^^ PyData.eqv x y))) S else .bad
  | _, _ => .bad
abbrev rEqX (K : PySem.W.Frag) (neg : Bool) : R2 := fun x y H Q => ∃ d e, Dp K H x d ∧ Dp K H y e ∧ SeqAt.shaped d = true ∧ SeqAt.shaped e = true ∧ Q (.bl (neg ^^ PyData.eqv d e)) H
theorem f_eqS (neg : Bool) : OpF X Wc (rEqX X.K neg) (oEqS neg) := by
  intro Fr Hd μ ρ S σ H x y v u Q r ex ey c
  unfold oEqS at c
  split at c
  · rename_i d1 d2 h1 h2
    split at c
    · rename_i h
      rw [Bool.and_eq_true] at h
      exact ⟨d1, d2, asD_rep r h1 ex, asD_rep r h2 ey, h.1, h.2, rt r c (Dp.bl _)⟩
    · exact c.elim
  · exact c.elim
theorem q_eq (hu : X.A.units + 64 < cLine) (ha : PE X a (LE X Wc fa)) (hb : PE X b (LE X Wc fb)) : PE X (.Compare a [.Eq] [b] pos) (LE X Wc (fBin (oEqS false) fa fb)) := q_cmp (op_eqX hu) (f_eqS false) ha hb (nomark _)
theorem q_ne (hu : X.A.units + 64 < cLine) (ha : PE X a (LE X Wc fa)) (hb : PE X b (LE X Wc fb)) : PE X (.Compare a [.NotEq] [b] pos) (LE X Wc (fBin (oEqS true) fa fb)) := q_cmp (op_neX hu) (f_eqS true) ha hb (nomark _)
theorem t_eq (hu : X.A.units + 64 < cLine) (ha : PE X a (LE X Wc fa)) (hb : PE X b (LE X Wc fb)) : PT X (.Compare a [.Eq] [b] pos) (LB X Wc (fT (fBin (oEqS false) fa fb))) := q_tc (op_eqX hu) (f_eqS false) ha hb (nomark _)
theorem t_ne (hu : X.A.units + 64 < cLine) (ha : PE X a (LE X Wc fa)) (hb : PE X b (LE X Wc fb)) : PT X (.Compare a [.NotEq] [b] pos) (LB X Wc (fT (fBin (oEqS true) fa fb))) := q_tc (op_neX hu) (f_eqS true) ha hb (nomark _)
/-- is, is not of bools -/
def oIsB (neg : Bool) : W → W → List Ob → Res W := fun x y S => match x, y with
  | .d (.bool i), .d (.bool j) => .ok (.d (.bool (neg ^^ decide (i = j)))) S
  | _, _ => .bad
theorem rep_bool {K : PySem.W.Frag} {Fr : Hp} {μ : List Addr} {x : W} {v : V} (r : RepW K Fr μ x v) : (∃ i, x = .d (.bool i) ∧ v = .bl i) ∨ (∀ i, x ≠ .d (.bool i)) := by
  cases x with
  | ref n => exact .inr fun i h => by cases h
  | d x =>
    rcases rep_cases (μ := μ) r with ⟨rfl, rfl⟩ | ⟨b, rfl, rfl⟩ | ⟨i, rfl, rfl⟩ | ⟨z, rfl, rfl⟩ | ⟨a, vs, ds, rfl, rfl, h1, h2⟩ | ⟨a, vs, ds, rfl, rfl, h1, h2⟩
    · exact .inr fun i h => by cases h
    · exact .inl ⟨b, rfl, rfl⟩
    · exact .inr fun i h => by cases h
    · exact .inr fun i h => by cases h
    · exact .inr fun i h => by cases h
    · exact .inr fun i h => by cases h
theorem f_isB (neg : Bool) : OpF X Wc (fun x y H Q => ∃ a b : Bool, x = .bl a ∧ y = .bl b ∧ Q (.bl (neg ^^ decide (a = b))) H) (oIsB neg) := by
  intro Fr Hd μ ρ S σ H x y v u Q r ex ey c
  rcases rep_bool ex with ⟨i, rfl, rfl⟩ | n
  · rcases rep_bool ey with ⟨j, rfl, rfl⟩ | n
    · exact ⟨i, j, rfl, rfl, rt r c (Dp.bl _)⟩
    · unfold oIsB at c
      split at c
      · exact absurd rfl (n _)
      · exact c.elim
  · unfold oIsB at c
    split at c
    · exact absurd rfl (n _)
    · exact c.elim
theorem op_isX : OpR X (compareOp .Is) (fun x y H Q => ∃ a b : Bool, x = .bl a ∧ y = .bl b ∧ Q (.bl (false ^^ decide (a = b))) H) := fun pins s σ H x y v u Q I r1 r2 ⟨a, b, h1, h2, q⟩ => op_isBl pins s σ H x y v u Q I r1 r2 ⟨a, b, h1, h2, by rw [Bool.false_xor] at q; exact q⟩
theorem op_notX : OpR X (compareOp .IsNot) (fun x y H Q => ∃ a b : Bool, x = .bl a ∧ y = .bl b ∧ Q (.bl (true ^^ decide (a = b))) H) := fun pins s σ H x y v u Q I r1 r2 ⟨a, b, h1, h2, q⟩ => op_notBl pins s σ H x y v u Q I r1 r2 ⟨a, b, h1, h2, by rw [Bool.true_xor] at q; exact q⟩
theorem q_isB (ha : PE X a (LE X Wc fa)) (hb : PE X b (LE X Wc fb)) : PE X (.Compare a [.Is] [b] pos) (LE X Wc (fBin (oIsB false) fa fb)) := q_cmp op_isX (f_isB false) ha hb (nomark _)
theorem q_notB (ha : PE X a (LE X Wc fa)) (hb : PE X b (LE X Wc fb)) : PE X (.Compare a [.IsNot] [b] pos) (LE X Wc (fBin (oIsB true) fa fb)) := q_cmp op_notX (f_isB true) ha hb (nomark _)
theorem t_isB (ha : PE X a (LE X Wc fa)) (hb : PE X b (LE X Wc fb)) : PT X (.Compare a [.Is] [b] pos) (LB X Wc (fT (fBin (oIsB false) fa fb))) := q_tc op_isX (f_isB false) ha hb (nomark _)
theorem t_notB (ha : PE X a (LE X Wc fa)) (hb : PE X b (LE X Wc fb)) : PT X (.Compare a [.IsNot] [b] pos) (LB X Wc (fT (fBin (oIsB true) fa fb))) := q_tc op_notX (f_isB true) ha hb (nomark _)

/-! ### + of lists -/
def oCat : W → W → List Ob → Res W := fun x y S => match x, y with
  | .d (.list xs), .d (.list ys) => if xs.length + ys.length ≤ 16777216 then .ok (.d (.list (xs ++ ys))) S else .bad
  | _, _ => .bad
/-- a list that stands in the heap itself, no constant of the module's, no script -/
def LstAt (Fr : Hp) (v : V) : Prop := ∃ a vs, v = .ref a ∧ Fr a = some (.lst vs)
/-- list + list where the right one is new -/
def fCatO (fa : FE) (fo : FO) : FE := fun ρ S => (fa ρ S).bind fun x S1 => (fo ρ S1).bind fun o S2 => match x, o with
  | .d (.list xs), .lst ys => (match dats ys with
    | some ds => if xs.length + ds.length ≤ 16777216 then .ok (.d (.list (xs ++ ds))) S2 else .bad
    | none => .bad)
  | _, _ => .bad
/-! ### slices -/
abbrev FP := List Sl → List Ob → Res (Option Int)
abbrev LP (X : Cx) (Wc : WX) (f : FP) : TO := lift X.K X.mg Wc repP f
def fNoP : FP := fun _ S => .ok none S
def fP (fa : FE) : FP := fun ρ S => (fa ρ S).bind fun x S1 => match x with
  | .d (.int i) => .ok (some i) S1
  | _ => .bad
theorem p_none : PO X none (LP X Wc fNoP) := PO.imp po_none fun σ H Q h => by
  obtain ⟨F, D, m, ρ, S, r, c⟩ := h
  exact c F m none H Le.refl (List.prefix_refl m) r rfl
theorem p_some (h : PE X e (LE X Wc fa)) : PO X (some e) (LP X Wc (fP fa)) := PO.imp (po_some h) fun σ H Q h => by
  obtain ⟨F, D, m, ρ, S, r0, c⟩ := h
  refine step r0 c fun F1 m1 x v S1 H1 l1 p1 r1 e1 c1 => ?_
  rcases rep_int e1 with ⟨i, rfl, rfl⟩ | n
  · exact ⟨i, rfl, c1 F1 m1 _ H1 Le.refl (List.prefix_refl m1) r1 rfl⟩
  · split at c1
    · exact absurd rfl (n _)
    · exact c1.elim
/-- a cut of a list -/
def cut {α : Type} (xs : List α) (lo hi : Option Int) : List α := (xs.drop (HT.sIx xs.length 0 lo)).take (HT.sIx xs.length xs.length hi - HT.sIx xs.length 0 lo)
theorem paired_drop {α β : Type} {F : α → β → Prop} : ∀ {l₁ : List α} {l₂ : List β} (n : Nat), Paired F l₁ l₂ → Paired F (l₁.drop n) (l₂.drop n)
  | _, _, 0, h => h
  | _, _, _ + 1, .nil => .nil
  | _, _, n + 1, .cons _ t => paired_drop n t
theorem paired_take {α β : Type} {F : α → β → Prop} : ∀ {l₁ : List α} {l₂ : List β} (n : Nat), Paired F l₁ l₂ → Paired F (l₁.take n) (l₂.take n)
  | _, _, 0, _ => .nil
  | _, _, _ + 1, .nil => .nil
  | _, _, n + 1, .cons r t => .cons r (paired_take n t)
theorem dps_drop {K : PySem.W.Frag} {F : Hp} : ∀ {ds : List PyData} {vs : List V} (n : Nat), DpAll K F vs ds → DpAll K F (vs.drop n) (ds.drop n)
  | _, _, 0, h => h
  | [], _, _ + 1, h => by cases h; exact .nil
  | _ :: _, _, n + 1, h => by cases h with | cons _ t => exact dps_drop n t
theorem dps_take {K : PySem.W.Frag} {F : Hp} : ∀ {ds : List PyData} {vs : List V} (n : Nat), DpAll K F vs ds → DpAll K F (vs.take n) (ds.take n)
  | _, _, 0, h => .nil
  | [], _, _ + 1, h => by cases h; exact .nil
  | _ :: _, _, n + 1, h => by cases h with | cons r t => exact .cons r (dps_take n t)
theorem dps_cut {K : PySem.W.Frag} {F : Hp} {ds : List PyData} {vs : List V} (lo hi : Option Int) (h : DpAll K F vs ds) : DpAll K F (cutV vs lo hi) (cut ds lo hi) := by
  unfold cutV cut
  rw [DpAll.len h]
  exact dps_take _ (dps_drop _ h)
theorem cut_whole {α : Type} {xs : List α} {lo hi : Option Int} (h : HT.sIx xs.length 0 lo = 0 ∧ HT.sIx xs.length xs.length hi = xs.length) : cut xs lo hi = xs := by
  unfold cut
  rw [h.1, h.2]
  simp
def cutOf (x : W) (lo hi : Option Int) (S : List Ob) : Res W := match x with
  | .d (.tuple xs) => .ok (.d (.tuple (cut xs lo hi))) S
  | .d (.list xs) => .ok (.d (.list (cut xs lo hi))) S
  | .d (.str z) => if z.length ≤ 16777216 then .ok (.d (.str (cutS z lo hi))) S else .bad
  | _ => .bad
def fCut (fa : FE) (fl fh : FP) : FE := fun ρ S => (fa ρ S).bind fun x S1 => (fl ρ S1).bind fun lo S2 => (fh ρ S2).bind fun hi S3 => cutOf x lo hi S3
theorem new_lstV {Fr Hd : Hp} {μ : List Addr} {ρ : List Sl} {S : List Ob} {σ : St} {H : Hp} {Q : VK} {ds : List PyData} {vs : List V} {q : Addr} (r : R X.K Fr Hd μ ρ S σ H) (e : DpAll X.K Fr vs ds) (hq : H q = none)
    (c : cont X.K X.mg Wc (repE X.K) Fr Hd μ ρ σ Q (.ok (.d (.list ds)) S)) : Q (.ref q) (upd H q (.lst vs)) := by
  have f := r.new hq
  have le : Le Fr (upd Fr q (.lst vs)) := Le.upd f.fr
  exact c _ μ (.ref q) _ le (List.prefix_refl μ) ((r.upd (o := .lst vs) f).freeze upd_same f) (Dp.lst (.inl (.inl upd_same)) (Le.dps le _ _ e))
variable {p2 : Pos} {lo hi : Option Expr} {flo fh : FP}
theorem q_cut (ha : PE X a (LE X Wc fa)) (hl : PO X lo (LP X Wc flo)) (hh : PO X hi (LP X Wc fh)) : PE X (.Subscript a (.Slice lo hi none p2) pos) (LE X Wc (fCut fa flo fh)) :=
  PE.imp (pe_slice (SlR.or sl_tupA (SlR.or sl_list sl_str)) ha hl hh) fun σ H Q h => by
  obtain ⟨F, D, m, ρ, S, r0, c⟩ := h
  refine step r0 c fun F1 m1 x v S1 H1 l1 p1 r1 e1 c1 => ?_
  refine step r1 c1 fun F2 m2 lo u S2 H2 l2 p2 r2 e2 c2 => ?_
  cases e2
  refine step r2 c2 fun F3 m3 hi u S3 H3 l3 p3 r3 e3 c3 => ?_
  cases e3
  have e1 := RepW.mono (l2.trans l3) (p2.trans p3) e1
  cases x with
  | ref n => exact c3.elim
  | d x =>
    rcases rep_cases (μ := m3) e1 with ⟨rfl, rfl⟩ | ⟨b, rfl, rfl⟩ | ⟨i, rfl, rfl⟩ | ⟨z, rfl, rfl⟩ | ⟨a, vs, ds, rfl, rfl, h1, h2⟩ | ⟨a, vs, ds, rfl, rfl, h1, h2⟩
    · exact c3.elim
    · exact c3.elim
    · exact c3.elim
    · unfold cutOf at c3
      dsimp only at c3
      split at c3
      · rename_i hz
        exact .inr (.inr ⟨z, rfl, by rw [sizeLine_eq]; exact hz, rt r3 c3 (Dp.str _)⟩)
      · exact c3.elim
    · exact .inr (.inl ⟨a, vs, rfl, Le.sqL r3.b.fr h1, fun q hq => new_lstV r3 (dps_cut lo hi h2) hq c3⟩)
    · refine .inl ⟨a, vs, rfl, Le.sqT r3.b.fr h1, fun hw => ?_, fun hw q hq => new_tup r3 (dps_cut lo hi h2) hq c3⟩
      have hw' := hw
      rw [DpAll.len h2] at hw'
      unfold cutOf at c3
      dsimp only at c3
      rw [cut_whole hw'] at c3
      exact rt r3 c3 (Dp.tup h1 h2)

/-! ### isinstance -/
def tyName : PyData → String
  | .none => "NoneType"
  | .bool _ => "bool"
  | .int _ => "int"
  | .str _ => "str"
  | .list _ => "list"
  | .tuple _ => "tuple"
  | .dict _ => "dict"
def wTy (x : W) (S : List Ob) : Option String := match x with
  | .d x => some (tyName x)
  | .ref n => match S[n]? with
    | some (.lst _) => some "list"
    | some (.dct _) => some "dict"
    | some (.fdc _) => none
    | some (.ins _ _) => none
    | some (.dcn _ _) => none
    | none => none
def fIsi (T : String) (fa : FE) : FE := fun ρ S => (fa ρ S).bind fun x S1 => match (wTy x S1).bind fun t => kitB t T with
  | some b => .ok (.d (.bool b)) S1
  | none => .bad
theorem wTy_rep {Fr Hd : Hp} {μ : List Addr} {ρ : List Sl} {S : List Ob} {σ : St} {H : Hp} (r : R X.K Fr Hd μ ρ S σ H) {x : W} {v : V} {t : String} (e : wTy x S = some t) (h : RepW X.K Fr μ x v) : TyX X.K H v (.type t) := by
  have seqT : ∀ {a : Addr} {vs : List V}, SqT X.K H a vs → TyX X.K H (.ref a) (.type "tuple") := fun {a vs} h => by
    rcases h with (h | ⟨o, h⟩) | ⟨o, its, n, h1, h2, _⟩
    · exact .base (.tup h)
    · exact .fTuple h
    · exact .kTuple h1 h2
  have seqL : ∀ {a : Addr} {vs : List V}, SqL X.K H a vs → TyX X.K H (.ref a) (.type "list") := fun {a vs} h => by
    rcases h with (h | ⟨o, h⟩) | ⟨o, its, n, h1, h2, _⟩
    · exact .base (.lst h)
    · exact .base (.frz h)
    · exact .kList h1 h2
  cases x with
  | d x =>
    cases e
    rcases rep_cases (μ := μ) h with ⟨rfl, rfl⟩ | ⟨b, rfl, rfl⟩ | ⟨i, rfl, rfl⟩ | ⟨z, rfl, rfl⟩ | ⟨a, vs, ds, rfl, rfl, h1, h2⟩ | ⟨a, vs, ds, rfl, rfl, h1, h2⟩
    · exact .base .non
    · exact .base (.bl _)
    · exact .base (.int _)
    · exact .base (.str _)
    · exact seqL (Le.sqL r.b.fr h1)
    · exact seqT (Le.sqT r.b.fr h1)
  | ref n =>
    obtain ⟨a, ea, rfl⟩ := h
    unfold wTy at e
    dsimp only at e
    split at e
    · rename_i xs es
      cases e
      obtain ⟨ho, h1, ⟨vs, rfl, q⟩, _⟩ := r.b.st n a _ ea es
      exact .base (.lst h1)
    · rename_i kvs es
      cases e
      obtain ⟨ho, h1, ⟨vs, rfl, q⟩, _⟩ := r.b.st n a _ ea es
      exact .base (.dK h1)
    all_goals cases e
theorem q_isi {T : Str} {n : String} {pt : Pos} (hg : Gl X "isinstance") (hm : X.mg "isinstance" = none) (hgT : Gl X T) (hmT : X.mg T = none) (hvT : bootBuiltins T = some (.type n)) (h : PE X e (LE X Wc fa))
    (hnT : T ≠ "__name__" := by decide) (hdT : (T == ("__debug__" : Str)) = false := by decide) (hs : starEach [e, .Name T pt] X.env = (false, eval e X.env) :: starEach [.Name T pt] X.env := by rfl) (hs2 : starEach [.Name T pt] X.env = (false, eval (.Name T pt) X.env) :: starEach [] X.env := by rfl) (hpl : (backTo pos (starEach [.Name T pt] X.env)).any (·.1) = false := by rfl) :
    PE X (.Call (.Name "isinstance" p) [e, .Name T pt] [] pos) (LE X Wc (fIsi n fa)) :=
  PE.imp (pe_callB call_isi hg hm (by decide +kernel) (pa_cons h (pa_cons (pe_bltn (v := .ty n) hgT hmT hvT rfl hnT hdT) pa_nil hs2) hs) (he := hs) (hpl := hpl)) fun σ H Q h => by
  obtain ⟨F, D, m, ρ, S, r0, c⟩ := h
  refine step r0 c fun F1 m1 x v S1 H1 l1 p1 r1 e1 c1 => ?_
  show rIsi X.K [v, .ty n] H1 Q
  split at c1
  · rename_i b hb
    cases ht : wTy x S1 with
    | none => rw [ht] at hb; cases hb
    | some t =>
      rw [ht] at hb
      exact ⟨v, .ty n, .type t, .type n, b, rfl, .ty n, wTy_rep r1 ht e1, kit_ty hb, rt r1 c1 (Dp.bl _)⟩
  · exact c1.elim
/-- int(..) of an int or a bool, abs, min, max of two ints -/
def toI (x : W) (S : List Ob) : Res W := match x with
  | .d (.int i) => .ok (.d (.int i)) S
  | .d (.bool k) => .ok (.d (.int (if k then 1 else 0))) S
  | _ => .bad
def fInt (fa : FE) : FE := fun ρ S => (fa ρ S).bind toI
theorem q_toI (hg : Gl X "int") (hm : X.mg "int" = none) (h : PE X e (LE X Wc fa)) (hs : starEach [e] X.env = (false, eval e X.env) :: starEach [] X.env := by rfl) (hpl : (backTo pos (starEach [] X.env)).any (·.1) = false := by rfl) : PE X (.Call (.Name "int" p) [e] [] pos) (LE X Wc (fInt fa)) :=
  PE.imp (pe_callTy call_int1 hg hm (by decide +kernel) (pa_cons h pa_nil hs) (he := hs) (hpl := hpl)) fun σ H Q h => by
  obtain ⟨F, D, m, ρ, S, r0, c⟩ := h
  refine step r0 c fun F1 m1 x v S1 H1 l1 p1 r1 e1 c1 => ?_
  rcases rep_int e1 with ⟨i, rfl, rfl⟩ | n
  · exact .inl ⟨i, rfl, rt r1 c1 (Dp.int _)⟩
  · rcases rep_bool e1 with ⟨i, rfl, rfl⟩ | n2
    · exact .inr ⟨i, rfl, rt r1 c1 (Dp.int _)⟩
    · unfold toI at c1
      split at c1
      · exact absurd rfl (n _)
      · exact absurd rfl (n2 _)
      · exact c1.elim
def oAbs (x : W) (S : List Ob) : Res W := match x with
  | .d (.int i) => .ok (.d (.int (if i < 0 then -i else i))) S
  | _ => .bad
theorem q_abs (hg : Gl X "abs") (hm : X.mg "abs" = none) (h : PE X e (LE X Wc fa)) (hs : starEach [e] X.env = (false, eval e X.env) :: starEach [] X.env := by rfl) (hpl : (backTo pos (starEach [] X.env)).any (·.1) = false := by rfl) : PE X (.Call (.Name "abs" p) [e] [] pos) (LE X Wc (fUn oAbs fa)) :=
  PE.imp (pe_callB call_abs hg hm (by decide +kernel) (pa_cons h pa_nil hs) (he := hs) (hpl := hpl)) fun σ H Q h => by
  obtain ⟨F, D, m, ρ, S, r0, c⟩ := h
  refine step r0 c fun F1 m1 x v S1 H1 l1 p1 r1 e1 c1 => ?_
  rcases rep_int e1 with ⟨i, rfl, rfl⟩ | n
  · exact ⟨i, rfl, rt r1 c1 (Dp.int _)⟩
  · unfold oAbs at c1
    split at c1
    · exact absurd rfl (n _)
    · exact c1.elim
abbrev oMin := oI yes fun i j => .int (if j < i then j else i)
abbrev oMax := oI yes fun i j => .int (if j > i then j else i)
theorem bin_call {C : Int → Int → Bool} {g : Int → Int → PyData} {g' : Int → Int → V} (hg : ∀ (F : Hp) i j, Dp X.K F (g' i j) (g i j)) {σ : St} {H : Hp} {Q : VK} (h : LE X Wc (fBin (oI C g) fa fb) σ H Q) :
    tCB (fun xs H Q => ∃ i j, xs = [.int i, .int j] ∧ Q (g' i j) H) (tCons (LE X Wc fa) (tCons (LE X Wc fb) tNil)) σ H Q := by
  obtain ⟨F, D, m, ρ, S, r0, c⟩ := h
  refine step r0 c fun F1 m1 x v S1 H1 l1 p1 r1 e1 c1 => ?_
  refine step r1 c1 fun F2 m2 y u S2 H2 l2 p2 r2 e2 c2 => ?_
  obtain ⟨i, j, k1, k2, q⟩ := f_int0 hg F2 D m2 ρ S2 σ H2 x y v u Q r2 (RepW.mono l2 p2 e1) e2 c2
  exact ⟨i, j, by rw [k1, k2], q⟩
theorem q_min2 (hc : X.calm = true) (hg : Gl X "min") (hm : X.mg "min" = none) (h : PE X e (LE X Wc fa)) (h2 : PE X e2 (LE X Wc fb)) (hs : starEach [e, e2] X.env = (false, eval e X.env) :: starEach [e2] X.env := by rfl) (hs2 : starEach [e2] X.env = (false, eval e2 X.env) :: starEach [] X.env := by rfl) (hpl : (backTo pos (starEach [e2] X.env)).any (·.1) = false := by rfl) :
    PE X (.Call (.Name "min" p) [e, e2] [] pos) (LE X Wc (fBin oMin fa fb)) := PE.imp (pe_callB (call_min2 hc) hg hm (by decide +kernel) (pa_cons h (pa_cons h2 pa_nil hs2) hs) (he := hs) (hpl := hpl)) fun σ H Q h => bin_call (g' := fun i j => .int (if j < i then j else i)) (fun _ _ _ => .int _) h
theorem q_max2 (hc : X.calm = true) (hg : Gl X "max") (hm : X.mg "max" = none) (h : PE X e (LE X Wc fa)) (h2 : PE X e2 (LE X Wc fb)) (hs : starEach [e, e2] X.env = (false, eval e X.env) :: starEach [e2] X.env := by rfl) (hs2 : starEach [e2] X.env = (false, eval e2 X.env) :: starEach [] X.env := by rfl) (hpl : (backTo pos (starEach [e2] X.env)).any (·.1) = false := by rfl) :
    PE X (.Call (.Name "max" p) [e, e2] [] pos) (LE X Wc (fBin oMax fa fb)) := PE.imp (pe_callB (call_max2 hc) hg hm (by decide +kernel) (pa_cons h (pa_cons h2 pa_nil hs2) hs) (he := hs) (hpl := hpl)) fun σ H Q h => bin_call (g' := fun i j => .int (if j > i then j else i)) (fun _ _ _ => .int _) h

/-! ### objects of the store -/
/-- a new object goes to the store -/
def fSto (fo : FO) : FE := fun ρ S => (fo ρ S).bind fun o S1 => .ok (.ref S1.length) (S1 ++ [o])
theorem R.stoT {Fr Hd : Hp} {μ : List Addr} {ρ : List Sl} {S : List Ob} {σ : St} {H : Hp} {q : Addr} {o : Ob} {ho : HO} (r : R X.K Fr Hd μ ρ S σ H) (h : H q = some ho) (eT : RepT X.K Fr μ q o ho) (eN : frO o ho = none) (f : Free Fr Hd μ ρ σ q) : R X.K Fr Hd (μ ++ [q]) ρ (S ++ [o]) σ H := by
  have pre : μ <+: μ ++ [q] := List.prefix_append μ [q]
  have hl := r.b.len
  refine ⟨⟨r.b.fr, r.b.hd, by simp [hl], fun n a x e1 e2 => ?_, ?_⟩, r.s.len, fun i x ei => ?_, r.s.inj⟩
  · by_cases hn : n < μ.length
    · rw [List.getElem?_append_left hn] at e1
      rw [List.getElem?_append_left (by omega)] at e2
      obtain ⟨h1, k1, k2, k3⟩ := r.b.st n a x e1 e2
      exact ⟨h1, k1, k2.mono Le.refl pre, k3⟩
    · rw [List.getElem?_append_right (by omega)] at e1
      rw [List.getElem?_append_right (by omega)] at e2
      have hz : n - μ.length = 0 := by
        cases z : n - μ.length with
        | zero => rfl
        | succ k => rw [z] at e1; simp at e1
      rw [hz] at e1
      rw [← hl, hz] at e2
      cases e1
      cases e2
      exact ⟨ho, h, eT.mono Le.refl pre, f.fr.trans eN.symm, f.hd⟩
  · refine List.nodup_append.mpr ⟨r.b.nd, by simp, fun a ha b hb => ?_⟩
    simp at hb
    subst hb
    exact fun z => f.mu (z ▸ ha)
  · have k := r.s.sl i x ei
    cases x with
    | un => trivial
    | w x => obtain ⟨u, e1, e2⟩ := k; exact ⟨u, e1, e2.mono Le.refl pre⟩
    | own x =>
      obtain ⟨a, h1, e1, e2, e3, e4, e5, e6⟩ := k
      refine ⟨a, h1, e1, e2, e3.mono Le.refl pre, e4, e5, fun hm => ?_⟩
      rcases List.mem_append.mp hm with hm | hm
      · exact e6 hm
      · simp at hm
        subst hm
        exact f.ow i ⟨⟨x, ei⟩, e1⟩
theorem R.sto {Fr Hd : Hp} {μ : List Addr} {ρ : List Sl} {S : List Ob} {σ : St} {H : Hp} {q : Addr} {o : Ob} {ho : HO} (r : R X.K Fr Hd μ ρ S σ H) (h : H q = some ho) (e : RepO X.K Fr μ o ho) (f : Free Fr Hd μ ρ σ q) : R X.K Fr Hd (μ ++ [q]) ρ (S ++ [o]) σ H := r.stoT h (RepO.toT (a := q) e).1 (RepO.toT (a := q) e).2 f
theorem q_sto (h : PE X e (LO X Wc fo)) : PE X e (LE X Wc (fSto fo)) := PE.imp h fun σ H Q h => by
  obtain ⟨F, D, m, ρ, S, r0, c⟩ := h
  refine step r0 c fun F1 m1 x v S1 H1 l1 p1 r1 e1 c1 => ?_
  obtain ⟨q, ho, rfl, h1, h2, h3⟩ := e1
  refine c1 F1 (m1 ++ [q]) (.ref q) H1 Le.refl (List.prefix_append m1 [q]) (r1.sto h1 h2 h3) ⟨q, ?_, rfl⟩
  rw [← r1.b.len]
  simp
/-- the n-th object of the store is written -/
theorem R.putT {Fr Hd : Hp} {μ : List Addr} {ρ : List Sl} {S : List Ob} {σ : St} {H : Hp} {n : Nat} {a : Addr} {o : Ob} {ho : HO} (r : R X.K Fr Hd μ ρ S σ H) (ea : μ[n]? = some a) (hf : Fr a = none) (eT : RepT X.K Fr μ a o ho) (eN : frO o ho = none) : R X.K Fr Hd μ ρ (S.set n o) σ (L2.upd H a ho) := by
  have ha : a ∈ μ := List.mem_of_getElem? ea
  obtain ⟨_, _, _, hh, _⟩ := r.b.muH ha
  refine ⟨⟨fun b u q => ?_, fun b u q => ⟨?_, (r.b.hd b u q).2⟩, by simp [r.b.len], fun k b x e1 e2 => ?_, r.b.nd⟩, r.s.len, fun i x ei => ?_, r.s.inj⟩
  · rw [upd_ne (ne_of_none q hf)]; exact r.b.fr b u q
  · rw [upd_ne (ne_of_none q hh)]; exact (r.b.hd b u q).1
  · by_cases q : n = k
    · subst q
      rw [ea] at e1
      cases e1
      have hn : n < S.length := by rw [← r.b.len]; exact (List.getElem?_eq_some_iff.mp ea).1
      rw [List.getElem?_set_self hn] at e2
      cases e2
      exact ⟨ho, upd_same, eT, hf.trans eN.symm, hh⟩
    · rw [List.getElem?_set_ne q] at e2
      obtain ⟨h1, k1, k2⟩ := r.b.st k b x e1 e2
      refine ⟨h1, ?_, k2⟩
      rw [upd_ne]
      · exact k1
      · rintro rfl
        obtain ⟨hn, en⟩ := List.getElem?_eq_some_iff.mp ea
        obtain ⟨hk, ek⟩ := List.getElem?_eq_some_iff.mp e1
        exact q ((List.getElem_inj r.b.nd).mp (en.trans ek.symm))
  · have k := r.s.sl i x ei
    cases x with
    | un => trivial
    | w x => exact k
    | own x =>
      obtain ⟨b, h1, e1, e2, rest⟩ := k
      refine ⟨b, h1, e1, ?_, rest⟩
      rw [upd_ne]
      · exact e2
      · rintro rfl; exact rest.2.2.2 ha
theorem R.put {Fr Hd : Hp} {μ : List Addr} {ρ : List Sl} {S : List Ob} {σ : St} {H : Hp} {n : Nat} {a : Addr} {o : Ob} {ho : HO} (r : R X.K Fr Hd μ ρ S σ H) (ea : μ[n]? = some a) (hf : Fr a = none) (e : RepO X.K Fr μ o ho) : R X.K Fr Hd μ ρ (S.set n o) σ (L2.upd H a ho) := r.putT ea hf (RepO.toT (a := a) e).1 (RepO.toT (a := a) e).2
/-- x[i] = v of a list of the store -/
def setIxS (v x y : W) (ρ : List Sl) (S : List Ob) : Fl := match x, y with
  | .ref n, .d (.int k) => (match S[n]? with
    | some (.lst xs) => (match ixN xs.length k with
      | some j => .nx ρ (S.set n (.lst (xs.set j v)))
      | none => .bad)
    | _ => .bad)
  | _, _ => .bad
def fSetIx (fv fx fy : FE) : FT := fun ρ S => fl (fv ρ S) ρ fun v S1 => fl (fx ρ S1) ρ fun x S2 => fl (fy ρ S2) ρ fun y S3 => setIxS v x y ρ S3
theorem paired_set {α β : Type} {F : α → β → Prop} {a : α} {b : β} (r : F a b) : ∀ {l₁ : List α} {l₂ : List β} (i : Nat), Paired F l₁ l₂ → Paired F (l₁.set i a) (l₂.set i b)
  | _, _, _, .nil => .nil
  | _, _, 0, .cons _ t => .cons r t
  | _, _, i + 1, .cons q t => .cons q (paired_set r i t)
theorem s_setIx {o i v : Expr} {fv fx fy : FE} {tpos : Pos} (hv : PE X v (LE X Wc fv)) (ho : PE X o (LE X Wc fx)) (hi : PE X i (LE X Wc fy)) (hs : swapsWithSole [.Subscript o i tpos] v pos.line X.env = pure false := by rfl) (hw : swappedStores [.Subscript o i tpos] v X.env = pure none := by rfl)
    (h1 : (assignEach [.Subscript o i tpos] X.env).map (·.2) = [assign (.Subscript o i tpos) X.env] := by rfl) (ha : ∀ v, assign (.Subscript o i tpos) X.env v = (do
      let ov ← holding [v] (eval o X.env)
      let iv ← holding [v, ov] (eval i X.env)
      standAt tpos
      holding [v, ov, iv] (setItem ov iv v)
      release [v, ov, iv] []) := by intro _; rfl) : PS X (.Assign [.Subscript o i tpos] v pos) (LS X Wc (fSetIx fv fx fy)) :=
  PS.imp (ps_asg hv (pg_sub ho hi set_list ha) hs hw h1) fun D σ H h => by
  obtain ⟨F, Hd, m, ρ, S, r, c⟩ := h
  refine stepS r c fun F1 m1 v vv S1 H1 l1 p1 r1 e1 c1 => ?_
  show LE X Wc fx σ H1 _
  refine stepS r1 c1 fun F2 m2 x vx S2 H2 l2 p2 r2 e2 c2 => ?_
  refine stepS r2 c2 fun F3 m3 y vy S3 H3 l3 p3 r3 e3 c3 => ?_
  rcases rep_int e3 with ⟨k, rfl, rfl⟩ | n
  · cases x with
    | d x => exact c3.elim
    | ref n =>
      obtain ⟨a, ea, rfl⟩ := e2
      have ea := pre_get p3 ea
      unfold setIxS at c3
      dsimp only at c3
      split at c3
      · rename_i xs es
        split at c3
        · rename_i j ej
          obtain ⟨ho, h1, ⟨vs, rfl, q⟩, hfr, _⟩ := r3.b.st n a _ ea es
          have ev : RepW X.K F3 m3 v vv := RepW.mono (l2.trans l3) (p2.trans p3) e1
          refine ⟨a, vs, k, j, rfl, rfl, h1, by rw [← Paired.length q]; exact ej, ?_⟩
          exact c3 F3 m3 σ _ Le.refl (List.prefix_refl m3) (r3.put ea hfr ⟨_, rfl, paired_set ev j q⟩)
        · exact c3.elim
      · exact c3.elim
  · unfold setIxS at c3
    split at c3
    · exact absurd rfl (n _)
    · exact c3.elim
end
end L2.Q
/-! Layer Q, part I: + of lists, repetition, sorted, append, pop, extend, zip, several targets at once. -/
namespace L2.Q
open PySem PySem.Spec PyProof.Rows

section
variable {X : Cx} {Wc : WX} {a b e e2 : Expr} {es : List Expr} {pos p : Pos} {fa fb : FE} {fo fo2 : FO} {fl1 : FA} {fr : FA}
/-- list + list -/
def rCatS (K : PySem.W.Frag) : R2 := fun x y H Q => ∃ l b xs zs, x = .ref l ∧ y = .ref b ∧ SqL K H l xs ∧ SqL K H b zs ∧ xs.length + zs.length ≤ sizeLine ∧ ∀ p, H p = none → Q (.ref p) (upd H p (.lst (xs ++ zs)))
theorem op_catS : OpR X (binaryOp .Add) (rCatS X.K) := by
  intro pins s σ H x y v u Q I rx ry h
  obtain ⟨l, b, xs, zs, rfl, rfl, hH, hB, hz, q⟩ := h
  cases rx
  cases ry
  obtain ⟨its, r, p1, z⟩ := I.list hH
  obtain ⟨its2, r2, p2, z2⟩ := I.list hB
  have e1 := r.length
  have e2 := r2.length
  obtain ⟨⟨cls, dd, data, sl⟩, n, ho, hc, hdd, hd⟩ := p1
  obtain ⟨⟨cls2, dd2, data2, sl2⟩, n2, ho2, hc2, hdd2, hd2⟩ := p2
  simp only at hc hd hc2 hd2
  subst hc hd hc2 hd2
  refine concat_meets ⟨_, ho, rfl⟩ ⟨_, ho2, rfl⟩ noFill_list_add seq_list_add PySem.F.slot_list_add PySem.F.entry_list_add (PySem.F.args_list_add_2 _ _) (list_addW l b its.toArray its2.toArray n n2 dd dd2 sl sl2 (by simp; omega)) ⟨ho, ho2, ?_⟩
  have ea : its.toArray ++ its2.toArray = (its ++ its2).toArray := by simp
  rw [ea]
  exact ⟨.ref _, _, I.lnew (t' := s.toks) (r.append r2) (by rw [List.length_append]; omega), rfl, q _ I.fresh⟩
/-- + of ints, tuples, lists -/
def oAddA : W → W → List Ob → Res W := fun x y S => match x, y with
  | .d (.list xs), .d (.list ys) => if xs.length + ys.length ≤ 16777216 then .ok (.d (.list (xs ++ ys))) S else .bad
  | x, y => oAdd x y S
theorem f_addA : OpF X Wc (fun x y H Q => rCatS X.K x y H Q ∨ (rI0 (fun i j => .int (i + j)) x y H Q ∨ rCatA X.K x y H Q)) oAddA := by
  intro Fr Hd μ ρ S σ H x y v u Q r ex ey c
  unfold oAddA at c
  split at c
  · rename_i xs ys
    split at c
    · rename_i hl
      cases ex with
      | @lst a vs _ h1 h2 =>
        cases ey with
        | @lst b us _ k1 k2 =>
          have e1 := DpAll.len h2
          have e2 := DpAll.len k2
          exact .inl ⟨a, b, vs, us, rfl, rfl, Le.sqL r.b.fr h1, Le.sqL r.b.fr k1, by rw [sizeLine_eq]; omega, fun q hq => new_lstV r (dps_app h2 k2) hq c⟩
    · exact c.elim
  · exact .inr (f_add Fr Hd μ ρ S σ H _ _ v u Q r ex ey c)
theorem q_add (ha : PE X a (LE X Wc fa)) (hb : PE X b (LE X Wc fb)) : PE X (.BinOp a .Add b pos) (LE X Wc (fBin oAddA fa fb)) := q_op (OpR.or op_catS op_addQ) f_addA ha hb
/-- a new list times an int -/
def oRep (o : Ob) (y : W) (S : List Ob) : Res Ob := match o, y with
  | .lst xs, .d (.int k) => if -(2 ^ 63) ≤ k ∧ k < 2 ^ 63 ∧ xs.length * k.toNat ≤ 16777216 then .ok (.lst (List.replicate k.toNat xs).flatten) S else .bad
  | _, _ => .bad
def fRep (fo : FO) (fb : FE) : FO := fun ρ S => (fo ρ S).bind fun o S1 => (fb ρ S1).bind fun y S2 => oRep o y S2
theorem paired_app {α β : Type} {F : α → β → Prop} : ∀ {l₁ m₁ : List α} {l₂ m₂ : List β}, Paired F l₁ l₂ → Paired F m₁ m₂ → Paired F (l₁ ++ m₁) (l₂ ++ m₂)
  | _, _, _, _, .nil, k => k
  | _, _, _, _, .cons r t, k => .cons r (paired_app t k)
theorem paired_rep {α β : Type} {F : α → β → Prop} {l₁ : List α} {l₂ : List β} (h : Paired F l₁ l₂) : ∀ n : Nat, Paired F (List.replicate n l₁).flatten (List.replicate n l₂).flatten
  | 0 => .nil
  | n + 1 => by
    rw [List.replicate_succ, List.replicate_succ, List.flatten_cons, List.flatten_cons]
    exact paired_app h (paired_rep h n)
theorem q_rep (ha : PE X a (LO X Wc fo)) (hb : PE X b (LE X Wc fb)) : PE X (.BinOp a .Mult b pos) (LO X Wc (fRep fo fb)) := PE.imp (pe_op op_rep ha hb) fun σ H Q h => by
  obtain ⟨F, D, m, ρ, S, r0, c⟩ := h
  refine step r0 c fun F1 m1 o v S1 H1 l1 p1 r1 e1 c1 => ?_
  obtain ⟨q, ho, rfl, h1, h2, h3⟩ := e1
  have r1' := r1.hide h1 h3
  have go : lift X.K X.mg Wc (repE X.K) fb σ H1 fun y H2 => rRep (.ref q) y H2 Q := by
    refine ⟨F1, upd D q ho, m1, ρ, S1, r1', ?_⟩
    cases z : fb ρ S1 with
    | bad => rw [z] at c1; exact c1.elim
    | err w S2 => rw [z] at c1; exact fun F2 m2 C H2 l2 p2 r2 hc => c1 F2 m2 C H2 l2 p2 (r2.unhide (Le.upd h3.hd)) hc
    | ok y S2 =>
      rw [z] at c1
      intro F2 m2 v2 H2 l2 p2 r2 e2
      have c1 : cont X.K X.mg Wc (repO X.K) F1 D m1 ρ σ Q (oRep o y S2) := c1
      have hH := r2.b.hd q ho upd_same
      have r3 := r2.unhide (Le.upd (o := ho) h3.hd)
      rcases rep_int e2 with ⟨k, rfl, rfl⟩ | n
      · cases o with
        | dct kvs => exact c1.elim
        | fdc kvs => exact c1.elim
        | ins c fs => exact c1.elim
        | dcn fz kvs => exact c1.elim
        | lst xs =>
          obtain ⟨vs, rfl, k2⟩ := h2
          unfold oRep at c1
          dsimp only at c1
          split at c1
          · rename_i hk
            have el := Paired.length k2
            refine ⟨q, k, vs, rfl, rfl, hH.1, hk.1, hk.2.1, by rw [sizeLine_eq, ← el]; exact hk.2.2, fun z hz => ?_⟩
            have c2 := cont.mono (Wc := Wc) l2 p2 (fun _ _ z => z) c1
            exact new_lst r3 (paired_rep (RepWs.mono l2 p2 k2) k.toNat) hz c2
          · exact c1.elim
      · unfold oRep at c1
        split at c1
        · exact absurd rfl (n _)
        · exact c1.elim
  exact go
/-! ### sorted -/
def alikes : List PyData → Bool
  | [] => true
  | x :: r => PySem.W.alike x x && r.all (fun y => PySem.W.alike x y && PySem.W.alike y x) && alikes r
theorem alikes_ok : ∀ {ds : List PyData}, alikes ds = true → PySem.W.AllAlike ds
  | [], _ => fun d h => by cases h
  | x :: r, h => fun d hd d' hd' => by
    unfold alikes at h
    rw [Bool.and_eq_true, Bool.and_eq_true, List.all_eq_true] at h
    obtain ⟨⟨h0, h1⟩, h2⟩ := h
    have rest := alikes_ok h2
    rcases List.mem_cons.mp hd with e | k
    · subst e
      rcases List.mem_cons.mp hd' with e | k'
      · subst e; exact h0
      · have := h1 d' k'; rw [Bool.and_eq_true] at this; exact this.1
    · rcases List.mem_cons.mp hd' with e | k'
      · subst e; have := h1 d k; rw [Bool.and_eq_true] at this; exact this.2
      · exact rest d k d' k'
def isTupD : PyData → Bool
  | .tuple (_ :: _) => true
  | _ => false
def noTupD : PyData → Bool
  | .none => false
  | .tuple _ => false
  | _ => true
def sortableD (ds : List PyData) : Bool := ds.all isTupD || ds.all noTupD
theorem sortable_ok {ds : List PyData} (h : sortableD ds = true) : PySem.W.Sortable ds := by
  unfold sortableD at h
  rw [Bool.or_eq_true, List.all_eq_true, List.all_eq_true] at h
  rcases h with h | h
  · refine .inl fun d hd => ?_
    have := h d hd
    unfold isTupD at this
    split at this
    · exact ⟨_, _, rfl⟩
    · cases this
  · refine .inr fun d hd => ?_
    have := h d hd
    constructor
    · intro e
      subst e
      simp [noTupD] at this
    · intro xs e
      subst e
      simp [noTupD] at this
def sortD (ds : List PyData) : List PyData := ds.mergeSort (PySem.W.dataLe false id)
def srt (xs : List W) (S : List Ob) : Res W := match dats xs with
  | some ds => if alikes ds = true ∧ sortableD ds = true ∧ ds.all (fun d => decide (d.depth ≤ 64)) = true then .ok (.d (.list (sortD ds))) S else .bad
  | none => .bad
def fSrt (f : FA) : FE := fun ρ S => (f ρ S).bind srt
def rSrt (K : PySem.W.Frag) : List V → Hp → VK → Prop := fun vs H Q => ∃ (a : Addr) (xs : List V) (ds : List PyData) (F : Hp), vs = [V.ref a] ∧ SqL K H a xs ∧ Le F H ∧ DpAll K F xs ds ∧ PySem.W.AllAlike ds ∧ PySem.W.Sortable ds ∧ (∀ d ∈ ds, d.depth ≤ 64) ∧
  ∀ (ys : List V) (p : Addr), DpAll K F ys (sortD ds) → H p = none → Q (.ref p) (upd H p (.lst ys))
theorem each_of {K : PySem.W.Frag} {H : Hp} : ∀ {ds : List PyData} {xs : List V} {us : List Value}, DpAll K H xs ds → Vals xs us → PySem.W.EachIs (fun (u : Value) (d : PyData) => ∃ x, RelV x u ∧ Dp K H x d) us ds
  | [], _, _, h, r => by cases h; cases r; exact .nil
  | d :: ds, _, _, h, r => by
    cases h with
    | cons h1 h2 =>
      cases r with
      | cons r1 r2 => exact .cons ⟨_, r1, h1⟩ (each_of h2 r2)
theorem of_each {K : PySem.W.Frag} {H : Hp} : ∀ {ds : List PyData} {us : List Value}, PySem.W.EachIs (fun (u : Value) (d : PyData) => ∃ x, RelV x u ∧ Dp K H x d) us ds → ∃ xs, Vals xs us ∧ DpAll K H xs ds
  | [], _, h => by cases h; exact ⟨[], .nil, .nil⟩
  | d :: ds, _, h => by
    cases h with
    | cons h1 h2 =>
      obtain ⟨x, r, k⟩ := h1
      obtain ⟨xs, r2, k2⟩ := of_each h2
      exact ⟨x :: xs, .cons r r2, .cons k k2⟩
theorem cr_srt (hu : X.A.units + 200 < cLine) : CallR X (.builtin "sorted") (rSrt X.K) := by
  intro pins s σ H vs us Q I r h
  obtain ⟨a, xs, ds, F, rfl, hs, le, hd, ha, hk, hdep, q⟩ := h
  obtain ⟨its, rv, hl, hz⟩ := I.list hs
  rw [Vals.ref1 r]
  have e := each_of hd rv
  have el := DpAll.len hd
  have er : PySem.W.EachIs (fun v b => ∃ as, Reads s.heap v (id b) as) its ds := e.mono fun u d ⟨x, r1, h1⟩ => Dp.reads I d x u (Le.dp le _ _ h1) r1
  refine PySem.W.sorted_data (enc := id) hl.isList e er (by rw [List.map_id]; exact ha) (by rw [List.map_id]; exact hk) (by omega) (fun d hd => ?_) fun out ho eo => ?_
  · have := hdep d hd
    show X.A.units + 2 + d.depth < cLine
    omega
  · obtain ⟨ys, ry, ky⟩ := of_each eo
    obtain ⟨ep, he'⟩ := PyProof.Rows.sortedAll_at s.heap its out.toArray
    have h1 := ry.length
    have hlen : ys.length ≤ sizeLine := by omega
    exact ⟨.ref _, upd H (s.heap.objs.size + 1) (.lst ys), I.laid (t' := s.toks) (fun _ _ => PyProof.Rows.sortedAll_old) (Nat.le_succ _) ⟨hlen, out, ep, ry, he'⟩, rfl, q ys _ ky (I.hok.fresh (Nat.le_succ _))⟩
theorem q_srt (hu : X.A.units + 200 < cLine) (hg : Gl X "sorted") (hm : X.mg "sorted" = none) (h : PE X e (LL X Wc fl1)) (hs : starEach [e] X.env = (false, eval e X.env) :: starEach [] X.env := by rfl) (hpl : (backTo pos (starEach [] X.env)).any (·.1) = false := by rfl) : PE X (.Call (.Name "sorted" p) [e] [] pos) (LE X Wc (fSrt fl1)) :=
  PE.imp (pe_callB (cr_srt hu) hg hm (by decide +kernel) (pa_cons h pa_nil hs) (he := hs) (hpl := hpl)) fun σ H Q h => by
  obtain ⟨F, D, m, ρ, S, r0, c⟩ := h
  refine step r0 c fun F1 m1 xs v S1 H1 l1 p1 r1 e1 c1 => ?_
  obtain ⟨a, vs, rfl, e2, e3⟩ := e1
  unfold srt at c1
  cases z : dats xs with
  | none => rw [z] at c1; exact c1.elim
  | some ds =>
    rw [z] at c1
    dsimp only at c1
    split at c1
    · rename_i hh
      have hd := dats_rep z e3
      refine ⟨a, vs, ds, F1, rfl, e2, r1.b.fr, hd, alikes_ok hh.1, sortable_ok hh.2.1, fun d hd => of_decide_eq_true (List.all_eq_true.mp hh.2.2 d hd), fun ys q hys hq => ?_⟩
      exact new_lstV r1 hys hq c1
    · exact c1.elim
end
end L2.Q
/-! Layer Q, part J: try with several clauses, named or not; isinstance of the caught error. -/
namespace L2.Q
open PySem PySem.Spec PyProof.Rows

/-- a clause: its class, the slot of its name, its suite -/
structure Cl where
  c : Value
  slot : Option Nat
  ts : Addr → Value → Option Addr → TS
def endsAt (o : Option Nat) (D : Ends) : Ends := match o with
  | none => D
  | some i => { nx := fun s h => D.nx (s.set i none) h, rt := D.rt, bk := fun s h => D.bk (s.set i none) h, ct := fun s h => D.ct (s.set i none) h }
def slotAt (o : Option Nat) (s : St) (a : Addr) : St := match o with
  | none => s
  | some i => s.set i (some (.ref a))
/-- what the clauses want of an error -/
def wCl (K : PySem.W.Frag) (Wout : WX) (D : Ends) : List Cl → WX
  | [] => Wout
  | k :: r => fun cls d s h => ∃ b, PySem.W.exmOne K cls k.c = some b ∧ (b = true → ∀ a, h a = none → k.ts a cls d (endsAt k.slot D) (slotAt k.slot s a) h) ∧ (b = false → wCl K Wout D r cls d s h)
/-- a clause of the text -/
inductive ClOk (X : Cx) : ExceptHandler → Cl → Prop
  | plain {x : Str} {c : Value} {ts : Addr → Value → Option Addr → TS} {b : Stmt} {bs : List Stmt} {q q' : Pos} (hc : Names X x c)
      (hb : ∀ (a : Addr) (o : Obj) (cls : Value) (d : Option Addr) (pn : List (Addr × Obj)), Zc cls d o → (∃ vs, o.data = .fields vs) → PSs (X.suite a ((a, o) :: pn)) (b :: bs) (ts a cls d)) :
      ClOk X (.ExceptHandler (some (.Name x q)) none (b :: bs) q') ⟨c, none, ts⟩
  | named {x n : Str} {i : Nat} {c : Value} {ts : Addr → Value → Option Addr → TS} {b : Stmt} {bs : List Stmt} {q q' : Pos} (hc : Names X x c) (hi : X.N[i]? = some n) (hn : X.env.kindOf n = some .local)
      (hb : ∀ (a : Addr) (o : Obj) (cls : Value) (d : Option Addr) (pn : List (Addr × Obj)), Zc cls d o → (∃ vs, o.data = .fields vs) → PSs (X.suite a ((a, o) :: pn)) (b :: bs) (ts a cls d)) :
      ClOk X (.ExceptHandler (some (.Name x q)) (some n) (b :: bs) q') ⟨c, some i, ts⟩
inductive ClsOk (X : Cx) : List ExceptHandler → List Cl → Prop
  | nil : ClsOk X [] []
  | cons {e : ExceptHandler} {k : Cl} {es : List ExceptHandler} {ks : List Cl} : ClOk X e k → ClsOk X es ks → ClsOk X (e :: es) (k :: ks)
section
variable {X : Cx} {Wout : WX}
/-- back from a suite: the end, with the clause's name forgotten -/
theorem sp_back {a : Addr} {q : Addr × Obj} {pins : List (Addr × Obj)} {D : Ends} {f : Flow} {s : Shared} (ok : X.Ok) (h : SP (X.suite a (q :: (X.pn ++ pins))) [] D f s) : SP X pins D f s := by
  cases f with
  | next => exact let ⟨s1, h1, I, z⟩ := h; ⟨s1, h1, I.unsuite ok, z⟩
  | brk => exact let ⟨s1, h1, I, z⟩ := h; ⟨s1, h1, I.unsuite ok, z⟩
  | cont => exact let ⟨s1, h1, I, z⟩ := h; ⟨s1, h1, I.unsuite ok, z⟩
  | ret u => exact let ⟨v, s1, h1, I, e, z⟩ := h; ⟨v, s1, h1, I.unsuite ok, e, z⟩
theorem sp_tried {xe : Value → Shared → Prop} {pins : List (Addr × Obj)} {D : Ends} {f : Flow} {s : Shared} (ok : X.Ok) (h : SP (X.tr (X.pn ++ pins) xe) [] D f s) : SP X pins D f s := by
  cases f with
  | next => exact let ⟨s1, h1, I, z⟩ := h; ⟨s1, h1, I.ofTry ok, z⟩
  | brk => exact let ⟨s1, h1, I, z⟩ := h; ⟨s1, h1, I.ofTry ok, z⟩
  | cont => exact let ⟨s1, h1, I, z⟩ := h; ⟨s1, h1, I.ofTry ok, z⟩
  | ret u => exact let ⟨v, s1, h1, I, e, z⟩ := h; ⟨v, s1, h1, I.ofTry ok, e, z⟩
theorem ps_try_cl {body : List Stmt} {e₀ : ExceptHandler} {es : List ExceptHandler} {ks : List Cl} {pos : Pos} {tb : WX → TS} (hs : X.stack = X.env :: X.outer) (hf : X.env.frame = some X.env.locals) (hN : X.N.Nodup) (tk : Takes X Wout)
    (hb : ∀ (W : WX) (pn : List (Addr × Obj)) (xe : Value → Shared → Prop), Takes (X.tr pn xe) W → PassesOwn (model X.prog X.w) X.A X.env xe → PSs (X.tr pn xe) body (tb W))
    (hk : ClsOk X (e₀ :: es) ks) : PS X (.Try body (e₀ :: es) [] [] pos) (fun D s h => tb (wCl X.K Wout D ks) D s h) := by
  refine ⟨fun pins s σ H D I start => ?_⟩
  have ok := I.ok
  have frames : X.A.frames = some (X.env :: X.outer) := ok.frames.trans (by rw [hs])
  refine wpAny_Try_except (wpAny_mono ((hb (wCl X.K Wout D ks) (X.pn ++ pins) _ (fun u t air => ?_) PassesOwn.looking).run [] s σ H D (I.toTry _) start) (fun f t z => ?_) fun _ _ z => z)
  -- first: the body's own ends
  rotate_left
  · have z' := sp_tried ok z
    cases f with
    | next => exact wpAny_execs_nil z'
    | brk => exact z'
    | cont => exact z'
    | ret u => exact z'
  -- then: an error of the body is in the air
  obtain ⟨a, B, t0, pins0, s0, h0, cls, d, rfl, J0, ground, slots, sky, free, os, bare, wish⟩ := air
  have J : Inv X pins s0 h0 t0 := J0.ofTry ok
  refine Sky.land Zc.steady frames hf (show Sky B (X.env :: X.outer) a (Zc cls d) X.env.locals t.heap from hs ▸ sky) fun hp fly more => ?_
  have K1 : Inv X pins s0 h0 { t with heap := hp } := J.landed ground fly.1 (slots.trans more) os bare
  obtain ⟨ob, fs, e1, z1, d1⟩ := fly.there
  have away : a ∉ frs (X.env :: X.outer) := fun m => by
    obtain ⟨_, o2, e2, nf⟩ := fly.2.2.1.mem m
    cases e1.symm.trans e2
    exact nf _ d1
  have aL : a ≠ X.env.locals := fun q => away (List.mem_filterMap.mpr ⟨X.env, List.mem_cons_self, by rw [hf, q]⟩)
  have aF : a ∉ X.fs := fun m => by
    obtain ⟨v, hv, q⟩ := List.mem_filterMap.mp m
    exact away (List.mem_filterMap.mpr ⟨v, List.mem_cons_of_mem _ hv, q⟩)
  have S1 := K1.suite e1 d1 free aL aF
  have clauses : ∀ {hs' : List ExceptHandler} {ks' : List Cl}, ClsOk X hs' ks' → wCl X.K Wout D ks' cls d s0 h0 → wpAny (model X.prog X.w) X.A (handleBy (.ref a) X.env hs') (SP X pins D) X.xe { t with heap := hp } := by
    intro hs' ks' ck
    induction ck with
    | nil =>
      intro out
      refine wpAny_handleBy_nil ?_
      obtain ⟨_, _, _, oe, vs, T, _, _, he, _, hd, hv, _⟩ := id fly
      unfold PySem.passOn
      refine wpAny_bind (wpAny_field he hd hv ?_)
      rw [if_neg (show ¬ (Value.ref T == Value.none) = true by simp)]
      have up : wpAny (model X.prog X.w) X.A (setFlight (.ref a) X.env.frame) (fun _ t4 => wpAny (model X.prog X.w) X.A (throw (.ref a) : Sem Flow) (SP X pins D) X.xe t4) X.xe { t with heap := hp } := by
        rw [hf]
        refine HandSPX.setFlight_upZ fly fun h4 held on => wpAny_throw (tk _ _ ⟨a, B, t0, pins, s0, h0, cls, d, rfl, J, ground, (slots.trans more).trans on, .inr (.inr (by rw [hs]; exact held)), free, os, bare, out⟩)
      first
        | exact wpAny_bind (wpAny_pure (wpAny_bind up))
        | exact wpAny_bind up
    | @cons e k es ks one rest ih =>
      intro out
      obtain ⟨b, ask, yes, no⟩ := out
      have LT : PySem.W.Looks (model X.prog X.w) hp (typeOf (.ref a)) cls := fun _ _ _ _ kp q => wpAny_typeOf_ref (kp _ _ e1) (by rw [z1.1]; exact q)
      have look := PySem.W.exm_one (M := model X.prog X.w) K1.kIn LT ask
      have test : ∀ {x : Str} {np : Pos} {c : Value} {Q E : Value → Shared → Prop}, Names X x c → Q c { t with heap := hp } → wpAny (model X.prog X.w) (X.A.mark (some (.ref a))) (eval (.Name x np) X.env) Q E { t with heap := hp } := fun {x np c Q E} nm q => by
        obtain ⟨g, db, m | ⟨m, v, nn⟩⟩ := nm
        · exact ld_glob (X := X.suite a ((a, ob) :: (X.pn ++ pins))) S1 g m q db
        · exact ld_blt (X := X.suite a ((a, ob) :: (X.pn ++ pins))) S1 g m v q nn db
      cases one with
      | plain hc hbd =>
        refine wpAny_handleBy_cons (codeAny_handlers_test (test hc (look.here ?_))) (fun q => nomatch q)
        cases b with
        | false => exact ih (no rfl)
        | true =>
          refine codeAny_handlers_suite (HandSPX.lands_againZ fly fun h4 f4 on => ?_)
          have J4 : Inv X pins s0 h0 { t with heap := h4 } := J.landed ground f4.1 ((slots.trans more).trans on) os bare
          obtain ⟨o4, v4, e4, z4, d4⟩ := f4.there
          have S4 := J4.suite e4 d4 free aL aF
          refine wpAny_mono ((hbd a o4 cls d (X.pn ++ pins) z4 ⟨_, d4⟩).run [] _ _ h0 _ S4 (yes rfl a free)) (fun f t6 z => ?_) (fun _ _ z => z.elim)
          have z' := sp_back ok z
          cases f with
          | next => exact z'
          | brk => exact z'
          | cont => exact z'
          | ret u => exact z'
      | @named _ n i _ _ _ _ _ qe hc hi hn hbd =>
        refine wpAny_handleBy_cons (codeAny_handlers_test (test hc (look.here ?_))) (fun q => nomatch q)
        cases b with
        | false => exact ih (no rfl)
        | true =>
          refine codeAny_handlers_suite_as (HandSPX.lands_againZ fly fun h4 f4 on => ?_)
          have J4 : Inv X pins s0 h0 { t with heap := h4 } := J.landed ground f4.1 ((slots.trans more).trans on) os bare
          obtain ⟨o4, v4, e4, z4, d4⟩ := f4.there
          have S4 := J4.suite e4 d4 free aL aF
          refine store_ok (X := X.suite a ((a, o4) :: (X.pn ++ pins))) (v := .ref a) S4 hN hi (.inl hn) rfl (fun t5 S5 => ?_) (.inr hn)
          refine wpAny_mono ((hbd a o4 cls d (X.pn ++ pins) z4 ⟨_, d4⟩).run [] t5 _ h0 _ S5 (yes rfl a free)) (fun f t6 z => ?_) (fun _ _ z => z.elim)
          have name_gone : ∀ {s6 : St} {h6 : Hp} {Q : Shared → Prop}, Inv (X.suite a ((a, o4) :: (X.pn ++ pins))) [] s6 h6 t6 → (∀ t7, Inv X pins (s6.set i none) h6 t7 → Q t7) → wpAny (model X.prog X.w) X.A (do bindName X.env n .none; unbindBehindTheSuite X.env n qe) (fun _ t7 => Q t7) X.xe t6 :=
            fun {s6 h6 Q} S6 go => gone_ok (S6.unsuite ok) hN hi hn go
          cases f with
          | next => exact let ⟨_, _, S6, z6⟩ := z; name_gone S6 fun _ J7 => ⟨_, _, J7, z6⟩
          | brk => exact let ⟨_, _, S6, z6⟩ := z; name_gone S6 fun _ J7 => ⟨_, _, J7, z6⟩
          | cont => exact let ⟨_, _, S6, z6⟩ := z; name_gone S6 fun _ J7 => ⟨_, _, J7, z6⟩
          | ret u => exact let ⟨_, _, _, S6, e6, z6⟩ := z; name_gone S6 fun _ J7 => ⟨_, _, _, J7, e6, z6⟩
  exact clauses hk wish
end

/-! ### by functions -/
/-- a clause's function: its class's name, the slot of its name, the suite by the class's name of the error -/
structure CF where
  c : Str
  slot : Option Nat
  f : Str → FT
/-- no error leaves a suite -/
def quiet (x : Fl) : Fl := match x with
  | .ex _ _ _ => .bad
  | .nx ρ S => .nx ρ S
  | .bk ρ S => .bk ρ S
  | .ct ρ S => .ct ρ S
  | .rt r S => .rt r S
  | .bad => .bad
def unSlot (o : Option Nat) (ρ : List Sl) : List Sl := match o with
  | none => ρ
  | some i => ρ.set i .un
def endSlot (o : Option Nat) (x : Fl) : Fl := match x with
  | .ex c ρ S => .ex c ρ S
  | .nx ρ S => .nx (unSlot o ρ) S
  | .bk ρ S => .bk (unSlot o ρ) S
  | .ct ρ S => .ct (unSlot o ρ) S
  | .rt r S => .rt r S
  | .bad => .bad
def handle (sub : Str → Str → Bool) (c : Str) (ρ : List Sl) (S : List Ob) : List CF → Fl
  | [] => .ex c ρ S
  | k :: r => if sub c k.c = true then endSlot k.slot (quiet (k.f c (unSlot k.slot ρ) S)) else handle sub c ρ S r
def fTry (sub : Str → Str → Bool) (ds : List Str) (fb : FT) (ks : List CF) : FT := fun ρ S => match fb ρ S with
  | .ex c ρ' S' => if c ∈ ds then handle sub c ρ' S' ks else .bad
  | x => x
/-- which class lies under which -/
def Subs (K : PySem.W.Frag) (mg : Str → Option Value) (sub : Str → Str → Bool) (ds cs : List Str) : Prop :=
  ∀ d ∈ ds, ∀ c ∈ cs, ∀ (C D : Addr), mg d = some (.ref D) → mg c = some (.ref C) → PySem.W.exmOne K (.ref D) (.ref C) = some (sub d c)
/-- the suite's reading, by the class's name -/
def tCl (K : PySem.W.Frag) (mg : Str → Option Value) (o : Option Nat) (f : Str → FT) : Addr → Value → Option Addr → TS := fun a cls d D s h => d = none ∧ ∃ c C, cls = .ref C ∧ mg c = some (.ref C) ∧ (∀ i, o = some i → i < s.length → s[i]? = some (some (.ref a))) ∧ liftS K mg W0 (f c) D s h
def clOf (K : PySem.W.Frag) (mg : Str → Option Value) (k : CF) (C : Addr) : Cl := ⟨.ref C, k.slot, tCl K mg k.slot k.f⟩
inductive ClF (K : PySem.W.Frag) (mg : Str → Option Value) : List CF → List Cl → Prop
  | nil : ClF K mg [] []
  | cons {k : CF} {ks : List CF} {l : List Cl} {C : Addr} : mg k.c = some (.ref C) → ClF K mg ks l → ClF K mg (k :: ks) (clOf K mg k C :: l)
section
variable {K : PySem.W.Frag} {mg : Str → Option Value} {Wc : WX} {sub : Str → Str → Bool}
theorem contS.quiet {Fr Hd : Hp} {μ : List Addr} {D : Ends} {x : Fl} {o : Option Nat} (c : contS K mg Wc Fr Hd μ D (endSlot o (quiet x))) : contS K mg W0 Fr Hd μ (endsAt o D) x := by
  cases x with
  | ex c ρ S => exact c.elim
  | bad => exact c.elim
  | rt r S =>
    cases o with
    | none => cases r <;> exact c
    | some i => cases r <;> exact c
  | nx ρ S =>
    cases o with
    | none => exact c
    | some i => exact fun F m s H l p r => c F m _ H l p r.setUn
  | bk ρ S =>
    cases o with
    | none => exact c
    | some i => exact fun F m s H l p r => c F m _ H l p r.setUn
  | ct ρ S =>
    cases o with
    | none => exact c
    | some i => exact fun F m s H l p r => c F m _ H l p r.setUn
theorem handle_ok {Hd : Hp} {D : Ends} {ds cs : List Str} (hs : Subs K mg sub ds cs) {c : Str} {C : Addr} (hd : c ∈ ds) (hC : mg c = some (.ref C)) : ∀ {ks : List CF} {l : List Cl}, ClF K mg ks l → (∀ k ∈ ks, k.c ∈ cs) → ∀ {Fr : Hp} {μ : List Addr} {ρ : List Sl} {S : List Ob} {σ : St} {H : Hp},
    R K Fr Hd μ ρ S σ H → contS K mg Wc Fr Hd μ D (handle sub c ρ S ks) → wCl K Wc D l (.ref C) none σ H
  | _, _, .nil, _, F, m, ρ, S, σ, H, r, q => q F m σ C H Le.refl (List.prefix_refl m) r hC
  | _, _, .cons (k := k) (C := C') hk t, hcs, F, m, ρ, S, σ, H, r, q => by
    refine ⟨sub c k.c, hs c hd k.c (hcs k List.mem_cons_self) C' C hC hk, fun e a ha => ?_, fun e => ?_⟩
    · unfold handle at q
      rw [if_pos e] at q
      refine ⟨rfl, c, C, rfl, hC, fun i ei hi => ?_, F, Hd, m, unSlot k.slot ρ, S, ?_, contS.quiet q⟩
      · have hi : i < (slotAt k.slot σ a).length := hi
        show (slotAt k.slot σ a)[i]? = some (some (.ref a))
        have ei : k.slot = some i := ei
        rw [ei] at hi ⊢
        exact List.getElem?_set_self (by simpa [slotAt] using hi)
      show R K F Hd m (unSlot k.slot ρ) S (slotAt k.slot σ a) H
      cases k.slot with
      | none => exact r
      | some i => exact r.setUn
    · unfold handle at q
      rw [if_neg (by rw [e]; exact Bool.false_ne_true)] at q
      exact handle_ok hs hd hC t (fun k hk => hcs k (List.mem_cons_of_mem _ hk)) r q
theorem try_imp {fb : FT} {ks : List CF} {l : List Cl} {ds cs : List Str} (hs : Subs K mg sub ds cs) (hc : ∀ k ∈ ks, k.c ∈ cs) (hl : ClF K mg ks l) {D : Ends} {σ : St} {H : Hp} (h : liftS K mg Wc (fTry sub ds fb ks) D σ H) : liftS K mg (wCl K Wc D l) fb D σ H := by
  obtain ⟨F, Hd, m, ρ, S, r, c⟩ := h
  refine ⟨F, Hd, m, ρ, S, r, ?_⟩
  unfold fTry at c
  cases q : fb ρ S with
  | nx ρ1 S1 => rw [q] at c; exact c
  | bk ρ1 S1 => rw [q] at c; exact c
  | ct ρ1 S1 => rw [q] at c; exact c
  | rt x S1 => rw [q] at c; cases x <;> exact c
  | bad => rw [q] at c; exact c
  | ex x ρ1 S1 =>
    rw [q] at c
    have c : contS K mg Wc F Hd m D (if x ∈ ds then handle sub x ρ1 S1 ks else .bad) := c
    split at c
    · rename_i hd
      exact fun F1 m1 σ1 C H1 l1 p1 r1 hC => handle_ok (Hd := Hd) hs hd hC hl hc r1 (contS.mono l1 p1 c)
    · exact c.elim
end
/-! ### suites that look at the caught error -/
def putV (l : List (Nat × V)) (s : St) : St := l.foldl (fun s p => s.set p.1 (some p.2)) s
def putD (l : List (Nat × PyData)) (ρ : List Sl) : List Sl := l.foldl (fun ρ p => ρ.set p.1 (.w (.d p.2))) ρ
/-- an expression that is v whatever the rest, the caught error at a in slot i -/
def EE (X : Cx) (i : Nat) (a : Addr) (e : Expr) (v : V) : Prop := PE X e fun s h Q => s[i]? = some (some (.ref a)) ∧ Q v h
def ET (X : Cx) (i : Nat) (a : Addr) (e : Expr) (b : Bool) : Prop := PT X e fun s h Q => s[i]? = some (some (.ref a)) ∧ Q b h
def EW (X : Cx) (i : Nat) (a : Addr) (e : Expr) (b : Bool) : Prop := PW X e fun s h Q => s[i]? = some (some (.ref a)) ∧ Q b h
def ES (X : Cx) (i : Nat) (a : Addr) (st : Stmt) (l : List (Nat × V)) : Prop := (∀ p ∈ l, p.1 ≠ i) ∧ PS X st fun D s h => s[i]? = some (some (.ref a)) ∧ D.nx (putV l s) h
def ESs (X : Cx) (i : Nat) (a : Addr) (st : List Stmt) (l : List (Nat × V)) : Prop := (∀ p ∈ l, p.1 ≠ i) ∧ PSs X st fun D s h => s[i]? = some (some (.ref a)) ∧ D.nx (putV l s) h
theorem putV_get {i : Nat} : ∀ {l : List (Nat × V)} {s : St}, (∀ p ∈ l, p.1 ≠ i) → (putV l s)[i]? = s[i]?
  | [], _, _ => rfl
  | p :: r, s, h => by
    show (putV r (s.set p.1 (some p.2)))[i]? = _
    rw [putV_get fun q hq => h q (List.mem_cons_of_mem _ hq), List.getElem?_set_ne (h p List.mem_cons_self)]
theorem putV_app (l m : List (Nat × V)) (s : St) : putV (l ++ m) s = putV m (putV l s) := by unfold putV; rw [List.foldl_append]
section
variable {X : Cx} {i : Nat} {a : Addr} {e e2 : Expr} {es : List Expr} {pos p : Pos} {v : V} {b b2 : Bool} {st : Stmt} {sts : List Stmt} {l m : List (Nat × V)}
theorem ee_c (h : PE X e (tC v)) : EE X i a e v := PE.imp h fun _ _ _ q => q.2
theorem ee_isi {x n : Str} {D E : Addr} {oe : Obj} {pn : List (Addr × Obj)} {p1 p2 : Pos} (C : ExcC X.K D) (hz : Zc (.ref D) none oe) (hf : ∃ vs, oe.data = .fields vs) (hN : X.N[i]? = some n) (hv : Vis X.env.scope n) (hk : PySem.W.kitOne X.K (.ref D) (.ref E) = some b)
    (hg : Gl X "isinstance") (hm : X.mg "isinstance" = none) (hgx : Gl X x) (hmx : X.mg x = some (.ref E)) (hdb : (x == ("__debug__" : Str)) = false := by decide) (hdn : (n == ("__debug__" : Str)) = false := by decide) (hcd : (n == ("__classdict__" : Str)) = false := by decide)
    (hs : starEach [.Name n p1, .Name x p2] (X.suite a ((a, oe) :: pn)).env = (false, eval (.Name n p1) (X.suite a ((a, oe) :: pn)).env) :: starEach [.Name x p2] (X.suite a ((a, oe) :: pn)).env := by rfl)
    (hs2 : starEach [.Name x p2] (X.suite a ((a, oe) :: pn)).env = (false, eval (.Name x p2) (X.suite a ((a, oe) :: pn)).env) :: starEach [] (X.suite a ((a, oe) :: pn)).env := by rfl) (hpl : (backTo pos (starEach [.Name x p2] (X.suite a ((a, oe) :: pn)).env)).any (·.1) = false := by rfl) :
    EE (X.suite a ((a, oe) :: pn)) i a (.Call (.Name "isinstance" p) [.Name n p1, .Name x p2] [] pos) (.bl b) :=
  PE.imp (pe_callB (X := X.suite a ((a, oe) :: pn)) (call_isE C hz hf) hg hm (by decide +kernel) (pa_cons (pe_var hN hv hdn hcd) (pa_cons (pe_glob (v := .ref E) hgx hmx rfl hdb) pa_nil hs2) hs) (he := hs) (hpl := hpl)) fun s h Q q =>
    ⟨_, q.1, .ref E, .ref E, b, rfl, fun u hu => hu, hk, q.2⟩
theorem ee_isiT {T n : Str} {t : String} {D : Addr} {oe : Obj} {pn : List (Addr × Obj)} {p1 p2 : Pos} (C : ExcC X.K D) (hz : Zc (.ref D) none oe) (hf : ∃ vs, oe.data = .fields vs) (hN : X.N[i]? = some n) (hv : Vis X.env.scope n) (hk : PySem.W.kitOne X.K (.ref D) (.type t) = some b)
    (hg : Gl X "isinstance") (hm : X.mg "isinstance" = none) (hgT : Gl X T) (hmT : X.mg T = none) (hvT : bootBuiltins T = some (.type t)) (hnT : T ≠ "__name__" := by decide) (hdT : (T == ("__debug__" : Str)) = false := by decide) (hdn : (n == ("__debug__" : Str)) = false := by decide) (hcd : (n == ("__classdict__" : Str)) = false := by decide)
    (hs : starEach [.Name n p1, .Name T p2] (X.suite a ((a, oe) :: pn)).env = (false, eval (.Name n p1) (X.suite a ((a, oe) :: pn)).env) :: starEach [.Name T p2] (X.suite a ((a, oe) :: pn)).env := by rfl)
    (hs2 : starEach [.Name T p2] (X.suite a ((a, oe) :: pn)).env = (false, eval (.Name T p2) (X.suite a ((a, oe) :: pn)).env) :: starEach [] (X.suite a ((a, oe) :: pn)).env := by rfl) (hpl : (backTo pos (starEach [.Name T p2] (X.suite a ((a, oe) :: pn)).env)).any (·.1) = false := by rfl) :
    EE (X.suite a ((a, oe) :: pn)) i a (.Call (.Name "isinstance" p) [.Name n p1, .Name T p2] [] pos) (.bl b) :=
  PE.imp (pe_callB (X := X.suite a ((a, oe) :: pn)) (call_isE C hz hf) hg hm (by decide +kernel) (pa_cons (pe_var hN hv hdn hcd) (pa_cons (pe_bltn (v := .ty t) hgT hmT hvT rfl hnT hdT) pa_nil hs2) hs) (he := hs) (hpl := hpl)) fun s h Q q =>
    ⟨_, q.1, .ty t, .type t, b, rfl, fun u hu => hu, hk, q.2⟩
theorem et_v (h : EE X i a e (.bl b)) (he : ∀ whole, isTrue e X.env whole = (do let v ← whole; standAt e.pos; holding [v] (truthy v)) := by intro _; rfl) : ET X i a e b := PT.imp (pt_val h he) fun _ _ _ q => ⟨q.1, b, rfl, q.2⟩
theorem et_not (h : ET X i a e b) : ET X i a (.UnaryOp .Not e pos) (!b) := PT.imp (pt_not h) fun _ _ _ q => q
theorem ew_and1 (h : ET X i a e b) : EW X i a (.BoolOp .And [e] pos) b := pw_and1 h
theorem ew_and (h : ET X i a e b) (k : EW X i a (.BoolOp .And (e2 :: es) pos) b2) : EW X i a (.BoolOp .And (e :: e2 :: es) pos) (b && b2) := PW.imp (pw_and h k) fun _ _ Q q => ⟨q.1, by
  cases b with
  | true => rw [if_pos rfl]; exact q
  | false => rw [if_neg Bool.false_ne_true]; exact q.2⟩
theorem ew_or1 (h : ET X i a e b) : EW X i a (.BoolOp .Or [e] pos) b := pw_or1 h
theorem ew_or (h : ET X i a e b) (k : EW X i a (.BoolOp .Or (e2 :: es) pos) b2) : EW X i a (.BoolOp .Or (e :: e2 :: es) pos) (b || b2) := PW.imp (pw_or h k) fun _ _ Q q => ⟨q.1, by
  cases b with
  | true => rw [if_pos rfl]; exact q.2
  | false => rw [if_neg Bool.false_ne_true]; exact q⟩
theorem ee_if {c : Expr} {w : V} (h : ET X i a c b) (h1 : EE X i a e v) (h2 : EE X i a e2 w) : EE X i a (.IfExp c e e2 pos) (if b = true then v else w) := PE.imp (pe_ifExp h h1 h2) fun _ _ Q q => ⟨q.1, by
  cases b with
  | true => rw [if_pos rfl] at q ⊢; exact q
  | false => rw [if_neg Bool.false_ne_true] at q ⊢; exact q⟩
theorem es_set {j : Nat} {x : Str} {p' : Pos} (hj : j ≠ i) (hN : X.N.Nodup) (hi : X.N[j]? = some x) (hx : Loc X.env.scope x) (he : EE X i a e v) (hs : swapsWith e (some (.Name x p')) pos.line X.env = pure false := by rfl) (hf : X.fn x = true ∨ X.env.scope.names.lookup x = some .local := by first | exact .inl rfl | exact .inr rfl | assumption) :
    ES X i a (.Assign [.Name x p'] e pos) [(j, v)] := ⟨fun p hp => by rw [List.mem_singleton] at hp; rw [hp]; exact hj, PS.imp (ps_set hN hi hx he hs hf) fun _ _ _ q => q⟩
theorem es_nil : ESs X i a [] [] := ⟨fun p hp => (nomatch hp), PSs.imp pss_nil fun _ _ _ q => q.2⟩
theorem es_cons (h : ES X i a st l) (k : ESs X i a sts m) : ESs X i a (st :: sts) (l ++ m) := ⟨fun p hp => (List.mem_append.mp hp).elim (h.1 p) (k.1 p), PSs.imp (pss_cons h.2 k.2) fun D s _ q => ⟨q.1, by rw [putV_get h.1]; exact q.1, by rw [← putV_app]; exact q.2⟩⟩
theorem es_if {c : Expr} {s1 s2 : List Stmt} (h : ET X i a c b) (h1 : ESs X i a s1 l) (h2 : ESs X i a s2 m) : ES X i a (.If c s1 s2 pos) (if b = true then l else m) := by
  constructor
  · cases b with
    | true => exact h1.1
    | false => exact h2.1
  · refine PS.imp (ps_if h h1.2 h2.2) fun D s _ q => ⟨q.1, ?_⟩
    cases b with
    | true => rw [if_pos rfl] at q ⊢; exact q
    | false => rw [if_neg Bool.false_ne_true] at q ⊢; exact q
end
/-- the constants that a suite stores -/
def fPut (l : List (Nat × PyData)) : FT := fun ρ S => .nx (putD l ρ) S
inductive PutRel (K : PySem.W.Frag) : List (Nat × PyData) → List (Nat × V) → Prop
  | nil : PutRel K [] []
  | cons {i : Nat} {d : PyData} {v : V} {l : List (Nat × PyData)} {m : List (Nat × V)} : (∀ F : Hp, Dp K F v d) → PutRel K l m → PutRel K ((i, d) :: l) ((i, v) :: m)
theorem put_ok {K : PySem.W.Frag} {Fr Hd : Hp} {μ : List Addr} {S : List Ob} {H : Hp} : ∀ {l : List (Nat × PyData)} {m : List (Nat × V)} {ρ : List Sl} {σ : St}, PutRel K l m → R K Fr Hd μ ρ S σ H → R K Fr Hd μ (putD l ρ) S (putV m σ) H
  | _, _, _, _, .nil, r => r
  | _, _, ρ, σ, .cons (i := i) (d := d) (v := v) (l := l) (m := m) h t, r => put_ok (l := l) (m := m) t (r.setW (i := i) (x := .d d) (v := v) (h Fr))

section
variable {X : Cx} {Wc : WX} {body : List Stmt} {e₀ : ExceptHandler} {es : List ExceptHandler} {pos : Pos} {fb : FT} {ks : List CF} {sub : Str → Str → Bool} {ds cs : List Str}
/-- the text's clauses with their functions -/
inductive HdF (X : Cx) : List ExceptHandler → List CF → Prop
  | nil : HdF X [] []
  | plain {x : Str} {C : Addr} {f : Str → FT} {b : Stmt} {bs : List Stmt} {q q' : Pos} {es : List ExceptHandler} {ks : List CF} (hg : Gl X x) (hm : X.mg x = some (.ref C)) (hd : (x == ("__debug__" : Str)) = false)
      (hb : ∀ (c : Str) (a : Addr) (o : Obj) (D : Addr) (pn : List (Addr × Obj)), X.mg c = some (.ref D) → Zc (.ref D) none o → (∃ vs, o.data = .fields vs) → PSs (X.suite a ((a, o) :: pn)) (b :: bs) (LS (X.suite a ((a, o) :: pn)) W0 (f c))) (r : HdF X es ks) :
      HdF X (.ExceptHandler (some (.Name x q)) none (b :: bs) q' :: es) (⟨x, none, f⟩ :: ks)
  | named {x n : Str} {i : Nat} {C : Addr} {f : Str → FT} {b : Stmt} {bs : List Stmt} {q q' : Pos} {es : List ExceptHandler} {ks : List CF} (hg : Gl X x) (hm : X.mg x = some (.ref C)) (hd : (x == ("__debug__" : Str)) = false) (hi : X.N[i]? = some n) (hn : X.env.kindOf n = some .local)
      (hb : ∀ (c : Str), f c = fNever ∨ ∃ (l : List (Nat × PyData)) (m : List (Nat × V)), f c = fPut l ∧ PutRel X.K l m ∧ ∀ (a : Addr) (o : Obj) (D : Addr) (pn : List (Addr × Obj)), X.mg c = some (.ref D) → Zc (.ref D) none o → (∃ vs, o.data = .fields vs) → ESs (X.suite a ((a, o) :: pn)) i a (b :: bs) m) (r : HdF X es ks) :
      HdF X (.ExceptHandler (some (.Name x q)) (some n) (b :: bs) q' :: es) (⟨x, some i, f⟩ :: ks)
theorem hdF_ok {es : List ExceptHandler} {ks : List CF} (h : HdF X es ks) : ∃ l, ClsOk X es l ∧ ClF X.K X.mg ks l := by
  induction h with
  | nil => exact ⟨[], .nil, .nil⟩
  | @plain x C f b bs q q' es ks hg hm hd hb r ih =>
    obtain ⟨l, h1, h2⟩ := ih
    refine ⟨_, .cons (.plain (c := .ref C) (ts := tCl X.K X.mg none f) ⟨hg, hd, .inl hm⟩ fun a o cls d pn hz hf => ⟨fun pins s σ H D I z => ?_⟩) h1, .cons (k := ⟨x, none, f⟩) hm h2⟩
    obtain ⟨rfl, c, C', rfl, hc, _, z⟩ := z
    exact (hb c a o C' pn hc hz hf).run pins s σ H D I z
  | @named x n i C f b bs q q' es ks hg hm hd hi hn hb r ih =>
    obtain ⟨l, h1, h2⟩ := ih
    refine ⟨_, .cons (.named (c := .ref C) (ts := tCl X.K X.mg (some i) f) ⟨hg, hd, .inl hm⟩ hi hn fun a o cls d pn hz hf => ⟨fun pins s σ H D I z => ?_⟩) h1, .cons (k := ⟨x, some i, f⟩) hm h2⟩
    obtain ⟨rfl, c, C', rfl, hc, hsl, F, Hd, mu, ρ, S, r0, c0⟩ := z
    rcases hb c with e | ⟨l0, m0, e, hr, hb⟩
    · rw [e] at c0; exact c0.elim
    · rw [e] at c0
      refine (hb a o C' pn hc hz hf).2.run pins s σ H D I ⟨hsl i rfl ?_, ?_⟩
      · have e1 := I.len
        have e2 := (List.getElem?_eq_some_iff.mp hi).1
        have e1 : σ.length = X.N.length := e1
        omega
      · exact c0 F mu _ H Le.refl (List.prefix_refl mu) (put_ok hr r0)
/-- try: .. except A [as e]: .. except B: .. -/
theorem s_try (hs : X.stack = X.env :: X.outer) (hf : X.env.frame = some X.env.locals) (hN : X.N.Nodup) (tk : Takes X Wc) (hsub : Subs X.K X.mg sub ds cs) (hcs : ∀ k ∈ ks, k.c ∈ cs)
    (hb : ∀ (W : WX) (pn : List (Addr × Obj)) (xe : Value → Shared → Prop), Takes (X.tr pn xe) W → PassesOwn (model X.prog X.w) X.A X.env xe → PSs (X.tr pn xe) body (LS (X.tr pn xe) W fb))
    (hk : HdF X (e₀ :: es) ks) : PS X (.Try body (e₀ :: es) [] [] pos) (LS X Wc (fTry sub ds fb ks)) := by
  obtain ⟨l, h1, h2⟩ := hdF_ok hk
  exact PS.imp (ps_try_cl (tb := fun W => liftS X.K X.mg W fb) hs hf hN tk hb h1) fun D σ H h => try_imp hsub hcs h2 h
end
end L2.Q
/-! Layer Q, part K: lists that change: append, pop, extend; several names at once; x op= y. -/
namespace L2.Q
open PySem PySem.Spec PyProof.Rows

/-! ### a hidden new object while more is reckoned -/
section
variable {K : PySem.W.Frag} {mg : Str → Option Value} {Wc : WX} {α β γ δ : Type} {rep : Rep α β} {rep2 : Rep γ δ} {Fr Fr' Hd : Hp} {μ μ' : List Addr} {ρ : List Sl} {S : List Ob} {σ : St} {H : Hp} {Q : β → Hp → Prop} {Q2 : δ → Hp → Prop} {q : Addr} {ho : HO}
theorem unhid (f : Free Fr' Hd μ' ρ σ q) (r : R K Fr (upd Hd q ho) μ ρ S σ H) : R K Fr Hd μ ρ S σ H ∧ H q = some ho ∧ Free Fr Hd μ ρ σ q := by
  have hH := r.b.hd q ho upd_same
  refine ⟨r.unhide (Le.upd f.hd), hH.1, hH.2, f.hd, fun hm => ?_, f.ow⟩
  obtain ⟨_, _, _, h9, _⟩ := r.b.muH hm
  rw [upd_same] at h9; cases h9
theorem stepSH {f : List Sl → List Ob → Res α} {k : α → List Ob → Fl} {D : Ends} (r : R K Fr Hd μ ρ S σ H) (hp : H q = some ho) (fr : Free Fr Hd μ ρ σ q) (c : contS K mg Wc Fr Hd μ D (fl (f ρ S) ρ k))
    (hk : ∀ Fr' μ' a b S1 H1, Le Fr Fr' → μ <+: μ' → R K Fr' Hd μ' ρ S1 σ H1 → H1 q = some ho → Free Fr' Hd μ' ρ σ q → rep Fr' (upd Hd q ho) μ' ρ σ H1 a b → contS K mg Wc Fr' Hd μ' D (k a S1) → Q b H1) : lift K mg Wc rep f σ H Q := by
  refine ⟨Fr, upd Hd q ho, μ, ρ, S, r.hide hp fr, ?_⟩
  cases e : f ρ S with
  | ok a S1 =>
    rw [e] at c
    intro F m b H' l p r' q'
    obtain ⟨r1, h1, f1⟩ := unhid fr r'
    exact hk F m a b S1 H' l p r1 h1 f1 q' (contS.mono l p c)
  | err x S1 => rw [e] at c; exact fun F m C H' l p r' q' => c F m σ C H' l p (unhid fr r').1 q'
  | bad => rw [e] at c; exact c
theorem stepH {f : List Sl → List Ob → Res α} {k : α → List Ob → Res γ} (r : R K Fr Hd μ ρ S σ H) (hp : H q = some ho) (fr : Free Fr Hd μ ρ σ q) (c : cont K mg Wc rep2 Fr Hd μ ρ σ Q2 ((f ρ S).bind k))
    (hk : ∀ Fr' μ' a b S1 H1, Le Fr Fr' → μ <+: μ' → R K Fr' Hd μ' ρ S1 σ H1 → H1 q = some ho → Free Fr' Hd μ' ρ σ q → rep Fr' (upd Hd q ho) μ' ρ σ H1 a b → cont K mg Wc rep2 Fr' Hd μ' ρ σ Q2 (k a S1) → Q b H1) : lift K mg Wc rep f σ H Q := by
  refine ⟨Fr, upd Hd q ho, μ, ρ, S, r.hide hp fr, ?_⟩
  cases e : f ρ S with
  | ok a S1 =>
    rw [e] at c
    intro F m b H' l p r' q'
    obtain ⟨r1, h1, f1⟩ := unhid fr r'
    exact hk F m a b S1 H' l p r1 h1 f1 q' (cont.mono l p (fun _ _ z => z) c)
  | err x S1 => rw [e] at c; exact fun F m C H' l p r' q' => c F m C H' l p (unhid fr r').1 q'
  | bad => rw [e] at c; exact c
theorem free_set {p p1 : Addr} {i : Nat} {o : Ob} (f : Free Fr (upd Hd p1 ho) μ ρ σ p) (n : Hd p1 = none) : Free Fr Hd μ (ρ.set i (.own o)) (σ.set i (some (.ref p1))) p := by
  have np : p ≠ p1 := fun e => by have := f.hd; rw [e, upd_same] at this; cases this
  refine ⟨f.fr, none_le (Le.upd n) f.hd, f.mu, fun j ⟨⟨u, h1⟩, h2⟩ => ?_⟩
  by_cases z : i = j
  · subst z
    by_cases hi : i < σ.length
    · rw [List.getElem?_set_self hi] at h2; cases h2; exact np rfl
    · rw [List.getElem?_eq_none (by simpa using hi)] at h2; cases h2
  · rw [List.getElem?_set_ne z] at h1 h2
    exact f.ow j ⟨⟨u, h1⟩, h2⟩
theorem free_setW {p : Addr} {i : Nat} {x : W} {v : Option V} (f : Free Fr Hd μ ρ σ p) : Free Fr Hd μ (ρ.set i (.w x)) (σ.set i v) p := by
  refine ⟨f.fr, f.hd, f.mu, fun j ⟨⟨u, h1⟩, h2⟩ => ?_⟩
  by_cases z : i = j
  · subst z
    by_cases hi : i < ρ.length
    · rw [List.getElem?_set_self hi] at h1; cases h1
    · rw [List.getElem?_eq_none (by simpa using hi)] at h1; cases h1
  · rw [List.getElem?_set_ne z] at h1 h2
    exact f.ow j ⟨⟨u, h1⟩, h2⟩
/-- the object of an own slot is written -/
theorem R.putOwn (r : R K Fr Hd μ ρ S σ H) {i : Nat} {o o' : Ob} {a : Addr} (e : ρ[i]? = some (.own o)) (ea : σ[i]? = some (some (.ref a))) (h : RepO K Fr μ o' ho) : R K Fr Hd μ (ρ.set i (.own o')) S σ (L2.upd H a ho) := by
  have ow : Owns ρ σ i a := ⟨⟨o, e⟩, ea⟩
  have f := r.free_un ow
  have r1 := ((r.un i).upd (o := ho) f).setOwn (i := i) upd_same f h
  rw [set_at ea, List.set_set] at r1
  exact r1
end

/-! ### what a name takes -/
def repC (K : PySem.W.Frag) : Rep Sl V := fun Fr Hd μ ρ σ H c v => match c with
  | .un => False
  | .w x => RepW K Fr μ x v
  | .own o => ∃ p ho, v = .ref p ∧ H p = some ho ∧ RepO K Fr μ o ho ∧ Free Fr Hd μ ρ σ p
abbrev FC := List Sl → List Ob → Res Sl
abbrev LC (X : Cx) (Wc : WX) (f : FC) : TE := lift X.K X.mg Wc (repC X.K) f
def fCw (fa : FE) : FC := fun ρ S => (fa ρ S).bind fun x S1 => .ok (.w x) S1
def fCo (fo : FO) : FC := fun ρ S => (fo ρ S).bind fun o S1 => .ok (.own o) S1
section
variable {X : Cx} {Wc : WX} {a b c3 e e2 : Expr} {es : List Expr} {pos p : Pos} {fa fb : FE} {fo fo2 : FO} {f1 f2 f3 : FC} {g : FG} {own : List Nat}
theorem c_w (h : PE X e (LE X Wc fa)) : PE X e (LC X Wc (fCw fa)) := PE.imp h fun σ H Q h => by
  obtain ⟨F, D, m, ρ, S, r0, c⟩ := h
  refine step r0 c fun F1 m1 x v S1 H1 l1 p1 r1 e1 c1 => ?_
  exact c1 F1 m1 v H1 Le.refl (List.prefix_refl m1) r1 e1
theorem c_o (h : PE X e (LO X Wc fo)) : PE X e (LC X Wc (fCo fo)) := PE.imp h fun σ H Q h => by
  obtain ⟨F, D, m, ρ, S, r0, c⟩ := h
  refine step r0 c fun F1 m1 x v S1 H1 l1 p1 r1 e1 c1 => ?_
  exact c1 F1 m1 v H1 Le.refl (List.prefix_refl m1) r1 e1
theorem R.setC {Fr Hd : Hp} {μ : List Addr} {ρ : List Sl} {S : List Ob} {σ : St} {H : Hp} {i : Nat} {c : Sl} {v : V} (r : R X.K Fr Hd μ ρ S σ H) (e : repC X.K Fr Hd μ ρ σ H c v) : R X.K Fr Hd μ (ρ.set i c) S (σ.set i (some v)) H := by
  cases c with
  | un => exact e.elim
  | w x => exact r.setW e
  | own o => obtain ⟨p, ho, rfl, h1, h2, h3⟩ := e; exact r.setOwn h1 h3 h2
/-- a, b = e, f -/
def fPar (i j : Nat) (f1 f2 : FC) : FT := fun ρ S => fl (f1 ρ S) ρ fun c1 S1 => fl (f2 ρ S1) ρ fun c2 S2 => .nx ((ρ.set i c1).set j c2) S2
theorem par_imp {i j : Nat} {D : Ends} {σ : St} {H : Hp} (h : LS X Wc (fPar i j f1 f2) D σ H) : tPar i j (tCons (LC X Wc f1) (tCons (LC X Wc f2) tNil)) D σ H := by
  obtain ⟨F, Hd, m, ρ, S, r, c⟩ := h
  show LC X Wc f1 σ H _
  refine stepS r c fun F1 m1 k1 v1 S1 H1 l1 p1 r1 e1 c1 => ?_
  cases k1 with
  | un => exact e1.elim
  | w x =>
    refine stepS r1 c1 fun F2 m2 k2 v2 S2 H2 l2 p2 r2 e2 c2 => ?_
    refine ⟨v1, v2, rfl, ?_⟩
    have r3 := r2.setW (i := i) (RepW.mono l2 p2 e1)
    have e3 : repC X.K F2 Hd m2 (ρ.set i (.w x)) (σ.set i (some v1)) H2 k2 v2 := by
      cases k2 with
      | un => exact e2
      | w y => exact e2
      | own o => obtain ⟨q, ho, h0, h1, h2, h3⟩ := e2; exact ⟨q, ho, h0, h1, h2, free_setW h3⟩
    exact c2 F2 m2 _ H2 Le.refl (List.prefix_refl m2) (r3.setC e3)
  | own o =>
    obtain ⟨q, ho, rfl, h1, h2, h3⟩ := e1
    refine stepSH r1 h1 h3 c1 fun F2 m2 k2 v2 S2 H2 l2 p2 r2 hq fq e2 c2 => ?_
    refine ⟨.ref q, v2, rfl, ?_⟩
    have r3 := r2.setOwn (i := i) hq fq (h2.mono l2 p2)
    have e3 : repC X.K F2 Hd m2 (ρ.set i (.own o)) (σ.set i (some (.ref q))) H2 k2 v2 := by
      cases k2 with
      | un => exact e2
      | w y => exact e2
      | own o2 => obtain ⟨q2, ho2, h0, h1, h2, h3⟩ := e2; exact ⟨q2, ho2, h0, h1, h2, free_set h3 fq.hd⟩
    exact c2 F2 m2 _ H2 Le.refl (List.prefix_refl m2) (r3.setC e3)
theorem s_par {i j : Nat} {x y : Str} {px py pt : Pos} {kt k2 pt2} (hc : X.calm = true) (hN : X.N.Nodup) (hi : X.N[i]? = some x) (hj : X.N[j]? = some y) (hij : i ≠ j)
    (hx : X.env.scope.names.lookup x = some .local) (hy : X.env.scope.names.lookup y = some .local) (ha : PE X a (LC X Wc f1)) (hb : PE X b (LC X Wc f2))
    (hw : swappedStores [.Tuple [.Name x px, .Name y py] kt pt] (.Tuple [a, b] k2 pt2) X.env = pure (some [x, y]))
    (hs : swapsWithSole [.Tuple [.Name x px, .Name y py] kt pt] (.Tuple [a, b] k2 pt2) pos.line X.env = pure false := by rfl)
    (hs1 : starEach [a, b] X.env = (false, eval a X.env) :: starEach [b] X.env := by rfl) (hs2 : starEach [b] X.env = (false, eval b X.env) :: starEach [] X.env := by rfl) :
    PS X (.Assign [.Tuple [.Name x px, .Name y py] kt pt] (.Tuple [a, b] k2 pt2) pos) (LS X Wc (fPar i j f1 f2)) :=
  PS.imp (ps_par hc hN hi hj hij hx hy (pa_cons ha (pa_cons hb pa_nil hs2) hs1) hw hs) fun _ _ _ h => par_imp h
/-- a, b, c = e, f, g -/
def fPar3 (i j l : Nat) (f1 f2 f3 : FC) : FT := fun ρ S => fl (f1 ρ S) ρ fun c1 S1 => fl (f2 ρ S1) ρ fun c2 S2 => fl (f3 ρ S2) ρ fun c3 S3 => .nx (((ρ.set i c1).set j c2).set l c3) S3
theorem par3_imp {i j l : Nat} {D : Ends} {σ : St} {H : Hp} (h : LS X Wc (fPar3 i j l f1 f2 f3) D σ H) : tPar3 i j l (tCons (LC X Wc f1) (tCons (LC X Wc f2) (tCons (LC X Wc f3) tNil))) D σ H := by
  obtain ⟨F, Hd, m, ρ, S, r, c⟩ := h
  show LC X Wc f1 σ H _
  refine stepS r c fun F1 m1 k1 v1 S1 H1 l1 p1 r1 e1 c1 => ?_
  cases k1 with
  | un => exact e1.elim
  | w x =>
    refine stepS r1 c1 fun F2 m2 k2 v2 S2 H2 l2 p2 r2 e2 c2 => ?_
    cases k2 with
    | un => exact e2.elim
    | w y =>
      refine stepS r2 c2 fun F3 m3 k3 v3 S3 H3 l3 p3 r3 e3 c3 => ?_
      refine ⟨v1, v2, v3, rfl, ?_⟩
      have r4 := (r3.setW (i := i) (RepW.mono (l2.trans l3) (p2.trans p3) e1)).setW (i := j) (RepW.mono l3 p3 e2)
      refine c3 F3 m3 _ H3 Le.refl (List.prefix_refl m3) (r4.setC ?_)
      cases k3 with
      | un => exact e3
      | w y => exact e3
      | own o => obtain ⟨q, ho, h0, h1, h2, h3⟩ := e3; exact ⟨q, ho, h0, h1, h2, free_setW (free_setW h3)⟩
    | own o2 =>
      obtain ⟨q2, ho2, rfl, h21, h22, h23⟩ := e2
      refine stepSH r2 h21 h23 c2 fun F3 m3 k3 v3 S3 H3 l3 p3 r3 hq fq e3 c3 => ?_
      refine ⟨v1, .ref q2, v3, rfl, ?_⟩
      have r4 := (r3.setW (i := i) (RepW.mono (l2.trans l3) (p2.trans p3) e1)).setOwn (i := j) hq (free_setW fq) (h22.mono l3 p3)
      refine c3 F3 m3 _ H3 Le.refl (List.prefix_refl m3) (r4.setC ?_)
      cases k3 with
      | un => exact e3
      | w y => exact e3
      | own o => obtain ⟨q, ho, h0, h1, h2, h3⟩ := e3; exact ⟨q, ho, h0, h1, h2, free_set (free_setW h3) fq.hd⟩
  | own oA =>
    obtain ⟨q, ho, rfl, h11, h12, h13⟩ := e1
    refine stepSH r1 h11 h13 c1 fun F2 m2 k2 v2 S2 H2 l2 p2 r2 hq fq e2 c2 => ?_
    cases k2 with
    | un => exact e2.elim
    | w y =>
      refine stepSH r2 hq fq c2 fun F3 m3 k3 v3 S3 H3 l3 p3 r3 hq3 fq3 e3 c3 => ?_
      refine ⟨.ref q, v2, v3, rfl, ?_⟩
      have r4 := (r3.setOwn (i := i) hq3 fq3 (h12.mono (l2.trans l3) (p2.trans p3))).setW (i := j) (RepW.mono l3 p3 e2)
      refine c3 F3 m3 _ H3 Le.refl (List.prefix_refl m3) (r4.setC ?_)
      cases k3 with
      | un => exact e3
      | w y => exact e3
      | own o => obtain ⟨q, ho, h0, h1, h2, h3⟩ := e3; exact ⟨q, ho, h0, h1, h2, free_setW (free_set h3 fq.hd)⟩
    | own o2 =>
      obtain ⟨q2, ho2, rfl, h21, h22, h23⟩ := e2
      have r2h := r2.hide hq fq
      -- both hidden
      show lift X.K X.mg Wc (repC X.K) f3 σ H2 _
      refine ⟨F2, upd (upd Hd q ho) q2 ho2, m2, ρ, S2, r2h.hide h21 h23, ?_⟩
      have fin : ∀ {F3 : Hp} {m3 : List Addr} {S3 : List Ob} {H3 : Hp}, R X.K F3 (upd (upd Hd q ho) q2 ho2) m3 ρ S3 σ H3 → R X.K F3 (upd Hd q ho) m3 ρ S3 σ H3 ∧ H3 q2 = some ho2 ∧ Free F3 (upd Hd q ho) m3 ρ σ q2 := fun r3 => unhid h23 r3
      cases z : f3 ρ S2 with
      | bad => rw [z] at c2; exact c2.elim
      | err w S3 => rw [z] at c2; exact fun F3 m3 C H3 l3 p3 r3 hC => c2 F3 m3 σ C H3 l3 p3 (unhid fq (fin r3).1).1 hC
      | ok k3 S3 =>
        rw [z] at c2
        intro F3 m3 v3 H3 l3 p3 r3 e3
        obtain ⟨r3a, hq2, fq2⟩ := fin r3
        obtain ⟨r3b, hq3, fq3⟩ := unhid fq r3a
        refine ⟨.ref q, .ref q2, v3, rfl, ?_⟩
        have r4 := (r3b.setOwn (i := i) hq3 fq3 (h12.mono (l2.trans l3) (p2.trans p3))).setOwn (i := j) hq2 (free_set fq2 fq.hd) (h22.mono l3 p3)
        refine contS.mono (Wc := Wc) l3 p3 c2 F3 m3 _ H3 Le.refl (List.prefix_refl m3) (r4.setC ?_)
        cases k3 with
        | un => exact e3
        | w y => exact e3
        | own o =>
          obtain ⟨qq, hoo, h0, h1, h2, h3⟩ := e3
          have nd : upd Hd q ho q2 = none := fq2.hd
          have s1 : Free F3 (upd (upd Hd q2 ho2) q ho) m3 ρ σ qq := by
            refine ⟨h3.fr, ?_, h3.mu, h3.ow⟩
            have := h3.hd
            have n1 : qq ≠ q2 := fun e => by rw [e, upd_same] at this; cases this
            rw [upd_ne n1] at this
            have n2 : qq ≠ q := fun e => by rw [e, upd_same] at this; cases this
            rw [upd_ne n2] at this ⊢
            rw [upd_ne n1]; exact this
          have n3 : q2 ≠ q := fun e => by rw [e, upd_same] at nd; cases nd
          have hd2 : Hd q2 = none := by rw [upd_ne n3] at nd; exact nd
          have s2 := free_set (i := i) (o := oA) s1 (by rw [upd_ne n3.symm]; exact fq.hd)
          exact ⟨qq, hoo, h0, h1, h2, free_set s2 hd2⟩
theorem s_par3 {i j l : Nat} {x y z : Str} {px py pz pt : Pos} {kt k2 pt2} (hc : X.calm = true) (hN : X.N.Nodup) (hi : X.N[i]? = some x) (hj : X.N[j]? = some y) (hl : X.N[l]? = some z) (hij : i ≠ j) (hil : i ≠ l) (hjl : j ≠ l)
    (hx : X.env.scope.names.lookup x = some .local) (hy : X.env.scope.names.lookup y = some .local) (hz : X.env.scope.names.lookup z = some .local) (ha : PE X a (LC X Wc f1)) (hb : PE X b (LC X Wc f2)) (hc3 : PE X c3 (LC X Wc f3))
    (hw : swappedStores [.Tuple [.Name x px, .Name y py, .Name z pz] kt pt] (.Tuple [a, b, c3] k2 pt2) X.env = pure (some [x, y, z]))
    (hs : swapsWithSole [.Tuple [.Name x px, .Name y py, .Name z pz] kt pt] (.Tuple [a, b, c3] k2 pt2) pos.line X.env = pure false := by rfl)
    (hs0 : starEach [a, b, c3] X.env = (false, eval a X.env) :: starEach [b, c3] X.env := by rfl) (hs1 : starEach [b, c3] X.env = (false, eval b X.env) :: starEach [c3] X.env := by rfl) (hs2 : starEach [c3] X.env = (false, eval c3 X.env) :: starEach [] X.env := by rfl) :
    PS X (.Assign [.Tuple [.Name x px, .Name y py, .Name z pz] kt pt] (.Tuple [a, b, c3] k2 pt2) pos) (LS X Wc (fPar3 i j l f1 f2 f3)) :=
  PS.imp (ps_par3 hc hN hi hj hl hij hil hjl hx hy hz (pa_cons ha (pa_cons hb (pa_cons hc3 pa_nil hs2) hs1) hs0) hw hs) fun _ _ _ h => par3_imp h

/-! ### expressions that change an own list -/
abbrev FX := List Sl → List Ob → Res (W × List Sl)
def contX (K : PySem.W.Frag) (mg : Str → Option Value) (Wc : WX) (Fr Hd : Hp) (μ : List Addr) (ρ : List Sl) (σ : St) (Q : VK) : Res (W × List Sl) → Prop
  | .ok a S' => ∀ Fr' μ' v H', Le Fr Fr' → μ <+: μ' → R K Fr' Hd μ' a.2 S' σ H' → RepW K Fr' μ' a.1 v → Q v H'
  | .err c S' => ∀ Fr' μ' C H', Le Fr Fr' → μ <+: μ' → R K Fr' Hd μ' ρ S' σ H' → mg c = some (.ref C) → Wc (.ref C) none σ H'
  | .bad => False
abbrev LX (X : Cx) (Wc : WX) (f : FX) : TE := fun σ H Q => ∃ Fr Hd μ ρ S, R X.K Fr Hd μ ρ S σ H ∧ contX X.K X.mg Wc Fr Hd μ ρ σ Q (f ρ S)
theorem contX.mono {K : PySem.W.Frag} {mg : Str → Option Value} {Fr Fr' Hd : Hp} {μ μ' : List Addr} {ρ : List Sl} {σ : St} {Q : VK} {r : Res (W × List Sl)} (h1 : Le Fr Fr') (h2 : μ <+: μ') (c : contX K mg Wc Fr Hd μ ρ σ Q r) : contX K mg Wc Fr' Hd μ' ρ σ Q r := by
  cases r with
  | ok a S => exact fun F m b H' l p r e => c F m b H' (h1.trans l) (List.IsPrefix.trans h2 p) r e
  | err x S => exact fun F m C H' l p r e => c F m C H' (h1.trans l) (List.IsPrefix.trans h2 p) r e
  | bad => exact c
/-- x.append(e) -/
def fApp (i : Nat) (fa : FE) : FX := fun ρ S => match ρ[i]? with
  | some (.own (.lst xs)) => (fa ρ S).bind fun y S1 => if xs.length < 16777216 then .ok (.d .none, ρ.set i (.own (.lst (xs ++ [y])))) S1 else .bad
  | _ => .bad
theorem stepX {Fr Hd : Hp} {μ : List Addr} {ρ : List Sl} {S : List Ob} {σ : St} {H : Hp} {Q : VK} {α β : Type} {rep : Rep α β} {f : List Sl → List Ob → Res α} {k : α → List Ob → Res (W × List Sl)} {Q1 : β → Hp → Prop} (r : R X.K Fr Hd μ ρ S σ H) (c : contX X.K X.mg Wc Fr Hd μ ρ σ Q ((f ρ S).bind k))
    (hk : ∀ Fr' μ' a b S1 H1, Le Fr Fr' → μ <+: μ' → R X.K Fr' Hd μ' ρ S1 σ H1 → rep Fr' Hd μ' ρ σ H1 a b → contX X.K X.mg Wc Fr' Hd μ' ρ σ Q (k a S1) → Q1 b H1) : lift X.K X.mg Wc rep f σ H Q1 := by
  refine ⟨Fr, Hd, μ, ρ, S, r, ?_⟩
  cases e : f ρ S with
  | ok a S1 =>
    rw [e] at c
    exact fun F m b H' l p r' q => hk F m a b S1 H' l p r' q (contX.mono l p c)
  | err x S1 => rw [e] at c; exact c
  | bad => rw [e] at c; exact c
variable {apos cpos : Pos} {fr : FA}
theorem x_app {i : Nat} {x : Str} {p' : Pos} (hN : X.N[i]? = some x) (hv : Vis X.env.scope x) (ha : PE X e (LE X Wc fa)) (hd : (x == ("__debug__" : Str)) = false := by decide) (hcd : (x == ("__classdict__" : Str)) = false := by decide)
    (hbase : attributeBase (.Name x p') "append" X.env (eval (.Name x p') X.env) = eval (.Name x p') X.env := by rfl)
    (hfew : ((backTo cpos (starEach [e] X.env)).all (fun x => !x.1) && (backToKw cpos (keywordEach [] X.env)).all (fun x => x.1.isSome)
      && decide (([e] : List Expr).length + ([] : List Keyword).length + (if ([] : List Keyword).isEmpty then 0 else 1) < 30)) = true := by rfl)
    (hline : (apos.endLine == cpos.line) = true := by rfl) (hs : starEach [e] X.env = (false, eval e X.env) :: starEach [] X.env := by rfl) (hplain : (backTo cpos (starEach [] X.env)).any (·.1) = false := by rfl) :
    PE X (.Call (.Attribute (.Name x p') "append" apos) [e] [] cpos) (LX X Wc (fApp i fa)) :=
  PE.imp (pe_bm PySem.F.plainAttrs_list PySem.F.slot_list_append PySem.F.type_list_append mt_append (pe_var hN hv hd hcd) (pa_cons ha pa_nil hs) hbase hfew hline hs hplain) fun σ H Q h => by
  obtain ⟨F, D, m, ρ, S, r, c⟩ := h
  unfold fApp at c
  split at c
  · rename_i xs ex
    obtain ⟨a, vs, ea, h1, q1⟩ := own_lst r ex
    refine ⟨_, ea, .inl ⟨rfl, vs, .inl (.inl h1)⟩, ?_⟩
    refine stepX r c fun F1 m1 y v S1 H1 l1 p1 r1 ey c1 => ?_
    obtain ⟨a', vs', ea', h1', q1'⟩ := own_lst r1 ex
    rw [ea] at ea'
    cases ea'
    split at c1
    · rename_i hl
      refine ⟨a, vs', v, rfl, rfl, h1', by rw [← Paired.length q1', sizeLine_eq]; exact hl, ?_⟩
      exact c1 F1 m1 .non _ Le.refl (List.prefix_refl m1) (r1.putOwn ex ea ⟨_, rfl, Paired.snoc q1' ey⟩) Dp.non
    · exact c1.elim
  · exact c.elim
/-- x.pop() -/
def fPop (i : Nat) : FX := fun ρ S => match ρ[i]? with
  | some (.own (.lst xs)) => (match xs[xs.length - 1]? with
    | some y => .ok (y, ρ.set i (.own (.lst xs.dropLast))) S
    | none => .bad)
  | _ => .bad
theorem paired_dropLast {α β : Type} {F : α → β → Prop} : ∀ {l₁ : List α} {l₂ : List β}, Paired F l₁ l₂ → Paired F l₁.dropLast l₂.dropLast
  | _, _, .nil => .nil
  | [_], [_], .cons _ _ => .nil
  | _ :: _ :: _, _ :: _ :: _, .cons h t => .cons h (paired_dropLast t)
theorem paired_erase {α β : Type} {F : α → β → Prop} : ∀ {l₁ : List α} {l₂ : List β} (k : Nat), Paired F l₁ l₂ → Paired F (l₁.eraseIdx k) (l₂.eraseIdx k)
  | _, _, _, .nil => .nil
  | _ :: _, _ :: _, 0, .cons _ t => t
  | _ :: _, _ :: _, k + 1, .cons h t => .cons h (paired_erase k t)
theorem x_pop {i : Nat} {x : Str} {p' : Pos} (hN : X.N[i]? = some x) (hv : Vis X.env.scope x) (hd : (x == ("__debug__" : Str)) = false := by decide) (hcd : (x == ("__classdict__" : Str)) = false := by decide)
    (hbase : attributeBase (.Name x p') "pop" X.env (eval (.Name x p') X.env) = eval (.Name x p') X.env := by rfl) (hline : (apos.endLine == cpos.line) = true := by rfl) :
    PE X (.Call (.Attribute (.Name x p') "pop" apos) [] [] cpos) (LX X Wc (fPop i)) :=
  PE.imp (pe_bm0 PySem.F.plainAttrs_list PySem.F.slot_list_pop PySem.F.type_list_pop mt_pop (pe_var hN hv hd hcd) hbase hline) fun σ H Q h => by
  obtain ⟨F, D, m, ρ, S, r, c⟩ := h
  unfold fPop at c
  split at c
  · rename_i xs ex
    obtain ⟨a, vs, ea, h1, q1⟩ := own_lst r ex
    refine ⟨_, ea, .inl ⟨rfl, vs, .inl (.inl h1)⟩, ?_⟩
    split at c
    · rename_i y ey
      obtain ⟨v, ev, rv⟩ := paired_get q1 ey
      rw [Paired.length q1] at ev
      exact ⟨a, vs, v, rfl, rfl, h1, ev, c F m v _ Le.refl (List.prefix_refl m) (r.putOwn ex ea ⟨_, rfl, paired_dropLast q1⟩) rv⟩
    · exact c.elim
  · exact c.elim
/-- x.pop(e) -/
def fPopAt (i : Nat) (fa : FE) : FX := fun ρ S => match ρ[i]? with
  | some (.own (.lst xs)) => (fa ρ S).bind fun z S1 => match z with
    | .d (.int k) => (match ixN xs.length k with
      | some j => (match xs[j]? with
        | some y => if xs.length ≤ 16777216 then .ok (y, ρ.set i (.own (.lst (xs.eraseIdx j)))) S1 else .bad
        | none => .bad)
      | none => .bad)
    | _ => .bad
  | _ => .bad
theorem x_popAt {i : Nat} {x : Str} {p' : Pos} (hN : X.N[i]? = some x) (hv : Vis X.env.scope x) (ha : PE X e (LE X Wc fa)) (hd : (x == ("__debug__" : Str)) = false := by decide) (hcd : (x == ("__classdict__" : Str)) = false := by decide)
    (hbase : attributeBase (.Name x p') "pop" X.env (eval (.Name x p') X.env) = eval (.Name x p') X.env := by rfl)
    (hfew : ((backTo cpos (starEach [e] X.env)).all (fun x => !x.1) && (backToKw cpos (keywordEach [] X.env)).all (fun x => x.1.isSome)
      && decide (([e] : List Expr).length + ([] : List Keyword).length + (if ([] : List Keyword).isEmpty then 0 else 1) < 30)) = true := by rfl)
    (hline : (apos.endLine == cpos.line) = true := by rfl) (hs : starEach [e] X.env = (false, eval e X.env) :: starEach [] X.env := by rfl) (hplain : (backTo cpos (starEach [] X.env)).any (·.1) = false := by rfl) :
    PE X (.Call (.Attribute (.Name x p') "pop" apos) [e] [] cpos) (LX X Wc (fPopAt i fa)) :=
  PE.imp (pe_bm PySem.F.plainAttrs_list PySem.F.slot_list_pop PySem.F.type_list_pop mt_popAt (pe_var hN hv hd hcd) (pa_cons ha pa_nil hs) hbase hfew hline hs hplain) fun σ H Q h => by
  obtain ⟨F, D, m, ρ, S, r, c⟩ := h
  unfold fPopAt at c
  split at c
  · rename_i xs ex
    obtain ⟨a, vs, ea, h1, q1⟩ := own_lst r ex
    refine ⟨_, ea, .inl ⟨rfl, vs, .inl (.inl h1)⟩, ?_⟩
    refine stepX r c fun F1 m1 y v S1 H1 l1 p1 r1 ey c1 => ?_
    obtain ⟨a', vs', ea', h1', q1'⟩ := own_lst r1 ex
    rw [ea] at ea'
    cases ea'
    split at c1
    · rename_i k
      cases ey
      split at c1
      · rename_i j ej
        split at c1
        · rename_i z ez
          split at c1
          · rename_i hl
            obtain ⟨w, ew, rw'⟩ := paired_get q1' ez
            have el := Paired.length q1'
            obtain ⟨k1, k2, k3, k4⟩ := ixN_seq ej
            refine ⟨a, vs', k, j, w, rfl, rfl, h1', by omega, by omega, by rw [← el]; exact k1, ew, ?_⟩
            exact c1 F1 m1 w _ Le.refl (List.prefix_refl m1) (r1.putOwn ex ea ⟨_, rfl, paired_erase j q1'⟩) rw'
          · exact c1.elim
        · exact c1.elim
      · exact c1.elim
    · exact c1.elim
  · exact c.elim
/-- target = such an expression -/
def fAsgX (g : FG) (fx : FX) : FT := fun ρ S => fl (fx ρ S) ρ fun a S1 => setG (g a.1 a.2) S1 fun ρ1 S2 => .nx ρ1 S2
theorem s_asgX {tg : Expr} {fx : FX} (he : PE X e (LX X Wc fx)) (hg : PG X tg (liftG X.K own g)) (hs : swapsWithSole [tg] e pos.line X.env = pure false := by rfl) (hw : swappedStores [tg] e X.env = pure none := by rfl)
    (h1 : (assignEach [tg] X.env).map (·.2) = [assign tg X.env] := by rfl) : PS X (.Assign [tg] e pos) (LS X Wc (fAsgX g fx)) := PS.imp (ps_asg he hg hs hw h1) fun D σ H h => by
  obtain ⟨F, Hd, m, ρ, S, r, c⟩ := h
  refine ⟨F, Hd, m, ρ, S, r, ?_⟩
  unfold fAsgX at c
  cases z : fx ρ S with
  | bad => rw [z] at c; exact c.elim
  | err w S1 => rw [z] at c; exact fun F1 m1 C H1 l1 p1 r1 hC => c F1 m1 σ C H1 l1 p1 r1 hC
  | ok a S1 =>
    rw [z] at c
    intro F1 m1 v H1 l1 p1 r1 e1
    have c : contS X.K X.mg Wc F Hd m D (setG (g a.1 a.2) S1 fun ρ1 S2 => .nx ρ1 S2) := c
    cases q : g a.1 a.2 with
    | none => rw [q] at c; exact c.elim
    | some ρ1 =>
      rw [q] at c
      exact ⟨F1, Hd, m1, a.2, S1, a.1, r1, e1, ρ1, q, fun σ' _ r2 => c F1 m1 σ' H1 l1 p1 r2⟩
/-- such an expression as a statement -/
def fDropX (fx : FX) : FT := fun ρ S => fl (fx ρ S) ρ fun a S1 => .nx a.2 S1
theorem s_exprX {fx : FX} (he : PE X e (LX X Wc fx)) (hs : swapsWith e none pos.line X.env = pure false := by rfl) : PS X (.Expr e pos) (LS X Wc (fDropX fx)) := PS.imp (ps_expr he hs) fun D σ H h => by
  obtain ⟨F, Hd, m, ρ, S, r, c⟩ := h
  refine ⟨F, Hd, m, ρ, S, r, ?_⟩
  unfold fDropX at c
  cases z : fx ρ S with
  | bad => rw [z] at c; exact c.elim
  | err w S1 => rw [z] at c; exact fun F1 m1 C H1 l1 p1 r1 hC => c F1 m1 σ C H1 l1 p1 r1 hC
  | ok a S1 => rw [z] at c; exact fun F1 m1 v H1 l1 p1 r1 e1 => c F1 m1 σ H1 l1 p1 r1
/-- target = value, the target a tuple of names -/
def fAsg (g : FG) (fa : FE) : FT := fun ρ S => fl (fa ρ S) ρ fun x S1 => setG (g x ρ) S1 fun ρ1 S2 => .nx ρ1 S2
theorem s_asg {tg : Expr} (he : PE X e (LE X Wc fa)) (hg : PG X tg (liftG X.K own g)) (hs : swapsWithSole [tg] e pos.line X.env = pure false := by rfl) (hw : swappedStores [tg] e X.env = pure none := by rfl)
    (h1 : (assignEach [tg] X.env).map (·.2) = [assign tg X.env] := by rfl) : PS X (.Assign [tg] e pos) (LS X Wc (fAsg g fa)) := PS.imp (ps_asg he hg hs hw h1) fun D σ H h => by
  obtain ⟨F, Hd, m, ρ, S, r, c⟩ := h
  refine stepS r c fun F1 m1 x v S1 H1 l1 p1 r1 e1 c1 => ?_
  cases q : g x ρ with
  | none => rw [q] at c1; exact c1.elim
  | some ρ1 =>
    rw [q] at c1
    exact ⟨F1, Hd, m1, ρ, S1, x, r1, e1, ρ1, q, fun σ' _ r2 => c1 F1 m1 σ' H1 Le.refl (List.prefix_refl m1) r2⟩
/-- x op= e -/
def fAug (i : Nat) (op : W → W → List Ob → Res W) (fa : FE) : FT := fun ρ S => match ρ[i]? with
  | some (.w x) => fl (fa ρ S) ρ fun y S1 => fl (op x y S1) ρ fun z S2 => .nx (ρ.set i (.w z)) S2
  | _ => .bad
theorem s_aug {i : Nat} {x : Str} {op : Operator} {ti : TIp} {fop : W → W → List Ob → Res W} {pos' : Pos} (hN : X.N.Nodup) (hi : X.N[i]? = some x) (hx : Loc X.env.scope x) (he : PE X e (LE X Wc fa)) (ho : PIp X op ti) (hr : OpF X Wc ti fop) (hf : X.fn x = true ∨ X.env.scope.names.lookup x = some .local := by first | exact .inl rfl | exact .inr rfl | assumption) :
    PS X (.AugAssign (.Name x pos') op e pos) (LS X Wc (fAug i fop fa)) := PS.imp (ps_aug hN hi hx he ho hf) fun D σ H h => by
  obtain ⟨F, Hd, m, ρ, S, r, c⟩ := h
  unfold fAug at c
  split at c
  · rename_i x ex
    obtain ⟨u, eu, ru⟩ := r.s.sl i _ ex
    refine ⟨u, eu, ?_⟩
    refine stepS r c fun F1 m1 y v S1 H1 l1 p1 r1 ey c1 => ?_
    refine hr F1 Hd m1 ρ S1 σ H1 x y u v _ r1 (RepW.mono l1 p1 ru) ey ?_
    cases z : fop x y S1 with
    | bad => rw [z] at c1; exact c1.elim
    | err w S2 => rw [z] at c1; exact fun F2 m2 C H2 l2 p2 r2 hC => c1 F2 m2 σ C H2 l2 p2 r2 hC
    | ok w S2 => rw [z] at c1; exact fun F2 m2 v2 H2 l2 p2 r2 e2 => c1 F2 m2 _ H2 l2 p2 (r2.setW e2)
  · exact c.elim
theorem f_iadd : OpF X Wc (ipI fun i j => i + j) (oI yes fun i j => .int (i + j)) := f_int0 (g' := fun i j => .int (i + j)) fun _ _ _ => .int _
theorem f_isub : OpF X Wc (ipI fun i j => i - j) oSub := f_int0 (g' := fun i j => .int (i - j)) fun _ _ _ => .int _
/-- an own list + a list -/
def fAddO (i : Nat) (fb : FE) : FO := fun ρ S => match ρ[i]? with
  | some (.own (.lst xs)) => (fb ρ S).bind fun y S1 => match y with
    | .d (.list ys) => if xs.length + ys.length ≤ 16777216 then .ok (.lst (xs ++ ys.map .d)) S1 else .bad
    | _ => .bad
  | _ => .bad
theorem q_addO {i : Nat} {x : Str} {p' : Pos} (hN : X.N[i]? = some x) (hv : Vis X.env.scope x) (hb : PE X b (LE X Wc fb)) (hd : (x == ("__debug__" : Str)) = false := by decide) (hcd : (x == ("__classdict__" : Str)) = false := by decide) :
    PE X (.BinOp (.Name x p') .Add b pos) (LO X Wc (fAddO i fb)) := PE.imp (pe_op op_catS (pe_var hN hv hd hcd) hb) fun σ H Q h => by
  obtain ⟨F, D, m, ρ, S, r, c⟩ := h
  unfold fAddO at c
  split at c
  · rename_i xs ex
    obtain ⟨a, vs, ea, _, _⟩ := own_lst r ex
    refine ⟨_, ea, ?_⟩
    refine step r c fun F1 m1 y v S1 H1 l1 p1 r1 ey c1 => ?_
    obtain ⟨a', vs', ea', h1', q1'⟩ := own_lst r1 ex
    rw [ea] at ea'
    cases ea'
    split at c1
    · rename_i ys
      split at c1
      · rename_i hl
        cases ey with
        | @lst b us _ k1 k2 =>
          have e1 := Paired.length q1'
          have e2 := DpAll.len k2
          exact ⟨a, b, vs', us, rfl, rfl, .inl (.inl h1'), Le.sqL r1.b.fr k1, by rw [sizeLine_eq]; omega, fun q hq => new_lst r1 (paired_app q1' (rep_dats k2)) hq c1⟩
      · exact c1.elim
    · exact c1.elim
  · exact c.elim
/-- two lists, a new one -/
def oAddN (x y : W) (S : List Ob) : Res Ob := match x, y with
  | .d (.list xs), .d (.list ys) => if xs.length + ys.length ≤ 16777216 then .ok (.lst ((xs ++ ys).map .d)) S else .bad
  | _, _ => .bad
def fAddN (fa fb : FE) : FO := fun ρ S => (fa ρ S).bind fun x S1 => (fb ρ S1).bind fun y S2 => oAddN x y S2
theorem q_addN (ha : PE X a (LE X Wc fa)) (hb : PE X b (LE X Wc fb)) : PE X (.BinOp a .Add b pos) (LO X Wc (fAddN fa fb)) := PE.imp (pe_op op_catS ha hb) fun σ H Q h => by
  obtain ⟨F, D, m, ρ, S, r0, c⟩ := h
  refine step r0 c fun F1 m1 x v S1 H1 l1 p1 r1 e1 c1 => ?_
  refine step r1 c1 fun F2 m2 y u S2 H2 l2 p2 r2 e2 c2 => ?_
  have e1 := RepW.mono l2 p2 e1
  unfold oAddN at c2
  split at c2
  · rename_i xs ys
    split at c2
    · rename_i hl
      cases e1 with
      | @lst a vs _ h1 h2 =>
        cases e2 with
        | @lst b us _ k1 k2 =>
          have z1 := DpAll.len h2
          have z2 := DpAll.len k2
          exact ⟨a, b, vs, us, rfl, rfl, Le.sqL r2.b.fr h1, Le.sqL r2.b.fr k1, by rw [sizeLine_eq]; omega, fun q hq => new_lst r2 (rep_dats (dps_app h2 k2)) hq c2⟩
    · exact c2.elim
  · exact c2.elim
end
end L2.Q
/-! Layer Q, part L: the store's lists by method; own dicts; calls with keywords; defs by names. -/
namespace L2.Q
open PySem PySem.Spec PyProof.Rows

section
variable {X : Cx} {Wc : WX} {a b e e2 : Expr} {es : List Expr} {pos p apos cpos : Pos} {fa fb fc : FE} {fo fo2 : FO} {fr : FA}
/-! ### the store's lists -/
def isLst (x : W) (S : List Ob) : Bool := match x with
  | .ref n => (match S[n]? with
    | some (.lst _) => true
    | _ => false)
  | _ => false
theorem isLst_rep {Fr Hd : Hp} {μ : List Addr} {ρ : List Sl} {S : List Ob} {σ : St} {H : Hp} (r : R X.K Fr Hd μ ρ S σ H) {x : W} {v : V} (h : isLst x S = true) (e : RepW X.K Fr μ x v) :
    ∃ n a vs, x = .ref n ∧ v = .ref a ∧ μ[n]? = some a ∧ H a = some (.lst vs) := by
  cases x with
  | d x => cases h
  | ref n =>
    obtain ⟨a, ea, rfl⟩ := e
    unfold isLst at h
    dsimp only at h
    split at h
    · rename_i xs es
      obtain ⟨ho, h1, ⟨vs, rfl, q⟩, _⟩ := r.b.st n a _ ea es
      exact ⟨n, a, vs, rfl, rfl, ea, h1⟩
    · cases h
/-- x.append(e) -/
def appSt (x y : W) (S : List Ob) : Res W := match x with
  | .ref n => (match S[n]? with
    | some (.lst xs) => if xs.length < 16777216 then .ok (.d .none) (S.set n (.lst (xs ++ [y]))) else .bad
    | _ => .bad)
  | _ => .bad
def fAppS (fa fb : FE) : FE := fun ρ S => (fa ρ S).bind fun x S1 => if isLst x S1 = true then (fb ρ S1).bind fun y S2 => appSt x y S2 else .bad
theorem q_appS {o : Expr} (ho : PE X o (LE X Wc fa)) (ha : PE X e (LE X Wc fb))
    (hbase : attributeBase o "append" X.env (eval o X.env) = eval o X.env := by rfl)
    (hfew : ((backTo cpos (starEach [e] X.env)).all (fun x => !x.1) && (backToKw cpos (keywordEach [] X.env)).all (fun x => x.1.isSome)
      && decide (([e] : List Expr).length + ([] : List Keyword).length + (if ([] : List Keyword).isEmpty then 0 else 1) < 30)) = true := by rfl)
    (hline : (apos.endLine == cpos.line) = true := by rfl) (hs : starEach [e] X.env = (false, eval e X.env) :: starEach [] X.env := by rfl) (hplain : (backTo cpos (starEach [] X.env)).any (·.1) = false := by rfl) :
    PE X (.Call (.Attribute o "append" apos) [e] [] cpos) (LE X Wc (fAppS fa fb)) :=
  PE.imp (pe_bm PySem.F.plainAttrs_list PySem.F.slot_list_append PySem.F.type_list_append mt_append ho (pa_cons ha pa_nil hs) hbase hfew hline hs hplain) fun σ H Q h => by
  obtain ⟨F, D, m, ρ, S, r0, c⟩ := h
  refine step r0 c fun F1 m1 x v S1 H1 l1 p1 r1 e1 c1 => ?_
  split at c1
  · rename_i hx
    obtain ⟨n, a, vs, rfl, rfl, ea, h1⟩ := isLst_rep r1 hx e1
    refine ⟨.inl ⟨rfl, vs, .inl (.inl h1)⟩, ?_⟩
    refine step r1 c1 fun F2 m2 y u S2 H2 l2 p2 r2 e2 c2 => ?_
    have ea := pre_get p2 ea
    unfold appSt at c2
    dsimp only at c2
    split at c2
    · rename_i xs es
      split at c2
      · rename_i hl
        obtain ⟨ho, h2, ⟨us, rfl, q⟩, hfr, _⟩ := r2.b.st n a _ ea es
        refine ⟨a, us, u, rfl, rfl, h2, by rw [← Paired.length q, sizeLine_eq]; exact hl, ?_⟩
        exact c2 F2 m2 .non _ Le.refl (List.prefix_refl m2) (r2.put ea hfr ⟨_, rfl, Paired.snoc q e2⟩) Dp.non
      · exact c2.elim
    · exact c2.elim
  · exact c1.elim
/-- x.pop(e) -/
def popSt (x y : W) (S : List Ob) : Res W := match x, y with
  | .ref n, .d (.int k) => (match S[n]? with
    | some (.lst xs) => (match ixN xs.length k with
      | some j => (match xs[j]? with
        | some z => if xs.length ≤ 16777216 then .ok z (S.set n (.lst (xs.eraseIdx j))) else .bad
        | none => .bad)
      | none => .bad)
    | _ => .bad)
  | _, _ => .bad
def fPopS (fa fb : FE) : FE := fun ρ S => (fa ρ S).bind fun x S1 => if isLst x S1 = true then (fb ρ S1).bind fun y S2 => popSt x y S2 else .bad
theorem q_popS {o : Expr} (ho : PE X o (LE X Wc fa)) (ha : PE X e (LE X Wc fb))
    (hbase : attributeBase o "pop" X.env (eval o X.env) = eval o X.env := by rfl)
    (hfew : ((backTo cpos (starEach [e] X.env)).all (fun x => !x.1) && (backToKw cpos (keywordEach [] X.env)).all (fun x => x.1.isSome)
      && decide (([e] : List Expr).length + ([] : List Keyword).length + (if ([] : List Keyword).isEmpty then 0 else 1) < 30)) = true := by rfl)
    (hline : (apos.endLine == cpos.line) = true := by rfl) (hs : starEach [e] X.env = (false, eval e X.env) :: starEach [] X.env := by rfl) (hplain : (backTo cpos (starEach [] X.env)).any (·.1) = false := by rfl) :
    PE X (.Call (.Attribute o "pop" apos) [e] [] cpos) (LE X Wc (fPopS fa fb)) :=
  PE.imp (pe_bm PySem.F.plainAttrs_list PySem.F.slot_list_pop PySem.F.type_list_pop mt_popAt ho (pa_cons ha pa_nil hs) hbase hfew hline hs hplain) fun σ H Q h => by
  obtain ⟨F, D, m, ρ, S, r0, c⟩ := h
  refine step r0 c fun F1 m1 x v S1 H1 l1 p1 r1 e1 c1 => ?_
  split at c1
  · rename_i hx
    obtain ⟨n, a, vs, rfl, rfl, ea, h1⟩ := isLst_rep r1 hx e1
    refine ⟨.inl ⟨rfl, vs, .inl (.inl h1)⟩, ?_⟩
    refine step r1 c1 fun F2 m2 y u S2 H2 l2 p2 r2 e2 c2 => ?_
    have ea := pre_get p2 ea
    rcases rep_int e2 with ⟨k, rfl, rfl⟩ | nk
    · unfold popSt at c2
      dsimp only at c2
      split at c2
      · rename_i xs es
        split at c2
        · rename_i j ej
          split at c2
          · rename_i z ez
            split at c2
            · rename_i hl
              obtain ⟨ho, h2, ⟨us, rfl, q⟩, hfr, _⟩ := r2.b.st n a _ ea es
              obtain ⟨w, ew, rw'⟩ := paired_get q ez
              have el := Paired.length q
              obtain ⟨k1, k2, k3, k4⟩ := ixN_seq ej
              refine ⟨a, us, k, j, w, rfl, rfl, h2, by omega, by omega, by rw [← el]; exact k1, ew, ?_⟩
              exact c2 F2 m2 w _ Le.refl (List.prefix_refl m2) (r2.put ea hfr ⟨_, rfl, paired_erase j q⟩) rw'
            · exact c2.elim
          · exact c2.elim
        · exact c2.elim
      · exact c2.elim
    · unfold popSt at c2
      split at c2
      · exact absurd rfl (nk _)
      · exact c2.elim
  · exact c1.elim

/-! ### own dicts -/
def keyOf : W → Option Key
  | .d (.int i) => some (.inl i)
  | .d (.str z) => some (.inr z)
  | _ => none
theorem keyOf_rep {K : PySem.W.Frag} {Fr : Hp} {μ : List Addr} {x : W} {v : V} {k : Key} (h : keyOf x = some k) (e : RepW K Fr μ x v) : v = kV k := by
  cases x with
  | ref n => cases h
  | d x =>
    rcases rep_cases (μ := μ) e with ⟨rfl, rfl⟩ | ⟨b, rfl, rfl⟩ | ⟨i, rfl, rfl⟩ | ⟨z, rfl, rfl⟩ | ⟨a, vs, ds, rfl, rfl, h1, h2⟩ | ⟨a, vs, ds, rfl, rfl, h1, h2⟩
    · cases h
    · cases h
    · cases h; rfl
    · cases h; rfl
    · cases h
    · cases h
def valW (kvs : List (Key × W)) (k : Key) : Option W := (kvs.find? fun kv => decide (kv.1 = k)).map (·.2)
def putW (kvs : List (Key × W)) (k : Key) (v : W) : List (Key × W) :=
  if (kvs.any fun kv => decide (kv.1 = k)) = true then kvs.map (fun kv => if kv.1 = k then (kv.1, v) else kv) else kvs ++ [(k, v)]
theorem valW_rep {K : PySem.W.Frag} {Fr : Hp} {μ : List Addr} {k : Key} : ∀ {kvs : List (Key × W)} {vs : List (Key × V)}, RepKV K Fr μ kvs vs → (valW kvs k = none ∧ valV vs k = none) ∨ ∃ x v, valW kvs k = some x ∧ valV vs k = some v ∧ RepW K Fr μ x v
  | _, _, .nil => .inl ⟨rfl, rfl⟩
  | (k1, x) :: r, (k2, v) :: t, .cons h rest => by
    obtain ⟨e, q⟩ := h
    have e : k1 = k2 := e
    subst e
    by_cases z : k1 = k
    · refine .inr ⟨x, v, ?_, ?_, q⟩ <;> simp [valW, valV, List.find?_cons, z]
    · have ih := valW_rep (k := k) rest
      have e1 : valW ((k1, x) :: r) k = valW r k := by simp [valW, List.find?_cons, z]
      have e2 : valV ((k1, v) :: t) k = valV t k := by simp [valV, List.find?_cons, z]
      rw [e1, e2]; exact ih
theorem any_rep {K : PySem.W.Frag} {Fr : Hp} {μ : List Addr} {k : Key} : ∀ {kvs : List (Key × W)} {vs : List (Key × V)}, RepKV K Fr μ kvs vs → (kvs.any fun kv => decide (kv.1 = k)) = (vs.any fun kv => decide (kv.1 = k))
  | _, _, .nil => rfl
  | (k1, x) :: r, (k2, v) :: t, .cons h rest => by
    obtain ⟨e, q⟩ := h
    have e : k1 = k2 := e
    subst e
    rw [List.any_cons, List.any_cons, any_rep rest]
theorem map_rep {K : PySem.W.Frag} {Fr : Hp} {μ : List Addr} {k : Key} {y : W} {u : V} (hy : RepW K Fr μ y u) : ∀ {kvs : List (Key × W)} {vs : List (Key × V)}, RepKV K Fr μ kvs vs → RepKV K Fr μ (kvs.map fun kv => if kv.1 = k then (kv.1, y) else kv) (vs.map fun kv => if kv.1 = k then (kv.1, u) else kv)
  | _, _, .nil => .nil
  | (k1, x) :: r, (k2, v) :: t, .cons h rest => by
    obtain ⟨e, q⟩ := h
    have e : k1 = k2 := e
    subst e
    refine .cons ?_ (map_rep hy rest)
    by_cases z : k1 = k
    · dsimp only; rw [if_pos z, if_pos z]; exact ⟨rfl, hy⟩
    · dsimp only; rw [if_neg z, if_neg z]; exact ⟨rfl, q⟩
theorem putW_rep {K : PySem.W.Frag} {Fr : Hp} {μ : List Addr} {k : Key} {y : W} {u : V} (hy : RepW K Fr μ y u) {kvs : List (Key × W)} {vs : List (Key × V)} (h : RepKV K Fr μ kvs vs) : RepKV K Fr μ (putW kvs k y) (putK vs k u) := by
  unfold putW putK
  rw [any_rep h]
  split
  · exact map_rep hy h
  · exact Paired.snoc h ⟨rfl, hy⟩
theorem own_dct {Fr Hd : Hp} {μ : List Addr} {ρ : List Sl} {S : List Ob} {σ : St} {H : Hp} (r : R X.K Fr Hd μ ρ S σ H) {i : Nat} {xs : List (Key × W)} (e : ρ[i]? = some (.own (.dct xs))) :
    ∃ a vs, σ[i]? = some (some (.ref a)) ∧ H a = some (.dK vs) ∧ RepKV X.K Fr μ xs vs := by
  obtain ⟨a, ho, e1, h1, ⟨vs, rfl, q⟩, _⟩ := r.s.sl i _ e
  exact ⟨a, vs, e1, h1, q⟩
def fDnew : FO := fun _ S => .ok (.dct []) S
theorem q_dnew : PE X (.Dict [] [] pos) (LO X Wc fDnew) := PE.imp pe_dnewK fun σ H Q h => by
  obtain ⟨F, D, m, ρ, S, r, c⟩ := h
  intro q hq
  have f := r.new hq
  exact c F m (.ref q) _ Le.refl (List.prefix_refl m) (r.upd (o := .dK []) f) ⟨q, .dK [], rfl, upd_same, ⟨[], rfl, .nil⟩, f⟩
/-- d[e] -/
def getD (kvs : List (Key × W)) (y : W) (S : List Ob) : Res W := match keyOf y with
  | some k => (match valW kvs k with
    | some x => .ok x S
    | none => .bad)
  | none => .bad
def fDget (i : Nat) (fb : FE) : FE := fun ρ S => match ρ[i]? with
  | some (.own (.dct kvs)) => (fb ρ S).bind (getD kvs)
  | _ => .bad
theorem q_dget {i : Nat} {x : Str} {p' : Pos} (hu : X.A.units + 1 < cLine) (hN : X.N[i]? = some x) (hv : Vis X.env.scope x) (hb : PE X b (LE X Wc fb)) (hs : NoSl b := by exact fun _ _ => rfl) (hd : (x == ("__debug__" : Str)) = false := by decide) (hcd : (x == ("__classdict__" : Str)) = false := by decide) :
    PE X (.Subscript (.Name x p') b pos) (LE X Wc (fDget i fb)) := PE.imp (pe_dget hu (pe_var hN hv hd hcd) hb hs) fun σ H Q h => by
  obtain ⟨F, D, m, ρ, S, r, c⟩ := h
  unfold fDget at c
  split at c
  · rename_i kvs ex
    obtain ⟨a, vs, ea, _, _⟩ := own_dct r ex
    refine ⟨_, ea, ?_⟩
    refine step r c fun F1 m1 y v S1 H1 l1 p1 r1 ey c1 => ?_
    obtain ⟨a', vs', ea', h1', q1'⟩ := own_dct r1 ex
    rw [ea] at ea'
    cases ea'
    unfold getD at c1
    split at c1
    · rename_i k hk
      split at c1
      · rename_i x hx
        rcases valW_rep (k := k) q1' with ⟨e1, _⟩ | ⟨x', v', e1, e2, e3⟩
        · rw [hx] at e1; cases e1
        · rw [hx] at e1
          cases e1
          rw [keyOf_rep hk ey]
          exact ⟨a, v', rfl, e2 ▸ DGet.k h1', rt r1 c1 e3⟩
      · exact c1.elim
    · exact c1.elim
  · exact c.elim
/-- d.get(e, f) -/
def fDget2 (i : Nat) (fb fc : FE) : FE := fun ρ S => match ρ[i]? with
  | some (.own (.dct kvs)) => (fb ρ S).bind fun y S1 => (fc ρ S1).bind fun z S2 => (match keyOf y with
    | some k => .ok ((valW kvs k).getD z) S2
    | none => .bad)
  | _ => .bad
theorem q_dget2 {i : Nat} {x : Str} {p' : Pos} (hu : X.A.units + 1 < cLine) (hN : X.N[i]? = some x) (hv : Vis X.env.scope x) (hb : PE X b (LE X Wc fb)) (hc : PE X e (LE X Wc fc)) (m : M2 X (.Name x p') "get" apos b e cpos := by exact ⟨rfl, rfl, rfl, rfl⟩) (hd : (x == ("__debug__" : Str)) = false := by decide) (hcd : (x == ("__classdict__" : Str)) = false := by decide) :
    PE X (.Call (.Attribute (.Name x p') "get" apos) [b, e] [] cpos) (LE X Wc (fDget2 i fb fc)) := PE.imp (pe_dget2 hu (pe_var hN hv hd hcd) hb hc m) fun σ H Q h => by
  obtain ⟨F, D, m, ρ, S, r, c⟩ := h
  unfold fDget2 at c
  split at c
  · rename_i kvs ex
    obtain ⟨a, vs, ea, h0, _⟩ := own_dct r ex
    refine ⟨_, ea, a, rfl, .inl ⟨vs, .inl h0⟩, ?_⟩
    refine step r c fun F1 m1 y v S1 H1 l1 p1 r1 ey c1 => ?_
    refine step r1 c1 fun F2 m2 z u S2 H2 l2 p2 r2 ez c2 => ?_
    obtain ⟨a', vs', ea', h1', q1'⟩ := own_dct r2 ex
    rw [ea] at ea'
    cases ea'
    split at c2
    · rename_i k hk
      rw [keyOf_rep hk ey]
      refine ⟨_, DGet.k h1', ?_⟩
      rcases valW_rep (k := k) q1' with ⟨e1, e2⟩ | ⟨x', v', e1, e2, e3⟩
      · rw [e2]; rw [e1] at c2; exact rt r2 c2 ez
      · rw [e2]; rw [e1] at c2; exact rt r2 c2 e3
    · exact c2.elim
  · exact c.elim
/-- e in d, e not in d -/
def fDin (neg : Bool) (i : Nat) (fb : FE) : FE := fun ρ S => match ρ[i]? with
  | some (.own (.dct _)) => (fb ρ S).bind fun y S1 => (match ρ[i]?, keyOf y with
    | some (.own (.dct kvs)), some k => .ok (.d (.bool (neg ^^ (valW kvs k).isSome))) S1
    | _, _ => .bad)
  | _ => .bad
theorem din_imp {i : Nat} {neg : Bool} {σ : St} {H : Hp} {Q : VK} (h : LE X Wc (fDin neg i fb) σ H Q) : LE X Wc fb σ H fun y H1 => tVar i σ H1 fun x H2 => ∃ a o, x = .ref a ∧ DGet H2 a y o ∧ Q (.bl (neg ^^ o.isSome)) H2 := by
  obtain ⟨F, D, m, ρ, S, r, c⟩ := h
  unfold fDin at c
  split at c
  · rename_i kvs ex
    refine step r c fun F1 m1 y v S1 H1 l1 p1 r1 ey c1 => ?_
    obtain ⟨a, vs, ea, h1, q1⟩ := own_dct r1 ex
    rw [ex] at c1
    split at c1
    · rename_i kvs' k e1 hk
      cases e1
      refine ⟨_, ea, a, valV vs k, rfl, ?_, ?_⟩
      · rw [keyOf_rep hk ey]; exact DGet.k h1
      · rcases valW_rep (k := k) q1 with ⟨e1, e2⟩ | ⟨x', v', e1, e2, e3⟩
        · rw [e2]; rw [e1] at c1; exact rt r1 c1 (Dp.bl _)
        · rw [e2]; rw [e1] at c1; exact rt r1 c1 (Dp.bl _)
    · exact c1.elim
  · exact c.elim
theorem q_din {i : Nat} {x : Str} {p' : Pos} (hu : X.A.units + 1 < cLine) (hN : X.N[i]? = some x) (hv : Vis X.env.scope x) (hb : PE X b (LE X Wc fb)) (hd : (x == ("__debug__" : Str)) = false := by decide) (hcd : (x == ("__classdict__" : Str)) = false := by decide) :
    PE X (.Compare b [.In] [.Name x p'] pos) (LE X Wc (fDin false i fb)) := PE.imp (pe_cmp (pc_din hu hb (pe_var hN hv hd hcd)) rfl) fun σ H Q h => lift.imp (fun y H1 ⟨u, e1, a, o, e2, e3, q⟩ => ⟨u, e1, a, o, e2, e3, by rw [Bool.false_xor] at q; exact q⟩) (din_imp h)
theorem q_dnotin {i : Nat} {x : Str} {p' : Pos} (hu : X.A.units + 1 < cLine) (hN : X.N[i]? = some x) (hv : Vis X.env.scope x) (hb : PE X b (LE X Wc fb)) (hd : (x == ("__debug__" : Str)) = false := by decide) (hcd : (x == ("__classdict__" : Str)) = false := by decide) :
    PE X (.Compare b [.NotIn] [.Name x p'] pos) (LE X Wc (fDin true i fb)) := PE.imp (pe_cmp (pc_dnotin hu hb (pe_var hN hv hd hcd)) rfl) fun σ H Q h => lift.imp (fun y H1 ⟨u, e1, a, o, e2, e3, q⟩ => ⟨u, e1, a, o, e2, e3, by rw [Bool.true_xor] at q; exact q⟩) (din_imp h)
theorem t_din {i : Nat} {x : Str} {p' : Pos} (hu : X.A.units + 1 < cLine) (hN : X.N[i]? = some x) (hv : Vis X.env.scope x) (hb : PE X b (LE X Wc fb)) (hd : (x == ("__debug__" : Str)) = false := by decide) (hcd : (x == ("__classdict__" : Str)) = false := by decide) :
    PT X (.Compare b [.In] [.Name x p'] pos) (LB X Wc (fT (fDin false i fb))) := PT.imp (pt_cmp (pc_din hu hb (pe_var hN hv hd hcd)) rfl) fun σ H Q h => lift.imp (fun y H1 ⟨u, e1, a, o, e2, e3, q⟩ => ⟨u, e1, a, o, e2, e3, by rw [Bool.false_xor] at q; exact q⟩) (din_imp (t_imp h))
theorem t_dnotin {i : Nat} {x : Str} {p' : Pos} (hu : X.A.units + 1 < cLine) (hN : X.N[i]? = some x) (hv : Vis X.env.scope x) (hb : PE X b (LE X Wc fb)) (hd : (x == ("__debug__" : Str)) = false := by decide) (hcd : (x == ("__classdict__" : Str)) = false := by decide) :
    PT X (.Compare b [.NotIn] [.Name x p'] pos) (LB X Wc (fT (fDin true i fb))) := PT.imp (pt_cmp (pc_dnotin hu hb (pe_var hN hv hd hcd)) rfl) fun σ H Q h => lift.imp (fun y H1 ⟨u, e1, a, o, e2, e3, q⟩ => ⟨u, e1, a, o, e2, e3, by rw [Bool.true_xor] at q; exact q⟩) (din_imp (t_imp h))
/-- d[e] = v -/
def fDput (i : Nat) (fk fv : FE) : FT := fun ρ S => fl (fv ρ S) ρ fun v S1 => match ρ[i]? with
  | some (.own (.dct kvs)) => fl (fk ρ S1) ρ fun y S2 => (match keyOf y with
    | some k => if kvs.length < 16777216 then .nx (ρ.set i (.own (.dct (putW kvs k v)))) S2 else .bad
    | none => .bad)
  | _ => .bad
theorem s_dput {i : Nat} {x : Str} {p' pos' : Pos} {value : Expr} {fk fv : FE} (hu : X.A.units + 1 < cLine) (hN : X.N[i]? = some x) (hvs : Vis X.env.scope x) (hk : PE X e (LE X Wc fk)) (hv : PE X value (LE X Wc fv)) (hs : swapsWith value (some (.Subscript (.Name x p') e pos')) pos.line X.env = pure false := by rfl)
    (hd : (x == ("__debug__" : Str)) = false := by decide) (hcd : (x == ("__classdict__" : Str)) = false := by decide) :
    PS X (.Assign [.Subscript (.Name x p') e pos'] value pos) (LS X Wc (fDput i fk fv)) := PS.imp (ps_dput hu (pe_var hN hvs hd hcd) hk hv hs) fun D σ H h => by
  obtain ⟨F, Hd, m, ρ, S, r, c⟩ := h
  refine stepS r c fun F1 m1 v vv S1 H1 l1 p1 r1 e1 c1 => ?_
  split at c1
  · rename_i kvs ex
    obtain ⟨a, vs, ea, _, _⟩ := own_dct r1 ex
    refine ⟨_, ea, ?_⟩
    refine stepS r1 c1 fun F2 m2 y u S2 H2 l2 p2 r2 e2 c2 => ?_
    obtain ⟨a', vs', ea', h1', q1'⟩ := own_dct r2 ex
    rw [ea] at ea'
    cases ea'
    split at c2
    · rename_i k hk
      split at c2
      · rename_i hl
        rw [keyOf_rep hk e2]
        have el := Paired.length q1'
        exact ⟨a, _, rfl, DPut.k h1' (by rw [sizeLine_eq]; omega), c2 F2 m2 σ _ Le.refl (List.prefix_refl m2) (r2.putOwn ex ea ⟨_, rfl, putW_rep (RepW.mono l2 p2 e1) q1'⟩)⟩
      · exact c2.elim
    · exact c2.elim
  · exact c1.elim
/-- sorted(d): fewer than 64 keys, all ints -/
def intKeys : List (Key × W) → Option (List Int)
  | [] => some []
  | (.inl i, _) :: r => (intKeys r).map (i :: ·)
  | (.inr _, _) :: _ => none
theorem intKeys_map {K : PySem.W.Frag} {Fr : Hp} {μ : List Addr} : ∀ {kvs : List (Key × W)} {vs : List (Key × V)} {ks : List Int}, intKeys kvs = some ks → RepKV K Fr μ kvs vs → vs.map (·.1) = ks.map Sum.inl
  | [], _, _, h, .nil => by cases h; rfl
  | (.inl i, x) :: r, (k2, v) :: t, ks, h, .cons q rest => by
    unfold intKeys at h
    cases z : intKeys r with
    | none => rw [z] at h; cases h
    | some l =>
      rw [z] at h
      cases h
      have e : Sum.inl i = k2 := q.1
      rw [List.map_cons, List.map_cons, intKeys_map z rest, ← e]
  | (.inr i, x) :: r, _ :: _, ks, h, .cons q rest => by cases h
def fDsrt (i : Nat) : FO := fun ρ S => match ρ[i]? with
  | some (.own (.dct kvs)) => (match intKeys kvs with
    | some ks => if ks.length < 64 then .ok (.lst ((ks.mergeSort).map fun i => .d (.int i))) S else .bad
    | none => .bad)
  | _ => .bad
theorem sort_uniq {xs ys : List Int} (p : ys.Perm xs) (h : ys.Pairwise (· ≤ ·)) : ys = xs.mergeSort := by
  have s : (xs.mergeSort).Pairwise (fun a b => a ≤ b) := by
    have := List.pairwise_mergeSort (le := fun a b : Int => decide (a ≤ b)) (fun a b c h1 h2 => by simp only [decide_eq_true_eq] at *; omega) (fun a b => by simp only [Bool.or_eq_true, decide_eq_true_eq]; omega) xs
    exact this.imp fun h => of_decide_eq_true h
  exact List.Perm.eq_of_pairwise (fun _ _ _ _ a b => Int.le_antisymm a b) h s (p.trans (List.mergeSort_perm xs _).symm)
theorem q_dsrt {i : Nat} {x : Str} {p' : Pos} (hc : X.calm = true) (hg : Gl X "sorted") (hm : X.mg "sorted" = none) (hN : X.N[i]? = some x) (hv : Vis X.env.scope x) (hd : (x == ("__debug__" : Str)) = false := by decide) (hcd : (x == ("__classdict__" : Str)) = false := by decide)
    (hs : starEach [.Name x p'] X.env = (false, eval (.Name x p') X.env) :: starEach [] X.env := by rfl) (hpl : (backTo pos (starEach [] X.env)).any (·.1) = false := by rfl) :
    PE X (.Call (.Name "sorted" p) [.Name x p'] [] pos) (LO X Wc (fDsrt i)) :=
  PE.imp (pe_callB (call_sortedDI hc) hg hm (by decide +kernel) (pa_cons (pe_var hN hv hd hcd) pa_nil hs) (he := hs) (hpl := hpl)) fun σ H Q h => by
  obtain ⟨F, D, m, ρ, S, r, c⟩ := h
  unfold fDsrt at c
  split at c
  · rename_i kvs ex
    obtain ⟨a, vs, ea, h1, q1⟩ := own_dct r ex
    split at c
    · rename_i ks hk
      split at c
      · rename_i hl
        refine ⟨_, ea, a, vs, ks, rfl, .inl h1, intKeys_map hk q1, hl, fun ys q hp hy hq => ?_⟩
        rw [sort_uniq hp hy]
        refine new_lst r ?_ hq c
        have := rep_dats (K := X.K) (Fr := F) (μ := m) (ds := (ks.mergeSort).map PyData.int) (vs := (ks.mergeSort).map V.int) ?_
        · rw [List.map_map] at this; exact this
        · generalize ks.mergeSort = l
          induction l with
          | nil => exact .nil
          | cons x r ih => exact .cons (Dp.int _) ih
      · exact c.elim
    · exact c.elim
  · exact c.elim

/-! ### defs by names -/
abbrev FnP (K : PySem.W.Frag) (x : Str) (st : Stmt) (f : Addr) (fd : FuncData) : Prop := FunD K x x (defArgs st) (defBody st) (defScope st) [] [] f fd
theorem FnP.toFun {K : PySem.W.Frag} {x : Str} {st : Stmt} {f : Addr} {fd : FuncData} (F : FnP K x st f fd) : Fun K x x st f fd := by
  obtain ⟨oc, od, dV, kV, doc, pm, an, cdv, ct, osl, rfl, lk, hcd, hD, hK⟩ := F.ex
  rcases hD with ⟨_, rfl⟩ | ⟨e, _⟩
  · exact ⟨⟨oc, od, kV, doc, pm, an, cdv, ct, osl, rfl, lk, hcd⟩, F.kp⟩
  · exact absurd rfl e
/-- how a call with keywords in the parameters' order binds -/
def KwB (fd : FuncData) (ps ks : List Str) (n1 : Nat) : Prop := ∀ (s : Shared) (us ws : List Value), us.length = n1 → ws.length = ks.length → BindsTo s fd ⟨us, ks.zip ws⟩ (ps.zip (us ++ ws))
theorem FnP.kwb {K : PySem.W.Frag} {x : Str} {st : Stmt} {f : Addr} {fd : FuncData} {ps ks : List Str} {n1 : Nat} (F : FnP K x st f fd)
    (h : ∀ (kV doc pm : Value) (an : Option Addr) (cdv ct : Value) (us ws : List Value), us.length = n1 → ws.length = ks.length → bindArgs (PySem.W.fnOf x x (defArgs st) (defBody st) (defScope st) .none kV doc pm an cdv ct) ⟨us, ks.zip ws⟩ = pure (ps.zip (us ++ ws))) : KwB fd ps ks n1 := by
  obtain ⟨oc, od, dV, kV, doc, pm, an, cdv, ct, osl, rfl, lk, hcd, hD, hK⟩ := F.ex
  rcases hD with ⟨_, rfl⟩ | ⟨e, _⟩
  · exact fun s us ws h1 h2 => .of_eq (h kV doc pm an cdv ct us ws h1 h2)
  · exact absurd rfl e
variable {k : Nat} {f : Addr} {fd : FuncData} {ps ks : List Str} {m : FM} {x : Str} {kws : List Keyword}
theorem kw_run {n1 : Nat} {sp : Sp} {pins : List (Addr × Obj)} {σ : St} {H : Hp} {s : Shared} {Q : VK} {us ws : List Value} {vs zs : List V} (F : FnOk X.prog X.w X.K X.mg X.base (L2.CX X.prog X.w) k f fd ps sp) (hr : Room k X.A) (hb : KwB fd ps ks n1) (tk : Takes X Wc)
    (I : Inv X pins σ H s) (r : Vals vs us) (rz : Vals zs ws) (hv : vs.length = n1) (hl : zs.length = ks.length) (h : sp (vs ++ zs) H Q (WE Wc σ)) : wpAny (model X.prog X.w) X.A (call (.ref f) us (ks.zip ws)) (EP X pins σ Q) X.xe s := by
  have r2 := r.append rz
  have hl2 : (us ++ ws).length = ps.length := by rw [← r2.length]; exact F.len _ _ _ _ h
  have hl3 : ws.length = ks.length := by rw [← rz.length]; exact hl
  refine wpAny_call (codeAny_mono (F.run X.A X.stack s H ⟨us, ks.zip ws⟩ (us ++ ws) (vs ++ zs) Q (WE Wc σ) hr I.env0 (hb s us ws (by rw [← r.length]; exact hv) hl3) r2 h) fun r s' hq => ?_)
  cases r with
  | error e => exact passAt tk σ pins H s e s' I hq
  | ok fl =>
    cases fl with
    | ret u => exact I.after hq
    | next => exact False.elim hq
    | brk => exact False.elim hq
    | cont => exact False.elim hq
/-- the keywords' values -/
theorem k_nil : PK X [] (LA X Wc fNil) := ⟨fun pos pins s σ H Q I h => pk_nil.run pos pins s σ H Q I (by
  obtain ⟨F, D, m, ρ, S, r0, c⟩ := h
  exact c F m [] H Le.refl (List.prefix_refl m) r0 .nil)⟩
theorem k_cons {nm : Option Str} {kpos : Pos} (ha : PE X e (LE X Wc fa)) (hr : PK X kws (LA X Wc fr)) : PK X (⟨nm, e, kpos⟩ :: kws) (LA X Wc (fCons fa fr)) := ⟨fun pos pins s σ H Q I h => (pk_cons ha hr).run pos pins s σ H Q I (by
  obtain ⟨F, D, m, ρ, S, r0, c⟩ := h
  refine step r0 c fun F1 m1 x v S1 H1 l1 p1 r1 e1 c1 => ?_
  refine step r1 c1 fun F2 m2 xs vs S2 H2 l2 p2 r2 e2 c2 => ?_
  exact c2 F2 m2 _ H2 Le.refl (List.prefix_refl m2) r2 (.cons (RepW.mono l2 p2 e1) e2))⟩
def fApd (f g : FA) : FA := fun ρ S => (f ρ S).bind fun xs S1 => (g ρ S1).bind fun ys S2 => .ok (xs ++ ys) S2
variable {fk : FA}
/-- f(e, .., k = v, ..) -/
theorem kw_imp {n1 n2 : Nat} (hn : n1 + n2 = ps.length) (hl1 : LenN fr n1) (hl2 : LenN fk n2) {σ : St} {H : Hp} {Q : VK} (h : LE X Wc (fCall m (fApd fr fk)) σ H Q) :
    LA X Wc fr σ H fun vs H1 => LA X Wc fk σ H1 fun zs H2 => vs.length = n1 ∧ zs.length = n2 ∧ spOf X.K X.mg m ps.length (vs ++ zs) H2 Q (WE Wc σ) := by
  obtain ⟨F0, Hd, μ, ρ, S, r, c⟩ := h
  unfold fCall fApd at c
  rw [bind_assoc] at c
  refine ⟨F0, Hd, μ, ρ, S, r, ?_⟩
  cases q1 : fr ρ S with
  | bad => rw [q1] at c; exact c.elim
  | err z S1 => rw [q1] at c; exact c
  | ok ws S1 =>
    rw [q1] at c
    intro F1 m1 vs H1 l1 p1 r1 e1
    refine ⟨F1, Hd, m1, ρ, S1, r1, ?_⟩
    have c : cont X.K X.mg Wc (repE X.K) F0 Hd μ ρ σ Q (((fk ρ S1).bind fun ys S2 => .ok (ws ++ ys) S2).bind fun ws S1 => (m ws S1).bind rvW) := c
    rw [bind_assoc] at c
    cases q2 : fk ρ S1 with
    | bad => rw [q2] at c; exact c.elim
    | err z S2 => rw [q2] at c; exact fun F2 m2 C H2 l2 p2 r2 hC => c F2 m2 C H2 (l1.trans l2) (p1.trans p2) r2 hC
    | ok us S2 =>
      rw [q2] at c
      intro F2 m2 zs H2 l2 p2 r2 e2
      have g1 := Paired.length e1
      have g2 := Paired.length e2
      have g3 := hl1 _ _ _ _ q1
      have g4 := hl2 _ _ _ _ q2
      refine ⟨by omega, by omega, ?_⟩
      have ee : RepWs X.K F2 m2 (ws ++ us) (vs ++ zs) := paired_app (RepWs.mono l2 p2 e1) e2
      exact sp_call (by rw [List.length_append]; omega) r2 ee (cont.mono (l1.trans l2) (p1.trans p2) (fun _ _ z => z) c)
theorem q_callK {n1 n2 : Nat} (F : FnQ X.prog X.w X.K X.mg X.base k f fd ps m) (hr : Room k X.A) (hg : Gl X x) (hm : X.mg x = some (.ref f)) (hk : PySem.W.keepIn X.K (.ref f) = true) (hb : KwB fd ps ks n1) (tk : Takes X Wc)
    (hl1 : LenN fr n1) (hl2 : LenN fk n2) (hn : n1 + n2 = ps.length) (hn2 : n2 = ks.length) (ha : PA X (e :: es) (LA X Wc fr)) (hkw : PK X kws (LA X Wc fk))
    (hall : (backToKw pos (keywordEach kws X.env)).all (·.1.isSome) = true := by rfl) (hks : (backToKw pos (keywordEach kws X.env)).filterMap (·.1) = ks := by rfl)
    (hdb : (x == ("__debug__" : Str)) = false := by decide) (he : starEach (e :: es) X.env = (false, eval e X.env) :: starEach es X.env := by rfl)
    (hpl : ((backTo pos (starEach (e :: es) X.env)).any (·.1) || (backToKw pos (keywordEach kws X.env)).any (·.1.isNone)) = false := by rfl) :
    PE X (.Call (.Name x p) (e :: es) kws pos) (LE X Wc (fCall m (fApd fr fk))) := by
  refine ⟨fun pins s σ H Q I h => ?_⟩
  have h := kw_imp hn hl1 hl2 h
  refine wpAny_Call_Name_kw (ld_glob I hg hm ?_ hdb)
  refine PySem.W.callWith_KW (h₀ := X.base) I.ok.mod.kin hk hall (thn (ha.run pos pins s σ H _ I h) fun us s1 ⟨vs, H1, I1, r, q⟩ => ?_) hpl he
  refine thn (hkw.run pos pins s1 σ H1 _ I1 q) fun ws s2 ⟨zs, H2, I2, rz, hv, hz, q2⟩ => ⟨I2.kIn, ?_⟩
  rw [hks]
  exact kw_run F hr hb tk I2 r rz hv (hz.trans hn2) q2
/-- f(k = v, ..) -/
theorem q_callK0 {n2 : Nat} (F : FnQ X.prog X.w X.K X.mg X.base k f fd ps m) (hr : Room k X.A) (hg : Gl X x) (hm : X.mg x = some (.ref f)) (hk : PySem.W.keepIn X.K (.ref f) = true) (hb : KwB fd ps ks 0) (tk : Takes X Wc)
    (hl2 : LenN fk n2) (hn : n2 = ps.length) (hn2 : n2 = ks.length) (hkw : PK X kws (LA X Wc fk))
    (hall : (backToKw pos (keywordEach kws X.env)).all (·.1.isSome) = true := by rfl) (hks : (backToKw pos (keywordEach kws X.env)).filterMap (·.1) = ks := by rfl)
    (hdb : (x == ("__debug__" : Str)) = false := by decide)
    (hpl : ((backTo pos (starEach [] X.env)).any (·.1) || (backToKw pos (keywordEach kws X.env)).any (·.1.isNone)) = false := by rfl) :
    PE X (.Call (.Name x p) [] kws pos) (LE X Wc (fCall m (fApd fNil fk))) := by
  refine ⟨fun pins s σ H Q I h => ?_⟩
  have h := kw_imp (n1 := 0) (n2 := n2) (ps := ps) (by omega) ln_nil hl2 h
  obtain ⟨F0, Hd, μ, ρ, S, r, c⟩ := h
  have h := c F0 μ [] H Le.refl (List.prefix_refl μ) r .nil
  refine wpAny_Call_Name_kw (ld_glob I hg hm ?_ hdb)
  refine PySem.W.callWith_KW0 (h₀ := X.base) I.ok.mod.kin hk hall ?_ hpl
  refine thn (hkw.run pos pins s σ H _ I h) fun ws s2 ⟨zs, H2, I2, rz, hv, hz, q2⟩ => ⟨I2.kIn, ?_⟩
  rw [hks]
  exact kw_run (us := []) (vs := []) F hr hb tk I2 .nil rz hv (hz.trans hn2) q2
end
end L2.Q
/-! Layer Q, part M: a slot's object handed back; * of tuples; zip, enumerate; max, min. -/
namespace L2.Q
open PySem PySem.Spec PyProof.Rows

section
variable {X : Cx} {Wc : WX} {a b e e2 : Expr} {es : List Expr} {pos p apos cpos : Pos} {fa fb fc : FE} {fo fo2 : FO} {fl1 : FA} {fr : FA}
/-- return x, x's object its own -/
def fRetI (i : Nat) : FT := fun ρ S => match ρ[i]? with
  | some (.own o) => .rt (.own o) S
  | _ => .bad
theorem s_retI {i : Nat} {x : Str} {p' : Pos} (hN : X.N[i]? = some x) (hv : Vis X.env.scope x) (hd : (x == ("__debug__" : Str)) = false := by decide) (hcd : (x == ("__classdict__" : Str)) = false := by decide) : PS X (.Return (some (.Name x p')) pos) (LS X Wc (fRetI i)) :=
  PS.imp (ps_ret (pe_var hN hv hd hcd)) fun D σ H h => by
  obtain ⟨F, Hd, m, ρ, S, r, c⟩ := h
  unfold fRetI at c
  split at c
  · rename_i o eo
    obtain ⟨a, ho, e1, h1, h2, h3, h4, h5⟩ := r.s.sl i _ eo
    exact ⟨_, e1, c F m a ho H Le.refl (List.prefix_refl m) r.b h1 h2 h3 h4 h5⟩
  · exact c.elim
/-- * of ints, a tuple times an int -/
def oMulA : W → W → List Ob → Res W := fun x y S => match x, y with
  | .d (.tuple xs), .d (.int k) => if xs ≠ [] ∧ 2 ≤ k ∧ k ≤ 1000 ∧ xs.length ≤ 1000 then .ok (.d (.tuple (List.replicate k.toNat xs).flatten)) S else .bad
  | x, y => oMul x y S
theorem dps_rep {K : PySem.W.Frag} {F : Hp} {ds : List PyData} {vs : List V} (h : DpAll K F vs ds) : ∀ n : Nat, DpAll K F (List.replicate n vs).flatten (List.replicate n ds).flatten
  | 0 => .nil
  | n + 1 => by
    rw [List.replicate_succ, List.replicate_succ, List.flatten_cons, List.flatten_cons]
    exact dps_app h (dps_rep h n)
theorem f_mulA : OpF X Wc (fun x y H Q => rRepT X.K x y H Q ∨ rI CMulX (fun i j => .int (i * j)) x y H Q) oMulA := by
  intro Fr Hd μ ρ S σ H x y v u Q r ex ey c
  unfold oMulA at c
  split at c
  · rename_i xs k
    split at c
    · rename_i hh
      cases ey
      cases ex with
      | @tup a vs _ h1 h2 =>
        have el := DpAll.len h2
        exact .inl ⟨a, k, vs, rfl, rfl, Le.sqT r.b.fr h1, fun z => hh.1 (by subst z; cases h2; rfl), hh.2.1, hh.2.2.1, by rw [el]; exact hh.2.2.2, fun q hq => new_tup r (dps_rep h2 k.toNat) hq c⟩
    · exact c.elim
  · exact .inr (f_mul Fr Hd μ ρ S σ H _ _ v u Q r ex ey c)
theorem q_mul (ha : PE X a (LE X Wc fa)) (hb : PE X b (LE X Wc fb)) : PE X (.BinOp a .Mult b pos) (LE X Wc (fBin oMulA fa fb)) := q_op (OpR.or op_repT op_mulX) f_mulA ha hb

/-! ### zip, enumerate -/
def zipD : List PyData → List PyData → List W
  | x :: r, y :: s => .d (.tuple [x, y]) :: zipD r s
  | _, _ => []
theorem zipD_len : ∀ xs ys : List PyData, (zipD xs ys).length = min xs.length ys.length
  | [], _ => by simp [zipD]
  | _ :: _, [] => by simp [zipD]
  | x :: r, y :: s => by simp [zipD, zipD_len r s]
theorem zipD_get : ∀ (i : Nat) (xs ys : List PyData) (x y : PyData), xs[i]? = some x → ys[i]? = some y → (zipD xs ys)[i]? = some (.d (.tuple [x, y]))
  | 0, x' :: r, y' :: s, x, y, h, k => by simp at h k; subst h k; rfl
  | i + 1, x' :: r, y' :: s, x, y, h, k => by
    have h : r[i]? = some x := by simpa using h
    have k : s[i]? = some y := by simpa using k
    exact zipD_get i r s x y h k
  | _, [], _, _, _, h, _ => by simp at h
  | _, _ :: _, [], _, _, _, k => by simp at k
def zipV (x y : W) (S : List Ob) : Res (List W) := match x, y with
  | .d (.tuple xs), .d (.tuple ys) => if xs.length ≤ 16777216 then .ok (zipD xs ys) S else .bad
  | .d (.list xs), .d (.list ys) => if xs.length ≤ 16777216 then .ok (zipD xs ys) S else .bad
  | _, _ => .bad
def fZip (fa fb : FE) : FA := fun ρ S => (fa ρ S).bind fun x S1 => (fb ρ S1).bind fun y S2 => zipV x y S2
theorem dps_get {K : PySem.W.Frag} {F : Hp} {ds : List PyData} {vs : List V} {i : Nat} {v : V} (h : DpAll K F vs ds) (e : vs[i]? = some v) : ∃ d, ds[i]? = some d ∧ Dp K F v d := by
  have hi : i < ds.length := by rw [← DpAll.len h]; exact (List.getElem?_eq_some_iff.mp e).1
  obtain ⟨v', e1, e2⟩ := paired_get (rep_dats (μ := []) h) (i := i) (a := .d ds[i]) (by rw [List.getElem?_map, List.getElem?_eq_getElem hi]; rfl)
  rw [e] at e1
  cases e1
  exact ⟨_, List.getElem?_eq_getElem hi, e2⟩
theorem zip_yq {K : PySem.W.Frag} {Fr : Hp} {μ : List Addr} {xs ys : List PyData} {vs us : List V} (hx : DpAll K Fr vs xs) (hy : DpAll K Fr us ys) {i : Nat} {H : Hp} {v : V} {H' : Hp} (y : YPair (fun i => vs[i]?) (fun i => us[i]?) i H v H') : Yq K Fr μ (zipD xs ys) i H v H' := by
  obtain ⟨T, x, z, rfl, hT, rfl, e1, e2⟩ := y
  obtain ⟨d, k1, k2⟩ := dps_get hx e1
  obtain ⟨e, k3, k4⟩ := dps_get hy e2
  exact ⟨_, zipD_get _ _ _ _ _ k1 k3, .inr ⟨T, _, _, rfl, hT, rfl, rfl, .cons k2 (.cons k4 .nil)⟩⟩
theorem walk_zipT {K : PySem.W.Frag} {a b : Addr} {xs ys : List V} {n : Nat} (hn : n = min xs.length ys.length) : Walk (RZ.ItzT K a b) n (fun H => SqT K H a xs ∧ SqT K H b ys) (YPair (fun i => xs[i]?) (fun i => ys[i]?)) := by
  subst hn
  refine ⟨fun i _ hi q => ?_, fun _ q => ⟨xs, ys, q.1, q.2, by omega⟩, fun i H v H' _ q y => ?_⟩
  · have h1 : i < xs.length := by omega
    have h2 : i < ys.length := by omega
    exact ⟨xs, ys, xs[i], ys[i], q.1, q.2, by simp [h1], by simp [h2]⟩
  · obtain ⟨T, x, z, h1, h2, h3, h4, h5⟩ := y
    exact ⟨T, x, z, h1, h2, h3, h4 xs q.1, h5 ys q.2⟩
theorem i_zip {elts : List Expr} {kk : Nat} {tpos : Pos} (hg : Gl X "zip") (hm : X.mg "zip" = none) (ha : PE X e (LE X Wc fa)) (hb : PE X e2 (LE X Wc fb))
    (hs : starEach [e, e2] X.env = (false, eval e X.env) :: starEach [e2] X.env := by rfl) (hs2 : starEach [e2] X.env = (false, eval e2 X.env) :: starEach [] X.env := by rfl) (hpl : (backTo pos (starEach [e2] X.env)).any (·.1) = false := by rfl) :
    PI X (.Tuple elts kk tpos) (.Call (.Name "zip" p) [e, e2] [] pos) (LI X Wc (fZip fa fb)) := PI.imp (RZ.pi_zipA hg hm (pa_cons ha (pa_cons hb pa_nil hs2) hs) hs hpl) fun σ H Q h => by
  obtain ⟨F, Hd, m, ρ, S, r, c⟩ := h
  refine stepI r c fun F1 m1 x v S1 H1 l1 p1 r1 e1 c1 => ?_
  refine stepI r1 c1 fun F2 m2 y u S2 H2 l2 p2 r2 e2 c2 => ?_
  have e1 := RepW.mono l2 p2 e1
  unfold zipV at c2
  split at c2
  · rename_i xs ys
    split at c2
    · rename_i hl
      cases e1 with
      | @tup a vs _ h1 h2 =>
        cases e2 with
        | @tup b us _ k1 k2 =>
          have z1 := DpAll.len h2
          have z2 := DpAll.len k2
          refine ⟨a, b, vs, us, rfl, .inr ⟨Le.sqT r2.b.fr h1, Le.sqT r2.b.fr k1, c2 F2 Hd m2 H2 _ Le.refl Le.refl (List.prefix_refl m2) r2 (Walk.mono (walk_zipT (by rw [zipD_len, z1, z2])) (fun H h => ⟨Le.sqT h.1 h1, Le.sqT h.1 k1⟩) fun i H v H' hi _ y => zip_yq h2 k2 y) ?_⟩⟩
          rw [zipD_len, sizeLine_eq]; omega
    · exact c2.elim
  · rename_i xs ys
    split at c2
    · rename_i hl
      cases e1 with
      | @lst a vs _ h1 h2 =>
        cases e2 with
        | @lst b us _ k1 k2 =>
          have z1 := DpAll.len h2
          have z2 := DpAll.len k2
          refine ⟨a, b, vs, us, rfl, .inl ⟨Le.sqL r2.b.fr h1, Le.sqL r2.b.fr k1, c2 F2 Hd m2 H2 _ Le.refl Le.refl (List.prefix_refl m2) r2 (Walk.mono (walk_zip (by rw [zipD_len, z1, z2])) (fun H h => ⟨Le.sqL h.1 h1, Le.sqL h.1 k1⟩) fun i H v H' hi _ y => zip_yq h2 k2 y) ?_⟩⟩
          rw [zipD_len, sizeLine_eq]; omega
    · exact c2.elim
  · exact c2.elim
/-- enumerate of a list -/
def enumD (n : Nat) : List PyData → List W
  | x :: r => .d (.tuple [.int (n : Int), x]) :: enumD (n + 1) r
  | [] => []
theorem enumD_len : ∀ (n : Nat) (xs : List PyData), (enumD n xs).length = xs.length
  | _, [] => rfl
  | n, x :: r => by simp [enumD, enumD_len (n + 1) r]
theorem enumD_get : ∀ (i n : Nat) (xs : List PyData) (x : PyData), xs[i]? = some x → (enumD n xs)[i]? = some (.d (.tuple [.int ((n + i : Nat) : Int), x]))
  | 0, n, x' :: r, x, h => by simp at h; subst h; rfl
  | i + 1, n, x' :: r, x, h => by
    have h : r[i]? = some x := by simpa using h
    have := enumD_get i (n + 1) r x h
    rw [show n + 1 + i = n + (i + 1) by omega] at this
    exact this
  | _, _, [], _, h => by simp at h
def enumV (x : W) (S : List Ob) : Res (List W) := match x with
  | .d (.list xs) => if xs.length ≤ 16777216 then .ok (enumD 0 xs) S else .bad
  | _ => .bad
def fEnum (fa : FE) : FA := fun ρ S => (fa ρ S).bind enumV
theorem i_enum {elts : List Expr} {kk : Nat} {tpos : Pos} (hg : Gl X "enumerate") (hm : X.mg "enumerate" = none) (ha : PE X e (LE X Wc fa)) (hs1 : starEach [e] X.env = (false, eval e X.env) :: starEach [] X.env := by rfl) (hs : starEach [e] X.env = [(false, eval e X.env)] := by rfl) :
    PI X (.Tuple elts kk tpos) (.Call (.Name "enumerate" p) [e] [] pos) (LI X Wc (fEnum fa)) := PI.imp (pi_enum hg hm (pa_cons ha pa_nil hs1) hs) fun σ H Q h => by
  obtain ⟨F, Hd, m, ρ, S, r, c⟩ := h
  refine stepI r c fun F1 m1 x v S1 H1 l1 p1 r1 e1 c1 => ?_
  unfold enumV at c1
  split at c1
  · rename_i xs
    split at c1
    · rename_i hl
      cases e1 with
      | @lst a vs _ h1 h2 =>
        have z1 := DpAll.len h2
        have hw := walk_enum (K := X.K) (a := a) (xs := vs)
        rw [show vs.length = (enumD 0 xs).length by rw [enumD_len, z1]] at hw
        refine ⟨a, vs, rfl, Le.sqL r1.b.fr h1, c1 F1 Hd m1 H1 _ Le.refl Le.refl (List.prefix_refl m1) r1 (Walk.mono hw (fun H h => Le.sqL h.1 h1) fun i H v H' hi _ y => ?_) ?_⟩
        · obtain ⟨T, x, z, rfl, hT, rfl, e1, e2⟩ := y
          cases e1
          obtain ⟨d, k1, k2⟩ := dps_get h2 e2
          have := enumD_get i 0 xs d k1
          rw [Nat.zero_add] at this
          exact ⟨_, this, .inr ⟨T, _, _, rfl, hT, rfl, rfl, .cons (Dp.int _) (.cons k2 .nil)⟩⟩
        · rw [enumD_len, sizeLine_eq]; exact hl
    · exact c1.elim
  · exact c1.elim
/-- max, min of a list of ints -/
def maxL : List Int → Option Int
  | [] => none
  | x :: r => some (r.foldl max x)
def minL : List Int → Option Int
  | [] => none
  | x :: r => some (r.foldl min x)
theorem foldl_max (r : List Int) : ∀ x, (∀ y ∈ x :: r, y ≤ r.foldl max x) ∧ r.foldl max x ∈ x :: r := by
  induction r with
  | nil => intro x; simp
  | cons y r ih =>
    intro x
    obtain ⟨h1, h2⟩ := ih (max x y)
    rw [List.foldl_cons]
    refine ⟨fun z hz => ?_, ?_⟩
    · have hm := h1 (max x y) (List.mem_cons_self ..)
      rcases List.mem_cons.mp hz with rfl | hz
      · omega
      · rcases List.mem_cons.mp hz with rfl | hz
        · omega
        · exact h1 z (List.mem_cons_of_mem _ hz)
    · rcases List.mem_cons.mp h2 with e | e
      · rw [e]
        by_cases q : x ≤ y
        · rw [Int.max_eq_right q]; simp
        · rw [Int.max_eq_left (by omega)]; simp
      · simp [e]
theorem foldl_min (r : List Int) : ∀ x, (∀ y ∈ x :: r, r.foldl min x ≤ y) ∧ r.foldl min x ∈ x :: r := by
  induction r with
  | nil => intro x; simp
  | cons y r ih =>
    intro x
    obtain ⟨h1, h2⟩ := ih (min x y)
    rw [List.foldl_cons]
    refine ⟨fun z hz => ?_, ?_⟩
    · have hm := h1 (min x y) (List.mem_cons_self ..)
      rcases List.mem_cons.mp hz with rfl | hz
      · omega
      · rcases List.mem_cons.mp hz with rfl | hz
        · omega
        · exact h1 z (List.mem_cons_of_mem _ hz)
    · rcases List.mem_cons.mp h2 with e | e
      · rw [e]
        by_cases q : x ≤ y
        · rw [Int.min_eq_left q]; simp
        · rw [Int.min_eq_right (by omega)]; simp
      · simp [e]
def onIo (f : List Int → Option Int) (xs : List W) (S : List Ob) : Res W := match intsW xs with
  | some ns => (match f ns with
    | some i => .ok (.d (.int i)) S
    | none => .bad)
  | none => .bad
def fMaxL (f : FA) : FE := fun ρ S => (f ρ S).bind (onIo maxL)
def fMinL (f : FA) : FE := fun ρ S => (f ρ S).bind (onIo minL)
theorem q_maxL (hc : X.calm = true) (hg : Gl X "max") (hm : X.mg "max" = none) (h : PE X e (LL X Wc fl1)) (hs : starEach [e] X.env = (false, eval e X.env) :: starEach [] X.env := by rfl) (hpl : (backTo pos (starEach [] X.env)).any (·.1) = false := by rfl) : PE X (.Call (.Name "max" p) [e] [] pos) (LE X Wc (fMaxL fl1)) :=
  PE.imp (pe_callB (cr_max hc) hg hm (by decide +kernel) (pa_cons h pa_nil hs) (he := hs) (hpl := hpl)) fun σ H Q h => by
  obtain ⟨F, D, m, ρ, S, r0, c⟩ := h
  refine step r0 c fun F1 m1 xs v S1 H1 l1 p1 r1 e1 c1 => ?_
  obtain ⟨a, vs, rfl, e2, e3⟩ := e1
  unfold onIo at c1
  cases z : intsW xs with
  | none => rw [z] at c1; exact c1.elim
  | some bs =>
    rw [z] at c1
    rw [intsW_rep z e3] at e2
    cases bs with
    | nil => exact c1.elim
    | cons x r =>
      refine ⟨a, x :: r, rfl, e2, Nat.succ_pos _, fun m hm hy => ?_⟩
      obtain ⟨h1, h2⟩ := foldl_max r x
      have : m = r.foldl max x := by have := hy _ h2; have := h1 m hm; omega
      subst this
      exact rt r1 c1 (Dp.int _)
theorem q_minL (hc : X.calm = true) (hg : Gl X "min") (hm : X.mg "min" = none) (h : PE X e (LL X Wc fl1)) (hs : starEach [e] X.env = (false, eval e X.env) :: starEach [] X.env := by rfl) (hpl : (backTo pos (starEach [] X.env)).any (·.1) = false := by rfl) : PE X (.Call (.Name "min" p) [e] [] pos) (LE X Wc (fMinL fl1)) :=
  PE.imp (pe_callB (cr_min hc) hg hm (by decide +kernel) (pa_cons h pa_nil hs) (he := hs) (hpl := hpl)) fun σ H Q h => by
  obtain ⟨F, D, m, ρ, S, r0, c⟩ := h
  refine step r0 c fun F1 m1 xs v S1 H1 l1 p1 r1 e1 c1 => ?_
  obtain ⟨a, vs, rfl, e2, e3⟩ := e1
  unfold onIo at c1
  cases z : intsW xs with
  | none => rw [z] at c1; exact c1.elim
  | some bs =>
    rw [z] at c1
    rw [intsW_rep z e3] at e2
    cases bs with
    | nil => exact c1.elim
    | cons x r =>
      refine ⟨a, x :: r, rfl, e2, Nat.succ_pos _, fun m hm hy => ?_⟩
      obtain ⟨h1, h2⟩ := foldl_min r x
      have : m = r.foldl min x := by have := hy _ h2; have := h1 m hm; omega
      subst this
      exact rt r1 c1 (Dp.int _)
end
end L2.Q
/-! Layer Q, part N: the scope of a comprehension by a test; a head with any tests of the written part; the law's end. -/
namespace L2.Q
open PySem PySem.Spec PyProof.Rows

/-! ### a comprehension's scope -/
def blkB (N : List Str) (sc scope : Scope) (own : List (Str × Nat)) : Bool :=
  decide (scope.kind = .function) && (scope.names.all (fun y => decide (scope.names.lookup y.1 = some y.2)) && (own.all (fun p => decide (N[p.2]? = some p.1)) &&
    (scope.names.all (fun y => !decide (y.2 = .free) || (decide (sc.names.lookup y.1 = some .cell) || decide (sc.names.lookup y.1 = some .free))) &&
      scope.names.all (fun y => !(decide (y.2 = .local) || decide (y.2 = .cell)) || (decide (y.1 ∈ own.map (·.1)) || decide (y.1 ∉ N))))))
theorem blk_of {N : List Str} {sc scope : Scope} {own : List (Str × Nat)} (h : blkB N sc scope own = true) : BlkOk N sc scope own := by
  unfold blkB at h
  simp only [Bool.and_eq_true, List.all_eq_true, Bool.or_eq_true, decide_eq_true_eq, Bool.not_eq_true', Bool.or_eq_false_iff, decide_eq_false_iff_not] at h
  obtain ⟨h1, h2, h3, h4, h5⟩ := h
  refine ⟨h1, h2, h3, fun y hy e => ?_, fun y hy e => ?_⟩
  · rcases h4 y hy with k | k
    · exact absurd e k
    · exact k
  · rcases h5 y hy with k | k
    · rcases e with e | e
      · exact absurd e k.1
      · exact absurd e k.2
    · exact k
section
variable {X : Cx} {Wc : WX} {a b c : Expr} {fa fb fc : FE} {pos : Pos}
/-- a < b < c as a test -/
theorem t_chainI {op op' : CmpOp} {C C' : Int → Int → Bool} {g g' : Int → Int → Bool} (ho : OpR X (compareOp op) (rI0 fun i j => .bl (g i j))) (ho' : OpR X (compareOp op') (rI0 fun i j => .bl (g' i j)))
    (ha : PE X a (LE X Wc fa)) (hb : PE X b (LE X Wc fb)) (hc : PE X c (LE X Wc fc)) (hm : lastMarks [op, op'] [b, c] = false := by rfl) :
    PT X (.Compare a [op, op'] [b, c] pos) (LB X Wc (fT (fChain (oI C fun i j => .bool (g i j)) (oI C' fun i j => .bool (g' i j)) fa fb fc))) := PT.imp (pt_chain ho ho' ha hb hc hm) fun σ H Q h => by
  have h := t_imp h
  obtain ⟨F, D, m, ρ, S, r0, c⟩ := h
  refine step r0 c fun F1 m1 x v S1 H1 l1 p1 r1 e1 c1 => ?_
  refine step r1 c1 fun F2 m2 y u S2 H2 l2 p2 r2 e2 c2 => ?_
  have e1' := RepW.mono l2 p2 e1
  rcases rep_int e1' with ⟨i, rfl, rfl⟩ | n
  · rcases rep_int e2 with ⟨j, rfl, rfl⟩ | n
    · unfold oI at c2
      dsimp only at c2
      split at c2
      · refine ⟨i, j, rfl, rfl, g i j, rfl, ?_⟩
        have c2 : cont X.K X.mg Wc (repE X.K) F2 D m2 ρ σ (fun x H => ∃ k, x = V.bl k ∧ Q k H) (if g i j = true then (fc ρ S2).bind fun z S4 => oI C' (fun i j => .bool (g' i j)) (.d (.int j)) z S4 else .ok (.d (.bool false)) S2) := c2
        split at c2
        · rename_i hg
          rw [if_pos hg]
          refine step r2 c2 fun F3 m3 z w S3 H3 l3 p3 r3 e3 c3 => ?_
          exact f_int0 (X := X) (Wc := Wc) (g := fun i j => .bool (g' i j)) (g' := fun i j => .bl (g' i j)) (fun _ _ _ => .bl _) F3 D m3 ρ S3 σ H3 (.d (.int j)) z (.int j) w _ r3 (Dp.int _) e3 c3
        · rename_i hg
          rw [if_neg hg]
          exact rt r2 c2 (Dp.bl _)
      · exact c2.elim
    · rw [oI_bad (.inr n)] at c2; exact c2.elim
  · rw [oI_bad (.inl n)] at c2; exact c2.elim
end

/-! ### a head -/
abbrev FbT := PySem.W.Frag → Bool
def obsB (fb : List FbT) (fn : List He.DefD) (K : PySem.W.Frag) : He.AlD := (fb.all (fun f => f K) && fn.all (fun d => d.ok K), fn.map fun d => He.fnW K d.at_)
def SaysB (fb : List FbT) (fn : List He.DefD) (K : PySem.W.Frag) : Prop := obsB fb fn K = He.valD fn
def obsBG (n : Nat) (fb : List FbT) (fn : List He.DefD) (g : Addr → Option Obj) : He.AlD := obsB fb fn (He.frG g (He.asD g n))
def hookB (n : Nat) (fb : List FbT) (fn : List He.DefD) : PySem.W.Hook where
  α := He.AlD
  obs := fun s => obsBG n fb fn s.heap.get?
  val := fun _ => He.valD fn
  says := fun _ h => ∃ K : PySem.W.Frag, K.In h ∧ SaysB fb fn K
  of := fun _ _ e => ⟨_, He.frG_in, e⟩
  keeps := fun _ _ _ ⟨K, hK, c⟩ k => ⟨K, PySem.W.Frag.In.keeps hK k, c⟩
theorem obsBG_eq {n : Nat} {fb : List FbT} {fn : List He.DefD} {g : Addr → Option Obj} {s : Shared} (h : ∀ a, g a = s.heap.get? a) : obsBG n fb fn g = (hookB n fb fn).obs s := by
  have e : g = s.heap.get? := funext h
  rw [e] <;> rfl
section
variable {fb : List FbT} {fn : List He.DefD} {K : PySem.W.Frag}
theorem SaysB.fact (c : SaysB fb fn K) (i : Nat) {f : FbT} (h : fb[i]? = some f := by rfl) : f K = true := by
  have c1 := (He.ba (show (fb.all (fun f => f K) && fn.all (fun d => d.ok K)) = true from congrArg (fun z : He.AlD => z.1) c)).1
  exact List.all_eq_true.mp c1 f (List.mem_of_getElem? h)
theorem SaysB.def_ (c : SaysB fb fn K) (i : Nat) {d : He.DefD} (h : fn[i]? = some d := by rfl) : ∃ fd, FunD K d.name d.qual d.params d.body d.scope (d.dvs K) (d.kws K) (He.fAd K d.at_) fd := by
  have c2 := (He.ba (show (fb.all (fun f => f K) && fn.all (fun d => d.ok K)) = true from congrArg (fun z : He.AlD => z.1) c)).2
  have e : fn.map (fun d => He.fnW K d.at_) = fn.map He.DefD.val := congrArg (fun z : He.AlD => z.2) c
  have e2 : (fn.map fun d => He.fnW K d.at_)[i]? = (fn.map He.DefD.val)[i]? := by rw [e]
  rw [List.getElem?_map, List.getElem?_map, h] at e2
  exact He.DefD.funD (Option.some.inj e2) (List.all_eq_true.mp c2 d (List.mem_of_getElem? h))
end
/-- a def of the top, by its statement -/
def topD (x : Str) (st : Stmt) : He.DefD := ⟨(x, none), x, x, defArgs st, defBody st, defScope st, [], []⟩
/-- tests of the written part -/
def fcGlo (x : Str) : FbT := fun K => (He.Fa.glo x).ok K
def fcFree (x : Str) : FbT := fun K => (He.Fa.free x).ok K
def fcInt (x : Str) (i : Int) : FbT := fun K => (He.Fa.int x i).ok K
def fcExc (x : Str) : FbT := fun K => (He.Fa.exc x).ok K
/-- the class c is caught by except d, is an instance of d: b -/
def fcSub (c d : Str) (b : Bool) : FbT := fun K => decide (PySem.W.exmOne K (.ref (He.ga K c)) (.ref (He.ga K d)) = some b)
def fcIs (c d : Str) (b : Bool) : FbT := fun K => decide (PySem.W.kitOne K (.ref (He.ga K c)) (.ref (He.ga K d)) = some b)
def fcIsV (c : Str) (t : String) (b : Bool) : FbT := fun K => decide (PySem.W.kitOne K (.ref (He.ga K c)) (.type t) = some b)
/-- what isinstance asks of a caught error's class -/
def fcEx (c : Str) : FbT := fun K => decide (PySem.W.findIn K (.ref (He.ga K c)) "__getattribute__" = some (some (.builtin "BaseException.__getattribute__"))) && (decide (PySem.W.findIn K (.ref (He.ga K c)) "__getattr__" = some none) &&
  (decide (PySem.W.subIn K (.ref (He.ga K c)) (.type "BaseException") = some true) && (PySem.W.hasDictIn K (He.ga K c) && (decide (PySem.W.findIn K (.ref (He.ga K c)) "__class__" = some (some (.builtin "object.__class__"))) &&
    (decide (PySem.W.specialIn K (.builtin "object.__class__") "__get__" = some (some (.builtin "getset_descriptor.__get__"))) && (decide (PySem.W.takesIn K (.builtin "object.__class__") = some true) && decide (PySem.W.mroIn K (He.ga K c) (.type "object") = some true)))))))
theorem fcEx_ok {K : PySem.W.Frag} {c : Str} (h : fcEx c K = true) : ExcC K (He.ga K c) := by
  unfold fcEx at h
  simp only [Bool.and_eq_true, decide_eq_true_eq] at h
  obtain ⟨h1, h2, h3, h4, h5, h6, h7, h8⟩ := h
  exact ⟨h1, h2, h3, h4, h5, h6, h7, h8⟩
/-! ### the end -/
/-- the promise of the law's function: True at each script -/
def spLawQ (K : PySem.W.Frag) (mg : Str → Option Value) (m : FM) : Sp := spOf K mg m 1
theorem law_sp {K : PySem.W.Frag} {mg : Str → Option Value} {m : FM} (hm : ∀ ns : List Int, ns.length ≤ 63 → (∀ z ∈ ns, Builtin.Int.intBits z ≤ 1048576) → ∃ S, m [.d (.list (ns.map .int))] [] = .ok (.w (.d (.bool true))) S)
    (H : Hp) (a : Addr) (ns : List Int) (hl : ns.length ≤ 63) (hb : ∀ z ∈ ns, Builtin.Int.intBits z ≤ 1048576) (hS : SqL K H a (ns.map V.int)) : spLawQ K mg m [.ref a] H (fun v _ => v = .bl true) fun _ _ _ => False := by
  obtain ⟨S, e⟩ := hm ns hl hb
  have hd : DpAll K H (ns.map V.int) (ns.map PyData.int) := by
    clear hS hl hb e
    induction ns with
    | nil => exact .nil
    | cons x r ih => exact .cons (Dp.int _) ih
  refine ⟨rfl, H, fun _ => none, [], [.d (.list (ns.map .int))], [], ⟨Le.refl, fun a o e => (nomatch e), rfl, fun n a o e => by simp at e, List.nodup_nil⟩, .cons (Dp.lst hS hd) .nil, ?_⟩
  rw [e]
  intro Fr' μ' v H' _ _ _ rv
  cases rv
  rfl
theorem walk_ofEB {l : PySem.W.OpenLaw} {n k : Nat} {q : Program} {loose : List Str} {XP : (Str → Option Value) → Heap → Prop} {YP : World → Heap → Prop} {d : DefRec} {x : Str}
    (hn : l.most = some n) (hn2 : n ≤ sizeLine) (hdf : d.params.defaults = []) (hr : Room k callerA)
    (F : ∀ (w : World) (mg : Str → Option Value) (fa : Addr) (h : Heap), YP w h → h.Ns mainGlobals mg → mg d.name = some (.ref fa) →
      ∃ (K : PySem.W.Frag) (fd : FuncData) (sp : Sp), K.In h ∧ (∀ (s : Shared) (u : Value), BindsTo s fd ⟨[u], []⟩ [(x, u)]) ∧
        (∀ (H : Hp) (a : Addr) (ns : List Int), ns.length ≤ n → (∀ z ∈ ns, Builtin.Int.intBits z ≤ 1048576) → Only H → SqL K H a (ns.map V.int) → sp [.ref a] H (fun v _ => v = .bl true) fun _ _ _ => False) ∧
        ∀ base : Heap, K.In base → base.Ns mainGlobals mg → FnOk l.prog w K mg base (L2.CX l.prog w) k fa fd [x] sp) :
    PySem.W.WalkO q loose XP YP l.row.toRowW d [] (fun f vs => PySem.call f vs) := by
  refine Att.attach_callB hn hdf fun w s₀ s₁ mg mb fa o pm cd doc a vs ns G Y ho hd hcd hmg hobj hints hlen hbits hg => ?_
  obtain ⟨K, fd, sp, KX, hb, hsp, hF⟩ := F w mg fa _ Y G.T.g hmg
  exact law_call KX G.T.g G.T.b G.T.builtins G.T.nolimit hg hobj hints (Nat.le_trans hlen hn2) hr hF hb (fun H hO hS => hsp H a ns hlen hbits hO hS) fun H e s' h => by
    obtain ⟨_, _, _, _, _, _, _, _, _, _, _, _, h⟩ := h
    exact h
end L2.Q
/-! Layer Q, part O: mirrors reckoned by simp. -/
namespace L2.Q
open PySem PySem.Spec PyProof.Rows

section
variable {α β : Type} {ρ : List Sl} {S S' : List Ob} {xs : List W} {i j : Nat} {fa fb fc : FE} {fo fo2 : FO} {fr fi fl1 : FA} {x y : W} {a b : Int} {t ta tb : FB} {f g : FT} {op op' : W → W → List Ob → Res W}
@[simp] theorem e_ok (a : α) (k : α → List Ob → Res β) : (Res.ok a S).bind k = k a S := rfl
@[simp] theorem e_err (c : Str) (k : α → List Ob → Res β) : (Res.err c S : Res α).bind k = .err c S := rfl
@[simp] theorem e_flok (a : α) (k : α → List Ob → Fl) : fl (Res.ok a S) ρ k = k a S := rfl
@[simp] theorem e_flerr (c : Str) (k : α → List Ob → Fl) : fl (Res.err c S : Res α) ρ k = .ex c ρ S := rfl
@[simp] theorem e_var : fVar i ρ S = (match ρ[i]? with | some (.w x) => .ok x S | _ => .bad) := rfl
@[simp] theorem e_c (d : PyData) : fC d ρ S = .ok (.d d) S := rfl
@[simp] theorem e_bin : fBin op fa fb ρ S = (fa ρ S).bind fun x S1 => (fb ρ S1).bind fun y S2 => op x y S2 := rfl
@[simp] theorem e_un (op : W → List Ob → Res W) : fUn op fa ρ S = (fa ρ S).bind fun x S1 => op x S1 := rfl
@[simp] theorem e_toB (c : Bool) : toB (.d (.bool c)) S = .ok c S := rfl
@[simp] theorem e_T : fT fa ρ S = (fa ρ S).bind toB := rfl
@[simp] theorem e_And : fAnd ta tb ρ S = (ta ρ S).bind fun c S1 => if c = true then tb ρ S1 else .ok false S1 := rfl
@[simp] theorem e_Or : fOr ta tb ρ S = (ta ρ S).bind fun c S1 => if c = true then .ok true S1 else tb ρ S1 := rfl
@[simp] theorem e_Not : fNot ta ρ S = (ta ρ S).bind fun c S1 => .ok (!c) S1 := rfl
@[simp] theorem e_AndV : fAndV fa fb ρ S = ((fa ρ S).bind toB).bind fun c S1 => if c = true then fb ρ S1 else .ok (.d (.bool false)) S1 := rfl
@[simp] theorem e_OrV : fOrV fa fb ρ S = ((fa ρ S).bind toB).bind fun c S1 => if c = true then .ok (.d (.bool true)) S1 else fb ρ S1 := rfl
@[simp] theorem e_NotV : fNotV fa ρ S = ((fa ρ S).bind toB).bind fun c S1 => .ok (.d (.bool (!c))) S1 := rfl
@[simp] theorem e_If : fIf t fa fb ρ S = (t ρ S).bind fun c S1 => if c = true then fa ρ S1 else fb ρ S1 := rfl
@[simp] theorem e_Nil : fNil ρ S = .ok [] S := rfl
@[simp] theorem e_Cons : fCons fa fr ρ S = (fa ρ S).bind fun x S1 => (fr ρ S1).bind fun xs S2 => .ok (x :: xs) S2 := rfl
@[simp] theorem e_Tup : fTup fr ρ S = (fr ρ S).bind mkTup := rfl
@[simp] theorem e_dats0 : dats [] = some [] := rfl
@[simp] theorem e_dats1 (d : PyData) (r : List W) : dats (.d d :: r) = (dats r).map (d :: ·) := rfl
@[simp] theorem e_mkTup (xs : List W) : mkTup xs S = (match dats xs with | some ds => .ok (.d (.tuple ds)) S | none => .bad) := rfl
theorem dats_map : ∀ ds : List PyData, dats (ds.map .d) = some ds
  | [] => rfl
  | d :: r => by show (dats (r.map .d)).map (d :: ·) = _; rw [dats_map r]; rfl
@[simp] theorem e_datsm (ds : List PyData) : dats (ds.map .d) = some ds := dats_map ds
@[simp] theorem e_datsc {γ : Type} (f : γ → PyData) (l : List γ) : dats (l.map (W.d ∘ f)) = some (l.map f) := by rw [← List.map_map]; exact dats_map _
@[simp] theorem e_datsf {γ : Type} (f : γ → PyData) (l : List γ) : dats (l.map fun x => W.d (f x)) = some (l.map f) := e_datsc f l
@[simp] theorem e_datsa : ∀ xs ys : List W, dats (xs ++ ys) = (dats xs).bind fun a => (dats ys).map (a ++ ·)
  | [], ys => by simp
  | .d x :: r, ys => by
    rw [List.cons_append, e_dats1, e_dats1, e_datsa r ys]
    cases dats r with
    | none => rfl
    | some a => cases dats ys <;> rfl
  | .ref _ :: _, ys => rfl
@[simp] theorem e_Nx : fNx ρ S = .nx ρ S := rfl
@[simp] theorem e_Seq : fSeq f g ρ S = thenF (f ρ S) g := rfl
@[simp] theorem e_thenN : thenF (.nx ρ S) g = g ρ S := rfl
@[simp] theorem e_thenR (r : Rv) : thenF (.rt r S) g = .rt r S := rfl
@[simp] theorem e_thenX (c : Str) : thenF (.ex c ρ S) g = .ex c ρ S := rfl
@[simp] theorem e_thenB : thenF (.bk ρ S) g = .bk ρ S := rfl
@[simp] theorem e_thenC : thenF (.ct ρ S) g = .ct ρ S := rfl
@[simp] theorem e_Bk : fBk ρ S = .bk ρ S := rfl
@[simp] theorem e_Ct : fCt ρ S = .ct ρ S := rfl
@[simp] theorem e_Set : fSet i fa ρ S = fl (fa ρ S) ρ fun x S1 => .nx (ρ.set i (.w x)) S1 := rfl
@[simp] theorem e_SetO : fSetO i fo ρ S = fl (fo ρ S) ρ fun o S1 => .nx (ρ.set i (.own o)) S1 := rfl
@[simp] theorem e_Drop : fDrop fa ρ S = fl (fa ρ S) ρ fun _ S1 => .nx ρ S1 := rfl
@[simp] theorem e_Ret : fRet fa ρ S = fl (fa ρ S) ρ fun x S1 => .rt (.w x) S1 := rfl
@[simp] theorem e_RetO : fRetO fo ρ S = fl (fo ρ S) ρ fun x S1 => .rt (.own x) S1 := rfl
@[simp] theorem e_RetN : fRetN ρ S = .rt (.w (.d .none)) S := rfl
@[simp] theorem e_IfS : fIfS t f g ρ S = fl (t ρ S) ρ fun c S1 => if c = true then f ρ S1 else g ρ S1 := rfl
@[simp] theorem e_Raise (c : Str) : fRaise c ρ S = .ex c ρ S := rfl
@[simp] theorem e_Call (m : FM) : fCall m fr ρ S = (fr ρ S).bind fun ws S1 => (m ws S1).bind rvW := rfl
@[simp] theorem e_CallO (m : FM) : fCallO m fr ρ S = (fr ρ S).bind fun ws S1 => (m ws S1).bind rvO := rfl
@[simp] theorem e_rvW : rvW (.w x) S = .ok x S := rfl
@[simp] theorem e_rvWo (o : Ob) : rvW (.own o) S = (match frz o with | some x => .ok x S | none => .bad) := rfl
@[simp] theorem e_rvO (o : Ob) : rvO (.own o) S = .ok o S := rfl
@[simp] theorem e_frz (xs : List W) : frz (.lst xs) = (dats xs).map fun ds => .d (.list ds) := rfl
@[simp] theorem e_runF (n : Nat) (ws : List W) : runF n f ws S = outF (f (start0 n ws) S) := rfl
@[simp] theorem e_outR (r : Rv) : outF (.rt r S) = .ok r S := rfl
@[simp] theorem e_outN : outF (.nx ρ S) = .ok (.w (.d .none)) S := rfl
@[simp] theorem e_outX (c : Str) : outF (.ex c ρ S) = .err c S := rfl
@[simp] theorem e_gN (w : W) : gN i w ρ = some (ρ.set i (.w w)) := rfl
@[simp] theorem e_gsN : gsN [] ρ = some ρ := rfl
@[simp] theorem e_gsC (g : FG) (gs : FGs) (d : PyData) (r : List PyData) : gsC g gs (d :: r) ρ = (g (.d d) ρ).bind (gs r) := rfl
@[simp] theorem e_gT (n : Nat) (gs : FGs) (xs : List PyData) : gT n gs (.d (.tuple xs)) ρ = if xs.length = n then gs xs ρ else none := rfl
@[simp] theorem e_setG (k : List Sl → List Ob → Fl) : setG (some ρ) S k = k ρ S := rfl
@[simp] theorem e_Asg (g : FG) : fAsg g fa ρ S = fl (fa ρ S) ρ fun x S1 => setG (g x ρ) S1 fun ρ1 S2 => .nx ρ1 S2 := rfl
@[simp] theorem e_AsgX (g : FG) (fx : FX) : fAsgX g fx ρ S = fl (fx ρ S) ρ fun a S1 => setG (g a.1 a.2) S1 fun ρ1 S2 => .nx ρ1 S2 := rfl
@[simp] theorem e_DropX (fx : FX) : fDropX fx ρ S = fl (fx ρ S) ρ fun a S1 => .nx a.2 S1 := rfl
@[simp] theorem e_Cw : fCw fa ρ S = (fa ρ S).bind fun x S1 => .ok (.w x) S1 := rfl
@[simp] theorem e_Co : fCo fo ρ S = (fo ρ S).bind fun o S1 => .ok (.own o) S1 := rfl
@[simp] theorem e_Par (f1 f2 : FC) : fPar i j f1 f2 ρ S = fl (f1 ρ S) ρ fun c1 S1 => fl (f2 ρ S1) ρ fun c2 S2 => .nx ((ρ.set i c1).set j c2) S2 := rfl
@[simp] theorem e_Par3 (l : Nat) (f1 f2 f3 : FC) : fPar3 i j l f1 f2 f3 ρ S = fl (f1 ρ S) ρ fun c1 S1 => fl (f2 ρ S1) ρ fun c2 S2 => fl (f3 ρ S2) ρ fun c3 S3 => .nx (((ρ.set i c1).set j c2).set l c3) S3 := rfl
@[simp] theorem e_Fz : fFz fo ρ S = (fo ρ S).bind fun o S1 => match frz o with | some x => .ok x S1 | none => .bad := rfl
@[simp] theorem e_NewL : fNewL fr ρ S = (fr ρ S).bind fun xs S1 => .ok (.lst xs) S1 := rfl
@[simp] theorem e_It : fIt fa ρ S = (fa ρ S).bind seqOf := rfl
@[simp] theorem e_seqT (ds : List PyData) : seqOf (.d (.tuple ds)) S = .ok (ds.map .d) S := rfl
@[simp] theorem e_seqL (ds : List PyData) : seqOf (.d (.list ds)) S = .ok (ds.map .d) S := rfl
@[simp] theorem e_Len : fLen fl1 ρ S = (fl1 ρ S).bind fun xs S1 => .ok (.d (.int xs.length)) S1 := rfl
@[simp] theorem e_Lv : fLv fa ρ S = (fa ρ S).bind lstV := rfl
@[simp] theorem e_lstV (ds : List PyData) : lstV (.d (.list ds)) S = .ok (ds.map .d) S := rfl
@[simp] theorem e_ItO : fItO fo ρ S = (fo ρ S).bind lstOf := rfl
@[simp] theorem e_lstOf (xs : List W) : lstOf (.lst xs) S = .ok xs S := rfl
@[simp] theorem e_TupL : fTupL fl1 ρ S = (fl1 ρ S).bind mkTup := rfl
@[simp] theorem e_Own : fOwn i ρ S = (match ρ[i]? with | some (.own (.lst xs)) => .ok xs S | some (.w (.d (.list ds))) => .ok (ds.map .d) S | _ => .bad) := rfl
@[simp] theorem e_All : fAll fl1 ρ S = (fl1 ρ S).bind (onB fun bs => bs.all id) := rfl
@[simp] theorem e_Any : fAny fl1 ρ S = (fl1 ρ S).bind (onB fun bs => bs.any id) := rfl
@[simp] theorem e_Sum : fSum fl1 ρ S = (fl1 ρ S).bind (onI List.sum) := rfl
theorem bools_map : ∀ bs : List Bool, bools (bs.map fun b => .d (.bool b)) = some bs
  | [] => rfl
  | b :: r => by show (bools (r.map fun b => .d (.bool b))).map (b :: ·) = _; rw [bools_map r]; rfl
theorem intsW_map : ∀ ns : List Int, intsW (ns.map fun i => .d (.int i)) = some ns
  | [] => rfl
  | b :: r => by show (intsW (r.map fun i => .d (.int i))).map (b :: ·) = _; rw [intsW_map r]; rfl
theorem e_onB (k : List Bool → Bool) (bs : List Bool) : onB k (bs.map fun b => .d (.bool b)) S = .ok (.d (.bool (k bs))) S := by unfold onB; rw [bools_map]
theorem e_onI (k : List Int → Int) (ns : List Int) : onI k (ns.map fun i => .d (.int i)) S = .ok (.d (.int (k ns))) S := by unfold onI; rw [intsW_map]
/-! operators -/
theorem e_oI (C : Int → Int → Bool) (g : Int → Int → PyData) : oI C g (.d (.int a)) (.d (.int b)) S = if C a b = true then .ok (.d (g a b)) S else .bad := rfl
@[simp] theorem e_oIy (g : Int → Int → PyData) : oI yes g (.d (.int a)) (.d (.int b)) S = .ok (.d (g a b)) S := rfl
@[simp] theorem e_add : oAddA (.d (.int a)) (.d (.int b)) S = .ok (.d (.int (a + b))) S := rfl
@[simp] theorem e_addT (xs ys : List PyData) : oAddA (.d (.tuple xs)) (.d (.tuple ys)) S = if xs.length + ys.length ≤ 16777216 then .ok (.d (.tuple (xs ++ ys))) S else .bad := rfl
@[simp] theorem e_addL (xs ys : List PyData) : oAddA (.d (.list xs)) (.d (.list ys)) S = if xs.length + ys.length ≤ 16777216 then .ok (.d (.list (xs ++ ys))) S else .bad := rfl
@[simp] theorem e_mul : oMulA (.d (.int a)) (.d (.int b)) S = if mulC a b = true then .ok (.d (.int (a * b))) S else .bad := rfl
@[simp] theorem e_div : oDiv (.d (.int a)) (.d (.int b)) S = if divC a b = true then .ok (.d (.int (a / b))) S else .bad := rfl
@[simp] theorem e_mod : oMod (.d (.int a)) (.d (.int b)) S = if modC a b = true then .ok (.d (.int (a % b))) S else .bad := rfl
@[simp] theorem e_pow : oPow (.d (.int a)) (.d (.int b)) S = if powC a b = true then .ok (.d (.int (a ^ b.toNat))) S else .bad := rfl
@[simp] theorem e_neg : oNeg (.d (.int a)) S = .ok (.d (.int (-a))) S := rfl
@[simp] theorem e_abs : oAbs (.d (.int a)) S = .ok (.d (.int (if a < 0 then -a else a))) S := rfl
@[simp] theorem e_isN : oIsN x S = .ok (.d (.bool (isNon x))) S := rfl
@[simp] theorem e_notN : oNotN x S = .ok (.d (.bool (!isNon x))) S := rfl
@[simp] theorem e_toI : toI (.d (.int a)) S = .ok (.d (.int a)) S := rfl
@[simp] theorem e_toIb (c : Bool) : toI (.d (.bool c)) S = .ok (.d (.int (if c then 1 else 0))) S := rfl
@[simp] theorem e_Int : fInt fa ρ S = (fa ρ S).bind toI := rfl
theorem e_eqD (neg : Bool) (d e : PyData) (h1 : SeqAt.shaped d = true) (h2 : SeqAt.shaped e = true) : oEqS neg (.d d) (.d e) S = .ok (.d (.bool (neg ^^ PyData.eqv d e))) S := by
  show (if SeqAt.shaped d && SeqAt.shaped e then Res.ok (W.d (.bool (neg ^^ PyData.eqv d e))) S else .bad) = _
  rw [h1, h2]; rfl
@[simp] theorem e_eqI (neg : Bool) : oEqS neg (.d (.int a)) (.d (.int b)) S = .ok (.d (.bool (neg ^^ decide (a = b)))) S := by
  rw [e_eqD neg _ _ rfl rfl]; rfl
@[simp] theorem e_ixT (xs : List PyData) (k : Int) : oIx (.d (.tuple xs)) (.d (.int k)) S = (match atI xs k with | some z => .ok (.d z) S | none => .bad) := rfl
@[simp] theorem e_ixL (xs : List PyData) (k : Int) : oIx (.d (.list xs)) (.d (.int k)) S = (match atI xs k with | some z => .ok (.d z) S | none => .bad) := rfl
@[simp] theorem e_ixR (n : Nat) (k : Int) : oIx (.ref n) (.d (.int k)) S = (match S[n]? with | some (.lst xs) => (match atI xs k with | some z => .ok z S | none => .bad) | _ => .bad) := rfl
@[simp] theorem e_at0 (x : α) (xs : List α) : atI (x :: xs) 0 = some x := by unfold atI ixN; simp
theorem atI_nat {xs : List α} {k : Nat} {z : α} (h : xs[k]? = some z) : atI xs (k : Int) = some z := by
  have hk := (List.getElem?_eq_some_iff.mp h).1
  unfold atI ixN
  rw [if_pos (by omega), if_pos (by omega)]
  exact h
@[simp] theorem e_at1 (x y : α) (xs : List α) : atI (x :: y :: xs) 1 = some y := atI_nat (k := 1) rfl
@[simp] theorem e_at2 (x y z : α) (xs : List α) : atI (x :: y :: z :: xs) 2 = some z := atI_nat (k := 2) rfl
/-! kinds -/
def isiR (T : String) (x : W) (S : List Ob) : Res W := match (wTy x S).bind fun t => kitB t T with
  | some b => .ok (.d (.bool b)) S
  | none => .bad
@[simp] theorem e_isi (T : String) : fIsi T fa ρ S = (fa ρ S).bind (isiR T) := rfl
def isInt : PyData → Bool
  | .int _ => true
  | .bool _ => true
  | _ => false
def isBool : PyData → Bool
  | .bool _ => true
  | _ => false
def isTup : PyData → Bool
  | .tuple _ => true
  | _ => false
def isList : PyData → Bool
  | .list _ => true
  | _ => false
def isStr : PyData → Bool
  | .str _ => true
  | _ => false
@[simp] theorem e_isInt (d : PyData) : isiR "int" (.d d) S = .ok (.d (.bool (isInt d))) S := by cases d <;> rfl
@[simp] theorem e_isBool (d : PyData) : isiR "bool" (.d d) S = .ok (.d (.bool (isBool d))) S := by cases d <;> rfl
@[simp] theorem e_isTup (d : PyData) : isiR "tuple" (.d d) S = .ok (.d (.bool (isTup d))) S := by cases d <;> rfl
@[simp] theorem e_isList (d : PyData) : isiR "list" (.d d) S = .ok (.d (.bool (isList d))) S := by cases d <;> rfl
@[simp] theorem e_isStr (d : PyData) : isiR "str" (.d d) S = .ok (.d (.bool (isStr d))) S := by cases d <;> rfl
/-! sources, slices, own lists, dicts -/
@[simp] theorem e_Rng1 : fRng1 fa ρ S = (fa ρ S).bind rng1 := rfl
@[simp] theorem e_rng1 : rng1 (.d (.int a)) S = if -(2 ^ 62) ≤ a ∧ a ≤ 16777216 then .ok (rngL 0 a.toNat) S else .bad := rfl
@[simp] theorem e_Chain : fChain op op' fa fb fc ρ S = (fa ρ S).bind fun x S1 => (fb ρ S1).bind fun y S2 => ((op x y S2).bind toB).bind fun c S3 => if c = true then (fc ρ S3).bind fun z S4 => op' y z S4 else .ok (.d (.bool false)) S3 := rfl
@[simp] theorem e_NoP : fNoP ρ S = .ok none S := rfl
@[simp] theorem e_P : fP fa ρ S = (fa ρ S).bind fun x S1 => match x with | .d (.int i) => .ok (some i) S1 | _ => .bad := rfl
@[simp] theorem e_Cut (fl fh : FP) : fCut fa fl fh ρ S = (fa ρ S).bind fun x S1 => (fl ρ S1).bind fun lo S2 => (fh ρ S2).bind fun hi S3 => cutOf x lo hi S3 := rfl
@[simp] theorem e_cutT (xs : List PyData) (lo hi : Option Int) : cutOf (.d (.tuple xs)) lo hi S = .ok (.d (.tuple (cut xs lo hi))) S := rfl
@[simp] theorem e_cutL (xs : List PyData) (lo hi : Option Int) : cutOf (.d (.list xs)) lo hi S = .ok (.d (.list (cut xs lo hi))) S := rfl
@[simp] theorem e_CmpO (neg : Bool) : fCmpO neg i fb ρ S = (match ρ[i]? with | some (.own (.lst xs)) => (fb ρ S).bind (cmpO neg xs) | some (.w (.d (.list ds))) => (fb ρ S).bind (cmpO neg (ds.map .d)) | _ => .bad) := rfl
@[simp] theorem e_IxO : fIxO i fb ρ S = (match ρ[i]? with | some (.own (.lst xs)) => (fb ρ S).bind (ixO xs) | some (.w x) => (fb ρ S).bind fun y S1 => oIx x y S1 | _ => .bad) := rfl
@[simp] theorem e_App : fApp i fa ρ S = (match ρ[i]? with | some (.own (.lst xs)) => (fa ρ S).bind fun y S1 => if xs.length < 16777216 then .ok (.d .none, ρ.set i (.own (.lst (xs ++ [y])))) S1 else .bad | _ => .bad) := rfl
@[simp] theorem e_Pop : fPop i ρ S = (match ρ[i]? with | some (.own (.lst xs)) => (match xs[xs.length - 1]? with | some y => .ok (y, ρ.set i (.own (.lst xs.dropLast))) S | none => .bad) | _ => .bad) := rfl
@[simp] theorem e_PopAt : fPopAt i fa ρ S = (match ρ[i]? with | some (.own (.lst xs)) => (fa ρ S).bind fun z S1 => (match z with | .d (.int k) => (match ixN xs.length k with | some j => (match xs[j]? with | some y => if xs.length ≤ 16777216 then .ok (y, ρ.set i (.own (.lst (xs.eraseIdx j)))) S1 else .bad | none => .bad) | none => .bad) | _ => .bad) | _ => .bad) := rfl
@[simp] theorem e_Aug : fAug i op fa ρ S = (match ρ[i]? with | some (.w x) => fl (fa ρ S) ρ fun y S1 => fl (op x y S1) ρ fun z S2 => .nx (ρ.set i (.w z)) S2 | _ => .bad) := rfl
@[simp] theorem e_AddO : fAddO i fb ρ S = (match ρ[i]? with | some (.own (.lst xs)) => (fb ρ S).bind fun y S1 => (match y with | .d (.list ys) => if xs.length + ys.length ≤ 16777216 then .ok (.lst (xs ++ ys.map .d)) S1 else .bad | _ => .bad) | _ => .bad) := rfl
@[simp] theorem e_AddN : fAddN fa fb ρ S = (fa ρ S).bind fun x S1 => (fb ρ S1).bind fun y S2 => oAddN x y S2 := rfl
@[simp] theorem e_addN (xs ys : List PyData) : oAddN (.d (.list xs)) (.d (.list ys)) S = if xs.length + ys.length ≤ 16777216 then .ok (.lst ((xs ++ ys).map .d)) S else .bad := rfl
@[simp] theorem e_Rep : fRep fo fb ρ S = (fo ρ S).bind fun o S1 => (fb ρ S1).bind fun y S2 => oRep o y S2 := rfl
@[simp] theorem e_oRep (xs : List W) : oRep (.lst xs) (.d (.int a)) S = if -(2 ^ 63) ≤ a ∧ a < 2 ^ 63 ∧ xs.length * a.toNat ≤ 16777216 then .ok (.lst (List.replicate a.toNat xs).flatten) S else .bad := rfl
@[simp] theorem e_Sto : fSto fo ρ S = (fo ρ S).bind fun o S1 => .ok (.ref S1.length) (S1 ++ [o]) := rfl
@[simp] theorem e_SetIx : fSetIx fa fb fc ρ S = fl (fa ρ S) ρ fun v S1 => fl (fb ρ S1) ρ fun x S2 => fl (fc ρ S2) ρ fun y S3 => setIxS v x y ρ S3 := rfl
@[simp] theorem e_setIx (v : W) (n : Nat) : setIxS v (.ref n) (.d (.int a)) ρ S = (match S[n]? with | some (.lst xs) => (match ixN xs.length a with | some j => .nx ρ (S.set n (.lst (xs.set j v))) | none => .bad) | _ => .bad) := rfl
@[simp] theorem e_PopS : fPopS fa fb ρ S = (fa ρ S).bind fun x S1 => if isLst x S1 = true then (fb ρ S1).bind fun y S2 => popSt x y S2 else .bad := rfl
@[simp] theorem e_AppS : fAppS fa fb ρ S = (fa ρ S).bind fun x S1 => if isLst x S1 = true then (fb ρ S1).bind fun y S2 => appSt x y S2 else .bad := rfl
@[simp] theorem e_isLst (n : Nat) : isLst (.ref n) S = (match S[n]? with | some (.lst _) => true | _ => false) := rfl
@[simp] theorem e_Dnew : fDnew ρ S = .ok (.dct []) S := rfl
@[simp] theorem e_Dget : fDget i fb ρ S = (match ρ[i]? with | some (.own (.dct kvs)) => (fb ρ S).bind (getD kvs) | _ => .bad) := rfl
@[simp] theorem e_getD (kvs : List (Key × W)) : getD kvs (.d (.int a)) S = (match valW kvs (.inl a) with | some x => .ok x S | none => .bad) := rfl
@[simp] theorem e_Dget2 : fDget2 i fb fc ρ S = (match ρ[i]? with | some (.own (.dct kvs)) => (fb ρ S).bind fun y S1 => (fc ρ S1).bind fun z S2 => (match keyOf y with | some k => .ok ((valW kvs k).getD z) S2 | none => .bad) | _ => .bad) := rfl
@[simp] theorem e_keyI : keyOf (.d (.int a)) = some (.inl a) := rfl
@[simp] theorem e_Dput : fDput i fa fb ρ S = fl (fb ρ S) ρ fun v S1 => (match ρ[i]? with | some (.own (.dct kvs)) => fl (fa ρ S1) ρ fun y S2 => (match keyOf y with | some k => if kvs.length < 16777216 then .nx (ρ.set i (.own (.dct (putW kvs k v)))) S2 else .bad | none => .bad) | _ => .bad) := rfl
@[simp] theorem e_Dsrt : fDsrt i ρ S = (match ρ[i]? with | some (.own (.dct kvs)) => (match intKeys kvs with | some ks => if ks.length < 64 then .ok (.lst ((ks.mergeSort).map fun i => .d (.int i))) S else .bad | none => .bad) | _ => .bad) := rfl
@[simp] theorem e_Frz (n : Nat) : fFrz n f ρ S = (match ρ[n]? with | some (.own o) => (match frz o with | some x => f (ρ.set n (.w x)) S | none => .bad) | _ => f ρ S) := rfl
@[simp] theorem e_RetI : fRetI i ρ S = (match ρ[i]? with | some (.own o) => .rt (.own o) S | _ => .bad) := rfl
@[simp] theorem e_Apd (fk : FA) : fApd fr fk ρ S = (fr ρ S).bind fun xs S1 => (fk ρ S1).bind fun ys S2 => .ok (xs ++ ys) S2 := rfl
@[simp] theorem e_Srt : fSrt fl1 ρ S = (fl1 ρ S).bind srt := rfl
@[simp] theorem e_minI : oMin (.d (.int a)) (.d (.int b)) S = .ok (.d (.int (if b < a then b else a))) S := rfl
/-! loops -/
theorem e_For (g : FG) (h : fi ρ S = .ok xs S') : fFor fi g f ρ S = forL g f xs ρ S' := by unfold fFor; rw [h]; rfl
theorem for_nil (g : FG) : forL g f [] ρ S = .nx ρ S := rfl
theorem for_cons (g : FG) (w : W) (r : List W) : forL g f (w :: r) ρ S = setG (g w ρ) S fun ρ1 S1 => turnF (f ρ1 S1) (forL g f r) := rfl
@[simp] theorem e_turnN (k : List Sl → List Ob → Fl) : turnF (.nx ρ S) k = k ρ S := rfl
@[simp] theorem e_turnC (k : List Sl → List Ob → Fl) : turnF (.ct ρ S) k = k ρ S := rfl
@[simp] theorem e_turnB (k : List Sl → List Ob → Fl) : turnF (.bk ρ S) k = .nx ρ S := rfl
@[simp] theorem e_turnR (r : Rv) (k : List Sl → List Ob → Fl) : turnF (.rt r S) k = .rt r S := rfl
@[simp] theorem e_turnX (c : Str) (k : List Sl → List Ob → Fl) : turnF (.ex c ρ S) k = .ex c ρ S := rfl
/-- a for whose turns go on: P holds of the slots and the store behind each turn -/
theorem for_inv (g : FG) (P : Nat → List Sl → List Ob → Prop) : ∀ (xs : List W) (n : Nat) (ρ : List Sl) (S : List Ob), P n ρ S →
    (∀ i x ρ S, xs[i]? = some x → P (n + i) ρ S → ∃ ρ2 S2, setG (g x ρ) S f = .nx ρ2 S2 ∧ P (n + i + 1) ρ2 S2) → ∃ ρ' S', forL g f xs ρ S = .nx ρ' S' ∧ P (n + xs.length) ρ' S'
  | [], n, ρ, S, h, _ => ⟨ρ, S, rfl, h⟩
  | x :: r, n, ρ, S, h, k => by
    obtain ⟨ρ2, S2, e, p⟩ := k 0 x ρ S rfl h
    obtain ⟨ρ3, S3, e3, p3⟩ := for_inv g P r (n + 1) ρ2 S2 p fun i y ρ S hy hp => by
      have := k (i + 1) y ρ S (by simpa using hy) (by rw [show n + (i + 1) = n + 1 + i by omega]; exact hp)
      rw [show n + (i + 1) + 1 = n + 1 + i + 1 by omega] at this
      exact this
    refine ⟨ρ3, S3, ?_, ?_⟩
    · rw [for_cons]
      cases q : g x ρ with
      | none => rw [q] at e; cases e
      | some ρ1 =>
        rw [q] at e
        have e : f ρ1 S = .nx ρ2 S2 := e
        rw [e_setG, e, e_turnN]
        exact e3
    · rw [show n + (x :: r).length = n + 1 + r.length by simp; omega]; exact p3
/-- a comprehension whose tests and items change nothing -/
theorem lc_pure (g : FG) (t : FB) (fe : FE) (ρ : List Sl) (S : List Ob) (p : W → Bool) (y : W → W) : ∀ xs : List W, (∀ x ∈ xs, ∃ ρ1, g x ρ = some ρ1 ∧ t ρ1 S = .ok (p x) S ∧ (p x = true → fe ρ1 S = .ok (y x) S)) → lcL g t fe ρ xs S = .ok ((xs.filter p).map y) S
  | [], _ => rfl
  | x :: r, h => by
    obtain ⟨ρ1, e1, e2, e3⟩ := h x (List.mem_cons_self ..)
    have ih := lc_pure g t fe ρ S p y r fun z hz => h z (List.mem_cons_of_mem _ hz)
    unfold lcL
    simp only [e1, e2]
    cases q : p x with
    | true => simp only [e3 q, if_true, ih, e_ok, List.filter_cons_of_pos q, List.map_cons]
    | false => simp only [Bool.false_eq_true, if_false, ih]; rw [List.filter_cons_of_neg (by rw [q]; exact Bool.false_ne_true)]
theorem e_Lc (own : List Nat) (g : FG) (fe : FE) (h : fi ρ S = .ok xs S') (ho : own.any (fun i => isOwn ρ[i]?) = false) : fLc fi own g t fe ρ S = (lcL g t fe (unset ρ own) xs S').bind fun ys S2 => .ok (.lst ys) S2 := by
  unfold fLc; rw [h]; simp only [e_ok, ho, Bool.false_eq_true, if_false]
theorem e_While (n : Nat) : fWhile n t f ρ S = whileN t f n ρ S := rfl
theorem while_succ (n : Nat) : whileN t f (n + 1) ρ S = fl (t ρ S) ρ fun c S1 => if c = true then turnF (f ρ S1) (whileN t f n) else .nx ρ S1 := rfl
/-! what == may be asked of -/
def shp (k : Nat) (d : PyData) : Prop := PyData.canLay0 d = true ∧ PyData.depth d ≤ k
theorem shaped_of {d : PyData} (h : shp 64 d) : SeqAt.shaped d = true := by unfold SeqAt.shaped; rw [h.1, decide_eq_true h.2]; rfl
theorem shp_mono {d : PyData} {k l : Nat} (h : shp k d) (hl : k ≤ l) : shp l d := ⟨h.1, Nat.le_trans h.2 hl⟩
theorem shp_int (k : Nat) (i : Int) : shp k (.int i) := ⟨rfl, Nat.zero_le _⟩
theorem shp_bool (k : Nat) (i : Bool) : shp k (.bool i) := ⟨rfl, Nat.zero_le _⟩
theorem shp_non (k : Nat) : shp k .none := ⟨rfl, Nat.zero_le _⟩
theorem shp_all {k : Nat} : ∀ {ds : List PyData}, (∀ d ∈ ds, shp k d) → PyData.canLayAll0 ds = true ∧ PyData.depthAll ds ≤ k
  | [], _ => ⟨by simp only [PyData.canLayAll0], by simp only [PyData.depthAll]; omega⟩
  | d :: r, h => by
    have h1 := h d (List.mem_cons_self ..)
    have h2 := shp_all fun x hx => h x (List.mem_cons_of_mem _ hx)
    have e1 := h1.2
    have e2 := h2.2
    refine ⟨by simp only [PyData.canLayAll0, h1.1, h2.1, Bool.and_self], by simp only [PyData.depthAll]; omega⟩
theorem shp_list {k : Nat} {ds : List PyData} (h : ∀ d ∈ ds, shp k d) : shp (k + 1) (.list ds) := by
  obtain ⟨h1, h2⟩ := shp_all h
  exact ⟨by simp only [PyData.canLay0, h1], by simp only [PyData.depth]; omega⟩
theorem shp_tup {k : Nat} {ds : List PyData} (h : ∀ d ∈ ds, shp k d) : shp (k + 1) (.tuple ds) := by
  obtain ⟨h1, h2⟩ := shp_all h
  exact ⟨by simp only [PyData.canLay0, h1], by simp only [PyData.depth]; omega⟩
@[simp] theorem eqv_nil (xs : List PyData) : PyData.eqv (.list xs) (.list []) = xs.isEmpty := by cases xs <;> simp [PyData.eqv, PyData.eqvAll]
theorem mem_ints {d : PyData} {cs : List Int} (h : d ∈ cs.map PyData.int) : ∃ i, d = .int i := by
  obtain ⟨i, _, e⟩ := List.mem_map.mp h
  exact ⟨i, e.symm⟩
theorem shp_ints (cs : List Int) : shp 1 (.list (cs.map .int)) := shp_list fun d h => by obtain ⟨i, rfl⟩ := mem_ints h; exact shp_int _ _
theorem dats_ints (cs : List Int) : dats (cs.map fun i => W.d (.int i)) = some (cs.map .int) := by
  have := dats_map (cs.map PyData.int)
  rw [List.map_map] at this
  exact this
/-- two values compared -/
theorem e_eqS (neg : Bool) {d e : PyData} (h1 : asD x S = some d) (h2 : asD y S = some e) (k1 : shp 64 d) (k2 : shp 64 e) : oEqS neg x y S = .ok (.d (.bool (neg ^^ PyData.eqv d e))) S := by
  unfold oEqS; rw [h1, h2]; simp only [shaped_of k1, shaped_of k2, Bool.and_self, if_true]
end
end L2.Q
/-! Layer Q, part P: xs[::-1]. -/
namespace L2.Q
open PySem PySem.Spec PyProof.Rows
section
variable {prog : Program} {w : World} {A : Around} {E : Value → Shared → Prop} {s : Shared}
theorem adjust_rev (n : Nat) : Builtin.Slice.sliceAdjust none none (-1) (n : Int) = ((n : Int) - 1, -1) := by
  unfold Builtin.Slice.sliceAdjust
  simp
theorem places_rev (n : Nat) : Builtin.Slice.slicePlaces ((n : Int) - 1) (-1) (-1) = n := by
  unfold Builtin.Slice.slicePlaces
  have h1 : ¬ ((-1 : Int) > 0) := by omega
  simp only [h1, if_false]
  split
  · rw [show ((n : Int) - 1 - -1 - 1) / - -1 = (n : Int) - 1 by rw [show (- -1 : Int) = 1 by decide, Int.ediv_one]; omega]
    omega
  · omega
theorem sliceApplied_rev {sl : Addr} {vl vu vs : Value} {n : Nat} {Q : Int × Int × Nat → Shared → Prop} (hs : s.heap.IsSliceOf sl vl vu vs) (pl : IsPart vl none) (pu : IsPart vu none) (ps : IsPart vs (some (-1)))
    (h : Q ((n : Int) - 1, -1, n) s) : wpAny (model prog w) A (Builtin.Slice.sliceApplied (.ref sl) (pure (n : Int))) Q E s := by
  obtain ⟨os, hos, hcs, hds⟩ := id hs
  unfold Builtin.Slice.sliceApplied Builtin.Slice.sliceFields
  refine wpAny_bind (wpAny_bind (wpAny_field hos hds (x := vl) rfl (wpAny_bind (wpAny_field hos hds (x := vu) rfl (wpAny_bind (wpAny_field hos hds (x := vs) rfl (wpAny_pure ?_)))))))
  refine wpAny_bind (HT.slicePart_ ps ?_)
  show wpAny _ _ (if ((-1 : Int) == 0) = true then _ else _) _ _ s
  rw [if_neg (by decide)]
  refine wpAny_bind (HT.slicePart_ pl (wpAny_bind (HT.slicePart_ pu (wpAny_bind (wpAny_pure ?_)))))
  show wpAny _ _ (match Builtin.Slice.sliceAdjust none none (-1) (n : Int) with | (lo, hi) => pure (lo, (-1 : Int), Builtin.Slice.slicePlaces lo hi (-1))) _ _ s
  rw [adjust_rev n]
  show wpAny _ _ (pure ((n : Int) - 1, (-1 : Int), Builtin.Slice.slicePlaces ((n : Int) - 1) (-1) (-1))) _ _ s
  rw [places_rev]
  exact wpAny_pure h
theorem pick_rev (xs : Array Value) : ((List.range xs.size).filterMap fun (m : Nat) => xs[((xs.size : Int) - 1 + (m : Int) * -1).toNat]?).toArray = xs.toList.reverse.toArray := by
  have e : (List.range xs.size).filterMap (fun (m : Nat) => xs[((xs.size : Int) - 1 + (m : Int) * -1).toNat]?) = ((List.range xs.size).map fun k => xs.size - 1 - k).filterMap (xs[·]?) := by
    rw [List.filterMap_map]
    have g : ∀ l : List Nat, (∀ m ∈ l, m < xs.size) → l.filterMap (fun (m : Nat) => xs[((xs.size : Int) - 1 + (m : Int) * -1).toNat]?) = l.filterMap ((xs[·]?) ∘ fun k => xs.size - 1 - k) := by
      intro l hl
      induction l with
      | nil => rfl
      | cons m r ih =>
        have := hl m (List.mem_cons_self ..)
        have ih := ih fun z hz => hl z (List.mem_cons_of_mem _ hz)
        have q : ((xs.size : Int) - 1 + (m : Int) * -1).toNat = xs.size - 1 - m := by omega
        rw [List.filterMap_cons, List.filterMap_cons, ih, q]
        rfl
    exact g _ fun m hm => List.mem_range.mp hm
  rw [e, PySem.W.krv_range, List.filterMap_reverse, PySem.W.krv_all]
theorem getItem_tuple_rev {t sl : Addr} {items : Array Value} {vl vu vs : Value} {Q : Value → Shared → Prop} (ht : IsTup s.heap t items) (hs : s.heap.IsSliceOf sl vl vu vs) (pl : IsPart vl none) (pu : IsPart vu none) (ps : IsPart vs (some (-1)))
    (h : Q (.ref s.heap.objs.size) { s with heap := s.heap.push { cls := .type "tuple", data := .seq items.toList.reverse.toArray } })
    (hsz : items.size ≤ sizeLine) : wpAny (model prog w) A (getItem (.ref t) (.ref sl)) Q E s := by
  have htake : sizeOk (.seq items.toList.reverse.toArray) := by
    show items.toList.reverse.toArray.size ≤ sizeLine
    rw [List.size_toArray, List.length_reverse, Array.length_toList]
    exact hsz
  obtain ⟨os, hos, hcs, hds⟩ := id hs
  have hTs : s.TypeIs (.ref sl) "slice" := ⟨os, hos, hcs⟩
  unfold getItem
  try with_reducible refine wpAny_holding ?_
  first | refine wpAny_bind (wpAny_pure ?_) | skip
  refine wpAny_bind (wpAny_sequenceKey ht.typeIs (by decide) ?_)
  refine wpAny_bind (wpAny_callSpecial?_slot (name := Str.ofString "__getitem__") ht.typeIs PyProof.Rows.slot_tuple_getitem
    (wpAny_call_entry PyProof.Rows.slot_tuple_getitem ht.typeIs entry_tuple_getitem ?_ (args_tuple_getitem _ _)))
  show wpAny _ _ (Builtin.Tuple.tupleItemsOf (.ref t) >>= _) _ _ s
  refine wpAny_bind (tupleItemsOf_ ht ?_)
  refine wpAny_bind (wpAny_typeOf hTs ?_)
  rw [if_pos (by decide)]
  refine wpAny_bind (sliceApplied_rev hs pl pu ps ?_)
  have hno : ¬ (((items.size : Int) - 1 == 0 && (-1 : Int) == 1 && items.size == items.size) = true) := by
    intro q
    rw [Bool.and_eq_true, Bool.and_eq_true] at q
    exact absurd q.1.2 (by decide)
  show wpAny _ _ (if ((items.size : Int) - 1 == 0 && (-1 : Int) == 1 && items.size == items.size) = true then _ else _) _ _ s
  rw [if_neg hno, pick_rev]
  first
    | exact wpAny_bind (m := Builtin.Tuple.tupleExact _) (wpAny_newObj_type (wpAny_pure ⟨_, rfl, wpAny_pure h⟩) htake)
    | exact wpAny_bind (m := Builtin.Tuple.tupleExact _) (wpAny_newObj_type (wpAny_bind (wpAny_pure (wpAny_pure ⟨_, rfl, wpAny_pure h⟩))) htake)
    | exact wpAny_bind (wpAny_bind (m := Builtin.Tuple.tupleExact _) (wpAny_newObj_type (wpAny_pure (wpAny_pure ⟨_, rfl, wpAny_pure h⟩)) htake))
    | exact wpAny_bind (wpAny_bind (m := Builtin.Tuple.tupleExact _) (wpAny_newObj_type (wpAny_pure ⟨_, rfl, wpAny_pure h⟩) htake))
end
section
variable {X : Cx}
def tRevT (K : PySem.W.Frag) (te : TE) : TE := fun σ H Q => te σ H fun x H1 => ∃ a xs, x = .ref a ∧ SqT K H1 a xs ∧ ∀ p, H1 p = none → Q (.ref p) (upd H1 p (.tup xs.reverse))
theorem pe_revT {e : Expr} {te : TE} {k : Nat} {p1 p2 p3 pos : Pos} (he : PE X e te) : PE X (.Subscript e (.Slice none none (some (.UnaryOp .USub (.Constant (.int 1) k p1) p2)) p3) pos) (tRevT X.K te) := by
  refine ⟨fun pins s σ H Q I h => ?_⟩
  refine Subscript_ (thn (he.run pins s σ H _ I h) fun v s1 ⟨x, H1, I1, r1, q1⟩ => ?_)
  obtain ⟨a, xs, ex, hx, q⟩ := q1
  subst ex
  cases r1
  have hst : PO X (some (.UnaryOp .USub (.Constant (.int 1) k p1) p2)) (tPart (tUn (rU fun i => .int (-i)) (tC (.int 1)))) := po_some (pe_un un_neg pe_int)
  refine wpAny_Slice (thn (po_none.run pins s1 σ H1 (fun o H2 => o = none ∧ H2 = H1) I1 ⟨rfl, rfl⟩) fun vl s2 ⟨l, H2, I2, pl, el, e2⟩ => ?_)
  subst el e2
  refine thn (po_none.run pins s2 σ H2 (fun o H3 => o = none ∧ H3 = H2) I2 ⟨rfl, rfl⟩) fun vu s3 ⟨u, H3, I3, pu, eu, e3⟩ => ?_
  subst eu e3
  refine thn (hst.run pins s3 σ H3 (fun o H4 => o = some (-1) ∧ H4 = H3) I3 ⟨1, rfl, -1, rfl, rfl, rfl⟩) fun vs s4 ⟨o, H4, I4, ps, eo, e4⟩ => ?_
  subst eo e4
  have I5 : Inv X pins σ H4 { s4 with heap := s4.heap.push { cls := .type "slice", data := .fields #[vl, vu, vs] } } := I4.kept (t' := s4.toks) fun b ob q => Heap.get?_push_of_some _ q
  obtain ⟨its, r, ht, hz⟩ := I5.tuple hx
  have hlen : its.toArray.size = xs.length := by rw [List.size_toArray]; exact r.length.symm
  show wpAny (model X.prog X.w) X.A (subscriptTail e (.Slice none none (some (.UnaryOp .USub (.Constant (.int 1) k p1) p2)) p3) (.ref a) (.ref s4.heap.objs.size)) (EP X pins σ Q) X.xe { s4 with heap := s4.heap.push { cls := .type "slice", data := .fields #[vl, vu, vs] } }
  refine tail_any (ops := [.ref a, .ref s4.heap.objs.size]) ht.typeIs (PyProof.Rows.slot_tuple_getitem.lookup) ?_ (by with_unfolding_all rfl)
  refine getItem_tuple_rev ht (Heap.IsSliceOf.new _ vl vu vs) pl pu ps ?_ (by rw [hlen]; exact hz)
  refine ⟨.ref _, _, I5.laid (t' := s4.toks) (o := .tup xs.reverse) (fun b ob q => Heap.get?_push_of_some _ q) (Nat.le_refl _) ?_, rfl, q _ (I5.hok.fresh (Nat.le_refl _))⟩
  exact ⟨by rw [List.length_reverse]; exact hz, _, r.reverse, IsTup.new _ _⟩
end
section
variable {X : Cx} {Wc : WX} {a : Expr} {fa : FE} {k : Nat} {p1 p2 p3 pos : Pos}
def revT (x : W) (S : List Ob) : Res W := match x with
  | .d (.tuple xs) => .ok (.d (.tuple xs.reverse)) S
  | _ => .bad
def fRevT (fa : FE) : FE := fun ρ S => (fa ρ S).bind revT
theorem dps_rev {K : PySem.W.Frag} {F : Hp} {ds : List PyData} {vs : List V} (h : DpAll K F vs ds) : DpAll K F vs.reverse ds.reverse := by
  induction ds generalizing vs with
  | nil => cases h; exact .nil
  | cons d r ih =>
    cases h with
    | cons h1 h2 =>
      rw [List.reverse_cons, List.reverse_cons]
      exact dps_app (ih h2) (.cons h1 .nil)
theorem q_revT (ha : PE X a (LE X Wc fa)) : PE X (.Subscript a (.Slice none none (some (.UnaryOp .USub (.Constant (.int 1) k p1) p2)) p3) pos) (LE X Wc (fRevT fa)) := PE.imp (pe_revT ha) fun σ H Q h => by
  obtain ⟨F, D, m, ρ, S, r0, c⟩ := h
  refine step r0 c fun F1 m1 x v S1 H1 l1 p1 r1 e1 c1 => ?_
  cases x with
  | ref n => exact c1.elim
  | d x =>
    rcases rep_cases (μ := m1) e1 with ⟨rfl, rfl⟩ | ⟨b, rfl, rfl⟩ | ⟨i, rfl, rfl⟩ | ⟨z, rfl, rfl⟩ | ⟨a, vs, ds, rfl, rfl, h1, h2⟩ | ⟨a, vs, ds, rfl, rfl, h1, h2⟩
    · exact c1.elim
    · exact c1.elim
    · exact c1.elim
    · exact c1.elim
    · exact c1.elim
    · exact ⟨a, vs, rfl, Le.sqT r1.b.fr h1, fun q hq => new_tup r1 (dps_rev h2) hq c1⟩
@[simp] theorem e_RevT {ρ : List Sl} {S : List Ob} : fRevT fa ρ S = (fa ρ S).bind revT := rfl
@[simp] theorem e_revT {S : List Ob} (xs : List PyData) : revT (.d (.tuple xs)) S = .ok (.d (.tuple xs.reverse)) S := rfl
end
end L2.Q
/-! Layer Q, part Q: enumerate of a tuple. -/
namespace L2.Q
open PySem PySem.Spec PyProof.Rows
section
variable {prog : Program} {w : World} {A : Around} {E : Value → Shared → Prop} {s : Shared}
abbrev enumOb (n : Nat) : Obj := { cls := .type "enumerate", data := .fields #[.none, .bool false, .ref n, rawInt 0, .none, .none] }
theorem enum_made {v : Value} {o : Obj} {G : Heap → Prop} (B : Begins v o G) :
    Meets (Builtin.«enumerate.__new__» ⟨[.type "enumerate", v], []⟩) (fun _ R s => G s.heap ∧ R (.ok (.ret (.ref (s.heap.push o).objs.size))) { s with heap := (s.heap.push o).push (enumOb s.heap.objs.size) }) :=
  .of_wp fun prog w A R s h => by
    obtain ⟨hp, g, d, tk, os⟩ := s
    obtain ⟨h1, h⟩ := h
    have sub := sub_enumerate
    have it : ∀ {A' : Around} {E' : Value → Shared → Prop} {Q : Value → Shared → Prop}, Q (.ref hp.objs.size) ⟨hp.push o, g, d, tk, os⟩ → wpAny (model prog w) A' (pyIter v) Q E' ⟨hp, g, d, tk, os⟩ := fun q => B.iter prog w _ _ ⟨hp, g, d, tk, os⟩ _ h1 q
    wp_walk using it
    refine wpAny_stack_any fun st => wpAny_pure ?_
    split
    · rename_i c _ _ _ _ _
      cases (c == Value.type "enumerate") <;> (wp_walk using it) <;> exact ⟨_, rfl, h⟩
    · wp_walk using it
      exact ⟨_, rfl, h⟩
theorem enum_call {v : Value} {o : Obj} {G : Heap → Prop} {Q : Value → Shared → Prop} (B : Begins v o G) (h1 : G s.heap)
    (h : ∀ h', IsEnum h' (s.heap.objs.size + 1) s.heap.objs.size 0 .none → h'.get? s.heap.objs.size = some o → (∀ b o', s.heap.get? b = some o' → h'.get? b = some o') → Q (.ref (s.heap.objs.size + 1)) { s with heap := h' }) :
    wpAny (model prog w) A (call (.type "enumerate") [v]) Q E s := by
  refine callType_new F.called_enumerate (by decide) (F.typeCall_enumerate_1 _) (F.newCall_enumerate_1 _) (fun x => F.args_object_init_2 x _) F.entry_enumerate_new (enum_made B) ⟨h1, ?_⟩
  have z : (s.heap.push o).objs.size = s.heap.objs.size + 1 := Heap.size_push ..
  show _ ∧ _
  rw [z]
  have e : IsEnum ((s.heap.push o).push (enumOb s.heap.objs.size)) (s.heap.objs.size + 1) s.heap.objs.size 0 .none := by
    have := Heap.get?_push_size (s.heap.push o) (o := enumOb s.heap.objs.size) rfl
    rw [z] at this
    exact this
  exact ⟨⟨_, e, rfl⟩, h _ e (Heap.get?_push_of_some _ (Heap.get?_push_size _ B.free)) fun b o' x => Heap.get?_push_of_some _ (Heap.get?_push_of_some _ x)⟩
theorem enum_endT {e it t : Addr} {i : Int} {k : Nat} {items : Array Value} {old : Value} {Q : Option Value → Shared → Prop} (hh : A.handled = none) (he : IsEnum s.heap e it i old) (hit : s.heap.IsTupleIter it t k) (ht : s.heap.IsTuple t items) (hx : items[k]? = none)
    (hQ : ∀ h', Heap.ExtBut it s.heap h' → Q none { s with heap := h' }) : wpAny (model prog w) A (pyNext (.ref e)) Q E s := by
  have ty : s.TypeIs (.ref e) "enumerate" := ⟨_, he, rfl⟩
  unfold pyNext
  refine wpAny_bind (wpAny_attempt (wpAny_callSpecial?_slot (name := Str.ofString "__next__") ty F.slot_enumerate_next (wpAny_call_entry F.slot_enumerate_next ty F.entry_enumerate_next ?_ (F.args_enumerate_next_1 _))))
  refine wpAny_bind (m := field (.ref e) 2) (wpAny_field he rfl (x := .ref it) rfl ?_)
  refine wpAny_bind (wpAny_nextOf_tuple_end hh hit ht hx fun h' x hk hc => ?_)
  obtain ⟨o, ho, hc⟩ := hc
  exact wpAny_bind (wpAny_isInstance (T := "StopIteration") (b := true) ⟨o, ho, hc⟩ isSubtype_stop (wpAny_pure (hQ _ hk)))
end
/-- the tuple at a, each item in a new pair -/
def IteT (K : PySem.W.Frag) (a : Addr) : It :=
  ⟨fun i H => ∃ (xs : List V) (x : V), SqT K H a xs ∧ xs[i]? = some x,
    fun i H v H' => ∃ T x, v = .ref T ∧ H T = none ∧ H' = upd H T (.tup [.int (i : Nat), x]) ∧ ∀ xs, SqT K H a xs → xs[i]? = some x,
    fun i H => ∃ xs : List V, SqT K H a xs ∧ xs.length ≤ i⟩
theorem turn_enumT {P : Program} {w : World} {K : PySem.W.Frag} {elts : List Expr} {kk : Nat} {tpos : Pos} (a e it : Addr) :
    Turn P w K (.Tuple elts kk tpos) (IteT K a) [e, it] e (fun i h => (∃ old, IsEnum h e it ((i : Nat) : Int) old) ∧ h.IsTupleIter it a i ∧ e ≠ it ∧ a ≠ it ∧ e ≠ a) where
  mem := by simp
  obj := fun i h st b hb => by
    obtain ⟨⟨old, he⟩, ⟨o, ho, hc, hd⟩, _⟩ := st
    rcases (show b = e ∨ b = it by simpa using hb) with rfl | rfl
    · exact ⟨_, he, fun v q => nomatch q⟩
    · exact ⟨o, ho, fun v q => by rw [hd] at q; cases q⟩
  keep := fun i h h' st k => by
    obtain ⟨⟨old, he⟩, hi, r⟩ := st
    exact ⟨⟨old, k e (by simp) _ he⟩, hi.at fun o q => k it (by simp) o q, r⟩
  item := by
    intro X hP hw hK hc i pins s σ H E I hf st hg
    subst hP hw hK
    obtain ⟨⟨old, he⟩, hit, n1, n2, n3⟩ := st
    obtain ⟨xs, x, hq, hx⟩ := hg
    obtain ⟨its, rv, p, hz⟩ := I.tuple hq
    obtain ⟨u, hu, ru⟩ := rv.get hx
    have le := Heap.lt_size he
    have li : it < s.heap.objs.size := by obtain ⟨_, q, _⟩ := hit; exact Heap.lt_size q
    have hd := I.ok.hd hc
    have D := Draws.tuple (prog := X.prog) (w := X.w) (A := X.A.in1) hd it a n2 its.toArray
    refine wpAny_pyNext_enum_itemD D he ⟨hit, p⟩ (by have := (List.getElem?_eq_some_iff.mp hu).1; simpa using this) n1 (by simp [n1, n3]) fun y h' tk hy eo ht hT hs hk => ?_
    have hy : its[i]? = some y := by simpa using hy
    rw [hu] at hy
    cases hy
    refine ⟨_, rfl, wpAny_letOwnedTupleGo_enum (s := { s with heap := h', toks := tk + 1 }) eo fun h'' e2 sb => ?_⟩
    have g2 : h''.get? s.heap.objs.size = some { cls := .type "tuple", data := .seq #[.int i tk, u] } := (sb.2 _ (Nat.ne_of_gt le)).trans hT
    have ob : ObjOk X.prog X.w (upd H s.heap.objs.size (.tup [.int (i : Nat), x])) h'' s.heap.objs.size (.tup [.int (i : Nat), x]) := ⟨by show 2 ≤ sizeLine; decide, [.int i tk, u], .cons ⟨_, rfl⟩ (.cons ru .nil), ⟨_, g2, rfl, _, rfl⟩⟩
    have I1 : Inv X pins σ (upd H s.heap.objs.size (.tup [.int (i : Nat), x])) { s with heap := h'', toks := tk + 1 } :=
      I.turnedNew (ch := [e, it]) (fun b o hb q => (sb.2 b (fun z => hb (by simp [z]))).trans (hk b o (fun z => hb (by simp [z])) (fun z => hb (by simp [z])) q)) hf (Nat.le_refl _) ob
    refine ⟨.ref s.heap.objs.size, _, I1, rfl, ⟨_, x, rfl, I.hok.fresh (Nat.le_refl _), rfl, fun ys hy => by rw [I.tuple_inj hy hq]; exact hx⟩, ⟨⟨u, ?_⟩, ht.1.at fun o q => (sb.2 it (Ne.symm n1)).trans q, n1, n2, n3⟩, fun b hb => ?_⟩
    · rw [show ((i + 1 : Nat) : Int) = (i : Int) + 1 by omega]
      exact e2
    · have lb : b < s.heap.objs.size := by
        rcases (show b = e ∨ b = it by simpa using hb) with rfl | rfl
        · exact le
        · exact li
      rw [upd_ne (Nat.ne_of_lt lb)]
      exact (hf b hb).1
  done := by
    intro X hP hw hK hc i pins s σ H E I hf st hg
    subst hP hw hK
    obtain ⟨⟨old, he⟩, hit, n1, n2, n3⟩ := st
    obtain ⟨xs, hq, hx⟩ := hg
    obtain ⟨its, rv, p, hz⟩ := I.tuple hq
    obtain ⟨f0, f1, f2, f3, f4, f5⟩ := hf it (by simp)
    have hl := rv.length
    exact enum_endT (I.ok.hd hc) he hit p (by simp; omega) fun h' eb => ⟨rfl, I.turned (t' := s.toks) (fun b o hb q => eb b o hb q) f0 f1 f3 f4 f5⟩
  self := fun A i s Q E st h => let ⟨⟨_, he⟩, _⟩ := st; wpAny_pyIter_enum he h
theorem walk_enumT {K : PySem.W.Frag} {a : Addr} {xs : List V} : Walk (IteT K a) xs.length (fun H => SqT K H a xs) (YPair (fun i => some (.int (i : Nat))) (fun i => xs[i]?)) := by
  refine ⟨fun i _ hi q => ⟨xs, xs[i], q, by simp [hi]⟩, fun _ q => ⟨xs, q, Nat.le_refl _⟩, fun i H v H' _ q y => ?_⟩
  obtain ⟨T, x, k1, k2, k3, k4⟩ := y
  exact ⟨T, .int (i : Nat), x, k1, k2, k3, rfl, k4 xs q⟩
def iEnumA (K : PySem.W.Frag) (ta : TA) : TI := fun σ H R => ta σ H fun vs H1 => ∃ a xs, vs = [.ref a] ∧ ((SqL K H1 a xs ∧ R (Ite K a) H1) ∨ (SqT K H1 a xs ∧ R (IteT K a) H1))
theorem pi_enumA {X : Cx} {e : Expr} {ta : TA} {p pos tpos : Pos} {elts : List Expr} {kk : Nat} (hg : Gl X "enumerate") (hm : X.mg "enumerate" = none) (ha : PA X [e] ta) (hs : starEach [e] X.env = [(false, eval e X.env)] := by rfl) :
    PI X (.Tuple elts kk tpos) (.Call (.Name "enumerate" p) [e] [] pos) (iEnumA X.K ta) := by
  refine ⟨fun pins s σ H R I h => ?_⟩
  refine Call_ (ld_blt I hg hm boot_enumerate (PyProof.Rows.callWith_type1 (thn (ha.run pos pins s σ H _ I h) fun us s1 ⟨vs, H1, I1, r1, q1⟩ => ?_) hs rfl))
  obtain ⟨a, xs, ex, q1⟩ := q1
  subst ex
  cases r1 with
  | cons r rr =>
    cases rr
    cases r
    have fresh : ∀ b, b ∈ [s1.heap.objs.size + 1, s1.heap.objs.size] → FpOk X pins H1 b := fun b hb => by
      have hle : s1.heap.objs.size ≤ b := by
        rcases (show b = s1.heap.objs.size + 1 ∨ b = s1.heap.objs.size by simpa using hb) with z | z
        · rw [z]; exact Nat.le_add_right _ _
        · rw [z]; exact Nat.le_refl _
      exact I1.fpOk hle (I1.hok.fresh hle)
    rcases q1 with ⟨hq, q⟩ | ⟨hq, q⟩
    · obtain ⟨its, rv, p', hz⟩ := I1.list hq
      refine call_enumerate_list p'.isList fun h' he hit hsz hk => wpAny_pyIter_enum he ?_
      exact ⟨s1.heap.objs.size + 1, [s1.heap.objs.size + 1, s1.heap.objs.size], _, _, H1, rfl, I1.kept (t' := s1.toks) hk, turn_enum a (s1.heap.objs.size + 1) s1.heap.objs.size, ⟨⟨.none, he⟩, hit, Nat.succ_ne_self _⟩, fresh, q⟩
    · obtain ⟨its, rv, p', hz⟩ := I1.tuple hq
      have la : a < s1.heap.objs.size := by obtain ⟨o, ho, _⟩ := id p'; exact Heap.lt_size ho
      refine enum_call (begins_tuple a its.toArray) p' fun h' he hit hk => wpAny_pyIter_enum he ?_
      exact ⟨s1.heap.objs.size + 1, [s1.heap.objs.size + 1, s1.heap.objs.size], _, _, H1, rfl, I1.kept (t' := s1.toks) hk, turn_enumT a (s1.heap.objs.size + 1) s1.heap.objs.size,
        ⟨⟨.none, he⟩, ⟨_, hit, rfl, rfl⟩, Nat.succ_ne_self _, Nat.ne_of_lt la, Nat.ne_of_gt (Nat.lt_succ_of_lt la)⟩, fresh, q⟩
section
variable {X : Cx} {Wc : WX} {e : Expr} {fa : FE} {p pos : Pos}
def enumA (x : W) (S : List Ob) : Res (List W) := match x with
  | .d (.list xs) => if xs.length ≤ 16777216 then .ok (enumD 0 xs) S else .bad
  | .d (.tuple xs) => if xs.length ≤ 16777216 then .ok (enumD 0 xs) S else .bad
  | _ => .bad
def fEnumA (fa : FE) : FA := fun ρ S => (fa ρ S).bind enumA
theorem enum_yq {K : PySem.W.Frag} {Fr : Hp} {μ : List Addr} {xs : List PyData} {vs : List V} (hx : DpAll K Fr vs xs) {i : Nat} {H : Hp} {v : V} {H' : Hp} (y : YPair (fun i => some (.int (i : Nat))) (fun i => vs[i]?) i H v H') : Yq K Fr μ (enumD 0 xs) i H v H' := by
  obtain ⟨T, x, z, rfl, hT, rfl, e1, e2⟩ := y
  cases e1
  obtain ⟨d, k1, k2⟩ := dps_get hx e2
  have := enumD_get i 0 xs d k1
  rw [Nat.zero_add] at this
  exact ⟨_, this, .inr ⟨T, _, _, rfl, hT, rfl, rfl, .cons (Dp.int _) (.cons k2 .nil)⟩⟩
theorem i_enumA {elts : List Expr} {kk : Nat} {tpos : Pos} (hg : Gl X "enumerate") (hm : X.mg "enumerate" = none) (ha : PE X e (LE X Wc fa)) (hs1 : starEach [e] X.env = (false, eval e X.env) :: starEach [] X.env := by rfl) (hs : starEach [e] X.env = [(false, eval e X.env)] := by rfl) :
    PI X (.Tuple elts kk tpos) (.Call (.Name "enumerate" p) [e] [] pos) (LI X Wc (fEnumA fa)) := PI.imp (pi_enumA hg hm (pa_cons ha pa_nil hs1) hs) fun σ H Q h => by
  obtain ⟨F, Hd, m, ρ, S, r, c⟩ := h
  refine stepI r c fun F1 m1 x v S1 H1 l1 p1 r1 e1 c1 => ?_
  unfold enumA at c1
  split at c1
  · rename_i xs
    split at c1
    · rename_i hl
      cases e1 with
      | @lst a vs _ h1 h2 =>
        have hw := walk_enum (K := X.K) (a := a) (xs := vs)
        rw [show vs.length = (enumD 0 xs).length by rw [enumD_len, DpAll.len h2]] at hw
        exact ⟨a, vs, rfl, .inl ⟨Le.sqL r1.b.fr h1, c1 F1 Hd m1 H1 _ Le.refl Le.refl (List.prefix_refl m1) r1 (Walk.mono hw (fun H h => Le.sqL h.1 h1) fun i H v H' hi _ y => enum_yq h2 y) (by rw [enumD_len, sizeLine_eq]; exact hl)⟩⟩
    · exact c1.elim
  · rename_i xs
    split at c1
    · rename_i hl
      cases e1 with
      | @tup a vs _ h1 h2 =>
        have hw := walk_enumT (K := X.K) (a := a) (xs := vs)
        rw [show vs.length = (enumD 0 xs).length by rw [enumD_len, DpAll.len h2]] at hw
        exact ⟨a, vs, rfl, .inr ⟨Le.sqT r1.b.fr h1, c1 F1 Hd m1 H1 _ Le.refl Le.refl (List.prefix_refl m1) r1 (Walk.mono hw (fun H h => Le.sqT h.1 h1) fun i H v H' hi _ y => enum_yq h2 y) (by rw [enumD_len, sizeLine_eq]; exact hl)⟩⟩
    · exact c1.elim
  · exact c1.elim
@[simp] theorem e_EnumA {ρ : List Sl} {S : List Ob} : fEnumA fa ρ S = (fa ρ S).bind enumA := rfl
@[simp] theorem e_enumT {S : List Ob} (xs : List PyData) : enumA (.d (.tuple xs)) S = if xs.length ≤ 16777216 then .ok (enumD 0 xs) S else .bad := rfl
@[simp] theorem e_enumL {S : List Ob} (xs : List PyData) : enumA (.d (.list xs)) S = if xs.length ≤ 16777216 then .ok (enumD 0 xs) S else .bad := rfl
end
end L2.Q
/-! Layer Q, part R: a, b = e, f and a, b, c = e, f, g by way of a tuple (some name is a cell). -/
namespace L2.Q
open PySem PySem.Spec PyProof.Rows
section
variable {X : Cx} {Wc : WX} {a b c3 : Expr} {pos : Pos} {f1 f2 f3 : FC}
/-- where the continuation goes on at a heap with one more object -/
theorem more_nx {D : Ends} {Fr Hd : Hp} {μ : List Addr} {ρ : List Sl} {S : List Ob} {σ : St} {H : Hp} {p : Addr} {o : HO} (r : R X.K Fr Hd μ ρ S σ H) (hp : H p = none) (c : contS X.K X.mg Wc Fr Hd μ D (.nx ρ S)) : D.nx σ (upd H p o) :=
  c Fr μ σ _ Le.refl (List.prefix_refl μ) (r.upd (r.new hp))
theorem parT_imp {i j : Nat} {D : Ends} {σ : St} {H : Hp} (h : LS X Wc (fPar i j f1 f2) D σ H) : tAsg (tTup (tCons (LC X Wc f1) (tCons (LC X Wc f2) tNil))) (gTup X.K 2 (gCons (gName i) (gCons (gName j) gNil))) D σ H := by
  obtain ⟨F, Hd, m, ρ, S, r, c⟩ := h
  show LC X Wc f1 σ H _
  refine stepS r c fun F1 m1 k1 v1 S1 H1 l1 p1 r1 e1 c1 => ?_
  cases k1 with
  | un => exact e1.elim
  | w x =>
    refine stepS r1 c1 fun F2 m2 k2 v2 S2 H2 l2 p2 r2 e2 c2 => ?_
    refine ⟨by show 2 ≤ sizeLine; decide, fun p hp => ⟨p, [v1, v2], rfl, .inl (.inl upd_same), rfl, v1, [v2], rfl, v2, [], rfl, rfl, ?_⟩⟩
    have r3 := r2.setW (i := i) (RepW.mono l2 p2 e1)
    have e3 : repC X.K F2 Hd m2 (ρ.set i (.w x)) (σ.set i (some v1)) H2 k2 v2 := by
      cases k2 with
      | un => exact e2
      | w y => exact e2
      | own o => obtain ⟨q, ho, h0, h1, h2, h3⟩ := e2; exact ⟨q, ho, h0, h1, h2, free_setW h3⟩
    exact more_nx (r3.setC e3) hp c2
  | own o =>
    obtain ⟨q, ho, rfl, h1, h2, h3⟩ := e1
    refine stepSH r1 h1 h3 c1 fun F2 m2 k2 v2 S2 H2 l2 p2 r2 hq fq e2 c2 => ?_
    refine ⟨by show 2 ≤ sizeLine; decide, fun p hp => ⟨p, [.ref q, v2], rfl, .inl (.inl upd_same), rfl, .ref q, [v2], rfl, v2, [], rfl, rfl, ?_⟩⟩
    have r3 := r2.setOwn (i := i) hq fq (h2.mono l2 p2)
    have e3 : repC X.K F2 Hd m2 (ρ.set i (.own o)) (σ.set i (some (.ref q))) H2 k2 v2 := by
      cases k2 with
      | un => exact e2
      | w y => exact e2
      | own o2 => obtain ⟨q2, ho2, h0, h1, h2, h3⟩ := e2; exact ⟨q2, ho2, h0, h1, h2, free_set h3 fq.hd⟩
    exact more_nx (r3.setC e3) hp c2
theorem s_parT {i j : Nat} {x y : Str} {px py pt : Pos} {kt k2 pt2} (hc : X.calm = true) (hN : X.N.Nodup) (hi : X.N[i]? = some x) (hj : X.N[j]? = some y) (hx : Loc X.env.scope x) (hy : Loc X.env.scope y) (ha : PE X a (LC X Wc f1)) (hb : PE X b (LC X Wc f2))
    (hfx : X.fn x = true ∨ X.env.scope.names.lookup x = some .local := by first | exact .inl rfl | exact .inr rfl | assumption) (hfy : X.fn y = true ∨ X.env.scope.names.lookup y = some .local := by first | exact .inl rfl | exact .inr rfl | assumption)
    (hw : swappedStores [.Tuple [.Name x px, .Name y py] kt pt] (.Tuple [a, b] k2 pt2) X.env = pure none := by rfl)
    (hs : swapsWithSole [.Tuple [.Name x px, .Name y py] kt pt] (.Tuple [a, b] k2 pt2) pos.line X.env = pure false := by rfl)
    (hs1 : starEach [a, b] X.env = (false, eval a X.env) :: starEach [b] X.env := by rfl) (hs2 : starEach [b] X.env = (false, eval b X.env) :: starEach [] X.env := by rfl)
    (hn : (assignEach [.Name x px, .Name y py] X.env).length = 2 := by rfl) (hst : (assignEach [.Name x px, .Name y py] X.env).findIdx? (·.1) = none := by rfl)
    (h1 : (assignEach [.Tuple [.Name x px, .Name y py] kt pt] X.env).map (·.2) = [assign (.Tuple [.Name x px, .Name y py] kt pt) X.env] := by rfl) :
    PS X (.Assign [.Tuple [.Name x px, .Name y py] kt pt] (.Tuple [a, b] k2 pt2) pos) (LS X Wc (fPar i j f1 f2)) :=
  PS.imp (ps_asg (pe_tup (pa_cons ha (pa_cons hb pa_nil hs2) hs1)) (pg_tup hc (pgs_cons (pg_name hN hi hx hfx) (pgs_cons (pg_name hN hj hy hfy) pgs_nil)) hn hst) hs hw h1) fun _ _ _ h => parT_imp h
end
/-! ### sorted(set(xs)) of ints -/
/-- a new set -/
abbrev setOb (w : World) : Obj := { cls := .type "set", dict := none, data := .set #[] 0 (.fresh 0 0 (!w.params.followText "set-order")) }
section
variable {P : Program} {w : World} {A : Around} {E : Value → Shared → Prop} {s : Shared}
/-- set(l), l a list of ints -/
theorem set_of_ints {l : Addr} {items : Array Value} (ns : List Int) {Q : Value → Shared → Prop} (hh : A.handled = none) (hl : s.heap.IsList l items) (hit : IntsAre items.toList ns) (hb : ns.length + 1 < scanBound)
    (h : ∀ (h' : Heap) (tk c : Nat), SetR w h' s.heap.objs.size (fun j => decide (j ∈ ns)) c → c ≤ ns.length → (∀ b o, s.heap.get? b = some o → h'.get? b = some o) → Q (.ref s.heap.objs.size) { s with heap := h', toks := tk }) : wpAny (model P w) A (call (.type "set") [.ref l]) Q E s := by
  have isz : items.size = ns.length := by have q := IntsAre.length hit; rw [Array.length_toList] at q; exact q
  obtain ⟨c, tl, mro⟩ := F.called_set.mro
  have made := F.called_set.made
  have sub := F.called_set.sub
  refine wpAny_call (codeAny_of_tree ?_); show wpAny _ _ (callAny (.type "set") _) _ _ _
  refine wpAny_pure ⟨Code.quiet_builtin _ (by decide +kernel), codeAny_builtin F.entry_type_call ?_⟩; rw [Around.under_plain (weight_type_call_type "set" [.ref l] []) rfl]
  have c1 := F.called_set.notType
  have c2 := F.called_set.canCreate
  have c3 := F.typeCall_set_1 (.ref l)
  repeat (any_goals (first | assumption | wp_step))
  refine codeAny_mono (code_set_led1 (.ref l) (E := E) (Q₁ := fun obj s1 => obj = .ref s.heap.objs.size ∧ s1 = { s with heap := s.heap.push (setOb w) }) ⟨rfl, rfl⟩) fun r s1 hr => ?_
  cases r with
  | error e => exact hr
  | ok fl =>
    cases fl with
    | ret obj =>
      obtain ⟨rfl, rfl⟩ := hr
      have at0 : (s.heap.push (setOb w)).get? s.heap.objs.size = some (setOb w) := Heap.get?_push_size _ rfl
      have ty : Shared.TypeIs { s with heap := s.heap.push (setOb w) } (.ref s.heap.objs.size) "set" := ⟨_, at0, rfl⟩
      have i1 := F.called_set.init.lookup
      have i2 := F.called_set.init.bind (.ref s.heap.objs.size)
      repeat (any_goals (first | assumption | wp_step))
      refine codeAny_mono (codeAny_call_builtin (R := wants (fun r s2 => r = .none ∧ ∃ h' tk c, s2 = { s with heap := h', toks := tk } ∧ SetR w h' s.heap.objs.size (fun j => decide (j ∈ ns)) c ∧ c ≤ ns.length ∧ (∀ b o, s.heap.get? b = some o → h'.get? b = some o)) E) F.called_set.init.plain F.entry_set_init (check_set_init_1 ty ?_)) fun r2 s2 hr2 => ?_
      · obtain ⟨ol, gl, cl, nl, dl⟩ := hl
        obtain ⟨oc, od, oo, os⟩ := ol
        simp only at cl dl
        subst cl dl
        have gl' : (s.heap.push (setOb w)).get? l = some { cls := .type "list", dict := od, data := .seq items nl, slots := os } := Heap.get?_push_of_some _ gl
        have b1 := F.sub_list_set
        have b2 := F.sub_list_frozenset
        have b3 : (Value.type "list" == Value.type "dict") = false := by decide
        have is1 : (s.heap.push (setOb w)).IsList l items := ⟨_, gl', rfl, nl, rfl⟩
        unfold Builtin.«set.__init__» noKeywords Builtin.Frozenset.updateFrom
        generalize hPI : pyIter = PI
        wp_walk
        subst hPI
        refine wpAny_pyIter_list is1 (wpAny_bind (wpAny_runValue ?_))
        have lt : l < s.heap.objs.size := Heap.lt_size gl
        have hh3 : A.in1.in1.in1.handled = none := by simp [hh]
        have nI : l ≠ (s.heap.push (setOb w)).objs.size := by rw [Heap.size_push]; exact Nat.ne_of_lt (Nat.lt_succ_of_lt lt)
        have nS : s.heap.objs.size ∉ [(s.heap.push (setOb w)).objs.size, l] := by
          rw [Heap.size_push]
          simp only [List.mem_cons, List.mem_singleton, List.not_mem_nil, or_false, not_or]
          exact ⟨Nat.ne_of_lt (Nat.lt_succ_self _), Nat.ne_of_gt lt⟩
        have val : ∀ (i : Nat) (v : Value), items[i]? = some v → ∃ k t, ns[i]? = some k ∧ v = .int k t := fun i v hv => by
          have hi : i < ns.length := by rw [← isz]; exact (Array.getElem?_eq_some_iff.mp hv).1
          obtain ⟨t, e⟩ := PyProof.Rows.IntsAre.int_at hit i v (by rw [Array.getElem?_toList]; exact hv)
          refine ⟨ns[i], t, List.getElem?_eq_getElem hi, ?_⟩
          rw [e, List.getD_eq_getElem?_getD, List.getElem?_eq_getElem hi]
          rfl
        refine set_update_ints ((Walks.list hh3 _ l nI items).toS) s.heap.objs.size nS ns isz hb val (items.size - 0) 0 _ (by omega) (Nat.zero_le _) ⟨⟨_, Heap.get?_push_size _ rfl, rfl, rfl⟩, (is1.push _)⟩ ?z0 ?z1
        case z0 => exact ⟨0, Nat.le_refl 0, setR_new_at (Heap.get?_push_of_some _ at0)⟩
        case z1 =>
          intro s' c' hm hc' hS'
          obtain ⟨h', g2, d', tk', os'⟩ := s'
          have eg : g2 = s.gens := hm.gens
          have ed : d' = s.drawn := hm.drawn
          have eo : os' = s.os := hm.os
          subst eg ed eo
          show wpAny _ _ _ _ _ _
          refine wpAny_pure (show wpAny _ _ (ret Value.none) _ _ _ from ?_)
          rw [isz] at hc'
          refine wpAny_pure ⟨rfl, h', tk', c', rfl, hS', hc', fun b o e => ?_⟩
          have lb : b < s.heap.objs.size := Heap.lt_size e
          have nb : b ≠ (s.heap.push (setOb w)).objs.size := by rw [Heap.size_push]; exact Nat.ne_of_lt (Nat.lt_succ_of_lt lb)
          exact hm.heap b o (by simp only [List.mem_cons, List.mem_singleton, List.not_mem_nil, or_false, not_or]; exact ⟨Nat.ne_of_lt lb, nb⟩) (Heap.get?_push_of_some _ (Heap.get?_push_of_some _ e))
      · cases r2 with
        | error e => exact hr2
        | ok f2 =>
          cases f2 with
          | ret r =>
            obtain ⟨rfl, h', tk, c', rfl, hS', hc', hk'⟩ := hr2
            repeat (any_goals (first | assumption | wp_step))
            exact h _ _ _ hS' hc' hk'
          | _ => exact hr2.elim
    | _ => exact hr.elim
end
/-- the different ones of ns, rising -/
def insU (k : Int) : List Int → List Int
  | [] => [k]
  | x :: r => if k < x then k :: x :: r else if k = x then x :: r else x :: insU k r
def sset : List Int → List Int
  | [] => []
  | k :: r => insU k (sset r)
theorem mem_insU (k j : Int) : ∀ l : List Int, j ∈ insU k l ↔ j = k ∨ j ∈ l
  | [] => by simp [insU]
  | x :: r => by
    unfold insU
    split
    · simp
    · split
      · rename_i e; subst e; simp
      · rw [List.mem_cons, mem_insU k j r, List.mem_cons]
        constructor
        · rintro (h | h | h)
          · exact .inr (.inl h)
          · exact .inl h
          · exact .inr (.inr h)
        · rintro (h | h | h)
          · exact .inr (.inl h)
          · exact .inl h
          · exact .inr (.inr h)
theorem insU_lt (k : Int) : ∀ {l : List Int}, l.Pairwise (· < ·) → (insU k l).Pairwise (· < ·)
  | [], _ => by simp [insU]
  | x :: r, h => by
    have h' := List.pairwise_cons.mp h
    unfold insU
    split
    · rename_i q
      refine List.pairwise_cons.mpr ⟨fun y hy => ?_, h⟩
      rcases List.mem_cons.mp hy with rfl | hy
      · exact q
      · have := h'.1 y hy; omega
    · split
      · exact h
      · refine List.pairwise_cons.mpr ⟨fun y hy => ?_, insU_lt k h'.2⟩
        rcases (mem_insU k y r).mp hy with rfl | hy
        · omega
        · exact h'.1 y hy
theorem mem_sset (j : Int) : ∀ l : List Int, j ∈ sset l ↔ j ∈ l
  | [] => by simp [sset]
  | k :: r => by unfold sset; rw [mem_insU, mem_sset j r, List.mem_cons]
theorem sset_lt : ∀ l : List Int, (sset l).Pairwise (· < ·)
  | [] => List.Pairwise.nil
  | k :: r => insU_lt k (sset_lt r)
theorem rise_one : ∀ {xs ys : List Int}, xs.Pairwise (· < ·) → ys.Pairwise (· < ·) → (∀ k, k ∈ xs ↔ k ∈ ys) → xs = ys
  | [], [], _, _, _ => rfl
  | [], y :: s, _, _, h => absurd ((h y).mpr (List.mem_cons_self ..)) (by simp)
  | x :: r, [], _, _, h => absurd ((h x).mp (List.mem_cons_self ..)) (by simp)
  | x :: r, y :: s, hx, hy, h => by
    have hx' := List.pairwise_cons.mp hx
    have hy' := List.pairwise_cons.mp hy
    have e : x = y := by
      rcases List.mem_cons.mp ((h x).mp (List.mem_cons_self ..)) with e | m
      · exact e
      · rcases List.mem_cons.mp ((h y).mpr (List.mem_cons_self ..)) with e | m2
        · exact e.symm
        · have := hy'.1 x m
          have := hx'.1 y m2
          omega
    subst e
    rw [rise_one hx'.2 hy'.2 fun k => ?_]
    constructor
    · intro hk
      rcases List.mem_cons.mp ((h k).mp (List.mem_cons_of_mem _ hk)) with e | m
      · have := hx'.1 k hk; omega
      · exact m
    · intro hk
      rcases List.mem_cons.mp ((h k).mpr (List.mem_cons_of_mem _ hk)) with e | m
      · have := hy'.1 k hk; omega
      · exact m
section
variable {X : Cx} {Wc : WX} {e : Expr} {fl1 : FA} {p p2 pos pos2 : Pos}
def rSetOfI (K : PySem.W.Frag) (w : World) : List V → Hp → VK → Prop := fun vs H Q => ∃ (a : Addr) (ns : List Int), vs = [V.ref a] ∧ SqL K H a (ns.map V.int) ∧ ns.length ≤ 1000 ∧ ∀ (c : Nat) (q : Addr), c ≤ ns.length → H q = none → Q (.ref q) (upd H q (SetO w q (fun j => decide (j ∈ ns)) c))
theorem cr_setOfI (hc : X.calm = true) : CallR X (.type "set") (rSetOfI X.K X.w) := by
  intro pins s σ H vs us Q I r h
  obtain ⟨a, ns, rfl, hs, hl, q⟩ := h
  obtain ⟨its, rv, li, hz⟩ := I.list hs
  rw [Vals.ref1 r]
  refine set_of_ints ns (I.ok.hd hc) li.isList (by simpa using intsAre_of rv) (by unfold scanBound; omega) fun h' tk c hS hcl hk => ?_
  exact ⟨.ref _, upd H s.heap.objs.size (SetO X.w s.heap.objs.size (fun j => decide (j ∈ ns)) c), I.laid (t' := tk) hk (Nat.le_refl _) (setO_new hS), rfl, q c _ hcl (I.hok.fresh (Nat.le_refl _))⟩
def srtSet (xs : List W) (S : List Ob) : Res W := match intsW xs with
  | some ns => if ns.length < 64 then .ok (.d (.list ((sset ns).map .int))) S else .bad
  | none => .bad
def fSSet (f : FA) : FE := fun ρ S => (f ρ S).bind srtSet
theorem dps_ints {K : PySem.W.Frag} {F : Hp} : ∀ ns : List Int, DpAll K F (ns.map V.int) (ns.map .int)
  | [] => .nil
  | k :: r => .cons (Dp.int _) (dps_ints r)
theorem q_sset (hc : X.calm = true) (hg : Gl X "sorted") (hm : X.mg "sorted" = none) (hg2 : Gl X "set") (hm2 : X.mg "set" = none) (h : PE X e (LL X Wc fl1))
    (hs : starEach [e] X.env = (false, eval e X.env) :: starEach [] X.env := by rfl) (hpl : (backTo pos2 (starEach [] X.env)).any (·.1) = false := by rfl)
    (hs2 : starEach [.Call (.Name "set" p2) [e] [] pos2] X.env = (false, eval (.Call (.Name "set" p2) [e] [] pos2) X.env) :: starEach [] X.env := by rfl) (hpl2 : (backTo pos (starEach [] X.env)).any (·.1) = false := by rfl) :
    PE X (.Call (.Name "sorted" p) [.Call (.Name "set" p2) [e] [] pos2] [] pos) (LE X Wc (fSSet fl1)) :=
  PE.imp (pe_callB (cr_sortedSet hc) hg hm (by decide +kernel) (pa_cons (pe_callTy (cr_setOfI hc) hg2 hm2 (by decide +kernel) (pa_cons h pa_nil hs) (he := hs) (hpl := hpl)) pa_nil hs2) (he := hs2) (hpl := hpl2)) fun σ H Q h => by
  obtain ⟨F, D, m, ρ, S, r0, c⟩ := h
  refine step r0 c fun F1 m1 xs v S1 H1 l1 p1 r1 e1 c1 => ?_
  obtain ⟨a, vs, rfl, e2, e3⟩ := e1
  unfold srtSet at c1
  split at c1
  · rename_i ns ens
    split at c1
    · rename_i hl
      have ev := intsW_rep ens e3
      subst ev
      refine ⟨a, ns, rfl, e2, by omega, fun c q hcl hq => ?_⟩
      refine ⟨q, _, c, rfl, upd_same, by omega, fun ys q2 hys hmem hlen hq2 => ?_⟩
      have ey : ys = sset ns := rise_one hys (sset_lt ns) fun k => by rw [hmem k, mem_sset, decide_eq_true_eq]
      rw [ey]
      exact new_lstV (r1.upd (r1.new hq)) (dps_ints _) hq2 c1
    · exact c1.elim
  · exact c1.elim
end
section
variable {ρ : List Sl} {S : List Ob} {fl1 : FA}
@[simp] theorem e_SSet : fSSet fl1 ρ S = (fl1 ρ S).bind srtSet := rfl
theorem e_srtSet (ns : List Int) (h : ns.length < 64) : srtSet (ns.map fun i => .d (.int i)) S = .ok (.d (.list ((sset ns).map .int))) S := by
  unfold srtSet
  rw [intsW_map]
  dsimp only
  rw [if_pos h]
end
/-! ### a list in the store, as it stands -/
def seqS (x : W) (S : List Ob) : Res (List W) := match x with
  | .ref n => (match S[n]? with
    | some (.lst xs) => .ok xs S
    | _ => .bad)
  | x => seqOf x S
def fItS (fa : FE) : FA := fun ρ S => (fa ρ S).bind seqS
section
variable {X : Cx} {Wc : WX} {e : Expr} {fa : FE}
theorem qs_s (h : PE X e (LE X Wc fa)) : PE X e (LQ X Wc (fItS fa)) := PE.imp h fun σ H Q h => by
  obtain ⟨F, D, m, ρ, S, r0, c⟩ := h
  refine step r0 c fun F1 m1 x v S1 H1 l1 p1 r1 e1 c1 => ?_
  cases x with
  | ref n =>
    obtain ⟨a, ea, rfl⟩ := e1
    unfold seqS at c1
    dsimp only at c1
    split at c1
    · rename_i xs es
      obtain ⟨ho, h1, ⟨vs, rfl, q⟩, _⟩ := r1.b.st n a _ ea es
      exact c1 F1 m1 _ H1 Le.refl (List.prefix_refl m1) r1 ⟨a, vs, rfl, .inl (.inl (.inl h1)), q⟩
    · exact c1.elim
  | d x =>
    cases x with
    | tuple xs =>
      cases e1 with
      | @tup a vs _ hs ha => exact c1 F1 m1 _ H1 Le.refl (List.prefix_refl m1) r1 ⟨a, vs, rfl, .inr (Le.sqT r1.b.fr hs), rep_dats ha⟩
    | list xs =>
      cases e1 with
      | @lst a vs _ hs ha => exact c1 F1 m1 _ H1 Le.refl (List.prefix_refl m1) r1 ⟨a, vs, rfl, .inl (Le.sqL r1.b.fr hs), rep_dats ha⟩
    | none => exact c1.elim
    | bool b => exact c1.elim
    | int i => exact c1.elim
    | str z => exact c1.elim
    | dict z => exact c1.elim
end
section
variable {ρ : List Sl} {S : List Ob} {fa : FE}
@[simp] theorem e_ItS : fItS fa ρ S = (fa ρ S).bind seqS := rfl
@[simp] theorem e_seqS (n : Nat) : seqS (.ref n) S = (match S[n]? with | some (.lst xs) => .ok xs S | _ => .bad) := rfl
end
end L2.Q
/-! Layer Q, part S: x in a tuple or list of flat items; own[i] = v; sorted of at most one item. -/
namespace L2.Q
open PySem PySem.Spec PyProof.Rows
def flatD : PyData → Bool
  | .none => true
  | .bool _ => true
  | .int _ => true
  | .str _ => true
  | _ => false
def flV : PyData → V
  | .bool b => .bl b
  | .int i => .int i
  | .str s => .str s
  | _ => .non
def eqF (x y : PyData) : Bool := eqV (flV x) (flV y)
theorem flat_rep {K : PySem.W.Frag} {Fr : Hp} {x : PyData} {v : V} (r : Dp K Fr v x) (h : flatD x = true) : v = flV x ∧ flatV v = true := by
  cases x with
  | none => cases r; exact ⟨rfl, rfl⟩
  | bool b => cases r; exact ⟨rfl, rfl⟩
  | int i => cases r; exact ⟨rfl, rfl⟩
  | str s => cases r; exact ⟨rfl, rfl⟩
  | list _ => cases h
  | tuple _ => cases h
  | dict _ => cases h
theorem flats_rep {K : PySem.W.Frag} {Fr : Hp} : ∀ {ds : List PyData} {vs : List V}, DpAll K Fr vs ds → ds.all flatD = true → vs = ds.map flV ∧ vs.all flatV = true
  | [], _, .nil, _ => ⟨rfl, rfl⟩
  | d :: r, _, .cons h t, e => by
    rw [List.all_cons, Bool.and_eq_true] at e
    obtain ⟨e1, e2⟩ := flat_rep h e.1
    obtain ⟨e3, e4⟩ := flats_rep t e.2
    subst e1 e3
    exact ⟨rfl, by rw [List.all_cons, e2, e4]; rfl⟩
def inD (x : PyData) (ds : List PyData) : Bool := ds.any fun y => eqF y x
def itemsD : PyData → Option (List PyData)
  | .tuple ds => some ds
  | .list ds => some ds
  | _ => none
def oIn : W → W → List Ob → Res W := fun x y S => match x, y with
  | .d x, .d y => (match itemsD y with
    | some ds => if flatD x && ds.all flatD then .ok (.d (.bool (inD x ds))) S else .bad
    | none => .bad)
  | _, _ => .bad
section
variable {X : Cx} {Wc : WX} {a b e : Expr} {fa fb : FE} {pos p : Pos} {fl1 : FA}
theorem f_in : OpF X Wc (rIn X.K false) oIn := by
  intro Fr Hd μ ρ S σ H x y v u Q r ex ey c
  unfold oIn at c
  split at c
  · rename_i x y
    split at c
    · rename_i ds ei
      split at c
      · rename_i hh
        rw [Bool.and_eq_true] at hh
        obtain ⟨e1, e2⟩ := flat_rep ex hh.1
        have go : ∀ {p : Addr} {vs : List V}, (SqL X.K H p vs ∨ SqT X.K H p vs) → DpAll X.K Fr vs ds → u = .ref p → rIn X.K false v u H Q := fun {p vs} hs hd eu => by
          obtain ⟨e3, e4⟩ := flats_rep hd hh.2
          refine ⟨p, vs, eu, hs, e2, e4, ?_⟩
          have : inV v vs = inD x ds := by
            unfold inV inD
            rw [e3, e1, List.any_map]
            rfl
          rw [show (if false = true then !inV v vs else inV v vs) = inD x ds from this]
          exact rt r c (Dp.bl _)
        cases y with
        | tuple ys => cases ei; cases ey with | @tup a vs _ h1 h2 => exact go (.inr (Le.sqT r.b.fr h1)) h2 rfl
        | list ys => cases ei; cases ey with | @lst a vs _ h1 h2 => exact go (.inl (Le.sqL r.b.fr h1)) h2 rfl
        | none => cases ei
        | bool _ => cases ei
        | int _ => cases ei
        | str _ => cases ei
        | dict _ => cases ei
      · exact c.elim
    · exact c.elim
  · exact c.elim
theorem q_in (ha : PE X a (LE X Wc fa)) (hb : PE X b (LE X Wc fb)) (hm : behindInMarks .In b = false := by rfl) : PE X (.Compare a [.In] [b] pos) (LE X Wc (fBin oIn fa fb)) := q_cmp op_in_seq f_in ha hb hm
theorem t_in (ha : PE X a (LE X Wc fa)) (hb : PE X b (LE X Wc fb)) (hm : behindInMarks .In b = false := by rfl) : PT X (.Compare a [.In] [b] pos) (LB X Wc (fT (fBin oIn fa fb))) := q_tc op_in_seq f_in ha hb hm
/-! own[i] = v -/
def fPutO (i : Nat) (fv fy : FE) : FT := fun ρ S => fl (fv ρ S) ρ fun v S1 => match ρ[i]? with
  | some (.own (.lst xs)) => fl (fy ρ S1) ρ fun y S2 => (match y with
    | .d (.int k) => (match ixN xs.length k with
      | some j => .nx (ρ.set i (.own (.lst (xs.set j v)))) S2
      | none => .bad)
    | _ => .bad)
  | _ => .bad
theorem s_putO {i : Nat} {x : Str} {p' : Pos} {k v : Expr} {fv fy : FE} {tpos : Pos} (hN : X.N[i]? = some x) (hvis : Vis X.env.scope x) (hv : PE X v (LE X Wc fv)) (hk : PE X k (LE X Wc fy)) (hd : (x == ("__debug__" : Str)) = false := by decide) (hcd : (x == ("__classdict__" : Str)) = false := by decide)
    (hs : swapsWithSole [.Subscript (.Name x p') k tpos] v pos.line X.env = pure false := by rfl) (hw : swappedStores [.Subscript (.Name x p') k tpos] v X.env = pure none := by rfl)
    (h1 : (assignEach [.Subscript (.Name x p') k tpos] X.env).map (·.2) = [assign (.Subscript (.Name x p') k tpos) X.env] := by rfl) (ha : ∀ v, assign (.Subscript (.Name x p') k tpos) X.env v = (do
      let ov ← holding [v] (eval (.Name x p') X.env)
      let iv ← holding [v, ov] (eval k X.env)
      standAt tpos
      holding [v, ov, iv] (setItem ov iv v)
      release [v, ov, iv] []) := by intro _; rfl) : PS X (.Assign [.Subscript (.Name x p') k tpos] v pos) (LS X Wc (fPutO i fv fy)) :=
  PS.imp (ps_asg hv (pg_sub (pe_var hN hvis hd hcd) hk set_list ha) hs hw h1) fun D σ H h => by
  obtain ⟨F, Hd, m, ρ, S, r, c⟩ := h
  refine stepS r c fun F1 m1 w vv S1 H1 l1 p1 r1 e1 c1 => ?_
  split at c1
  · rename_i xs ex
    obtain ⟨q, vs, eq0, _, _⟩ := own_lst r1 ex
    refine ⟨_, eq0, ?_⟩
    refine stepS r1 c1 fun F2 m2 y vy S2 H2 l2 p2 r2 e2 c2 => ?_
    obtain ⟨q', vs', eq1, hq, rw'⟩ := own_lst r2 ex
    rw [eq0] at eq1
    cases eq1
    split at c2
    · rename_i k
      cases e2
      split at c2
      · rename_i j ej
        refine ⟨q, vs', k, j, rfl, rfl, hq, by rw [← Paired.length rw']; exact ej, ?_⟩
        exact c2 F2 m2 σ _ Le.refl (List.prefix_refl m2) (r2.putOwn ex eq0 ⟨_, rfl, paired_set (RepW.mono l2 p2 e1) j rw'⟩)
      · exact c2.elim
    · exact c2.elim
  · exact c1.elim
/-! sorted of at most one item, or as before -/
def rSort1 (K : PySem.W.Frag) : List V → Hp → VK → Prop := fun vs H Q => ∃ (a : Addr) (xs : List V), vs = [V.ref a] ∧ SqL K H a xs ∧ xs.length ≤ 1 ∧ ∀ p, H p = none → Q (.ref p) (upd H p (.lst xs))
theorem swo_no {α : Type} : SrtO.Swo fun (_ _ : α) => false := ⟨fun _ _ h => (nomatch h), fun _ _ _ _ _ => rfl⟩
theorem cr_sort1 : CallR X (.builtin "sorted") (rSort1 X.K) := by
  intro pins s σ H vs us Q I r h
  obtain ⟨a, xs, rfl, hs, hl, q⟩ := h
  obtain ⟨its, rv, li, hz⟩ := I.list hs
  rw [Vals.ref1 r]
  have el := rv.length
  refine SrtO.sorted_ord (swo_no (α := Value)) li.isList (by omega) (fun h2 => by omega) fun out _ hb => ?_
  have eo : out = its := by
    have hp := hb.perm
    match its, out, hp, el with
    | [], [], _, _ => rfl
    | [], _ :: _, hp, _ => exact absurd hp.length_eq (by simp)
    | [x], out, hp, _ => exact List.perm_singleton.mp hp
    | _ :: _ :: _, _, _, el => simp at el; omega
  subst eo
  obtain ⟨ep, he'⟩ := PyProof.Rows.sortedAll_at s.heap out out.toArray
  exact ⟨.ref _, upd H (s.heap.objs.size + 1) (.lst xs), I.laid (t' := s.toks) (fun _ _ => PyProof.Rows.sortedAll_old) (Nat.le_succ _) ⟨by rw [sizeLine_eq]; omega, out, ep, rv, he'⟩, rfl, q _ (I.hok.fresh (Nat.le_succ _))⟩
theorem callR_or {f : Value} {r1 r2 : List V → Hp → VK → Prop} (h1 : CallR X f r1) (h2 : CallR X f r2) : CallR X f (fun vs H Q => r1 vs H Q ∨ r2 vs H Q) := fun pins s σ H xs us Q I r h => h.elim (fun h => h1 pins s σ H xs us Q I r h) fun h => h2 pins s σ H xs us Q I r h
def srtA (xs : List W) (S : List Ob) : Res W := match dats xs with
  | some ds => if ds.length ≤ 1 then .ok (.d (.list ds)) S else srt xs S
  | none => .bad
def fSrtA (f : FA) : FE := fun ρ S => (f ρ S).bind srtA
theorem q_srtA (hu : X.A.units + 200 < cLine) (hg : Gl X "sorted") (hm : X.mg "sorted" = none) (h : PE X e (LL X Wc fl1)) (hs : starEach [e] X.env = (false, eval e X.env) :: starEach [] X.env := by rfl) (hpl : (backTo pos (starEach [] X.env)).any (·.1) = false := by rfl) : PE X (.Call (.Name "sorted" p) [e] [] pos) (LE X Wc (fSrtA fl1)) :=
  PE.imp (pe_callB (callR_or cr_sort1 (cr_srt hu)) hg hm (by decide +kernel) (pa_cons h pa_nil hs) (he := hs) (hpl := hpl)) fun σ H Q h => by
  obtain ⟨F, D, m, ρ, S, r0, c⟩ := h
  refine step r0 c fun F1 m1 xs v S1 H1 l1 p1 r1 e1 c1 => ?_
  obtain ⟨a, vs, rfl, e2, e3⟩ := e1
  unfold srtA at c1
  cases z : dats xs with
  | none => rw [z] at c1; exact c1.elim
  | some ds =>
    rw [z] at c1
    dsimp only at c1
    have hd := dats_rep z e3
    split at c1
    · rename_i hl
      exact .inl ⟨a, vs, rfl, e2, by rw [DpAll.len hd]; exact hl, fun q hq => new_lstV r1 hd hq c1⟩
    · unfold srt at c1
      rw [z] at c1
      dsimp only at c1
      split at c1
      · rename_i hh
        exact .inr ⟨a, vs, ds, F1, rfl, e2, r1.b.fr, hd, alikes_ok hh.1, sortable_ok hh.2.1, fun d hd => of_decide_eq_true (List.all_eq_true.mp hh.2.2 d hd), fun ys q hys hq => new_lstV r1 hys hq c1⟩
      · exact c1.elim
end
section
variable {ρ : List Sl} {S : List Ob} {fl1 : FA} {fv fy : FE} {i : Nat} {x : PyData} {ds : List PyData}
@[simp] theorem e_SrtA : fSrtA fl1 ρ S = (fl1 ρ S).bind srtA := rfl
@[simp] theorem e_PutO : fPutO i fv fy ρ S = fl (fv ρ S) ρ fun v S1 => (match ρ[i]? with
  | some (.own (.lst xs)) => fl (fy ρ S1) ρ fun y S2 => (match y with
    | .d (.int k) => (match ixN xs.length k with
      | some j => .nx (ρ.set i (.own (.lst (xs.set j v)))) S2
      | none => .bad)
    | _ => .bad)
  | _ => .bad) := rfl
theorem e_inT (h : flatD x = true) (h2 : ds.all flatD = true) : oIn (.d x) (.d (.tuple ds)) S = .ok (.d (.bool (inD x ds))) S := by
  show (if flatD x && ds.all flatD then Res.ok (W.d (.bool (inD x ds))) S else .bad) = _
  rw [h, h2]; rfl
theorem e_inL (h : flatD x = true) (h2 : ds.all flatD = true) : oIn (.d x) (.d (.list ds)) S = .ok (.d (.bool (inD x ds))) S := by
  show (if flatD x && ds.all flatD then Res.ok (W.d (.bool (inD x ds))) S else .bad) = _
  rw [h, h2]; rfl
end
/-! a global that is a tuple of texts -/
def strV : Value → Option Str
  | .str s _ => some s
  | _ => none
def fcStrs (x : Str) (ss : List Str) : FbT := fun K => match K.lookup (He.ga K x) with
  | some o => decide (o.cls = Value.type "tuple") && (match o.data with
    | .seq its _ => decide (its.toList.map strV = ss.map some)
    | _ => false)
  | none => false
theorem strs_vals : ∀ {ss : List Str} {us : List Value}, us.map strV = ss.map some → Vals (ss.map V.str) us
  | [], [], _ => .nil
  | [], _ :: _, h => by simp at h
  | _ :: _, [], h => by simp at h
  | s :: r, u :: us, h => by
    rw [List.map_cons, List.map_cons, List.cons.injEq] at h
    refine .cons ?_ (strs_vals h.2)
    have h1 := h.1
    cases u <;> simp [strV] at h1
    subst h1
    exact ⟨_, rfl⟩
theorem dps_strs {K : PySem.W.Frag} {F : Hp} : ∀ ss : List Str, DpAll K F (ss.map V.str) (ss.map .str)
  | [] => .nil
  | k :: r => .cons (Dp.str _) (dps_strs r)
theorem fcStrs_ok {K : PySem.W.Frag} {x : Str} {ss : List Str} (hl : ss.length ≤ 1000) (h : fcStrs x ss K = true) (F : Hp) : Dp K F (.ref (He.ga K x)) (.tuple (ss.map .str)) := by
  unfold fcStrs at h
  split at h
  · rename_i o eo
    rw [Bool.and_eq_true] at h
    obtain ⟨h1, h2⟩ := h
    split at h2
    · rename_i its n ed
      have e := of_decide_eq_true h2
      have hz : its.size ≤ sizeLine := by
        have := congrArg List.length e
        rw [List.length_map, List.length_map, Array.length_toList] at this
        rw [sizeLine_eq]; omega
      exact Dp.tup (.inr ⟨o, its, n, eo, of_decide_eq_true h1, ed, hz, strs_vals e⟩) (dps_strs ss)
    · cases h2
  · cases h
end L2.Q
/-! Layer Q, part T: a tuple times 1, times 0 or less. -/
namespace L2.Q
open PySem PySem.Spec PyProof.Rows
abbrev tupOb (items : Array Value) (n : Nat) (dd : Option Addr) (sl : Array (Option Value)) : Obj := { cls := .type "tuple", dict := dd, data := .seq items n, slots := sl }
theorem tup_once (l : Addr) (items : Array Value) (n : Nat) (dd : Option Addr) (sl : Array (Option Value)) (u : Tok) :
    Meets (Builtin.«tuple.__mul__» ⟨[.ref l, .int 1 u], []⟩) (fun _ R s => s.heap.get? l = some { cls := .type "tuple", dict := dd, data := .seq items n, slots := sl } ∧ R (.ok (.ret (Value.ref l))) s) :=
  .of_wp fun prog w A R s h => by
    obtain ⟨hp, g, d, tk, os⟩ := s
    obtain ⟨hl, h⟩ := h
    have f1 := AutoSeq1.idx_int
    have c0 : (decide ((1 : Int) < -(2 ^ 63)) || decide ((1 : Int) ≥ 2 ^ 63)) = false := by decide
    have c1 : (items.isEmpty || (1 : Int) == 1) = true := by rw [show ((1 : Int) == 1) = true from rfl, Bool.or_true]
    wp_walk using wpAny_loadPart' hl
    repeat (first
      | (refine wpAny_ite_false (decide_eq_false (by rw [c0]; exact Bool.false_ne_true)) ?_; wp_walk using wpAny_loadPart' hl)
      | (refine wpAny_ite_true (decide_eq_true c1) ?_; wp_walk using wpAny_loadPart' hl))
    exact ⟨_, rfl, h⟩
theorem tup_none (l : Addr) (items : Array Value) (n : Nat) (dd : Option Addr) (sl : Array (Option Value)) (x : Int) (u : Tok) (c0 : (decide (x < -(2 ^ 63)) || decide (x ≥ 2 ^ 63)) = false) (c1 : (items.isEmpty || x == 1) = false) (c2 : (decide (x ≤ 0) || items.isEmpty) = true) :
    Meets (Builtin.«tuple.__mul__» ⟨[.ref l, .int x u], []⟩) (fun _ R s => s.heap.get? l = some { cls := .type "tuple", dict := dd, data := .seq items n, slots := sl } ∧ R (.ok (.ret (Value.ref s.heap.objs.size))) { s with heap := s.heap.push { cls := .type "tuple", data := .seq #[] }, toks := s.toks }) :=
  .of_wp fun prog w A R s h => by
    obtain ⟨hp, g, d, tk, os⟩ := s
    obtain ⟨hl, h⟩ := h
    have f1 := AutoSeq1.idx_int
    wp_walk using wpAny_loadPart' hl
    repeat (first
      | (refine wpAny_ite_false (decide_eq_false (by rw [c0]; exact Bool.false_ne_true)) ?_; wp_walk using wpAny_loadPart' hl)
      | (refine wpAny_ite_false (decide_eq_false (by rw [c1]; exact Bool.false_ne_true)) ?_; wp_walk using wpAny_loadPart' hl)
      | (refine wpAny_ite_true (decide_eq_true c2) ?_; wp_walk using wpAny_loadPart' hl))
    exact ⟨_, rfl, h⟩
def rRepS (K : PySem.W.Frag) : R2 := fun x y H Q => ∃ l k xs, x = .ref l ∧ y = .int k ∧ SqT K H l xs ∧ ((k = 1 ∧ Q (.ref l) H) ∨ (k ≤ 0 ∧ -1000 ≤ k ∧ xs ≠ [] ∧ ∀ p, H p = none → Q (.ref p) (upd H p (.tup []))))
section
variable {X : Cx}
theorem op_repS : OpR X (binaryOp .Mult) (rRepS X.K) := by
  intro pins s σ H x y v u Q I rx ry h
  obtain ⟨l, k, xs, rfl, rfl, hT, h⟩ := h
  cases rx
  obtain ⟨t, rfl⟩ := ry
  obtain ⟨its, r, ⟨⟨cls, dd, data, sl⟩, ho, hc, n, hd⟩, hs⟩ := I.tuple hT
  simp only at hc hd
  subst hc hd
  rcases h with ⟨rfl, q⟩ | ⟨h1, h2, hne, q⟩
  · exact wpAny_binaryOp_repeat_ref (T := "tuple") (U := "int") (by decide) ⟨_, ho, rfl⟩ (fun s' => typeIs_int s' 1 t) noFill_tuple_mul F.fills_int_mul F.slot_int_rmul repeat_tuple F.slot_int_index.lookup
      (call_meets F.slot_int_rmul (typeIs_int s 1 t) F.entry_int_rmul (F.args_int_rmul_2 _ _) (int_rmul_tuple 1 t l its.toArray n dd sl)
        ⟨ho, rfl, ⟨_, ho, rfl⟩, call_meets F.slot_tuple_mul ⟨_, ho, rfl⟩ F.entry_tuple_mul (F.args_tuple_mul_2 _ _) (tup_once l its.toArray n dd sl t) ⟨ho, .ref l, H, I, rfl, q⟩⟩)
  · have hn : its ≠ [] := fun e => hne (by
      have := r.length
      rw [e] at this
      exact List.eq_nil_of_length_eq_zero this)
    have hi : its.toArray.isEmpty = false := by
      cases its with
      | nil => exact absurd rfl hn
      | cons a b => rfl
    have c0 : (decide (k < -(2 ^ 63)) || decide (k ≥ 2 ^ 63)) = false := by rw [decide_eq_false (by omega), decide_eq_false (by omega)]; rfl
    have c1 : (its.toArray.isEmpty || k == 1) = false := by rw [hi, Bool.false_or]; exact beq_eq_false_iff_ne.mpr (by omega)
    have c2 : (decide (k ≤ 0) || its.toArray.isEmpty) = true := by rw [decide_eq_true h1]; rfl
    refine wpAny_binaryOp_repeat_ref (T := "tuple") (U := "int") (by decide) ⟨_, ho, rfl⟩ (fun s' => typeIs_int s' k t) noFill_tuple_mul F.fills_int_mul F.slot_int_rmul repeat_tuple F.slot_int_index.lookup
      (call_meets F.slot_int_rmul (typeIs_int s k t) F.entry_int_rmul (F.args_int_rmul_2 _ _) (int_rmul_tuple k t l its.toArray n dd sl)
        ⟨ho, rfl, ⟨_, ho, rfl⟩, call_meets F.slot_tuple_mul ⟨_, ho, rfl⟩ F.entry_tuple_mul (F.args_tuple_mul_2 _ _) (tup_none l its.toArray n dd sl k t c0 c1 c2) ⟨ho, ?_⟩⟩)
    refine ⟨.ref s.heap.objs.size, _, I.laid (t' := s.toks) (o := .tup []) (fun b ob q => Heap.get?_push_of_some _ q) (Nat.le_refl _) ?_, rfl, q _ (I.hok.fresh (Nat.le_refl _))⟩
    exact ⟨by rw [sizeLine_eq]; simp, [], .nil, IsTup.new _ _⟩
end
/-- * of ints, a tuple times any small int -/
def oMulT : W → W → List Ob → Res W := fun x y S => match x, y with
  | .d (.tuple xs), .d (.int k) => if xs ≠ [] ∧ -1000 ≤ k ∧ k ≤ 1000 ∧ xs.length ≤ 1000 then .ok (.d (.tuple (List.replicate k.toNat xs).flatten)) S else .bad
  | x, y => oMul x y S
section
variable {X : Cx} {Wc : WX} {a b : Expr} {fa fb : FE} {pos : Pos}
theorem f_mulT : OpF X Wc (fun x y H Q => rRepS X.K x y H Q ∨ (rRepT X.K x y H Q ∨ rI CMulX (fun i j => .int (i * j)) x y H Q)) oMulT := by
  intro Fr Hd μ ρ S σ H x y v u Q r ex ey c
  unfold oMulT at c
  split at c
  · rename_i xs k
    split at c
    · rename_i hh
      obtain ⟨h0, h1, h2, h3⟩ := hh
      by_cases k2 : 2 ≤ k
      · refine .inr (f_mulA (Wc := Wc) Fr Hd μ ρ S σ H _ _ v u Q r ex ey ?_)
        have e : oMulA (.d (.tuple xs)) (.d (.int k)) S = .ok (.d (.tuple (List.replicate k.toNat xs).flatten)) S := if_pos ⟨h0, k2, h2, h3⟩
        rw [e]
        exact c
      · left
        cases ey
        have ex' := ex
        cases ex with
        | @tup a vs _ g1 g2 =>
          by_cases k1 : k = 1
          · subst k1
            have e : (List.replicate (1 : Int).toNat xs).flatten = xs := by simp
            rw [e] at c
            exact ⟨a, 1, vs, rfl, rfl, Le.sqT r.b.fr g1, .inl ⟨rfl, rt r c ex'⟩⟩
          · have e : (List.replicate k.toNat xs).flatten = [] := by rw [show k.toNat = 0 by omega]; rfl
            rw [e] at c
            exact ⟨a, k, vs, rfl, rfl, Le.sqT r.b.fr g1, .inr ⟨by omega, h1, fun z => h0 (by subst z; cases g2; rfl), fun q hq => new_tup r DpAll.nil hq c⟩⟩
    · exact c.elim
  · exact .inr (.inr (f_mul (Wc := Wc) Fr Hd μ ρ S σ H _ _ v u Q r ex ey c))
theorem q_mulT (ha : PE X a (LE X Wc fa)) (hb : PE X b (LE X Wc fb)) : PE X (.BinOp a .Mult b pos) (LE X Wc (fBin oMulT fa fb)) := q_op (OpR.or op_repS (OpR.or op_repT op_mulX)) f_mulT ha hb
@[simp] theorem e_mulT {a b : Int} {S : List Ob} : oMulT (.d (.int a)) (.d (.int b)) S = if mulC a b = true then .ok (.d (.int (a * b))) S else .bad := rfl
theorem e_mulTt {xs : List PyData} {k : Int} {S : List Ob} (h : xs ≠ [] ∧ -1000 ≤ k ∧ k ≤ 1000 ∧ xs.length ≤ 1000) : oMulT (.d (.tuple xs)) (.d (.int k)) S = .ok (.d (.tuple (List.replicate k.toNat xs).flatten)) S := if_pos h
end
end L2.Q
/-! Layer Q, part U: list comprehensions of two clauses, the second source a value. -/
namespace L2.Q
open PySem PySem.Spec PyProof.Rows
def lcL2 (own1 : List Nat) (g : FG) (t : FB) (fi1 : FA) (g1 : FG) (t1 : FB) (fe : FE) (ρ : List Sl) : List W → List Ob → Res (List W)
  | [], S => .ok [] S
  | x :: r, S => match g x ρ with
    | none => .bad
    | some ρ1 => match t ρ1 S with
      | .ok c S1 => if c = true then (match fi1 ρ1 S1 with
          | .ok xs S2 => (match lcL g1 t1 fe (unset ρ1 own1) xs S2 with
            | .ok ys S3 => (lcL2 own1 g t fi1 g1 t1 fe ρ r S3).bind fun zs S4 => .ok (ys ++ zs) S4
            | _ => .bad)
          | _ => .bad) else lcL2 own1 g t fi1 g1 t1 fe ρ r S1
      | _ => .bad
def capL (ys : List W) (S : List Ob) : Res Ob := if ys.length ≤ 1000000 then .ok (.lst ys) S else .bad
def fLc2 (fi : FA) (own own1 : List Nat) (g : FG) (t : FB) (fi1 : FA) (g1 : FG) (t1 : FB) (fe : FE) : FO := fun ρ S => (fi ρ S).bind fun xs S1 =>
  if own.any (fun i => isOwn ρ[i]?) = true then .bad else (lcL2 own1 g t fi1 g1 t1 fe (unset ρ own) xs S1).bind capL
/-- a walk by its turns, whatever a turn is -/
theorem it_any {J : It} {n : Nat} {G : Hp → Prop} {Y : Nat → Hp → V → Hp → Prop} (w : Walk J n G Y) {B : (Hp → Prop) → V → Hp → Prop} {Hs : Hp} {Qd : Hp → Prop} (Pv : Nat → Hp → Prop) (h0 : Pv 0 Hs) (hG : ∀ i H, i ≤ n → Pv i H → G H)
    (hs : ∀ i x H H', i < n → Pv i H → Y i H x H' → B (Pv (i + 1)) x H') (hd : ∀ H, Pv n H → Qd H) :
    ∃ W : Nat → Nat → Hp → Prop, (∃ m, W 0 m Hs) ∧ ∀ i m H, W i m H → (J.stop i H ∧ Qd H) ∨ (J.go i H ∧ ∃ Nx : Hp → Prop, (∀ H', Nx H' → ∃ m', m' < m ∧ W (i + 1) m' H') ∧ ∀ x H', J.yld i H x H' → B Nx x H') := by
  refine ⟨fun i m H => m = n - i ∧ i ≤ n ∧ Pv i H, ⟨n, by simp, Nat.zero_le _, h0⟩, ?_⟩
  rintro i m H ⟨rfl, hi, p⟩
  have q := hG i H hi p
  by_cases hlt : i < n
  · refine .inr ⟨w.goes i H hlt q, Pv (i + 1), fun H' p' => ⟨n - (i + 1), by omega, rfl, hlt, p'⟩, fun x H' y => hs i x H H' hlt p (w.yields i H x H' hlt q y)⟩
  · have e : i = n := by omega
    subst e
    exact .inl ⟨w.stops H q, hd H p⟩
section
variable {X : Cx} {Wc : WX} {elt tg iter tg1 iter1 : Expr} {ifs ifs1 : List Expr} {scope : Scope} {own : List (Str × Nat)} {pos : Pos} {fi : FA} {g g1 : FG} {t t1 : FB} {fe fa1 : FE}
def kSeq (K : PySem.W.Frag) (R : It → Hp → Prop) : V → Hp → Prop := fun x H1 => ∃ a, x = .ref a ∧ ((∃ xs, SqL K H1 a xs ∧ (xs.length ≤ sizeLine → R (Itl K a) H1)) ∨ (∃ xs, SqT K H1 a xs ∧ (xs.length ≤ sizeLine → R (Itt K a) H1)))
def iSeq2 (K : PySem.W.Frag) (tl : TE) : TI := fun σ H R => tl σ H (kSeq K R)
theorem pi_seq2 {tl : TE} {l : Expr} (hl : PE X l tl) : PI X tg l (iSeq2 X.K tl) := pi_seq hl
/-- a value that is walked: only frozen objects are asked of -/
theorem seq_in {K : PySem.W.Frag} {F : Hp} {m : List Addr} {ρ : List Sl} {S : List Ob} {σ : St} {Hd H : Hp} {w : W} {v : V} {xs : List W} {S2 : List Ob} (r : R K F Hd m ρ S σ H) (e : RepW K F m w v) (hs : seqOf w S = .ok xs S2) {Q : It → Hp → Prop}
    (hq : ∀ J, S2 = S → Walk J xs.length (fun H => Le F H) (Yq K F m xs) → xs.length ≤ sizeLine → Q J H) :
    kSeq K Q v H := by
  cases w with
  | ref n => cases hs
  | d x =>
    cases x with
    | tuple ds =>
      cases hs
      cases e with
      | @tup a vs _ hs ha =>
        have hw := walk_tup (K := K) (a := a) (xs := vs)
        rw [show vs.length = (ds.map W.d).length by simp [DpAll.len ha]] at hw
        exact ⟨a, rfl, .inr ⟨vs, Le.sqT r.b.fr hs, fun hz => hq _ rfl (hw.mono (fun H h => Le.sqT h hs) fun i H v H' hi _ y => yq_at (rep_dats ha) hi y) (by simpa [DpAll.len ha] using hz)⟩⟩
    | list ds =>
      cases hs
      cases e with
      | @lst a vs _ hs ha =>
        have hw := walk_list (K := K) (a := a) (xs := vs)
        rw [show vs.length = (ds.map W.d).length by simp [DpAll.len ha]] at hw
        exact ⟨a, rfl, .inl ⟨vs, Le.sqL r.b.fr hs, fun hz => hq _ rfl (hw.mono (fun H h => Le.sqL h hs) fun i H v H' hi _ y => yq_at (rep_dats ha) hi y) (by simpa [DpAll.len ha] using hz)⟩⟩
    | none => cases hs
    | bool b => cases hs
    | int i => cases hs
    | str z => cases hs
    | dict z => cases hs
theorem back1 {own : List Nat} {g : FG} (hgo : GO own g) {K : PySem.W.Frag} {F Hd H : Hp} {m : List Addr} {ρ ρ3 : List Sl} {σ σ3 : St} {S : List Ob} {x : W} (q : g x (unset ρ own) = some ρ3) (w3 : wipe σ3 own = wipe (wipe σ own) own) (r5 : R K F Hd m ρ3 S σ3 H) : R K F Hd m (unset ρ own) S (wipe σ own) H := by
  have r6 := r5.wiped own
  have e1 : unset ρ3 own = unset ρ own := by
    rw [hgo _ _ _ q]
    apply List.ext_getElem?
    intro j
    rw [unset_get, unset_len, unset_get]
    split <;> rfl
  have e2 : wipe σ3 own = wipe σ own := by
    rw [w3]
    apply List.ext_getElem?
    intro j
    rw [wipe_get, wipe_length, wipe_get]
    split <;> rfl
  rw [e1, e2] at r6
  exact r6
theorem wipe_wipe (σ : St) (own : List Nat) : wipe (wipe σ own) own = wipe σ own := by
  apply List.ext_getElem?
  intro j
  rw [wipe_get, wipe_length, wipe_get]
  split <;> rfl
theorem unset_unset (ρ : List Sl) (own : List Nat) : unset (unset ρ own) own = unset ρ own := by
  apply List.ext_getElem?
  intro j
  rw [unset_get, unset_len, unset_get]
  split <;> rfl
theorem unset_sub {ρ : List Sl} {own own1 : List Nat} (h : ∀ i ∈ own1, i ∈ own) : unset (unset ρ own1) own = unset ρ own := by
  apply List.ext_getElem?
  intro j
  by_cases hj : j ∈ own
  · simp only [unset_get, unset_len, if_pos hj]
  · simp only [unset_get, if_neg hj, if_neg fun z => hj (h j z)]
theorem wipe_sub {σ : St} {own own1 : List Nat} (h : ∀ i ∈ own1, i ∈ own) : wipe (wipe σ own1) own = wipe σ own := by
  apply List.ext_getElem?
  intro j
  by_cases hj : j ∈ own
  · simp only [wipe_get, wipe_length, if_pos hj]
  · simp only [wipe_get, if_neg hj, if_neg fun z => hj (h j z)]
theorem lc2_imp {σ : St} {H : Hp} {Q : VK} {own1 : List Nat} (hv : ∀ i ∈ own1, i ∈ own.map (·.2)) (hgo : GO (own.map (·.2)) g) (hgo1 : GO own1 g1) (h : LO X Wc (fLc2 fi (own.map (·.2)) own1 g t (fIt fa1) g1 t1 fe) σ H Q) :
    tLc2 (LI X Wc fi) (liftG X.K (own.map (·.2)) g) (LB X W0 t) (iSeq2 X.K (LE X W0 fa1)) (liftG X.K own1 g1) (LB X W0 t1) (LE X W0 fe) (own.map (·.2)) own1 σ H Q := by
  obtain ⟨F, Hd, m, ρ, S, r, c⟩ := h
  refine ⟨F, Hd, m, ρ, S, r, ?_⟩
  unfold fLc2 at c
  generalize own.map (·.2) = own at hv hgo c ⊢
  cases e : fi ρ S with
  | bad => rw [e] at c; exact c.elim
  | err z S1 => rw [e] at c; exact c
  | ok xs S1 =>
    rw [e] at c
    intro F1 Hd1 m1 H1 J l1 d1 p1 r1 wk hxs D nD
    have c : cont X.K X.mg Wc (repO X.K) F Hd m ρ σ Q (if own.any (fun i => isOwn ρ[i]?) = true then .bad else (lcL2 own1 g t (fIt fa1) g1 t1 fe (unset ρ own) xs S1).bind capL) := c
    cases hno : own.any (fun i => isOwn ρ[i]?) with
    | true => rw [if_pos hno] at c; exact c.elim
    | false =>
      rw [if_neg (by rw [hno]; exact Bool.false_ne_true)] at c
      have noerr : ∀ (xs : List W) (S : List Ob) c S', lcL2 own1 g t (fIt fa1) g1 t1 fe (unset ρ own) xs S ≠ .err c S' := by
        intro xs
        induction xs with
        | nil => intro S c S' q; cases q
        | cons x rs ih =>
          intro S c S' q
          unfold lcL2 at q
          split at q
          · cases q
          · split at q
            · split at q
              · split at q
                · split at q
                  · cases q2 : lcL2 own1 g t (fIt fa1) g1 t1 fe (unset ρ own) rs ‹List Ob› with
                    | ok a b => simp only [q2] at q; cases q
                    | err a b => exact ih _ _ _ q2
                    | bad => simp only [q2] at q; cases q
                  · cases q
                · cases q
              · exact ih _ _ _ q
            · cases q
      cases ez : lcL2 own1 g t (fIt fa1) g1 t1 fe (unset ρ own) xs S1 with
      | bad => rw [ez] at c; exact c.elim
      | err a b => exact (noerr _ _ _ _ ez).elim
      | ok zs Sz =>
      rw [ez] at c
      have c : cont X.K X.mg Wc (repO X.K) F Hd m ρ σ Q (capL zs Sz) := c
      unfold capL at c
      by_cases hz : zs.length ≤ 1000000
      case neg => rw [if_neg hz] at c; exact c.elim
      rw [if_pos hz] at c
      have hsz : ∀ n : Nat, n < 1000000 → n < sizeLine := fun n hn => by rw [sizeLine_eq]; omega
      have fD := r1.new nD
      refine it_any wk (fun i H => ∃ F2 m2 S2 ys vs rest, Le F1 F2 ∧ m1 <+: m2 ∧ R X.K F2 (upd Hd1 D (.lst vs)) m2 (unset ρ own) S2 (wipe σ own) H ∧ RepWs X.K F2 m2 ys vs ∧ ys ++ rest = zs ∧
        lcL2 own1 g t (fIt fa1) g1 t1 fe (unset ρ own) (xs.drop i) S2 = .ok rest Sz) ?_ ?_ ?_ ?_
      · refine ⟨F1, m1, S1, [], [], zs, Le.refl, List.prefix_refl m1, ?_, .nil, rfl, ez⟩
        exact ((r1.upd fD).hide upd_same fD).wiped _
      · rintro i H2 hi ⟨F2, m2, S2, ys, vs, rest, l2, p2, r2, e2, n2, c2⟩
        refine ⟨l2.trans r2.b.fr, fun a o q => (r2.b.hd a o ?_).1⟩
        rw [upd_ne (ne_of_none q fD.hd)]
        exact q
      · rintro i v H2 H3 hi ⟨F2, m2, S2, ys, vs, rest, l2, p2, r2, e2, n2, c2⟩ y
        obtain ⟨F3, x, ex, l3, r3, e3⟩ := yield_ok r2 l2 p2 y
        rw [List.drop_eq_getElem_cons hi] at c2
        have ex' : xs[i] = x := by rw [List.getElem?_eq_getElem hi] at ex; exact Option.some.inj ex
        rw [ex'] at c2
        unfold lcL2 at c2
        cases q : g x (unset ρ own) with
        | none => simp only [q] at c2; cases c2
        | some ρ3 =>
          simp only [q] at c2
          refine ⟨F3, upd Hd1 D (.lst vs), m2, unset ρ own, S2, x, r3, e3, ρ3, q, fun σ3 w3 r4 => ⟨w3.trans (wipe_wipe _ _), F3, upd Hd1 D (.lst vs), m2, ρ3, S2, r4, ?_⟩⟩
          rw [wipe_wipe] at w3
          have w3' : wipe σ3 own = wipe (wipe σ own) own := w3.trans (wipe_wipe _ _).symm
          cases q2 : t ρ3 S2 with
          | bad => simp only [q2] at c2; cases c2
          | err z S4 => simp only [q2] at c2; cases c2
          | ok b S4 =>
            simp only [q2] at c2
            rintro F4 m4 b' H4 l4 p4 r5 rfl
            cases b with
            | false =>
              rw [if_neg Bool.false_ne_true] at c2 ⊢
              exact ⟨F4, m4, S4, ys, vs, rest, l2.trans (l3.trans l4), p2.trans p4, back1 hgo q w3' r5, e2.mono (l3.trans l4) p4, n2, c2⟩
            | true =>
              rw [if_pos rfl] at c2 ⊢
              refine ⟨F4, upd Hd1 D (.lst vs), m4, ρ3, S4, r5, ?_⟩
              have hfi : fIt fa1 ρ3 S4 = (fa1 ρ3 S4).bind seqOf := rfl
              rw [hfi] at c2
              cases q3 : fa1 ρ3 S4 with
              | bad => simp only [q3] at c2; cases c2
              | err z S5 => simp only [q3] at c2; cases c2
              | ok w S5 =>
                simp only [q3, bind_ok] at c2
                cases q4 : seqOf w S5 with
                | bad => simp only [q4] at c2; cases c2
                | err z S5 => simp only [q4] at c2; cases c2
                | ok us S6 =>
                simp only [q4] at c2
                cases q5 : lcL g1 t1 fe (unset ρ3 own1) us S6 with
                | bad => simp only [q5] at c2; cases c2
                | err z S5 => simp only [q5] at c2; cases c2
                | ok os S7 =>
                simp only [q5] at c2
                cases q6 : lcL2 own1 g t (fIt fa1) g1 t1 fe (unset ρ own) (xs.drop (i + 1)) S7 with
                | bad => simp only [q6] at c2; cases c2
                | err a b => simp only [q6] at c2; cases c2
                | ok rest2 S8 =>
                have c3 : rest = os ++ rest2 ∧ Sz = S8 := by
                  simp only [q6, bind_ok] at c2
                  cases c2
                  exact ⟨rfl, rfl⟩
                obtain ⟨c3, rfl⟩ := c3
                subst c3
                intro F5 m5 v5 H5 l5 p5 r6 e6
                refine seq_in r6 e6 q4 fun J1 hS wk1 hus => ?_
                subst hS
                refine it_any wk1 (fun j H => ∃ F6 m6 S6 ys2 vs2 rest3, Le F5 F6 ∧ m5 <+: m6 ∧ R X.K F6 (upd Hd1 D (.lst vs2)) m6 (unset ρ3 own1) S6 (wipe σ3 own1) H ∧ RepWs X.K F6 m6 ys2 vs2 ∧ ys2 ++ rest3 = ys ++ os ∧
                  lcL g1 t1 fe (unset ρ3 own1) (us.drop j) S6 = .ok rest3 S7) ?_ ?_ ?_ ?_
                · exact ⟨F5, m5, S6, ys, vs, os, Le.refl, List.prefix_refl m5, r6.wiped _, e2.mono (l3.trans (l4.trans l5)) (p4.trans p5), rfl, q5⟩
                · rintro j H6 hj ⟨F6, m6, S9, ys2, vs2, rest3, l6, p6, r7, e7, n7, c7⟩
                  exact l6.trans r7.b.fr
                · rintro j v7 H6 H7 hj ⟨F6, m6, S9, ys2, vs2, rest3, l6, p6, r7, e7, n7, c7⟩ y7
                  obtain ⟨F7, x7, ex7, l7, r8, e8⟩ := yield_ok r7 l6 p6 y7
                  rw [List.drop_eq_getElem_cons hj] at c7
                  have ex7' : us[j] = x7 := by rw [List.getElem?_eq_getElem hj] at ex7; exact Option.some.inj ex7
                  rw [ex7'] at c7
                  unfold lcL at c7
                  cases k1 : g1 x7 (unset ρ3 own1) with
                  | none => simp only [k1] at c7; cases c7
                  | some ρ7 =>
                  simp only [k1] at c7
                  refine ⟨F7, upd Hd1 D (.lst vs2), m6, unset ρ3 own1, S9, x7, r8, e8, ρ7, k1, fun σ7 w7 r9 => ⟨w7.trans (wipe_wipe _ _), F7, upd Hd1 D (.lst vs2), m6, ρ7, S9, r9, ?_⟩⟩
                  cases k2 : t1 ρ7 S9 with
                  | bad => simp only [k2] at c7; cases c7
                  | err z S4 => simp only [k2] at c7; cases c7
                  | ok b S10 =>
                  simp only [k2] at c7
                  rintro F8 m8 b' H8 l8 p8 r10 rfl
                  cases b with
                  | false =>
                    rw [if_neg Bool.false_ne_true] at c7 ⊢
                    exact ⟨F8, m8, S10, ys2, vs2, rest3, l6.trans (l7.trans l8), p6.trans p8, back1 hgo1 k1 w7 r10, e7.mono (l7.trans l8) p8, n7, c7⟩
                  | true =>
                    rw [if_pos rfl] at c7 ⊢
                    refine ⟨F8, upd Hd1 D (.lst vs2), m8, ρ7, S10, r10, ?_⟩
                    cases k3 : fe ρ7 S10 with
                    | bad => simp only [k3] at c7; cases c7
                    | err z S5 => simp only [k3] at c7; cases c7
                    | ok w9 S11 =>
                    simp only [k3] at c7
                    cases k4 : lcL g1 t1 fe (unset ρ3 own1) (us.drop (j + 1)) S11 with
                    | bad => simp only [k4] at c7; cases c7
                    | err a b => simp only [k4] at c7; cases c7
                    | ok rest4 S12 =>
                    simp only [k4, bind_ok] at c7
                    cases c7
                    intro F9 m9 v9 H9 l9 p9 r11 e9
                    have hlv := Paired.length e7
                    have hcap : vs2.length < 1000000 := by
                      have a1 : zs.length = ys.length + (os.length + rest2.length) := by rw [← n2]; simp
                      have a2 : ys2.length + (rest4.length + 1) = ys.length + os.length := by
                        have := congrArg List.length n7
                        simpa using this
                      omega
                    refine ⟨vs2, (r11.b.hd D _ upd_same).1, hsz _ hcap, F9, m9, S11, ys2 ++ [w9], vs2 ++ [v9], rest4, l6.trans (l7.trans (l8.trans l9)), p6.trans (p8.trans p9), hide_upd (back1 hgo1 k1 w7 r11) fD.hd, ?_, by rw [← n7]; simp, k4⟩
                    exact Paired.snoc (e7.mono (l7.trans (l8.trans l9)) (p8.trans p9)) e9
                · rintro H6 ⟨F6, m6, S9, ys2, vs2, rest3, l6, p6, r7, e7, n7, c7⟩
                  rw [List.drop_length] at c7
                  cases c7
                  rw [List.append_nil] at n7
                  refine ⟨F6, m6, S7, ys2, vs2, rest2, l2.trans (l3.trans (l4.trans (l5.trans l6))), p2.trans (p4.trans (p5.trans p6)), ?_, e7, by rw [n7, ← n2]; simp, q6⟩
                  have r8 := r7.wiped own
                  rw [unset_sub hv, wipe_sub hv] at r8
                  have e1 : unset ρ3 own = unset ρ own := by rw [hgo _ _ _ q, unset_unset]
                  rw [e1, w3] at r8
                  exact r8
      · rintro H2 ⟨F2, m2, S2, ys, vs, rest, l2, p2, r2, e2, n2, c2⟩
        rw [List.drop_length] at c2
        cases c2
        rw [List.append_nil] at n2
        subst n2
        obtain ⟨h1, h2⟩ := r2.b.hd D _ upd_same
        have r3 : R X.K F2 Hd1 m2 (unset ρ own) Sz (wipe σ own) H2 := r2.unhide (Le.upd fD.hd)
        have r4 := R.unwipe r1 hno l2 p2 r3
        have r5 := r4.unhide d1
        have hm : D ∉ m2 := fun hm => by
          obtain ⟨_, _, _, h4, _⟩ := r2.b.muH hm
          rw [upd_same] at h4; cases h4
        have ho : ∀ i, ¬ Owns ρ σ i D := fun i q => by
          obtain ⟨_, h3, _⟩ := r1.owns q
          rw [nD] at h3; cases h3
        exact c F2 m2 (.ref D) H2 (l1.trans l2) (p1.trans p2) r5 ⟨D, .lst vs, rfl, h1, ⟨vs, rfl, e2⟩, h2, none_le d1 fD.hd, hm, ho⟩
/-- [elt for tg in iter if .. for tg1 in iter1 if ..], a new list; iter1 a value -/
theorem q_lc2 {own1 : List Nat} (hc : X.calm = true) (hN : X.N.Nodup) (hgo : GO (own.map (·.2)) g) (hgo1 : GO own1 g1) (hv : ∀ i ∈ own1, i ∈ own.map (·.2)) (hi : PI X tg iter (LI X Wc fi)) (ok : BlkOk X.N X.env.scope scope own)
    (hg : ∀ (s : Shared) (H : Hp) (C : Addr) (cl : List (Str × Addr)) (fp : List Addr), PG (X.blk s H scope (compEnvC scope cl C X.env) fp) tg (liftG X.K (own.map (·.2)) g))
    (ht : ∀ (s : Shared) (H : Hp) (C : Addr) (cl : List (Str × Addr)) (fp : List Addr), PTs (X.blk s H scope (compEnvC scope cl C X.env) fp) ifs (LB X W0 t))
    (hi1 : ∀ (s : Shared) (H : Hp) (C : Addr) (cl : List (Str × Addr)) (fp : List Addr), PE (X.blk s H scope (compEnvC scope cl C X.env) fp) iter1 (LE X W0 fa1))
    (hg1 : ∀ (s : Shared) (H : Hp) (C : Addr) (cl : List (Str × Addr)) (fp : List Addr), PG (X.blk s H scope (compEnvC scope cl C X.env) fp) tg1 (liftG X.K own1 g1))
    (ht1 : ∀ (s : Shared) (H : Hp) (C : Addr) (cl : List (Str × Addr)) (fp : List Addr), PTs (X.blk s H scope (compEnvC scope cl C X.env) fp) ifs1 (LB X W0 t1))
    (he : ∀ (s : Shared) (H : Hp) (C : Addr) (cl : List (Str × Addr)) (fp : List Addr), PE (X.blk s H scope (compEnvC scope cl C X.env) fp) elt (LE X W0 fe)) (hs : ∀ x, foldedSetIterable iter X.env x = pure x := by intro _; rfl) (hs1 : ∀ env x, foldedSetIterable iter1 env x = pure x := by intro _ _; rfl) :
    PE X (.ListComp elt [⟨tg, iter, ifs, 0⟩, ⟨tg1, iter1, ifs1, 0⟩] scope pos) (LO X Wc (fLc2 fi (own.map (·.2)) own1 g t (fIt fa1) g1 t1 fe)) := PE.imp (pe_lc2 hc hN hi ok hv hg ht (fun s H C cl fp => pi_seq2 (hi1 s H C cl fp)) hg1 ht1 he hs hs1) fun _ _ _ h => lc2_imp hv hgo hgo1 h
theorem s_setLc2 {own1 : List Nat} {i : Nat} {y : Str} {py spos : Pos} (hc : X.calm = true) (hN : X.N.Nodup) (hy : X.N[i]? = some y) (hyl : X.env.scope.names.lookup y = some .local)
    (hsw : swapsWith (.ListComp elt [⟨tg, iter, ifs, 0⟩, ⟨tg1, iter1, ifs1, 0⟩] scope pos) (some (.Name y py)) spos.line X.env = pure true) (hgo : GO (own.map (·.2)) g) (hgo1 : GO own1 g1) (hv : ∀ i ∈ own1, i ∈ own.map (·.2)) (hi : PI X tg iter (LI X Wc fi)) (ok : BlkOk X.N X.env.scope scope own)
    (hg : ∀ (s : Shared) (H : Hp) (C : Addr) (cl : List (Str × Addr)) (fp : List Addr), PG (X.blk s H scope (compEnvC scope cl C X.env) fp) tg (liftG X.K (own.map (·.2)) g))
    (ht : ∀ (s : Shared) (H : Hp) (C : Addr) (cl : List (Str × Addr)) (fp : List Addr), PTs (X.blk s H scope (compEnvC scope cl C X.env) fp) ifs (LB X W0 t))
    (hi1 : ∀ (s : Shared) (H : Hp) (C : Addr) (cl : List (Str × Addr)) (fp : List Addr), PE (X.blk s H scope (compEnvC scope cl C X.env) fp) iter1 (LE X W0 fa1))
    (hg1 : ∀ (s : Shared) (H : Hp) (C : Addr) (cl : List (Str × Addr)) (fp : List Addr), PG (X.blk s H scope (compEnvC scope cl C X.env) fp) tg1 (liftG X.K own1 g1))
    (ht1 : ∀ (s : Shared) (H : Hp) (C : Addr) (cl : List (Str × Addr)) (fp : List Addr), PTs (X.blk s H scope (compEnvC scope cl C X.env) fp) ifs1 (LB X W0 t1))
    (he : ∀ (s : Shared) (H : Hp) (C : Addr) (cl : List (Str × Addr)) (fp : List Addr), PE (X.blk s H scope (compEnvC scope cl C X.env) fp) elt (LE X W0 fe)) (hs : ∀ x, foldedSetIterable iter X.env x = pure x := by intro _; rfl) (hs1 : ∀ env x, foldedSetIterable iter1 env x = pure x := by intro _ _; rfl) :
    PS X (.Assign [.Name y py] (.ListComp elt [⟨tg, iter, ifs, 0⟩, ⟨tg1, iter1, ifs1, 0⟩] scope pos) spos) (LS X Wc (fSetO i (fLc2 fi (own.map (·.2)) own1 g t (fIt fa1) g1 t1 fe))) := PS.imp (ps_setLc2 hc hN hy hyl hsw hi ok hv hg ht (fun s H C cl fp => pi_seq2 (hi1 s H C cl fp)) hg1 ht1 he hs hs1) fun D σ H h => by
  have q := setO_imp h
  exact lc2_imp hv hgo hgo1 q
end
section
variable {ρ : List Sl} {S S' : List Ob} {fi : FA} {xs : List W}
/-- what a comprehension of two clauses gives, when nothing changes the store -/
theorem lc2_pure (own1 : List Nat) (g : FG) (t : FB) (fi1 : FA) (g1 : FG) (t1 : FB) (fe : FE) (ρ : List Sl) (S : List Ob) (p : W → Bool) (y : W → List W) : ∀ xs : List W, (∀ x ∈ xs, ∃ ρ1, g x ρ = some ρ1 ∧ t ρ1 S = .ok (p x) S ∧ (p x = true → ∃ us, fi1 ρ1 S = .ok us S ∧ lcL g1 t1 fe (unset ρ1 own1) us S = .ok (y x) S)) → lcL2 own1 g t fi1 g1 t1 fe ρ xs S = .ok ((xs.filter p).flatMap y) S
  | [], _ => rfl
  | x :: r, h => by
    obtain ⟨ρ1, e1, e2, e3⟩ := h x (List.mem_cons_self ..)
    have ih := lc2_pure own1 g t fi1 g1 t1 fe ρ S p y r fun z hz => h z (List.mem_cons_of_mem _ hz)
    unfold lcL2
    simp only [e1, e2]
    cases q : p x with
    | true =>
      obtain ⟨us, e4, e5⟩ := e3 q
      simp only [e4, e5, if_true, ih, e_ok, List.filter_cons_of_pos q, List.flatMap_cons]
    | false => simp only [Bool.false_eq_true, if_false, ih]; rw [List.filter_cons_of_neg (by rw [q]; exact Bool.false_ne_true)]
theorem e_Lc2 (own own1 : List Nat) (g : FG) (t : FB) (fi1 : FA) (g1 : FG) (t1 : FB) (fe : FE) (h : fi ρ S = .ok xs S') (ho : own.any (fun i => isOwn ρ[i]?) = false) : fLc2 fi own own1 g t fi1 g1 t1 fe ρ S = (lcL2 own1 g t fi1 g1 t1 fe (unset ρ own) xs S').bind capL := by
  unfold fLc2; rw [h]; simp only [e_ok, ho, Bool.false_eq_true, if_false]
theorem e_cap {ys : List W} (h : ys.length ≤ 1000000) : capL ys S = .ok (.lst ys) S := if_pos h
end
end L2.Q
/-! Layer Q, part V: reversed(..) walked. -/
namespace L2.Q
open PySem PySem.Spec PyProof.Rows RT
section
variable {X : Cx} {Wc : WX} {e tg : Expr} {fa : FE} {p p2 pos : Pos}
/-! ### reversed(x), walked -/
def revOf (x : W) (S : List Ob) : Res (List W) := match x with
  | .d (.tuple xs) => if xs.length ≤ 1000000 then .ok (xs.reverse.map .d) S else .bad
  | .d (.list xs) => if xs.length ≤ 1000000 then .ok (xs.reverse.map .d) S else .bad
  | _ => .bad
def fRevA (fa : FE) : FA := fun ρ S => (fa ρ S).bind revOf
theorem walk_revT {K : PySem.W.Frag} {a : Addr} {xs : List V} : Walk (ItvT K a xs.length) xs.length (fun H => SqT K H a xs) (fun i H x H' => H' = H ∧ xs[xs.length - 1 - i]? = some x) :=
  ⟨fun i _ hi q => ⟨hi, xs, xs[xs.length - 1 - i]'(by omega), q, by simp [show xs.length - 1 - i < xs.length by omega]⟩, fun _ _ => Nat.le_refl _, fun _ _ _ _ _ q y => ⟨y.1, y.2 xs q⟩⟩
theorem yq_rev {K : PySem.W.Frag} {Fr : Hp} {μ : List Addr} {ds : List PyData} {vs : List V} (ha : DpAll K Fr vs ds) {i : Nat} {H : Hp} {v : V} {H' : Hp} (hi : i < vs.length) (y : H' = H ∧ vs[vs.length - 1 - i]? = some v) : Yq K Fr μ (ds.reverse.map .d) i H v H' := by
  obtain ⟨e1, e2⟩ := y
  have el := DpAll.len ha
  have hj : vs.length - 1 - i < (ds.map W.d).length := by rw [List.length_map]; omega
  obtain ⟨v', e, q⟩ := paired_get (rep_dats (μ := μ) ha) (List.getElem?_eq_getElem hj)
  rw [e] at e2
  cases e2
  refine ⟨_, ?_, .inl ⟨e1, q⟩⟩
  have hi2 : i < ds.length := by omega
  rw [List.getElem?_map, List.getElem?_reverse hi2, show ds.length - 1 - i = vs.length - 1 - i by omega, ← List.getElem?_map]
  exact List.getElem?_eq_getElem hj
theorem i_revA (hg : Gl X "reversed") (hm : X.mg "reversed" = none) (h : PE X e (LE X Wc fa)) (hs : starEach [e] X.env = (false, eval e X.env) :: starEach [] X.env := by rfl) : PI X tg (.Call (.Name "reversed" p) [e] [] pos) (LI X Wc (fRevA fa)) := PI.imp (pi_revA hg hm h hs) fun σ H Q h => by
  obtain ⟨F, Hd, m, ρ, S, r, c⟩ := h
  refine stepI r c fun F1 m1 x v S1 H1 l1 p1 r1 e1 c1 => ?_
  cases x with
  | ref n => exact c1.elim
  | d x =>
    cases x with
    | tuple xs =>
      cases e1 with
      | @tup a vs _ hs ha =>
        unfold revOf at c1
        dsimp only at c1
        split at c1
        · rename_i hl
          have el := DpAll.len ha
          have ee : vs.length = (xs.reverse.map W.d).length := by simp [el]
          have hw := walk_revT (K := X.K) (a := a) (xs := vs)
          refine ⟨a, vs, rfl, .inr ⟨Le.sqT r1.b.fr hs, c1 F1 Hd m1 H1 _ Le.refl Le.refl (List.prefix_refl m1) r1 ?_ (by rw [sizeLine_eq]; simp; omega)⟩⟩
          rw [← ee]
          exact hw.mono (fun H h => Le.sqT h.1 hs) fun i H v H' hi _ y => yq_rev ha hi y
        · exact c1.elim
    | list xs =>
      cases e1 with
      | @lst a vs _ hs ha =>
        unfold revOf at c1
        dsimp only at c1
        split at c1
        · rename_i hl
          have el := DpAll.len ha
          have ee : vs.length = (xs.reverse.map W.d).length := by simp [el]
          have hw := walk_rev (K := X.K) (a := a) (xs := vs)
          refine ⟨a, vs, rfl, .inl ⟨Le.sqL r1.b.fr hs, c1 F1 Hd m1 H1 _ Le.refl Le.refl (List.prefix_refl m1) r1 ?_ (by rw [sizeLine_eq]; simp; omega)⟩⟩
          rw [← ee]
          exact hw.mono (fun H h => Le.sqL h.1 hs) fun i H v H' hi _ y => yq_rev ha hi y
        · exact c1.elim
    | none => exact c1.elim
    | bool b => exact c1.elim
    | int i => exact c1.elim
    | str z => exact c1.elim
    | dict z => exact c1.elim
/-! ### a slice of a list in the store -/
def cutOfS (x : W) (lo hi : Option Int) (S : List Ob) : Res W := match x with
  | .ref n => (match S[n]? with
    | some (.lst xs) => (match dats xs with
      | some ds => .ok (.d (.list (cut ds lo hi))) S
      | none => .bad)
    | _ => .bad)
  | _ => .bad
def fCutS (fa : FE) (fl fh : FP) : FE := fun ρ S => (fa ρ S).bind fun x S1 => (fl ρ S1).bind fun lo S2 => (fh ρ S2).bind fun hi S3 => cutOfS x lo hi S3
theorem q_cutS {a : Expr} {lo hi : Option Expr} {flo fhi : FP} (ha : PE X a (LE X Wc fa)) (hl : PO X lo (LP X Wc flo)) (hh : PO X hi (LP X Wc fhi)) : PE X (.Subscript a (.Slice lo hi none p2) pos) (LE X Wc (fCutS fa flo fhi)) :=
  PE.imp (pe_slice (SlR.or sl_tupA (SlR.or sl_list sl_str)) ha hl hh) fun σ H Q h => by
  obtain ⟨F, D, m, ρ, S, r0, c⟩ := h
  refine step r0 c fun F1 m1 x v S1 H1 l1 p1 r1 e1 c1 => ?_
  refine step r1 c1 fun F2 m2 lo u S2 H2 l2 p2 r2 e2 c2 => ?_
  cases e2
  refine step r2 c2 fun F3 m3 hi u S3 H3 l3 p3 r3 e3 c3 => ?_
  cases e3
  have e1 := RepW.mono (l2.trans l3) (p2.trans p3) e1
  cases x with
  | d x => exact c3.elim
  | ref n =>
    obtain ⟨a, ea, rfl⟩ := e1
    unfold cutOfS at c3
    dsimp only at c3
    split at c3
    · rename_i xs es
      split at c3
      · rename_i ds hds
        obtain ⟨ho, h1, ⟨vs, rfl, h2⟩, _⟩ := r3.b.st n a _ ea es
        exact .inr (.inl ⟨a, vs, rfl, .inl (.inl h1), fun q hq => new_lstV r3 (dps_cut lo hi (dats_rep hds h2)) hq c3⟩)
      · exact c3.elim
    · exact c3.elim
end
section
variable {ρ : List Sl} {S : List Ob} {fa : FE}
@[simp] theorem e_CutS (fl fh : FP) : fCutS fa fl fh ρ S = (fa ρ S).bind fun x S1 => (fl ρ S1).bind fun lo S2 => (fh ρ S2).bind fun hi S3 => cutOfS x lo hi S3 := rfl
theorem e_cutOfS {n : Nat} {ds : List PyData} {lo hi : Option Int} (h : S[n]? = some (.lst (ds.map .d))) : cutOfS (.ref n) lo hi S = .ok (.d (.list (cut ds lo hi))) S := by
  unfold cutOfS
  dsimp only
  rw [h]
  dsimp only
  rw [e_datsm]
@[simp] theorem e_RevA : fRevA fa ρ S = (fa ρ S).bind revOf := rfl
theorem e_revOf {xs : List PyData} (h : xs.length ≤ 1000000) : revOf (.d (.tuple xs)) S = .ok (xs.reverse.map .d) S := if_pos h
end
end L2.Q
/-! Layer Q, part W: dicts of the store (that change, that no longer change), loops over what no longer changes. -/
namespace L2.Q
open PySem PySem.Spec PyProof.Rows
section
variable {X : Cx} {Wc : WX} {o e b tg : Expr} {fa fb fc : FE} {pos apos cpos : Pos}
def dctS (x : W) (S : List Ob) : Option (List (Key × W)) := match x with
  | .ref n => (match S[n]? with
    | some (.dct kvs) => some kvs
    | some (.fdc kvs) => some kvs
    | _ => none)
  | _ => none
theorem dctS_rep {Fr Hd : Hp} {μ : List Addr} {ρ : List Sl} {S : List Ob} {σ : St} {H : Hp} (r : R X.K Fr Hd μ ρ S σ H) {x : W} {v : V} {kvs : List (Key × W)} (h : dctS x S = some kvs) (e : RepW X.K Fr μ x v) :
    ∃ a vs, v = .ref a ∧ Rd H a (.dK vs) ∧ RepKV X.K Fr μ kvs vs := by
  cases x with
  | d x => cases h
  | ref n =>
    obtain ⟨a, ea, rfl⟩ := e
    unfold dctS at h
    dsimp only at h
    split at h
    · rename_i ys es
      cases h
      obtain ⟨ho, h1, ⟨vs, rfl, q⟩, _⟩ := r.b.st n a _ ea es
      exact ⟨a, vs, rfl, .inl h1, q⟩
    · rename_i ys es
      cases h
      obtain ⟨ho, h1, ⟨od, vs, rfl, q⟩, _⟩ := r.b.st n a _ ea es
      exact ⟨a, vs, rfl, .inr ⟨od, h1⟩, q⟩
    · cases h
theorem DGet.rd {H : Hp} {a : Addr} {kvs : List (Key × V)} {k : Key} (e : Rd H a (.dK kvs)) : DGet H a (kV k) (valV kvs k) := .inl ⟨kvs, k, e, rfl, rfl⟩
/-- d[e] -/
def getS (x y : W) (S : List Ob) : Res W := match dctS x S with
  | some kvs => getD kvs y S
  | none => .bad
def fSget (fa fb : FE) : FE := fun ρ S => (fa ρ S).bind fun x S1 => (fb ρ S1).bind fun y S2 => getS x y S2
theorem q_sget (hu : X.A.units + 1 < cLine) (ha : PE X o (LE X Wc fa)) (hb : PE X b (LE X Wc fb)) (hs : NoSl b := by exact fun _ _ => rfl) : PE X (.Subscript o b pos) (LE X Wc (fSget fa fb)) := PE.imp (pe_dget hu ha hb hs) fun σ H Q h => by
  obtain ⟨F, D, m, ρ, S, r, c⟩ := h
  refine step r c fun F1 m1 x v S1 H1 l1 p1 r1 ex c1 => ?_
  refine step r1 c1 fun F2 m2 y u S2 H2 l2 p2 r2 ey c2 => ?_
  unfold getS at c2
  split at c2
  · rename_i kvs hd
    obtain ⟨a, vs, rfl, h1, q1⟩ := dctS_rep r2 hd (RepW.mono l2 p2 ex)
    unfold getD at c2
    split at c2
    · rename_i k hk
      split at c2
      · rename_i z hz
        rcases valW_rep (k := k) q1 with ⟨e1, _⟩ | ⟨x', v', e1, e2, e3⟩
        · rw [hz] at e1; cases e1
        · rw [hz] at e1
          cases e1
          rw [keyOf_rep hk ey]
          exact ⟨a, v', rfl, e2 ▸ DGet.rd h1, rt r2 c2 e3⟩
      · exact c2.elim
    · exact c2.elim
  · exact c2.elim
/-- d.get(e) -/
def get1S (x y : W) (S : List Ob) : Res W := match dctS x S, keyOf y with
  | some kvs, some k => .ok ((valW kvs k).getD (.d .none)) S
  | _, _ => .bad
def fSget1 (fa fb : FE) : FE := fun ρ S => (fa ρ S).bind fun x S1 => if (dctS x S1).isSome = true then (fb ρ S1).bind fun y S2 => get1S x y S2 else .bad
theorem isD_rd {H : Hp} {a : Addr} {vs : List (Key × V)} (h : Rd H a (.dK vs)) : IsD H a := .inl ⟨vs, h⟩
theorem q_sget1 (hu : X.A.units + 1 < cLine) (ha : PE X o (LE X Wc fa)) (hb : PE X b (LE X Wc fb)) (m : M1 X o "get" apos b cpos := by exact ⟨rfl, rfl, rfl, rfl⟩) : PE X (.Call (.Attribute o "get" apos) [b] [] cpos) (LE X Wc (fSget1 fa fb)) := PE.imp (pe_dget1 hu ha hb m) fun σ H Q h => by
  obtain ⟨F, D, m, ρ, S, r, c⟩ := h
  refine step r c fun F1 m1 x v S1 H1 l1 p1 r1 ex c1 => ?_
  split at c1
  · rename_i hi
    obtain ⟨kv0, hd0⟩ := Option.isSome_iff_exists.mp hi
    obtain ⟨a, vs0, rfl, h0, _⟩ := dctS_rep r1 hd0 ex
    refine ⟨a, rfl, isD_rd h0, ?_⟩
    refine step r1 c1 fun F2 m2 y u S2 H2 l2 p2 r2 ey c2 => ?_
    unfold get1S at c2
    split at c2
    · rename_i kvs k hd hk
      obtain ⟨a', vs, ea, h1, q1⟩ := dctS_rep r2 hd (RepW.mono l2 p2 ex)
      cases ea
      rw [keyOf_rep hk ey]
      refine ⟨_, DGet.rd h1, ?_⟩
      rcases valW_rep (k := k) q1 with ⟨e1, e2⟩ | ⟨x', v', e1, e2, e3⟩
      · rw [e2]; rw [e1] at c2; exact rt r2 c2 Dp.non
      · rw [e2]; rw [e1] at c2; exact rt r2 c2 e3
    · exact c2.elim
  · exact c1.elim
/-- d.get(e, f) -/
def get2S (x y z : W) (S : List Ob) : Res W := match dctS x S, keyOf y with
  | some kvs, some k => .ok ((valW kvs k).getD z) S
  | _, _ => .bad
def fSget2 (fa fb fc : FE) : FE := fun ρ S => (fa ρ S).bind fun x S1 => if (dctS x S1).isSome = true then (fb ρ S1).bind fun y S2 => (fc ρ S2).bind fun z S3 => get2S x y z S3 else .bad
theorem q_sget2 (hu : X.A.units + 1 < cLine) (ha : PE X o (LE X Wc fa)) (hb : PE X b (LE X Wc fb)) (hc : PE X e (LE X Wc fc)) (m : M2 X o "get" apos b e cpos := by exact ⟨rfl, rfl, rfl, rfl⟩) : PE X (.Call (.Attribute o "get" apos) [b, e] [] cpos) (LE X Wc (fSget2 fa fb fc)) := PE.imp (pe_dget2 hu ha hb hc m) fun σ H Q h => by
  obtain ⟨F, D, m, ρ, S, r, c⟩ := h
  refine step r c fun F1 m1 x v S1 H1 l1 p1 r1 ex c1 => ?_
  split at c1
  · rename_i hi
    obtain ⟨kv0, hd0⟩ := Option.isSome_iff_exists.mp hi
    obtain ⟨a, vs0, rfl, h0, _⟩ := dctS_rep r1 hd0 ex
    refine ⟨a, rfl, isD_rd h0, ?_⟩
    refine step r1 c1 fun F2 m2 y u S2 H2 l2 p2 r2 ey c2 => ?_
    refine step r2 c2 fun F3 m3 z w S3 H3 l3 p3 r3 ez c3 => ?_
    unfold get2S at c3
    split at c3
    · rename_i kvs k hd hk
      obtain ⟨a', vs, ea, h1, q1⟩ := dctS_rep r3 hd (RepW.mono (l2.trans l3) (List.IsPrefix.trans p2 p3) ex)
      cases ea
      rw [keyOf_rep hk ey]
      refine ⟨_, DGet.rd h1, ?_⟩
      rcases valW_rep (k := k) q1 with ⟨e1, e2⟩ | ⟨x', v', e1, e2, e3⟩
      · rw [e2]; rw [e1] at c3; exact rt r3 c3 ez
      · rw [e2]; rw [e1] at c3; exact rt r3 c3 e3
    · exact c3.elim
  · exact c1.elim
/-- e in d, e not in d -/
def inS (neg : Bool) (y x : W) (S : List Ob) : Res W := match dctS x S, keyOf y with
  | some kvs, some k => .ok (.d (.bool (neg ^^ (valW kvs k).isSome))) S
  | _, _ => .bad
def fSin (neg : Bool) (fb fa : FE) : FE := fun ρ S => (fb ρ S).bind fun y S1 => (fa ρ S1).bind fun x S2 => inS neg y x S2
theorem sin_imp {neg : Bool} {σ : St} {H : Hp} {Q : VK} (h : LE X Wc (fSin neg fb fa) σ H Q) : LE X Wc fb σ H fun y H1 => LE X Wc fa σ H1 fun x H2 => ∃ a o, x = .ref a ∧ DGet H2 a y o ∧ Q (.bl (neg ^^ o.isSome)) H2 := by
  obtain ⟨F, D, m, ρ, S, r, c⟩ := h
  refine step r c fun F1 m1 y u S1 H1 l1 p1 r1 ey c1 => ?_
  refine step r1 c1 fun F2 m2 x v S2 H2 l2 p2 r2 ex c2 => ?_
  unfold inS at c2
  split at c2
  · rename_i kvs k hd hk
    obtain ⟨a, vs, rfl, h1, q1⟩ := dctS_rep r2 hd ex
    refine ⟨a, valV vs k, rfl, ?_, ?_⟩
    · rw [keyOf_rep hk ey]; exact DGet.rd h1
    · rcases valW_rep (k := k) q1 with ⟨e1, e2⟩ | ⟨x', v', e1, e2, e3⟩
      · rw [e2]; rw [e1] at c2; exact rt r2 c2 (Dp.bl _)
      · rw [e2]; rw [e1] at c2; exact rt r2 c2 (Dp.bl _)
  · exact c2.elim
theorem q_sin (hu : X.A.units + 1 < cLine) (hb : PE X b (LE X Wc fb)) (ha : PE X o (LE X Wc fa)) (hm : behindInMarks .In o = false := by rfl) : PE X (.Compare b [.In] [o] pos) (LE X Wc (fSin false fb fa)) := PE.imp (pe_cmp (pc_din hu hb ha) hm) fun σ H Q h => by
  have := sin_imp h
  simp only [Bool.false_xor] at this
  exact this
theorem q_snotin (hu : X.A.units + 1 < cLine) (hb : PE X b (LE X Wc fb)) (ha : PE X o (LE X Wc fa)) (hm : behindInMarks .NotIn o = false := by rfl) : PE X (.Compare b [.NotIn] [o] pos) (LE X Wc (fSin true fb fa)) := PE.imp (pe_cmp (pc_dnotin hu hb ha) hm) fun σ H Q h => by
  have := sin_imp h
  simp only [Bool.true_xor] at this
  exact this
theorem t_sin (hu : X.A.units + 1 < cLine) (hb : PE X b (LE X Wc fb)) (ha : PE X o (LE X Wc fa)) (hm : behindInMarks .In o = false := by rfl) : PT X (.Compare b [.In] [o] pos) (LB X Wc (fT (fSin false fb fa))) := PT.imp (pt_cmp (pc_din hu hb ha) hm) fun σ H Q h => by
  have := sin_imp (t_imp h)
  simp only [Bool.false_xor] at this
  exact this
theorem t_snotin (hu : X.A.units + 1 < cLine) (hb : PE X b (LE X Wc fb)) (ha : PE X o (LE X Wc fa)) (hm : behindInMarks .NotIn o = false := by rfl) : PT X (.Compare b [.NotIn] [o] pos) (LB X Wc (fT (fSin true fb fa))) := PT.imp (pt_cmp (pc_dnotin hu hb ha) hm) fun σ H Q h => by
  have := sin_imp (t_imp h)
  simp only [Bool.true_xor] at this
  exact this
/-- d[e] = v -/
def putS (v x y : W) (ρ : List Sl) (S : List Ob) : Fl := match x with
  | .ref n => (match S[n]?, keyOf y with
    | some (.dct kvs), some k => if kvs.length < 16777216 then .nx ρ (S.set n (.dct (putW kvs k v))) else .bad
    | _, _ => .bad)
  | _ => .bad
def fSput (fv fx fy : FE) : FT := fun ρ S => fl (fv ρ S) ρ fun v S1 => fl (fx ρ S1) ρ fun x S2 => fl (fy ρ S2) ρ fun y S3 => putS v x y ρ S3
theorem s_sput {value : Expr} {pos' : Pos} {fv : FE} (hu : X.A.units + 1 < cLine) (ho : PE X o (LE X Wc fa)) (hk : PE X e (LE X Wc fb)) (hv : PE X value (LE X Wc fv)) (hs : swapsWith value (some (.Subscript o e pos')) pos.line X.env = pure false := by rfl) :
    PS X (.Assign [.Subscript o e pos'] value pos) (LS X Wc (fSput fv fa fb)) := PS.imp (ps_dput hu ho hk hv hs) fun D σ H h => by
  obtain ⟨F, Hd, m, ρ, S, r, c⟩ := h
  refine stepS r c fun F1 m1 v vv S1 H1 l1 p1 r1 e1 c1 => ?_
  refine stepS r1 c1 fun F2 m2 x w S2 H2 l2 p2 r2 e2 c2 => ?_
  refine stepS r2 c2 fun F3 m3 y u S3 H3 l3 p3 r3 e3 c3 => ?_
  cases x with
  | d x => exact c3.elim
  | ref n =>
    obtain ⟨a, ea, rfl⟩ := RepW.mono l3 p3 e2
    unfold putS at c3
    dsimp only at c3
    split at c3
    · rename_i kvs k es hk
      split at c3
      · rename_i hl
        obtain ⟨ho, h1, ⟨vs, rfl, q⟩, hfr, _⟩ := r3.b.st n a _ ea es
        have el := Paired.length q
        rw [keyOf_rep hk e3]
        exact ⟨a, _, rfl, DPut.k h1 (by rw [sizeLine_eq]; omega), c3 F3 m3 σ _ Le.refl (List.prefix_refl m3) (r3.put ea hfr ⟨_, rfl, putW_rep (RepW.mono (l2.trans l3) (List.IsPrefix.trans p2 p3) e1) q⟩)⟩
      · exact c3.elim
    · exact c3.elim
/-- x not in xs -/
def oNIn : W → W → List Ob → Res W := fun x y S => match x, y with
  | .d x, .d y => (match itemsD y with
    | some ds => if flatD x && ds.all flatD then .ok (.d (.bool (!inD x ds))) S else .bad
    | none => .bad)
  | _, _ => .bad
theorem f_nin : OpF X Wc (rIn X.K true) oNIn := by
  intro Fr Hd μ ρ S σ H x y v u Q r ex ey c
  unfold oNIn at c
  split at c
  · rename_i x y
    split at c
    · rename_i ds ei
      split at c
      · rename_i hh
        rw [Bool.and_eq_true] at hh
        obtain ⟨e1, e2⟩ := flat_rep ex hh.1
        have go : ∀ {p : Addr} {vs : List V}, (SqL X.K H p vs ∨ SqT X.K H p vs) → DpAll X.K Fr vs ds → u = .ref p → rIn X.K true v u H Q := fun {p vs} hs hd eu => by
          obtain ⟨e3, e4⟩ := flats_rep hd hh.2
          refine ⟨p, vs, eu, hs, e2, e4, ?_⟩
          have : inV v vs = inD x ds := by
            unfold inV inD
            rw [e3, e1, List.any_map]
            rfl
          rw [show (if true = true then !inV v vs else inV v vs) = !inD x ds from by rw [this]; rfl]
          exact rt r c (Dp.bl _)
        cases y with
        | tuple ys => cases ei; cases ey with | @tup a vs _ h1 h2 => exact go (.inr (Le.sqT r.b.fr h1)) h2 rfl
        | list ys => cases ei; cases ey with | @lst a vs _ h1 h2 => exact go (.inl (Le.sqL r.b.fr h1)) h2 rfl
        | none => cases ei
        | bool _ => cases ei
        | int _ => cases ei
        | str _ => cases ei
        | dict _ => cases ei
      · exact c.elim
    · exact c.elim
  · exact c.elim
theorem q_nin {a : Expr} (ha : PE X a (LE X Wc fa)) (hb : PE X b (LE X Wc fb)) (hm : behindInMarks .NotIn b = false := by rfl) : PE X (.Compare a [.NotIn] [b] pos) (LE X Wc (fBin oNIn fa fb)) := q_cmp op_notIn_seq f_nin ha hb hm
theorem t_nin {a : Expr} (ha : PE X a (LE X Wc fa)) (hb : PE X b (LE X Wc fb)) (hm : behindInMarks .NotIn b = false := by rfl) : PT X (.Compare a [.NotIn] [b] pos) (LB X Wc (fT (fBin oNIn fa fb))) := q_tc op_notIn_seq f_nin ha hb hm
/-- x.extend(a new list) -/
def fExt (i : Nat) (fo : FO) : FX := fun ρ S => match ρ[i]? with
  | some (.own (.lst xs)) => (fo ρ S).bind fun o S1 => (match o with
    | .lst ys => if xs.length + ys.length ≤ 16777216 then .ok (.d .none, ρ.set i (.own (.lst (xs ++ ys)))) S1 else .bad
    | _ => .bad)
  | _ => .bad
theorem x_ext {i : Nat} {x : Str} {p' : Pos} {fo : FO} (hN : X.N[i]? = some x) (hv : Vis X.env.scope x) (ha : PE X e (LO X Wc fo)) (hd : (x == ("__debug__" : Str)) = false := by decide) (hcd : (x == ("__classdict__" : Str)) = false := by decide)
    (hbase : attributeBase (.Name x p') "extend" X.env (eval (.Name x p') X.env) = eval (.Name x p') X.env := by rfl)
    (hfew : ((backTo cpos (starEach [e] X.env)).all (fun x => !x.1) && (backToKw cpos (keywordEach [] X.env)).all (fun x => x.1.isSome)
      && decide (([e] : List Expr).length + ([] : List Keyword).length + (if ([] : List Keyword).isEmpty then 0 else 1) < 30)) = true := by rfl)
    (hline : (apos.endLine == cpos.line) = true := by rfl) (hs : starEach [e] X.env = (false, eval e X.env) :: starEach [] X.env := by rfl) (hplain : (backTo cpos (starEach [] X.env)).any (·.1) = false := by rfl) :
    PE X (.Call (.Attribute (.Name x p') "extend" apos) [e] [] cpos) (LX X Wc (fExt i fo)) :=
  PE.imp (pe_bm PySem.F.plainAttrs_list PySem.F.slot_list_extend PySem.F.type_list_extend mt_extend (pe_var hN hv hd hcd) (pa_cons ha pa_nil hs) hbase hfew hline hs hplain) fun σ H Q h => by
  obtain ⟨F, D, m, ρ, S, r, c⟩ := h
  unfold fExt at c
  split at c
  · rename_i xs ex
    obtain ⟨a, vs, ea, h1, q1⟩ := own_lst r ex
    refine ⟨_, ea, .inl ⟨rfl, vs, .inl (.inl h1)⟩, ?_⟩
    refine stepX r c fun F1 m1 o v S1 H1 l1 p1 r1 ey c1 => ?_
    obtain ⟨a', vs', ea', h1', q1'⟩ := own_lst r1 ex
    rw [ea] at ea'
    cases ea'
    obtain ⟨p, ho, rfl, k1, k2, k3⟩ := ey
    split at c1
    · rename_i ys
      obtain ⟨us, rfl, q2⟩ := k2
      split at c1
      · rename_i hl
        refine ⟨a, p, vs', us, rfl, rfl, h1', k1, by rw [← Paired.length q1', ← Paired.length q2, sizeLine_eq]; exact hl, ?_⟩
        exact c1 F1 m1 .non _ Le.refl (List.prefix_refl m1) (r1.putOwn ex ea ⟨_, rfl, paired_app q1' q2⟩) Dp.non
      · exact c1.elim
    · exact c1.elim
  · exact c.elim
/-- name = [..] on one line, into the store -/
theorem setS_imp {i : Nat} {fo : FO} {D : Ends} {σ : St} {H : Hp} (h : LS X Wc (fSet i (fSto fo)) D σ H) : tAsg (LO X Wc fo) (gName i) D σ H := by
  obtain ⟨F, Hd, m, ρ, S, r, c⟩ := h
  have e : fSet i (fSto fo) ρ S = fl (fo ρ S) ρ fun o S1 => .nx (ρ.set i (.w (.ref S1.length))) (S1 ++ [o]) := by
    show fl ((fo ρ S).bind _) ρ _ = _
    cases fo ρ S <;> rfl
  rw [e] at c
  refine stepS r c fun F1 m1 x v S1 H1 l1 p1 r1 e1 c1 => ?_
  obtain ⟨p, ho, rfl, h1, h2, h3⟩ := e1
  refine c1 F1 (m1 ++ [p]) _ H1 Le.refl (List.prefix_append m1 [p]) ((r1.sto h1 h2 h3).setW ⟨p, ?_, rfl⟩)
  rw [← r1.b.len]
  simp
theorem s_setLcS {i : Nat} {y : Str} {py spos : Pos} {elt iter : Expr} {ifs : List Expr} {scope : Scope} {own : List (Str × Nat)} {fi : FA} {g : FG} {t : FB} {fe : FE} (hc : X.calm = true) (hN : X.N.Nodup) (hy : X.N[i]? = some y) (hyl : X.env.scope.names.lookup y = some .local)
    (hsw : swapsWith (.ListComp elt [⟨tg, iter, ifs, 0⟩] scope pos) (some (.Name y py)) spos.line X.env = pure true) (hgo : GO (own.map (·.2)) g) (hi : PI X tg iter (LI X Wc fi)) (ok : BlkOk X.N X.env.scope scope own)
    (hg : ∀ (s : Shared) (H : Hp) (C : Addr) (cl : List (Str × Addr)) (fp : List Addr), PG (X.blk s H scope (compEnvC scope cl C X.env) fp) tg (liftG X.K (own.map (·.2)) g))
    (ht : ∀ (s : Shared) (H : Hp) (C : Addr) (cl : List (Str × Addr)) (fp : List Addr), PTs (X.blk s H scope (compEnvC scope cl C X.env) fp) ifs (LB X W0 t))
    (he : ∀ (s : Shared) (H : Hp) (C : Addr) (cl : List (Str × Addr)) (fp : List Addr), PE (X.blk s H scope (compEnvC scope cl C X.env) fp) elt (LE X W0 fe)) (hs : ∀ x, foldedSetIterable iter X.env x = pure x := by intro _; rfl) :
    PS X (.Assign [.Name y py] (.ListComp elt [⟨tg, iter, ifs, 0⟩] scope pos) spos) (LS X Wc (fSet i (fSto (fLc fi (own.map (·.2)) g t fe)))) := PS.imp (ps_setLc hc hN hy hyl hsw hi ok hg ht he hs) fun D σ H h => by
  have q := setS_imp h
  exact lc_imp hgo q
end
section
variable {ρ : List Sl} {S : List Ob} {fa fb fc fv fx fy : FE} {fo : FO}
@[simp] theorem e_Sget : fSget fa fb ρ S = (fa ρ S).bind fun x S1 => (fb ρ S1).bind fun y S2 => getS x y S2 := rfl
@[simp] theorem e_Sget1 : fSget1 fa fb ρ S = (fa ρ S).bind fun x S1 => if (dctS x S1).isSome = true then (fb ρ S1).bind fun y S2 => get1S x y S2 else .bad := rfl
@[simp] theorem e_Sget2 : fSget2 fa fb fc ρ S = (fa ρ S).bind fun x S1 => if (dctS x S1).isSome = true then (fb ρ S1).bind fun y S2 => (fc ρ S2).bind fun z S3 => get2S x y z S3 else .bad := rfl
@[simp] theorem e_Sin {neg : Bool} : fSin neg fb fa ρ S = (fb ρ S).bind fun y S1 => (fa ρ S1).bind fun x S2 => inS neg y x S2 := rfl
@[simp] theorem e_Sput : fSput fv fx fy ρ S = fl (fv ρ S) ρ fun v S1 => fl (fx ρ S1) ρ fun x S2 => fl (fy ρ S2) ρ fun y S3 => putS v x y ρ S3 := rfl
@[simp] theorem e_Ext {i : Nat} {xs : List W} (h : ρ[i]? = some (.own (.lst xs))) : fExt i fo ρ S = (fo ρ S).bind fun o S1 => (match o with
    | .lst ys => if xs.length + ys.length ≤ 16777216 then .ok (.d .none, ρ.set i (.own (.lst (xs ++ ys)))) S1 else .bad
    | _ => .bad) := by
  unfold fExt
  rw [h]
theorem dctS_at {n : Nat} {kvs : List (Key × W)} (h : S[n]? = some (.dct kvs)) : dctS (.ref n) S = some kvs := by
  unfold dctS
  dsimp only
  rw [h]
theorem e_getS {n : Nat} {kvs : List (Key × W)} {k : Int} {x : W} (h : S[n]? = some (.dct kvs)) (hx : valW kvs (.inl k) = some x) : getS (.ref n) (.d (.int k)) S = .ok x S := by
  unfold getS
  rw [dctS_at h]
  show getD kvs (.d (.int k)) S = _
  unfold getD keyOf
  dsimp only
  rw [hx]
theorem e_get1S {n : Nat} {kvs : List (Key × W)} {k : Int} (h : S[n]? = some (.dct kvs)) : get1S (.ref n) (.d (.int k)) S = .ok ((valW kvs (.inl k)).getD (.d .none)) S := by
  unfold get1S
  rw [dctS_at h]
  rfl
theorem e_get2S {n : Nat} {kvs : List (Key × W)} {k : Int} {z : W} (h : S[n]? = some (.dct kvs)) : get2S (.ref n) (.d (.int k)) z S = .ok ((valW kvs (.inl k)).getD z) S := by
  unfold get2S
  rw [dctS_at h]
  rfl
theorem e_inS {n : Nat} {neg : Bool} {kvs : List (Key × W)} {k : Int} (h : S[n]? = some (.dct kvs)) : inS neg (.d (.int k)) (.ref n) S = .ok (.d (.bool (neg ^^ (valW kvs (.inl k)).isSome))) S := by
  unfold inS
  rw [dctS_at h]
  rfl
theorem e_putS {n : Nat} {kvs : List (Key × W)} {k : Int} {v : W} (h : S[n]? = some (.dct kvs)) (hl : kvs.length < 16777216) : putS v (.ref n) (.d (.int k)) ρ S = .nx ρ (S.set n (.dct (putW kvs (.inl k) v))) := by
  unfold putS
  dsimp only
  rw [h]
  exact if_pos hl
theorem e_ninT {x : PyData} {ds : List PyData} (h : flatD x = true) (h2 : ds.all flatD = true) : oNIn (.d x) (.d (.tuple ds)) S = .ok (.d (.bool (!inD x ds))) S := by
  show (if flatD x && ds.all flatD then Res.ok (W.d (.bool (!inD x ds))) S else .bad) = _
  rw [h, h2]; rfl
theorem e_ninL {x : PyData} {ds : List PyData} (h : flatD x = true) (h2 : ds.all flatD = true) : oNIn (.d x) (.d (.list ds)) S = .ok (.d (.bool (!inD x ds))) S := by
  show (if flatD x && ds.all flatD then Res.ok (W.d (.bool (!inD x ds))) S else .bad) = _
  rw [h, h2]; rfl
end
end L2.Q
/-! Layer Q, part X: defs that call themselves; texts: x[i], in, <, +, for, len. -/
namespace L2.Q
open PySem PySem.Spec PyProof.Rows
/-- a reading that says nothing is kept by every def -/
theorem fnq_bad {P : Program} {w : World} {K : PySem.W.Frag} {mg : Str → Option Value} {base : Heap} {k : Nat} {f : Addr} {fd : FuncData} {ps : List Str} : FnQ P w K mg base k f fd ps (fun _ _ => .bad) :=
  ⟨fun vs H Q E h => h.1, fun A outer s H args us vs Q E hr e hb r h => by
    obtain ⟨_, Fr, Hd, μ, ws, S, b, e, c⟩ := h
    exact c.elim⟩
section
variable {X : Cx} {Wc : WX} {a b e : Expr} {fa fb : FE} {pos p : Pos}
/-! ### texts -/
abbrev ch1 (c : Nat) : Str := ⟨#[c]⟩
def oIxZ : W → W → List Ob → Res W := fun x y S => match x, y with
  | .d (.str z), .d (.int i) => (match atI z.cps.toList i with
    | some c => if z.length ≤ 16777216 then .ok (.d (.str (ch1 c))) S else .bad
    | none => .bad)
  | x, y => oIx x y S
theorem f_ixZ : OpF X Wc (rIx X.K) oIxZ := by
  intro Fr Hd μ ρ S σ H x y v u Q r ex ey c
  unfold oIxZ at c
  split at c
  · rename_i z i
    split at c
    · rename_i k hk
      split at c
      · rename_i hl
        cases ex
        cases ey
        exact .inr (.inr ⟨z, i, k, rfl, rfl, by rw [sizeLine_eq]; exact hl, hk, rt r c (Dp.str _)⟩)
      · exact c.elim
    · exact c.elim
  · exact f_ix (Wc := Wc) Fr Hd μ ρ S σ H _ _ v u Q r ex ey c
theorem q_ixZ (ha : PE X a (LE X Wc fa)) (hb : PE X b (LE X Wc fb)) (hs : PlainIx b := by exact fun _ _ => rfl) : PE X (.Subscript a b pos) (LE X Wc (fBin oIxZ fa fb)) := PE.imp (pe_ix ix_seq ha hb hs) fun _ _ _ h => bin_imp f_ixZ h
/-- x in y of texts: at some place -/
def isIn (i j : Str) : Bool := !(Builtin.Str.occurrences j i 0 j.length 1).isEmpty
def oInZ : W → W → List Ob → Res W := fun x y S => match x, y with
  | .d (.str i), .d (.str j) => .ok (.d (.bool (isIn i j))) S
  | x, y => oIn x y S
def oNInZ : W → W → List Ob → Res W := fun x y S => match x, y with
  | .d (.str i), .d (.str j) => .ok (.d (.bool (!isIn i j))) S
  | x, y => oNIn x y S
theorem f_inZ : OpF X Wc (fun x y H Q => (∃ i j, x = .str i ∧ y = .str j ∧ Q (.bl (!(Builtin.Str.occurrences j i 0 j.length 1).isEmpty)) H) ∨ rIn X.K false x y H Q) oInZ := by
  intro Fr Hd μ ρ S σ H x y v u Q r ex ey c
  unfold oInZ at c
  split at c
  · rename_i i j
    cases ex
    cases ey
    exact .inl ⟨i, j, rfl, rfl, rt r c (Dp.bl _)⟩
  · exact .inr (f_in (Wc := Wc) Fr Hd μ ρ S σ H _ _ v u Q r ex ey c)
theorem f_ninZ : OpF X Wc (fun x y H Q => (∃ i j, x = .str i ∧ y = .str j ∧ Q (.bl (!(!(Builtin.Str.occurrences j i 0 j.length 1).isEmpty))) H) ∨ rIn X.K true x y H Q) oNInZ := by
  intro Fr Hd μ ρ S σ H x y v u Q r ex ey c
  unfold oNInZ at c
  split at c
  · rename_i i j
    cases ex
    cases ey
    exact .inl ⟨i, j, rfl, rfl, rt r c (Dp.bl _)⟩
  · exact .inr (f_nin (Wc := Wc) Fr Hd μ ρ S σ H _ _ v u Q r ex ey c)
theorem q_inZ (ha : PE X a (LE X Wc fa)) (hb : PE X b (LE X Wc fb)) (hm : behindInMarks .In b = false := by rfl) : PE X (.Compare a [.In] [b] pos) (LE X Wc (fBin oInZ fa fb)) := q_cmp (OpR.or op_in_str op_in_seq) f_inZ ha hb hm
theorem t_inZ (ha : PE X a (LE X Wc fa)) (hb : PE X b (LE X Wc fb)) (hm : behindInMarks .In b = false := by rfl) : PT X (.Compare a [.In] [b] pos) (LB X Wc (fT (fBin oInZ fa fb))) := q_tc (OpR.or op_in_str op_in_seq) f_inZ ha hb hm
theorem q_ninZ (ha : PE X a (LE X Wc fa)) (hb : PE X b (LE X Wc fb)) (hm : behindInMarks .NotIn b = false := by rfl) : PE X (.Compare a [.NotIn] [b] pos) (LE X Wc (fBin oNInZ fa fb)) := q_cmp (OpR.or op_notIn_str op_notIn_seq) f_ninZ ha hb hm
theorem t_ninZ (ha : PE X a (LE X Wc fa)) (hb : PE X b (LE X Wc fb)) (hm : behindInMarks .NotIn b = false := by rfl) : PT X (.Compare a [.NotIn] [b] pos) (LB X Wc (fT (fBin oNInZ fa fb))) := q_tc (OpR.or op_notIn_str op_notIn_seq) f_ninZ ha hb hm
/-- < -/
def oLtZ : W → W → List Ob → Res W := fun x y S => match x, y with
  | .d (.str i), .d (.str j) => .ok (.d (.bool (decide (i.cps.toList < j.cps.toList)))) S
  | x, y => oLt x y S
theorem f_ltZ : OpF X Wc (fun x y H Q => (∃ i j, x = .str i ∧ y = .str j ∧ Q (.bl (decide (i.cps.toList < j.cps.toList))) H) ∨ rI0 (fun i j => .bl (decide (i < j))) x y H Q) oLtZ := by
  intro Fr Hd μ ρ S σ H x y v u Q r ex ey c
  unfold oLtZ at c
  split at c
  · rename_i i j
    cases ex
    cases ey
    exact .inl ⟨i, j, rfl, rfl, rt r c (Dp.bl _)⟩
  · exact .inr (f_lt (Wc := Wc) Fr Hd μ ρ S σ H _ _ v u Q r ex ey c)
theorem q_ltZ (ha : PE X a (LE X Wc fa)) (hb : PE X b (LE X Wc fb)) : PE X (.Compare a [.Lt] [b] pos) (LE X Wc (fBin oLtZ fa fb)) := q_cmp (OpR.or op_lt_str op_lt) f_ltZ ha hb (nomark _)
theorem t_ltZ (ha : PE X a (LE X Wc fa)) (hb : PE X b (LE X Wc fb)) : PT X (.Compare a [.Lt] [b] pos) (LB X Wc (fT (fBin oLtZ fa fb))) := q_tc (OpR.or op_lt_str op_lt) f_ltZ ha hb (nomark _)
/-- + -/
def oAddZ : W → W → List Ob → Res W := fun x y S => match x, y with
  | .d (.str i), .d (.str j) => if i.length + j.length ≤ 16777216 then .ok (.d (.str (i ++ j))) S else .bad
  | x, y => oAddA x y S
theorem f_addZ : OpF X Wc (fun x y H Q => (∃ i j, x = .str i ∧ y = .str j ∧ i.length + j.length ≤ sizeLine ∧ Q (.str (i ++ j)) H) ∨ (rCatS X.K x y H Q ∨ (rI0 (fun i j => .int (i + j)) x y H Q ∨ rCatA X.K x y H Q))) oAddZ := by
  intro Fr Hd μ ρ S σ H x y v u Q r ex ey c
  unfold oAddZ at c
  split at c
  · rename_i i j
    split at c
    · rename_i hl
      cases ex
      cases ey
      exact .inl ⟨i, j, rfl, rfl, by rw [sizeLine_eq]; exact hl, rt r c (Dp.str _)⟩
    · exact c.elim
  · exact .inr (f_addA (Wc := Wc) Fr Hd μ ρ S σ H _ _ v u Q r ex ey c)
theorem q_addZ (ha : PE X a (LE X Wc fa)) (hb : PE X b (LE X Wc fb)) : PE X (.BinOp a .Add b pos) (LE X Wc (fBin oAddZ fa fb)) := q_op (OpR.or op_add_str (OpR.or op_catS op_addQ)) f_addZ ha hb
/-- for c in text -/
def chrOf (x : W) (S : List Ob) : Res (List W) := match x with
  | .d (.str z) => if z.cps.size ≤ 16777216 then .ok (z.cps.toList.map fun c => .d (.str (ch1 c))) S else .bad
  | _ => .bad
def fChr (fa : FE) : FA := fun ρ S => (fa ρ S).bind chrOf
theorem i_chr {tg l : Expr} (h : PE X l (LE X Wc fa)) : PI X tg l (LI X Wc (fChr fa)) := PI.imp (pi_str h) fun σ H Q h => by
  obtain ⟨F, Hd, m, ρ, S, r, c⟩ := h
  refine stepI r c fun F1 m1 x v S1 H1 l1 p1 r1 e1 c1 => ?_
  unfold chrOf at c1
  split at c1
  · rename_i z
    split at c1
    · rename_i hl
      cases e1
      refine ⟨z, rfl, c1 F1 Hd m1 H1 _ Le.refl Le.refl (List.prefix_refl m1) r1 ?_ (by rw [List.length_map, sizeLine_eq]; simpa using hl)⟩
      have hw := walk_str (z := z)
      rw [show (z.cps.toList.map fun c => W.d (.str (ch1 c))).length = z.cps.size by simp]
      refine Walk.mono hw (fun _ _ => True.intro) fun i H v H' hi _ y => ?_
      obtain ⟨rfl, c, hc, rfl⟩ := y
      refine ⟨.d (.str (ch1 c)), ?_, .inl ⟨rfl, Dp.str _⟩⟩
      rw [List.getElem?_map]
      have : z.cps.toList[i]? = some c := by rw [← hc]; simp
      rw [this]; rfl
    · exact c1.elim
  · exact c1.elim
/-- len of a text -/
theorem q_lenS (hg : Gl X "len") (hm : X.mg "len" = none) (h : PE X e (LE X Wc fa)) (hs : starEach [e] X.env = (false, eval e X.env) :: starEach [] X.env := by rfl) (hpl : (backTo pos (starEach [] X.env)).any (·.1) = false := by rfl) : PE X (.Call (.Name "len" p) [e] [] pos) (LE X Wc (fLenS fa)) :=
  PE.imp (pe_callB call_len_str hg hm PySem.boot_len (pa_cons h pa_nil hs) (he := hs) (hpl := hpl)) fun σ H Q h => by
  obtain ⟨F, D, m, ρ, S, r0, c⟩ := h
  refine step r0 c fun F1 m1 x v S1 H1 l1 p1 r1 e1 c1 => ?_
  split at c1
  · rename_i z
    split at c1
    · rename_i hl
      cases e1
      exact ⟨z, rfl, by rw [sizeLine_eq]; exact hl, rt r1 c1 (Dp.int _)⟩
    · exact c1.elim
  · exact c1.elim
end
def fcStr (x z : Str) : FbT := fun K => (He.Fa.str x z).ok K
section
variable {S : List Ob} {ρ : List Sl} {fa : FE}
@[simp] theorem e_Chr : fChr fa ρ S = (fa ρ S).bind chrOf := rfl
@[simp] theorem e_LenS : fLenS fa ρ S = (fa ρ S).bind fun x S1 => match x with
  | .d (.str z) => if z.length ≤ 16777216 then .ok (.d (.int z.length)) S1 else .bad
  | _ => .bad := rfl
@[simp] theorem e_inZs (i j : Str) : oInZ (.d (.str i)) (.d (.str j)) S = .ok (.d (.bool (isIn i j))) S := rfl
@[simp] theorem e_ninZs (i j : Str) : oNInZ (.d (.str i)) (.d (.str j)) S = .ok (.d (.bool (!isIn i j))) S := rfl
@[simp] theorem e_ltZs (i j : Str) : oLtZ (.d (.str i)) (.d (.str j)) S = .ok (.d (.bool (decide (i.cps.toList < j.cps.toList)))) S := rfl
theorem e_inZt {x : PyData} {ds : List PyData} (h : flatD x = true) (h2 : ds.all flatD = true) : oInZ (.d x) (.d (.tuple ds)) S = .ok (.d (.bool (inD x ds))) S := by
  have : oInZ (.d x) (.d (.tuple ds)) S = oIn (.d x) (.d (.tuple ds)) S := by cases x <;> rfl
  rw [this, e_inT h h2]
theorem e_ninZt {x : PyData} {ds : List PyData} (h : flatD x = true) (h2 : ds.all flatD = true) : oNInZ (.d x) (.d (.tuple ds)) S = .ok (.d (.bool (!inD x ds))) S := by
  have : oNInZ (.d x) (.d (.tuple ds)) S = oNIn (.d x) (.d (.tuple ds)) S := by cases x <;> rfl
  rw [this, e_ninT h h2]
theorem e_ninZl {x : PyData} {ds : List PyData} (h : flatD x = true) (h2 : ds.all flatD = true) : oNInZ (.d x) (.d (.list ds)) S = .ok (.d (.bool (!inD x ds))) S := by
  have : oNInZ (.d x) (.d (.list ds)) S = oNIn (.d x) (.d (.list ds)) S := by cases x <;> rfl
  rw [this, e_ninL h h2]
end
end L2.Q
/-! Layer Q, part Y: instances of the program's classes: fields, methods, made anew. -/
namespace L2.Q
open PySem PySem.Spec PyProof.Rows
/-! ### fields -/
def putFw (f : Str) (v : W) : List (Str × W) → List (Str × W)
  | [] => [(f, v)]
  | (g, x) :: r => if g = f then (g, v) :: r else (g, x) :: putFw f v r
def fldOf (f : Str) : List (Str × W) → Option W
  | [] => none
  | (g, x) :: r => if g = f then some x else fldOf f r
section
variable {K : PySem.W.Frag} {Fr : Hp} {μ : List Addr}
theorem putF_rep {f : Str} {x : W} {v : V} (e : RepW K Fr μ x v) : ∀ {fs : List (Str × W)} {vs : List (Str × V)}, RepFs K Fr μ fs vs → RepFs K Fr μ (putFw f x fs) (putF f v vs)
  | _, _, .nil => .cons ⟨rfl, e⟩ .nil
  | (g, y) :: r, (g', u) :: t, .cons ⟨q, w⟩ h => by
    have q : g = g' := q
    subst q
    show RepFs K Fr μ (if g = f then (g, x) :: r else (g, y) :: putFw f x r) (if g = f then (g, v) :: t else (g, u) :: putF f v t)
    by_cases hg : g = f
    · rw [if_pos hg, if_pos hg]; exact .cons ⟨rfl, e⟩ h
    · rw [if_neg hg, if_neg hg]; exact .cons ⟨rfl, w⟩ (putF_rep e h)
theorem fld_some {f : Str} {x : W} : ∀ {fs : List (Str × W)} {vs : List (Str × V)}, RepFs K Fr μ fs vs → fldOf f fs = some x → ∃ v, vs.lookup f = some v ∧ RepW K Fr μ x v
  | _, _, .nil, e => by cases e
  | (g, y) :: r, (g', u) :: t, .cons ⟨q, w⟩ h, e => by
    have q : g = g' := q
    subst q
    have e : (if g = f then some y else fldOf f r) = some x := e
    by_cases hg : g = f
    · rw [if_pos hg] at e
      cases e
      exact ⟨u, by rw [List.lookup, show (f == g) = true from beq_iff_eq.mpr hg.symm], w⟩
    · rw [if_neg hg] at e
      obtain ⟨v, h1, h2⟩ := fld_some h e
      exact ⟨v, by rw [List.lookup, show (f == g) = false from beq_eq_false_iff_ne.mpr fun z => hg z.symm]; exact h1, h2⟩
theorem fld_none {f : Str} : ∀ {fs : List (Str × W)} {vs : List (Str × V)}, RepFs K Fr μ fs vs → fldOf f fs = none → vs.lookup f = none
  | _, _, .nil, _ => rfl
  | (g, y) :: r, (g', u) :: t, .cons ⟨q, w⟩ h, e => by
    have q : g = g' := q
    subst q
    have e : (if g = f then some y else fldOf f r) = none := e
    by_cases hg : g = f
    · rw [if_pos hg] at e; cases e
    · rw [if_neg hg] at e
      rw [List.lookup, show (f == g) = false from beq_eq_false_iff_ne.mpr fun z => hg z.symm]
      exact fld_none h e
end
/-! ### e.f, e.f = v -/
def insAt (c : Str) (x : W) (S : List Ob) : Option (Nat × List (Str × W)) := match x with
  | .ref n => (match S[n]? with
    | some (.ins c' fs) => if c' = c then some (n, fs) else none
    | _ => none)
  | _ => none
section
variable {X : Cx} {Wc : WX} {o e b value : Expr} {fa fb fv : FE} {pos apos cpos pos' : Pos} {c f : Str}
theorem insAt_rep {Fr Hd : Hp} {μ : List Addr} {ρ : List Sl} {S : List Ob} {σ : St} {H : Hp} (r : R X.K Fr Hd μ ρ S σ H) {x : W} {v : V} {n : Nat} {fs : List (Str × W)} (h : insAt c x S = some (n, fs)) (e : RepW X.K Fr μ x v) :
    ∃ a dx vs, x = .ref n ∧ v = .ref a ∧ μ[n]? = some a ∧ S[n]? = some (.ins c fs) ∧ H a = some (.ins (He.ga X.K c) dx vs) ∧ RepFs X.K Fr μ fs vs ∧ Fr a = none := by
  cases x with
  | d x => cases h
  | ref k =>
    obtain ⟨a, ea, rfl⟩ := e
    unfold insAt at h
    dsimp only at h
    split at h
    · rename_i c' fs' es
      split at h
      · rename_i hc
        subst hc
        cases h
        obtain ⟨ho, h1, ⟨dx, vs, rfl, q⟩, hf, _⟩ := r.b.st _ a _ ea es
        exact ⟨a, dx, vs, rfl, rfl, ea, es, h1, q, hf⟩
      · cases h
    · cases h
def fldW (c f : Str) (x : W) (S : List Ob) : Res W := match insAt c x S with
  | some (_, fs) => (match fldOf f fs with
    | some w => .ok w S
    | none => .bad)
  | none => .bad
def fFld (c f : Str) (fa : FE) : FE := fun ρ S => (fa ρ S).bind (fldW c f)
theorem q_fld (hc : Cls X.K (He.ga X.K c)) (hn : NoAttr X.K (He.ga X.K c) f) (ha : PE X e (LE X Wc fa)) (hb : attributeBase e f X.env (eval e X.env) = eval e X.env := by rfl) : PE X (.Attribute e f pos) (LE X Wc (fFld c f fa)) := PE.imp (pe_fld ha hb) fun σ H Q h => by
  obtain ⟨F, D, m, ρ, S, r, c0⟩ := h
  refine step r c0 fun F1 m1 x v S1 H1 l1 p1 r1 ex c1 => ?_
  unfold fldW at c1
  split at c1
  · rename_i n fs hi
    obtain ⟨a, dx, vs, rfl, rfl, ea, es, h1, q, hf⟩ := insAt_rep r1 hi ex
    split at c1
    · rename_i w hw
      obtain ⟨v, h2, h3⟩ := fld_some q hw
      exact ⟨a, _, dx, vs, v, rfl, h1, hc, hn, h2, rt r1 c1 h3⟩
    · exact c1.elim
  · exact c1.elim
/-- o.f = v -/
def setF (c f : Str) (v x : W) (ρ : List Sl) (S : List Ob) : Fl := match insAt c x S with
  | some (n, fs) => if fs.length < 900 then .nx ρ (S.set n (.ins c (putFw f v fs))) else .bad
  | none => .bad
def fPutF (c f : Str) (fv fa : FE) : FT := fun ρ S => fl (fv ρ S) ρ fun v S1 => fl (fa ρ S1) ρ fun x S2 => setF c f v x ρ S2
theorem s_fld (hc : Cls X.K (He.ga X.K c)) (hn : NoAttr X.K (He.ga X.K c) f) (ha : PE X o (LE X Wc fa)) (hv : PE X value (LE X Wc fv)) (hs : swapsWith value (some (.Attribute o f pos')) pos.line X.env = pure false := by rfl) :
    PS X (.Assign [.Attribute o f pos'] value pos) (LS X Wc (fPutF c f fv fa)) := PS.imp (ps_fld ha hv hs) fun D σ H h => by
  obtain ⟨F, Hd, m, ρ, S, r, c0⟩ := h
  refine stepS r c0 fun F1 m1 v vv S1 H1 l1 p1 r1 e1 c1 => ?_
  refine stepS r1 c1 fun F2 m2 x w S2 H2 l2 p2 r2 e2 c2 => ?_
  unfold setF at c2
  split at c2
  · rename_i n fs hi
    obtain ⟨a, dx, vs, rfl, rfl, ea, es, h1, q, hf⟩ := insAt_rep r2 hi e2
    split at c2
    · rename_i hl
      have el := Paired.length q
      exact ⟨a, _, dx, vs, rfl, h1, hc, hn, by omega, c2 F2 m2 σ _ Le.refl (List.prefix_refl m2) (r2.putT ea hf ⟨dx, _, rfl, putF_rep (RepW.mono l2 p2 e1) q⟩ rfl)⟩
    · exact c2.elim
  · exact c2.elim
end
/-! ### o.f, o.g, .. = a tuple -/
def gAttr (K : PySem.W.Frag) (to : TE) (f : Str) : TG := fun v σ H Q => to σ H fun x H1 => ∃ a C dx fs, x = .ref a ∧ H1 a = some (.ins C dx fs) ∧ Cls K C ∧ NoAttr K C f ∧ fs.length < 1000 ∧ Q σ (upd H1 a (.ins C dx (putF f v fs)))
theorem pg_attr {X : Cx} {o : Expr} {to : TE} {f : Str} {pos : Pos} (ho : PE X o to) : PG X (.Attribute o f pos) (gAttr X.K to f) := by
  refine ⟨fun pins s σ H v u Q I r h => ?_⟩
  rw [assign_Attribute]
  refine wpAny_bind (wpAny_holding (thn (ho.run pins s σ H _ I h) fun ov s1 ⟨x, H1, I1, r1, a, C, dx, fs, ex, ea, c, n, l, q1⟩ => ?_))
  subst ex
  obtain rfl : ov = Value.ref a := r1
  refine wpAny_bind (wpAny_standAt (wpAny_bind (wpAny_holding (setattr_ok I1 ea c n l r fun s2 I2 => ?_))))
  exact wpAny_release ⟨σ, _, I2, q1⟩
/-- the targets o.f, one after another, take values -/
def putsF (c : Str) (n : Nat) : List Str → List W → List Ob → Option (List Ob)
  | [], [], S => some S
  | f :: fs, v :: vs, S => (match S[n]? with
    | some (.ins c' xs) => if c' = c ∧ xs.length < 900 then putsF c n fs vs (S.set n (.ins c (putFw f v xs))) else none
    | _ => none)
  | _, _, _ => none
section
variable {X : Cx} {Wc : WX} {o e b value : Expr} {fa fb fv : FE} {pos apos cpos pos' : Pos} {c f : Str}
def gAttrs (X : Cx) (Wc : WX) (fa : FE) : List Str → TGs
  | [] => gNil
  | f :: fs => gCons (gAttr X.K (LE X Wc fa) f) (gAttrs X Wc fa fs)
/-- the targets that a name's fields are -/
def attrs (x : Str) : List (Str × Pos × Pos) → List Expr
  | [] => []
  | (f, p, q) :: r => .Attribute (.Name x q) f p :: attrs x r
theorem pgs_attrs {x : Str} (ha : ∀ q : Pos, PE X (.Name x q) (LE X Wc fa)) (hs : ∀ (f : Str) (p q : Pos) (r : List (Str × Pos × Pos)), (assignEach (.Attribute (.Name x q) f p :: attrs x r) X.env).map (·.2) = assign (.Attribute (.Name x q) f p) X.env :: (assignEach (attrs x r) X.env).map (·.2) := by intro f p q r; rfl) :
    ∀ ts : List (Str × Pos × Pos), PGs X (attrs x ts) (gAttrs X Wc fa (ts.map (·.1)))
  | [] => pgs_nil
  | (f, p, q) :: r => pgs_cons (pg_attr (ha q)) (pgs_attrs ha hs r) (hs f p q r)
/-- the receiver is a variable: it stays what it is -/
theorem gAttrs_imp {i n : Nat} (hc : Cls X.K (He.ga X.K c)) {Hd : Hp} {ρ : List Sl} {σ : St} {Q : St → Hp → Prop} (hi : ρ[i]? = some (.w (.ref n))) : ∀ {fs : List Str} {ws : List W} {vs : List V} {Fr : Hp} {μ : List Addr} {S S' : List Ob} {H : Hp}, (∀ f ∈ fs, NoAttr X.K (He.ga X.K c) f) → R X.K Fr Hd μ ρ S σ H →
    RepWs X.K Fr μ ws vs → putsF c n fs ws S = some S' → (∀ F m H', Le Fr F → μ <+: m → R X.K F Hd m ρ S' σ H' → Q σ H') → gAttrs X Wc (fVar i) fs vs σ H Q
  | [], [], _, Fr, μ, S, S', H, _, r, .nil, h, k => by cases h; exact ⟨rfl, k Fr μ H Le.refl (List.prefix_refl μ) r⟩
  | [], _ :: _, _, _, _, _, _, _, _, _, _, h, _ => by cases h
  | _ :: _, [], _, _, _, _, _, _, _, _, _, h, _ => by cases h
  | f :: fs, w :: ws, _ :: vs, Fr, μ, S, S', H, hn, r, .cons e er, h, k => by
    refine ⟨_, vs, rfl, ?_⟩
    unfold putsF at h
    split at h
    · rename_i c' xs es
      split at h
      · rename_i hh
        have hcc : c = c' := hh.1.symm
        subst hcc
        have hl := hh.2
        refine ⟨Fr, Hd, μ, ρ, S, r, ?_⟩
        have ev : fVar i ρ S = .ok (.ref n) S := by unfold fVar; rw [hi]
        rw [ev]
        intro F1 m1 v H1 l1 p1 r1 e1
        obtain ⟨a1, ea1, rfl⟩ := e1
        obtain ⟨ho, h1, ⟨dx, us, rfl, q⟩, hf, _⟩ := r1.b.st _ a1 _ ea1 es
        have el := Paired.length q
        refine ⟨a1, _, dx, us, rfl, h1, hc, hn f (List.mem_cons_self ..), by omega, ?_⟩
        exact gAttrs_imp hc hi (fun g hg => hn g (List.mem_cons_of_mem _ hg)) (r1.putT (o := .ins c (putFw f w xs)) ea1 hf ⟨dx, _, rfl, putF_rep (RepW.mono l1 p1 e) q⟩ rfl) (RepWs.mono l1 p1 er) h fun F2 m2 H2 l2 p2 r2 => k F2 m2 H2 (l1.trans l2) (p1.trans p2) r2
      · cases h
    · cases h
theorem fa_nil {p : Str → Prop} : ∀ f ∈ ([] : List Str), p f := fun f h => nomatch h
theorem fa_cons {p : Str → Prop} {a : Str} {l : List Str} (h : p a) (t : ∀ f ∈ l, p f) : ∀ f ∈ a :: l, p f := fun f hf => by
  rcases List.mem_cons.mp hf with rfl | hf
  · exact h
  · exact t f hf
def refAt (i : Nat) (ρ : List Sl) : Option Nat := match ρ[i]? with
  | some (.w (.ref n)) => some n
  | _ => none
/-- x.f, x.g, .. = a tuple as data, x a variable -/
def fPutsD (c : Str) (i : Nat) (fs : List Str) (fv : FE) : FT := fun ρ S => fl (fv ρ S) ρ fun v S1 => match v, refAt i ρ with
  | .d (.tuple ds), some n => (match putsF c n fs (ds.map .d) S1 with
    | some S2 => if ds.length = fs.length then .nx ρ S2 else .bad
    | none => .bad)
  | _, _ => .bad
theorem refAt_ok {i n : Nat} {ρ : List Sl} (h : refAt i ρ = some n) : ρ[i]? = some (.w (.ref n)) := by
  unfold refAt at h
  split at h
  · rename_i k e; cases h; exact e
  · cases h
theorem puts_len {n : Nat} : ∀ {fs : List Str} {ws : List W} {S S' : List Ob}, putsF c n fs ws S = some S' → ws.length = fs.length
  | [], [], _, _, _ => rfl
  | [], _ :: _, _, _, h => by cases h
  | _ :: _, [], _, _, h => by cases h
  | f :: fs, w :: ws, S, S', h => by
    unfold putsF at h
    split at h
    · split at h
      · rw [List.length_cons, List.length_cons, puts_len h]
      · cases h
    · cases h
theorem dpa_rep {K : PySem.W.Frag} {F : Hp} {μ : List Addr} : ∀ {ds : List PyData} {vs : List V}, DpAll K F vs ds → RepWs K F μ (ds.map .d) vs
  | [], _, .nil => .nil
  | _ :: _, _, .cons q1 q2 => .cons q1 (dpa_rep q2)
theorem attrs_len (X : Cx) (x : Str) (hs : ∀ (f : Str) (p q : Pos) (r : List (Str × Pos × Pos)), (assignEach (.Attribute (.Name x q) f p :: attrs x r) X.env).map (·.2) = assign (.Attribute (.Name x q) f p) X.env :: (assignEach (attrs x r) X.env).map (·.2)) : ∀ ts : List (Str × Pos × Pos), ((assignEach (attrs x ts) X.env).map (·.2)).length = ts.length
  | [] => rfl
  | (f, p, q) :: r => by
    show ((assignEach (.Attribute (.Name x q) f p :: attrs x r) X.env).map (·.2)).length = _
    rw [hs f p q r, List.length_cons, attrs_len X x hs r, List.length_cons]
theorem s_asgF {i k : Nat} {x : Str} {ts : List (Str × Pos × Pos)} {tpos : Pos} {es : List Expr} (hcl : X.calm = true) (hc : Cls X.K (He.ga X.K c)) (hn : ∀ f ∈ ts.map (·.1), NoAttr X.K (He.ga X.K c) f) (ha : ∀ q : Pos, PE X (.Name x q) (LE X Wc (fVar i))) (hv : PE X value (LE X Wc fv)) (hes : es = attrs x ts)
    (hst : (assignEach es X.env).findIdx? (·.1) = none := by rfl) (hs : swapsWithSole [.Tuple es k tpos] value pos.line X.env = pure false := by rfl) (hw : swappedStores [.Tuple es k tpos] value X.env = pure none := by rfl)
    (h1 : (assignEach [.Tuple es k tpos] X.env).map (·.2) = [assign (.Tuple es k tpos) X.env] := by rfl) :
    PS X (.Assign [.Tuple es k tpos] value pos) (LS X Wc (fPutsD c i (ts.map (·.1)) fv)) := by
  subst hes
  have hs2 : ∀ (f : Str) (p q : Pos) (r : List (Str × Pos × Pos)), (assignEach (.Attribute (.Name x q) f p :: attrs x r) X.env).map (·.2) = assign (.Attribute (.Name x q) f p) X.env :: (assignEach (attrs x r) X.env).map (·.2) := by intro f p q r; rfl
  have hl : (assignEach (attrs x ts) X.env).length = ts.length := by rw [← attrs_len X x hs2 ts, List.length_map]
  refine PS.imp (ps_asg hv (pg_tup hcl (pgs_attrs ha hs2 ts) hl hst) hs hw h1) fun D σ H h => ?_
  obtain ⟨F, Hd, m, ρ, S, r, c0⟩ := h
  refine stepS r c0 fun F1 m1 v vv S1 H1 l1 p1 r1 e1 c1 => ?_
  split at c1
  · rename_i ds n hr
    split at c1
    · rename_i S2 hp
      split at c1
      · rename_i hld
        cases e1 with
        | @tup a vs _ t1 t2 =>
          have hrep : RepWs X.K F1 m1 (ds.map .d) vs := by
            exact dpa_rep t2
          have hlv : vs.length = ts.length := by
            have := Paired.length hrep
            rw [List.length_map] at this hld
            omega
          refine ⟨a, vs, rfl, Le.sqT r1.b.fr t1, hlv, ?_⟩
          exact gAttrs_imp hc (refAt_ok hr) hn r1 hrep hp fun F2 m2 H2 l2 p2 r2 => c1 F2 m2 σ H2 l2 p2 r2
      · exact c1.elim
    · exact c1.elim
  · exact c1.elim
end
/-! ### methods, new instances -/
section
variable {X : Cx} {Wc : WX} {k : Nat} {f fI : Addr} {fd : FuncData} {ps : List Str} {m : FM} {c x meth : Str} {p pos apos : Pos} {o e : Expr} {es : List Expr} {fr : FA} {fa : FE} {sp : Sp} {E : St → XK} {C : Addr} {ta : TE} {t : TA}
def tMethS (C : Addr) (meth : Str) (sp : Sp) (E : St → XK) (ta : TE) (t : TA) : TE := fun σ H Q => ta σ H fun x H1 => ∃ a dx fs, x = .ref a ∧ H1 a = some (.ins C dx fs) ∧ fs.lookup meth = none ∧ t σ H1 fun vs H2 => sp (x :: vs) H2 Q (E σ)
theorem pe_methS {pl : Sem Bool} (he : PE X o ta) (c : Cls X.K C) (hm : Meth X.K C meth f) (F : FnOk X.prog X.w X.K X.mg X.base (L2.CX X.prog X.w) k f fd ps sp) (hr : Room k X.A) (hb : Binds X.K fd ps []) (hx : ∀ σ, PassesAt (L2.CX X.prog X.w) X σ (E σ)) (ha : PA X (e :: es) t)
    (hst : starEach (e :: es) X.env = (false, eval e X.env) :: starEach es X.env := by rfl) (hpl : (backTo pos (starEach es X.env)).any (·.1) = false := by rfl)
    (ht : eval (.Call (.Attribute o meth apos) (e :: es) [] pos) X.env = (do
      let ov ← eval o X.env
      standAt apos.atName
      let (f, first) ← holding [ov] (getMethod ov meth pl)
      callWith pos f first (backTo pos (starEach (e :: es) X.env)) (backToKw pos (keywordEach [] X.env))) := by rfl) :
    PE X (.Call (.Attribute o meth apos) (e :: es) [] pos) (tMethS C meth sp E ta t) := by
  refine ⟨fun pins s σ H Q I h => ?_⟩
  refine PySem.W.methodCall_KW (pl := pl) (thn (he.run pins s σ H _ I h) fun u s1 ⟨x, H1, I1, rx, a, dx, fs, ex, ea, l, q⟩ => ?_) ht
  subst ex
  obtain rfl : u = Value.ref a := rx
  refine getmeth_ok I1 ea c hm l ?_
  refine PySem.W.callWith_K (first := [.ref a]) (h₀ := X.base) I.ok.mod.kin hm.kp (thn (ha.run pos pins s1 σ H1 _ I1 q) fun us s2 ⟨vs, H2, I2, r, q2⟩ => ⟨I2.kIn, ?_⟩) hst hpl
  exact run_fnS (us := .ref a :: us) (vs := .ref a :: vs) F hr hb (hx σ) I2 (.cons rfl r) q2
theorem pe_meth0S {pl : Sem Bool} (he : PE X o ta) (c : Cls X.K C) (hm : Meth X.K C meth f) (F : FnOk X.prog X.w X.K X.mg X.base (L2.CX X.prog X.w) k f fd ps sp) (hr : Room k X.A) (hb : Binds X.K fd ps []) (hx : ∀ σ, PassesAt (L2.CX X.prog X.w) X σ (E σ))
    (ht : eval (.Call (.Attribute o meth apos) [] [] pos) X.env = (do
      let ov ← eval o X.env
      standAt apos.atName
      let (f, first) ← holding [ov] (getMethod ov meth pl)
      callWith pos f first (backTo pos (starEach [] X.env)) (backToKw pos (keywordEach [] X.env))) := by rfl) :
    PE X (.Call (.Attribute o meth apos) [] [] pos) (tMethS C meth sp E ta tNil) := by
  refine ⟨fun pins s σ H Q I h => ?_⟩
  refine PySem.W.methodCall_KW (pl := pl) (thn (he.run pins s σ H _ I h) fun u s1 ⟨x, H1, I1, rx, a, dx, fs, ex, ea, l, q⟩ => ?_) ht
  subst ex
  obtain rfl : u = Value.ref a := rx
  refine getmeth_ok I1 ea c hm l ?_
  exact PySem.W.callWith_K0 (first := [.ref a]) I1.kIn hm.kp (run_fnS (us := [.ref a]) (vs := [.ref a]) F hr hb (hx σ) I1 (.cons rfl .nil) q)
def isMeth (c meth : Str) (x : W) (S : List Ob) : Bool := match insAt c x S with
  | some (_, fs) => (fldOf meth fs).isNone
  | none => false
def fMeth (c meth : Str) (m : FM) (fa : FE) (fr : FA) : FE := fun ρ S => (fa ρ S).bind fun x S1 => if isMeth c meth x S1 = true then (fr ρ S1).bind fun ws S2 => (m (x :: ws) S2).bind rvW else .bad
theorem meth_imp {n : Nat} (hl : LenN fr n) (hn : n + 1 = ps.length) {σ : St} {H : Hp} {Q : VK} (h : LE X Wc (fMeth c meth m fa fr) σ H Q) : tMethS (He.ga X.K c) meth (spOf X.K X.mg m ps.length) (WE Wc) (LE X Wc fa) (LA X Wc fr) σ H Q := by
  obtain ⟨F, D, μ, ρ, S, r, c0⟩ := h
  refine step r c0 fun F1 m1 x v S1 H1 l1 p1 r1 ex c1 => ?_
  split at c1
  · rename_i hi
    unfold isMeth at hi
    split at hi
    · rename_i n' fs hi2
      obtain ⟨a, dx, vs, rfl, rfl, ea, es, h1, q, hf⟩ := insAt_rep r1 hi2 ex
      refine ⟨a, dx, vs, rfl, h1, fld_none q (Option.isNone_iff_eq_none.mp hi), ?_⟩
      refine ⟨F1, D, m1, ρ, S1, r1, ?_⟩
      cases q1 : fr ρ S1 with
      | bad => rw [q1] at c1; exact c1.elim
      | err z S2 => rw [q1] at c1; exact c1
      | ok ws S2 =>
        rw [q1] at c1
        intro F2 m2 us H2 l2 p2 r2 e2
        refine sp_call (ws := .ref n' :: ws) ?_ r2 (.cons (RepW.mono l2 p2 ex) e2) (cont.mono l2 p2 (fun _ _ z => z) c1)
        rw [List.length_cons, ← Paired.length e2, hl _ _ _ _ q1, hn]
    · cases hi
  · exact c1.elim
theorem q_meth {n : Nat} (hc : Cls X.K (He.ga X.K c)) (hm : Meth X.K (He.ga X.K c) meth f) (F : FnQ X.prog X.w X.K X.mg X.base k f fd ps m) (hr : Room k X.A) (hb : Binds X.K fd ps []) (tk : Takes X Wc) (hl : LenN fr n) (hn : n + 1 = ps.length) (ho : PE X o (LE X Wc fa)) (ha : PA X (e :: es) (LA X Wc fr)) {pl : Sem Bool}
    (hst : starEach (e :: es) X.env = (false, eval e X.env) :: starEach es X.env := by rfl) (hpl : (backTo pos (starEach es X.env)).any (·.1) = false := by rfl)
    (ht : eval (.Call (.Attribute o meth apos) (e :: es) [] pos) X.env = (do
      let ov ← eval o X.env
      standAt apos.atName
      let (f, first) ← holding [ov] (getMethod ov meth pl)
      callWith pos f first (backTo pos (starEach (e :: es) X.env)) (backToKw pos (keywordEach [] X.env))) := by rfl) :
    PE X (.Call (.Attribute o meth apos) (e :: es) [] pos) (LE X Wc (fMeth c meth m fa fr)) :=
  PE.imp (pe_methS (E := WE Wc) ho hc hm F hr hb (fun σ => passAt tk σ) ha hst hpl ht) fun σ H Q h => meth_imp hl hn h
theorem q_meth0 (hc : Cls X.K (He.ga X.K c)) (hm : Meth X.K (He.ga X.K c) meth f) (F : FnQ X.prog X.w X.K X.mg X.base k f fd ps m) (hr : Room k X.A) (hb : Binds X.K fd ps []) (tk : Takes X Wc) (hn : 1 = ps.length) (ho : PE X o (LE X Wc fa)) {pl : Sem Bool}
    (ht : eval (.Call (.Attribute o meth apos) [] [] pos) X.env = (do
      let ov ← eval o X.env
      standAt apos.atName
      let (f, first) ← holding [ov] (getMethod ov meth pl)
      callWith pos f first (backTo pos (starEach [] X.env)) (backToKw pos (keywordEach [] X.env))) := by rfl) :
    PE X (.Call (.Attribute o meth apos) [] [] pos) (LE X Wc (fMeth c meth m fa fNil)) :=
  PE.imp (pe_meth0S (E := WE Wc) ho hc hm F hr hb (fun σ => passAt tk σ) ht) fun σ H Q h => by
  obtain ⟨F0, D, μ, ρ, S, r, c0⟩ := h
  refine step r c0 fun F1 m1 x v S1 H1 l1 p1 r1 ex c1 => ?_
  split at c1
  · rename_i hi
    unfold isMeth at hi
    split at hi
    · rename_i n' fs hi2
      obtain ⟨a, dx, vs, rfl, rfl, ea, es, h1, q, hf⟩ := insAt_rep r1 hi2 ex
      refine ⟨a, dx, vs, rfl, h1, fld_none q (Option.isNone_iff_eq_none.mp hi), ?_⟩
      exact sp_call (ws := [.ref n']) hn r1 (.cons ex .nil) c1
    · cases hi
  · exact c1.elim
/-- C(..) -/
def tMakeS (C : Addr) (sp : Sp) (E : St → XK) (t : TA) : TE := fun σ H Q => t σ H fun vs H1 => ∀ x dx, H1 x = none → H1 dx = none → dx ≠ x →
  sp (.ref x :: vs) (upd (upd H1 dx (.own x)) x (.ins C dx [])) (fun v H2 => v = .non ∧ Q (.ref x) H2) (E σ)
theorem run_makeS {pins : List (Addr × Obj)} {σ : St} {H : Hp} {s : Shared} {Q : VK} {us : List Value} {vs : List V} (M : Mk X.K C fI) (F : FnOk X.prog X.w X.K X.mg X.base (L2.CX X.prog X.w) k fI fd ps sp) (hr : Room (k + 1) X.A) (hb : Binds X.K fd ps [])
    (hx : PassesAt (L2.CX X.prog X.w) X σ (E σ)) (I : Inv X pins σ H s) (r : Vals vs us)
    (h : ∀ x dx, H x = none → H dx = none → dx ≠ x → sp (.ref x :: vs) (upd (upd H dx (.own x)) x (.ins C dx [])) (fun v H2 => v = .non ∧ Q (.ref x) H2) (E σ)) :
    wpAny (model X.prog X.w) X.A (call (.ref C) us) (EP X pins σ Q) X.xe s := by
  have hq := h (s.heap.objs.size + 1) s.heap.objs.size (I.hok.fresh (Nat.le_succ _)) (I.hok.fresh (Nat.le_refl _)) (Nat.ne_of_lt (Nat.lt_succ_self _))
  have I2 := Inv.made (C := C) I
  have r2 : Vals (V.ref (s.heap.objs.size + 1) :: vs) (Value.ref (s.heap.objs.size + 1) :: us) := .cons rfl r
  have hl : (Value.ref (s.heap.objs.size + 1) :: us).length = ps.length := by
    have e := r2.length
    rw [F.len _ _ _ _ hq] at e
    exact e.symm
  have b := hb _ (Value.ref (s.heap.objs.size + 1) :: us) I2.kIn (by rw [List.append_nil]; exact hl)
  rw [List.append_nil] at b
  refine wpAny_call (make_map (f := fI) I.kIn M.makes M.init (beq_iff_eq.mp M.fn) (codeAny_mono (F.run _ X.stack _ _ ⟨Value.ref (s.heap.objs.size + 1) :: us, []⟩ (Value.ref (s.heap.objs.size + 1) :: us) _ _ (E σ) (hr.make C us [])
    (I2.env0.make C us []) b r2 hq) fun r s' hq' => ?_))
  cases r with
  | error e => exact hx pins _ _ e s' I2 hq'
  | ok fl =>
    cases fl with
    | ret u =>
      obtain ⟨v, H', I3, rv, ev, q3⟩ := I2.after hq'
      subst ev
      exact ⟨rv, ⟨V.ref (s.heap.objs.size + 1), H', I3, rfl, q3⟩⟩
    | next => exact False.elim hq'
    | brk => exact False.elim hq'
    | cont => exact False.elim hq'
theorem pe_makeS (M : Mk X.K C fI) (F : FnOk X.prog X.w X.K X.mg X.base (L2.CX X.prog X.w) k fI fd ps sp) (hr : Room (k + 1) X.A) (hg : Gl X x) (hm : X.mg x = some (.ref C)) (hb : Binds X.K fd ps []) (hx : ∀ σ, PassesAt (L2.CX X.prog X.w) X σ (E σ))
    (ha : PA X (e :: es) t) (hdb : (x == ("__debug__" : Str)) = false := by decide) (he : starEach (e :: es) X.env = (false, eval e X.env) :: starEach es X.env := by rfl) (hpl : (backTo pos (starEach es X.env)).any (·.1) = false := by rfl) :
    PE X (.Call (.Name x p) (e :: es) [] pos) (tMakeS C sp E t) := by
  refine ⟨fun pins s σ H Q I h => ?_⟩
  refine wpAny_Call_Name_kw (ld_glob I hg hm ?_ hdb)
  refine PySem.W.callWith_K (h₀ := X.base) I.ok.mod.kin M.kp (thn (ha.run pos pins s σ H _ I h) fun us s1 ⟨vs, H1, I1, r, q⟩ => ⟨I1.kIn, ?_⟩) he hpl
  exact run_makeS M F hr hb (hx σ) I1 r q
def mkW (n : Nat) (x : Rv) (S : List Ob) : Res W := match x with
  | .w (.d .none) => .ok (.ref n) S
  | _ => .bad
def fMake (c : Str) (m : FM) (fr : FA) : FE := fun ρ S => (fr ρ S).bind fun ws S1 => (m (.ref S1.length :: ws) (S1 ++ [.ins c []])).bind (mkW S1.length)
theorem q_make {n : Nat} (M : Mk X.K (He.ga X.K c) fI) (F : FnQ X.prog X.w X.K X.mg X.base k fI fd ps m) (hr : Room (k + 1) X.A) (hg : Gl X x) (hm : X.mg x = some (.ref (He.ga X.K c))) (hb : Binds X.K fd ps []) (tk : Takes X Wc) (hl : LenN fr n) (hn : n + 1 = ps.length)
    (ha : PA X (e :: es) (LA X Wc fr)) (hdb : (x == ("__debug__" : Str)) = false := by decide) (he : starEach (e :: es) X.env = (false, eval e X.env) :: starEach es X.env := by rfl) (hpl : (backTo pos (starEach es X.env)).any (·.1) = false := by rfl) :
    PE X (.Call (.Name x p) (e :: es) [] pos) (LE X Wc (fMake c m fr)) := PE.imp (pe_makeS (E := WE Wc) M F hr hg hm hb (fun σ => passAt tk σ) ha hdb he hpl) fun σ H Q h => by
  obtain ⟨F0, Hd, μ, ρ, S, r, c0⟩ := h
  refine ⟨F0, Hd, μ, ρ, S, r, ?_⟩
  unfold fMake at c0
  cases q : fr ρ S with
  | bad => rw [q] at c0; exact c0.elim
  | err z S1 => rw [q] at c0; exact c0
  | ok ws S1 =>
    rw [q] at c0
    intro F1 m1 vs H1 l1 p1 r1 e1 x dx hx hdx hne
    have c1 : cont X.K X.mg Wc (repE X.K) F0 Hd μ ρ σ Q ((m (.ref S1.length :: ws) (S1 ++ [.ins c []])).bind (mkW S1.length)) := c0
    have r2 := r1.upd (o := .own x) (r1.new hdx)
    have hx2 : upd H1 dx (.own x) x = none := by rw [upd_ne (Ne.symm hne)]; exact hx
    have fx := r2.new hx2
    have r3 := r2.upd (o := .ins (He.ga X.K c) dx []) fx
    have r4 := r3.stoT (q := x) (o := .ins c []) upd_same ⟨dx, [], rfl, .nil⟩ rfl fx
    have pre : m1 <+: m1 ++ [x] := List.prefix_append m1 [x]
    have ex : RepW X.K F1 (m1 ++ [x]) (.ref S1.length) (.ref x) := ⟨x, by rw [← r1.b.len]; simp, rfl⟩
    refine ⟨by rw [List.length_cons, ← Paired.length e1, hl _ _ _ _ q, hn], F1, hide1 Hd _ ρ σ, m1 ++ [x], .ref S1.length :: ws, S1 ++ [.ins c []], r4.hideOwn, .cons ex (RepWs.mono Le.refl pre e1), ?_⟩
    cases q2 : m (.ref S1.length :: ws) (S1 ++ [.ins c []]) with
    | bad => rw [q2] at c1; exact c1
    | err z S2 => rw [q2] at c1; exact fun F2 m2 C H2 l p b hc => c1 F2 m2 C H2 (l1.trans l) ((p1.trans pre).trans p) (r4.unhideOwn l p b) hc
    | ok y S2 =>
      rw [q2] at c1
      cases y with
      | own o => exact c1.elim
      | w y =>
        cases y with
        | ref n => exact c1.elim
        | d d =>
          cases d with
          | none =>
            intro F2 m2 v H2 l p b ev
            refine ⟨by cases ev; rfl, ?_⟩
            exact c1 F2 m2 (.ref x) H2 (l1.trans l) ((p1.trans pre).trans p) (r4.unhideOwn l p b) (RepW.mono l p ex)
          | _ => exact c1.elim
end
/-- methods' derivations: a method by its class and name -/
abbrev FnM (K : PySem.W.Frag) (x qual : Str) (st : Stmt) (f : Addr) (fd : FuncData) : Prop := FunD K x qual (defArgs st) (defBody st) (defScope st) [] [] f fd
theorem FnM.toFun {K : PySem.W.Frag} {x qual : Str} {st : Stmt} {f : Addr} {fd : FuncData} (F : FnM K x qual st f fd) : Fun K x qual st f fd := by
  obtain ⟨oc, od, dV, kV, doc, pm, an, cdv, ct, osl, rfl, lk, hcd, hD, hK⟩ := F.ex
  rcases hD with ⟨_, rfl⟩ | ⟨e, _⟩
  · exact ⟨⟨oc, od, kV, doc, pm, an, cdv, ct, osl, rfl, lk, hcd⟩, F.kp⟩
  · exact absurd rfl e
def clsBody (s : Stmt) : List Stmt := match s with
  | .ClassDef _ _ _ b _ _ _ _ _ _ _ => b
  | _ => []
def methD (c m qual : Str) (st : Stmt) : He.DefD := ⟨(c, some m), m, qual, defArgs st, defBody st, defScope st, [], []⟩
def fcCls (x : Str) : FbT := fun K => (He.Fa.cls x).ok K
def fcNoat (x f : Str) : FbT := fun K => (He.Fa.noat x f).ok K
def fcMeth (x m : Str) : FbT := fun K => (He.Fa.meth x m).ok K
def fcMkr (x : Str) : FbT := fun K => (He.Fa.mkr x).ok K
section
variable {ρ : List Sl} {S : List Ob} {fa fb fv : FE} {fr : FA} {m : FM} {c f meth : Str} {x v : W} {n : Nat} {fs : List (Str × W)}
@[simp] theorem e_Fld : fFld c f fa ρ S = (fa ρ S).bind (fldW c f) := rfl
@[simp] theorem e_PutF : fPutF c f fv fa ρ S = fl (fv ρ S) ρ fun v S1 => fl (fa ρ S1) ρ fun x S2 => setF c f v x ρ S2 := rfl
@[simp] theorem e_Meth : fMeth c meth m fa fr ρ S = (fa ρ S).bind fun x S1 => if isMeth c meth x S1 = true then (fr ρ S1).bind fun ws S2 => (m (x :: ws) S2).bind rvW else .bad := rfl
@[simp] theorem e_Make : fMake c m fr ρ S = (fr ρ S).bind fun ws S1 => (m (.ref S1.length :: ws) (S1 ++ [.ins c []])).bind (mkW S1.length) := rfl
@[simp] theorem e_mkW : mkW n (.w (.d .none)) S = .ok (.ref n) S := rfl
theorem insAt_at (h : S[n]? = some (.ins c fs)) : insAt c (.ref n) S = some (n, fs) := by
  unfold insAt
  dsimp only
  rw [h]
  exact if_pos rfl
theorem e_fldW {w : W} (h : S[n]? = some (.ins c fs)) (hf : fldOf f fs = some w) : fldW c f (.ref n) S = .ok w S := by
  unfold fldW
  rw [insAt_at h]
  dsimp only
  rw [hf]
theorem e_setF (h : S[n]? = some (.ins c fs)) (hl : fs.length < 900) : setF c f v (.ref n) ρ S = .nx ρ (S.set n (.ins c (putFw f v fs))) := by
  unfold setF
  rw [insAt_at h]
  exact if_pos hl
theorem e_isMeth (h : S[n]? = some (.ins c fs)) (hf : fldOf meth fs = none) : isMeth c meth (.ref n) S = true := by
  unfold isMeth
  rw [insAt_at h]
  dsimp only
  rw [hf]
  rfl
end
end L2.Q
/-! Layer Q, part Z: dicts of the store whose keys are tuples of whole numbers, of such, ..; lists extended by tuples. -/
namespace L2.Q
open PySem PySem.Spec PyProof.Rows
/-! ### keys -/
mutual
theorem nhash_eq (w : World) : ∀ d : PyData, nkB d = true → nhash d = (nk d).hash w
  | .int i, _ => rfl
  | .tuple ds, h => by
    show reduceHash (Builtin.Tuple.tupleHashOf (nhashes ds)) = reduceHash (Builtin.Tuple.tupleHashOf (NestedKey.hashes w (nks ds)))
    rw [nhashes_eq w ds h]
  | .none, h => by cases h
  | .bool _, h => by cases h
  | .str _, h => by cases h
  | .list _, h => by cases h
  | .dict _, h => by cases h
theorem nhashes_eq (w : World) : ∀ ds : List PyData, nkBs ds = true → nhashes ds = NestedKey.hashes w (nks ds)
  | [], _ => rfl
  | d :: r, h => by
    have h : (nkB d && nkBs r) = true := h
    rw [Bool.and_eq_true] at h
    show nhash d :: nhashes r = (nk d).hash w :: NestedKey.hashes w (nks r)
    rw [nhash_eq w d h.1, nhashes_eq w r h.2]
end
mutual
theorem nest_of {X : Cx} {pins : List (Addr × Obj)} {σ : St} {H : Hp} {s : Shared} (I : Inv X pins σ H s) : ∀ (d : PyData) (v : V) (u : Value), nkB d = true → Dp X.K H v d → RelV v u → NestedIs s.heap (nk d) u
  | .int i, v, u, _, hd, hr => by
    cases hd
    obtain ⟨t, rfl⟩ := hr
    exact .int i t
  | .tuple ds, v, u, h, hd, hr => by
    cases hd with
    | @tup a vs _ hs ha =>
      obtain rfl : u = .ref a := hr
      obtain ⟨its, rv, ⟨o, ho, hc, n, hdat⟩, hz⟩ := I.tuple hs
      exact .tup ho hc hdat (by simpa using nests_of I ds vs its h ha rv)
  | .none, _, _, h, _, _ => by cases h
  | .bool _, _, _, h, _, _ => by cases h
  | .str _, _, _, h, _, _ => by cases h
  | .list _, _, _, h, _, _ => by cases h
  | .dict _, _, _, h, _, _ => by cases h
theorem nests_of {X : Cx} {pins : List (Addr × Obj)} {σ : St} {H : Hp} {s : Shared} (I : Inv X pins σ H s) : ∀ (ds : List PyData) (vs : List V) (us : List Value), nkBs ds = true → DpAll X.K H vs ds → Vals vs us → NestedAll s.heap (nks ds) us
  | [], _, _, _, hd, hr => by
    cases hd
    cases hr
    exact .nil
  | d :: r, _, _, h, hd, hr => by
    have h : (nkB d && nkBs r) = true := h
    rw [Bool.and_eq_true] at h
    cases hd with
    | cons h1 h2 =>
      cases hr with
      | cons r1 r2 => exact .cons (nest_of I d _ _ h.1 h1 r1) (nests_of I r _ _ h.2 h2 r2)
end
/-- at b stands the key k -/
def KeyAt (K : PySem.W.Frag) (H : Hp) (k : NestedKey) (b : Addr) : Prop := ∃ d, keyB d = true ∧ nk d = k ∧ Dp K H (.ref b) d
theorem keyB_ok {d : PyData} (h : keyB d = true) : nkB d = true ∧ (nk d).depth ≤ 8 := by
  cases d with
  | tuple ds =>
    have h : (nkBs ds && decide ((NestedKey.tup (nks ds)).depth ≤ 8)) = true := h
    rw [Bool.and_eq_true, decide_eq_true_eq] at h
    exact h
  | _ => cases h
theorem KeyAt.is {X : Cx} {pins : List (Addr × Obj)} {σ : St} {H : Hp} {s : Shared} {k : NestedKey} {b : Addr} (I : Inv X pins σ H s) (h : KeyAt X.K H k b) : (nestedKind X.prog X.w).is s.heap k b := by
  obtain ⟨d, h1, rfl, h2⟩ := h
  obtain ⟨h3, h4⟩ := keyB_ok h1
  exact ⟨nest_of I d _ _ h3 h2 rfl, h4⟩
/-! ### such a dict in the abstract heap -/
section
variable {X : Cx} {pins : List (Addr × Obj)} {σ : St} {H : Hp} {s : Shared} {a : Addr} {xs : List (NestedKey × Addr × Value)} {es : Array DictEntry} {ep : Nat}
theorem dnO_ok {P : Program} {w : World} {h : Heap} (hd : (a == sysModules) = false) {o : Obj} (e : h.get? a = some o) (hx : o.ExactDict) (hdat : o.data = .dict es ep) : ObjOk P w H h a (DnO a es ep) :=
  ⟨⟨hd, o, e, hx, hdat⟩, ⟨o, e⟩, fun h1 h2 ⟨k1, o1, k2, k3, k4⟩ k => ⟨k1, o1, k o1 k2, k3, k4⟩⟩
structure DnAt (X : Cx) (H : Hp) (a : Addr) (xs : List (NestedKey × Addr × Value)) (es : Array DictEntry) (ep : Nat) : Prop where
  at_ : H a = some (DnO a es ep)
  es : es.toList = xs.map (entryOfKey (nestedKind X.prog X.w))
  keys : ∀ x ∈ xs, KeyAt X.K H x.1 x.2.1
  nd : (xs.map (·.1)).Nodup
theorem DnAt.dict (I : Inv X pins σ H s) (h : DnAt X H a xs es ep) : (a == sysModules) = false ∧ s.heap.DictOfH (nestedKind X.prog X.w) a xs := by
  obtain ⟨⟨hd, o, ho, hx, hdat⟩, _, _⟩ := I.hok a _ h.at_
  exact ⟨hd, o, es, ep, ho, hx, hdat, h.es, fun x hx => (h.keys x hx).is I, h.nd⟩
theorem DnAt.raw (I : Inv X pins σ H s) (h : H a = some (DnO a es ep)) : (a == sysModules) = false ∧ s.heap.DictRaw a es ep := by
  obtain ⟨⟨hd, o, ho, hx, hdat⟩, _, _⟩ := I.hok a _ h
  exact ⟨hd, o, ho, hx, hdat⟩
/-- an entry of the reading and one of the dict -/
def EnX (K : PySem.W.Frag) (Fr : Hp) (μ : List Addr) (p : PyData × W) (x : NestedKey × Addr × Value) : Prop := keyB p.1 = true ∧ x.1 = nk p.1 ∧ Dp K Fr (.ref x.2.1) p.1 ∧ ∃ v, RepW K Fr μ p.2 v ∧ RelV v x.2.2
theorem xs_of {K : PySem.W.Frag} {Fr : Hp} {μ : List Addr} (P : Program) (w : World) : ∀ {kvs : List (PyData × W)} {el : List DictEntry}, Paired (RepEn K Fr μ) kvs el → ∃ xs, el = xs.map (entryOfKey (nestedKind P w)) ∧ Paired (EnX K Fr μ) kvs xs
  | _, _, .nil => ⟨[], rfl, .nil⟩
  | _, _, .cons (a := p) (b := e) r t => by
    obtain ⟨xs, h1, h2⟩ := xs_of P w t
    obtain ⟨hk, b, v, e1, e2, e3, e4, e5⟩ := r
    refine ⟨(nk p.1, b, e.val) :: xs, ?_, .cons ⟨hk, rfl, e3, v, e4, e5⟩ h2⟩
    rw [List.map_cons, h1]
    congr 1
    obtain ⟨eh, ek, ev⟩ := e
    dsimp only at e1 e2 ⊢
    subst e1 e2
    unfold entryOfKey
    rw [nhash_eq w p.1 (keyB_ok hk).1]
    rfl
theorem en_of {K : PySem.W.Frag} {Fr : Hp} {μ : List Addr} (P : Program) (w : World) : ∀ {kvs : List (PyData × W)} {xs : List (NestedKey × Addr × Value)}, Paired (EnX K Fr μ) kvs xs → Paired (RepEn K Fr μ) kvs (xs.map (entryOfKey (nestedKind P w)))
  | _, _, .nil => .nil
  | _, _, .cons (a := p) (b := x) r t => by
    obtain ⟨hk, e1, e2, v, e3, e4⟩ := r
    refine .cons ⟨hk, x.2.1, v, rfl, ?_, e2, e3, e4⟩ (en_of P w t)
    show (nestedKind P w).hash x.1 = nhash p.1
    rw [e1]
    exact (nhash_eq w p.1 (keyB_ok hk).1).symm
theorem keys_of {K : PySem.W.Frag} {Fr : Hp} {μ : List Addr} : ∀ {kvs : List (PyData × W)} {xs : List (NestedKey × Addr × Value)}, Paired (EnX K Fr μ) kvs xs → xs.map (·.1) = kvs.map fun p => nk p.1
  | _, _, .nil => rfl
  | _, _, .cons r t => by rw [List.map_cons, List.map_cons, keys_of t, r.2.1]
theorem keysAt_of {K : PySem.W.Frag} {Fr : Hp} {μ : List Addr} (l : Le Fr H) : ∀ {kvs : List (PyData × W)} {xs : List (NestedKey × Addr × Value)}, Paired (EnX K Fr μ) kvs xs → ∀ x ∈ xs, KeyAt K H x.1 x.2.1
  | _, _, .nil, x, hx => by cases hx
  | _, _, .cons (a := p) (b := y) r t, x, hx => by
    rcases List.mem_cons.mp hx with rfl | hx
    · exact ⟨p.1, r.1, r.2.1.symm, Le.dp l _ _ r.2.2.1⟩
    · exact keysAt_of l t x hx
theorem repN_at {Fr : Hp} {μ : List Addr} {kvs : List (PyData × W)} {o : HO} (l : Le Fr H) (ha : H a = some o) (h : RepN X.K Fr μ a kvs o) : ∃ xs es ep, o = DnO a es ep ∧ DnAt X H a xs es ep ∧ Paired (EnX X.K Fr μ) kvs xs := by
  obtain ⟨es, ep, rfl, n, p⟩ := h
  obtain ⟨xs, h1, h2⟩ := xs_of X.prog X.w p
  exact ⟨xs, es, ep, rfl, ⟨ha, h1, keysAt_of l h2, by rw [keys_of h2]; exact n⟩, h2⟩
theorem at_repN {Fr : Hp} {μ : List Addr} {kvs : List (PyData × W)} (P : Program) (w : World) (h : Paired (EnX X.K Fr μ) kvs xs) (n : (xs.map (·.1)).Nodup) (he : es.toList = xs.map (entryOfKey (nestedKind P w))) : RepN X.K Fr μ a kvs (DnO a es ep) :=
  ⟨es, ep, rfl, by rw [← keys_of h]; exact n, by rw [he]; exact en_of P w h⟩
/-- an empty dict is such a dict, too -/
theorem empty_dn (I : Inv X pins σ H s) (e : H a = some (.dK [])) : (a == sysModules) = false ∧ s.heap.DictOfH (nestedKind X.prog X.w) a [] := by
  obtain ⟨z, hd, vs, rel, dd⟩ := dk_of I.hok e
  cases rel
  obtain ⟨o, es, ep, ho, hx, hdat, hk, hp, hn⟩ := dd
  refine ⟨hd, o, es, ep, ho, hx, hdat, ?_, fun x hx => (by cases hx), List.nodup_nil⟩
  have := hp.length
  simpa using this
end
/-! ### d[k] = v -/
def putN (kvs : List (PyData × W)) (k : PyData) (v : W) : List (PyData × W) :=
  if (kvs.any fun p => decide (nk p.1 = nk k)) = true then kvs.map fun p => if nk p.1 = nk k then (p.1, v) else p else kvs ++ [(k, v)]
section
variable {K : PySem.W.Frag} {Fr : Hp} {μ : List Addr}
theorem any_x {k : NestedKey} : ∀ {kvs : List (PyData × W)} {xs : List (NestedKey × Addr × Value)}, Paired (EnX K Fr μ) kvs xs → (kvs.any fun p => decide (nk p.1 = k)) = (atKey xs k).isSome
  | _, _, .nil => rfl
  | _, _, .cons (a := p) (b := x) r t => by
    have ih := any_x (k := k) t
    unfold atKey at ih ⊢
    rw [List.any_cons, List.find?_cons, ih, ← r.2.1]
    by_cases h : x.1 = k
    · rw [decide_eq_true h]; rfl
    · rw [decide_eq_false h]; rfl
theorem map_x {k : NestedKey} {w : W} {v : V} {u : Value} (hw : RepW K Fr μ w v) (hv : RelV v u) : ∀ {kvs : List (PyData × W)} {xs : List (NestedKey × Addr × Value)}, Paired (EnX K Fr μ) kvs xs →
    Paired (EnX K Fr μ) (kvs.map fun p => if nk p.1 = k then (p.1, w) else p) (xs.map (putAt k u))
  | _, _, .nil => .nil
  | _, _, .cons (a := p) (b := x) r t => by
    refine .cons ?_ (map_x hw hv t)
    obtain ⟨h1, h2, h3, h4⟩ := r
    unfold putAt
    dsimp only
    by_cases h : nk p.1 = k
    · rw [if_pos h, if_pos (h2.trans h)]; exact ⟨h1, h2, h3, v, hw, hv⟩
    · rw [if_neg h, if_neg (by rw [h2]; exact h)]; exact ⟨h1, h2, h3, h4⟩
theorem put_x {kd : PyData} {b : Addr} {w : W} {v : V} {u : Value} (hk : keyB kd = true) (hb : Dp K Fr (.ref b) kd) (hw : RepW K Fr μ w v) (hv : RelV v u) {kvs : List (PyData × W)} {xs : List (NestedKey × Addr × Value)} (h : Paired (EnX K Fr μ) kvs xs) :
    Paired (EnX K Fr μ) (putN kvs kd w) (storedH xs (nk kd) b u) := by
  unfold putN storedH
  rw [any_x h]
  split
  · exact map_x hw hv h
  · exact paired_app h (.cons ⟨hk, rfl, hb, v, hw, hv⟩ .nil)
end
section
variable {X : Cx} {Wc : WX} {o i e value : Expr} {td ty tv : TE} {fa fb fv : FE} {pos pos' apos cpos p : Pos}
def sNPut (X : Cx) (td ty tv : TE) : TS := fun D σ H => tv σ H fun v H1 => td σ H1 fun x H2 => ty σ H2 fun y H3 => ∃ a b k xs, x = .ref a ∧ y = .ref b ∧ KeyAt X.K H3 k b ∧ xs.length < sizeLine ∧ ((∃ es ep, DnAt X H3 a xs es ep) ∨ (H3 a = some (.dK []) ∧ xs = [])) ∧
  ∀ u es' ep', RelV v u → es'.toList = (storedH xs k b u).map (entryOfKey (nestedKind X.prog X.w)) → ((storedH xs k b u).map (·.1)).Nodup → D.nx σ (upd H3 a (DnO a es' ep'))
theorem ps_nput (hu : X.A.units + 16 < cLine) (ho : PE X o td) (hi : PE X i ty) (hv : PE X value tv) (hs : swapsWith value (some (.Subscript o i pos')) pos.line X.env = pure false) : PS X (.Assign [.Subscript o i pos'] value pos) (sNPut X td ty tv) := by
  refine ⟨fun pins s σ H D I h => ?_⟩
  refine wpAny_Assign_Subscript (thn (hv.run pins s σ H _ I h) fun r s1 ⟨v, H1, I1, rv, q1⟩ => thn (ho.run pins s1 σ H1 _ I1 q1) fun u s2 ⟨x, H2, I2, rx, q2⟩ => thn (hi.run pins s2 σ H2 _ I2 q2) fun iv s3 ⟨y, H3, I3, ry, a, b, k, xs, ex, ey, hk, hl, g, q3⟩ => ?_) hs
  subst ex ey
  obtain rfl : u = Value.ref a := rx
  obtain rfl : iv = Value.ref b := ry
  have hr : (nestedKind X.prog X.w).room X.A.in1 := by show X.A.units + 1 + 8 < cLine; omega
  have dd : (a == sysModules) = false ∧ s3.heap.DictOfH (nestedKind X.prog X.w) a xs ∧ Mut (H3 a) := by
    rcases g with ⟨es, ep, g⟩ | ⟨g, rfl⟩
    · obtain ⟨h1, h2⟩ := g.dict I3
      exact ⟨h1, h2, by rw [g.at_]; exact True.intro⟩
    · obtain ⟨h1, h2⟩ := empty_dn I3 g
      exact ⟨h1, h2, by rw [g]; exact True.intro⟩
  obtain ⟨hd, hm, mu⟩ := dd
  refine wpAny_setItem_heap (hsz := Nat.le_of_lt hl) hr (hk.is I3) hm fun h' dd' hs' => ?_
  obtain ⟨q, es, ep, hq, h2, h3, h4, _, h5⟩ := dd'
  exact ⟨σ, _, d_write I3 mu hs' ⟨q, hq⟩ (dnO_ok hd hq h2 h3), q3 r es ep rv h4 h5⟩
def ndAt (n : Nat) (S : List Ob) : Option (List (PyData × W)) := match S[n]? with
  | some (.dcn false kvs) => some kvs
  | some (.dct []) => some []
  | _ => none
def putNS (v x y : W) (ρ : List Sl) (S : List Ob) : Fl := match x, y with
  | .ref n, .d k => (match ndAt n S with
    | some kvs => if keyB k = true ∧ kvs.length < 16777216 then .nx ρ (S.set n (.dcn false (putN kvs k v))) else .bad
    | none => .bad)
  | _, _ => .bad
def fNput (fv fx fy : FE) : FT := fun ρ S => fl (fv ρ S) ρ fun v S1 => fl (fx ρ S1) ρ fun x S2 => fl (fy ρ S2) ρ fun y S3 => putNS v x y ρ S3
theorem nd_rep {Fr Hd : Hp} {μ : List Addr} {ρ : List Sl} {S : List Ob} {σ : St} {H : Hp} (r : R X.K Fr Hd μ ρ S σ H) {n : Nat} {a : Addr} {kvs : List (PyData × W)} (ea : μ[n]? = some a) (h : ndAt n S = some kvs) :
    Fr a = none ∧ ∃ xs, Paired (EnX X.K Fr μ) kvs xs ∧ ((∃ es ep, DnAt X H a xs es ep) ∨ (H a = some (.dK []) ∧ xs = [])) := by
  unfold ndAt at h
  split at h
  · rename_i kvs' es
    cases h
    obtain ⟨ho, h1, h2, hf, _⟩ := r.b.st n a _ ea es
    obtain ⟨xs, es, ep, rfl, h3, h4⟩ := repN_at (X := X) r.b.fr h1 h2
    exact ⟨hf, xs, h4, .inl ⟨es, ep, h3⟩⟩
  · rename_i es
    cases h
    obtain ⟨ho, h1, ⟨vs, rfl, q⟩, hf, _⟩ := r.b.st n a _ ea es
    cases q
    exact ⟨hf, [], .nil, .inr ⟨h1, rfl⟩⟩
  · cases h
theorem s_nput (hu : X.A.units + 16 < cLine) (ho : PE X o (LE X Wc fa)) (hk : PE X e (LE X Wc fb)) (hv : PE X value (LE X Wc fv)) (hs : swapsWith value (some (.Subscript o e pos')) pos.line X.env = pure false := by rfl) :
    PS X (.Assign [.Subscript o e pos'] value pos) (LS X Wc (fNput fv fa fb)) := PS.imp (ps_nput hu ho hk hv hs) fun D σ H h => by
  obtain ⟨F, Hd, m, ρ, S, r, c⟩ := h
  refine stepS r c fun F1 m1 v vv S1 H1 l1 p1 r1 e1 c1 => ?_
  refine stepS r1 c1 fun F2 m2 x w S2 H2 l2 p2 r2 e2 c2 => ?_
  refine stepS r2 c2 fun F3 m3 y u S3 H3 l3 p3 r3 e3 c3 => ?_
  unfold putNS at c3
  split at c3
  · rename_i n k
    obtain ⟨a, ea, rfl⟩ := RepW.mono l3 p3 e2
    split at c3
    · rename_i kvs hn
      split at c3
      · rename_i hh
        obtain ⟨hf, xs, px, g⟩ := nd_rep r3 ea hn
        have e3 : Dp X.K F3 u k := e3
        have hl := Paired.length px
        obtain ⟨b, rfl⟩ : ∃ b, u = .ref b := by
          cases k with
          | tuple ds => cases e3 with | @tup b _ _ _ _ => exact ⟨b, rfl⟩
          | _ => exact absurd hh.1 Bool.false_ne_true
        refine ⟨a, b, nk k, xs, rfl, rfl, ⟨k, hh.1, rfl, Le.dp r3.b.fr _ _ e3⟩, by rw [sizeLine_eq]; omega, g, fun u es' ep' ru he hn => ?_⟩
        have pw := put_x hh.1 e3 (RepW.mono (l2.trans l3) (List.IsPrefix.trans p2 p3) e1) ru px
        exact c3 F3 m3 σ _ Le.refl (List.prefix_refl m3) (r3.putT (o := .dcn false (putN kvs k v)) ea hf (at_repN (ep := ep') X.prog X.w pw hn he) rfl)
      · exact c3.elim
    · exact c3.elim
  · exact c3.elim
/-! ### len(d) -/
def rLenN (X : Cx) : List V → Hp → VK → Prop := fun xs H Q => ∃ a, xs = [.ref a] ∧ ((∃ ys es ep, DnAt X H a ys es ep ∧ ys.length ≤ sizeLine ∧ Q (.int ((ys.length : Nat) : Int)) H) ∨ ∃ kvs, Rd H a (.dK kvs) ∧ Q (.int ((kvs.length : Nat) : Int)) H)
theorem cr_lenN : CallR X (.builtin "len") (rLenN X) := by
  intro pins s σ H xs us Q I r h
  obtain ⟨a, rfl, h⟩ := h
  obtain ⟨u, rfl, rx⟩ := vals1 r
  obtain rfl : u = .ref a := rx
  rcases h with ⟨ys, es, ep, g, hl, q⟩ | ⟨kvs, g, q⟩
  · obtain ⟨hd, hm⟩ := g.dict I
    refine call_len_dictH hd hm (by rw [sizeLine_eq] at hl; omega) ?_
    exact ⟨.int ((ys.length : Nat) : Int), H, I.tok _, ⟨_, rfl⟩, q⟩
  · exact d_len I g fun t s' I' => ⟨.int ((kvs.length : Nat) : Int), H, I', ⟨_, rfl⟩, q⟩
def lenN (x : W) (S : List Ob) : Res W := match x with
  | .ref n => (match S[n]? with
    | some (.dcn _ kvs) => if kvs.length ≤ 16777216 then .ok (.d (.int ((kvs.length : Nat) : Int))) S else .bad
    | some (.dct kvs) => .ok (.d (.int ((kvs.length : Nat) : Int))) S
    | _ => .bad)
  | _ => .bad
def fLenN (fa : FE) : FE := fun ρ S => (fa ρ S).bind lenN
theorem q_lenN (hg : Gl X "len") (hm : X.mg "len" = none) (h : PE X e (LE X Wc fa)) (hs : starEach [e] X.env = (false, eval e X.env) :: starEach [] X.env := by rfl) (hpl : (backTo pos (starEach [] X.env)).any (·.1) = false := by rfl) : PE X (.Call (.Name "len" p) [e] [] pos) (LE X Wc (fLenN fa)) :=
  PE.imp (pe_callB cr_lenN hg hm PySem.boot_len (pa_cons h pa_nil hs) (he := hs) (hpl := hpl)) fun σ H Q h => by
  obtain ⟨F, D, m, ρ, S, r0, c⟩ := h
  refine step r0 c fun F1 m1 x v S1 H1 l1 p1 r1 e1 c1 => ?_
  cases x with
  | d x => exact c1.elim
  | ref n =>
    obtain ⟨a, ea, rfl⟩ := e1
    unfold lenN at c1
    dsimp only at c1
    refine ⟨a, rfl, ?_⟩
    split at c1
    · rename_i fz kvs es
      split at c1
      · rename_i hl
        obtain ⟨ho, h1, h2, _⟩ := r1.b.st n a _ ea es
        obtain ⟨xs, es, ep, rfl, h3, h4⟩ := repN_at (X := X) r1.b.fr h1 h2
        refine .inl ⟨xs, es, ep, h3, by rw [← Paired.length h4, sizeLine_eq]; exact hl, ?_⟩
        rw [← Paired.length h4]
        exact rt r1 c1 (Dp.int _)
      · exact c1.elim
    · rename_i kvs es
      obtain ⟨ho, h1, ⟨vs, rfl, q⟩, _⟩ := r1.b.st n a _ ea es
      refine .inr ⟨vs, .inl h1, ?_⟩
      rw [← Paired.length q]
      exact rt r1 c1 (Dp.int _)
    · exact c1.elim
/-! ### d.items() -/
/-- the pairs of the dict at d, each a new tuple -/
def ItN (d : Addr) (es : Array DictEntry) (ep : Nat) (vs : List (V × V)) : It :=
  ⟨fun i H => H d = some (DnO d es ep) ∧ i < vs.length, fun i H x H' => ∃ T k v, vs[i]? = some (k, v) ∧ x = .ref T ∧ H T = none ∧ H' = upd H T (.tup [k, v]), fun i H => H d = some (DnO d es ep) ∧ vs.length ≤ i⟩
def PrV (vs : List (V × V)) (es : Array DictEntry) : Prop := Paired (fun (p : V × V) (e : DictEntry) => RelV p.1 e.key ∧ RelV p.2 e.val) vs es.toList
theorem turn_itemsN {P : Program} {w : World} {K : PySem.W.Frag} {d : Addr} {es : Array DictEntry} {ep : Nat} {vs : List (V × V)} {elts : List Expr} {kk : Nat} {tpos : Pos} (it : Addr) (pr : PrV vs es) :
    Turn P w K (.Tuple elts kk tpos) (ItN d es ep vs) [it] it (fun i h => ∃ ok ov, IsItemIter h it d i es.size ep ok ov) where
  mem := by simp
  obj := fun i h st b hb => by
    have e : b = it := by simpa using hb
    subst e
    obtain ⟨ok, ov, e⟩ := st
    exact ⟨_, e, fun v z => nomatch z⟩
  keep := fun i h h' st k => let ⟨ok, ov, e⟩ := st; ⟨ok, ov, k it (by simp) _ e⟩
  item := by
    intro X hP hw hK hc i pins s σ H E I hf st hg
    subst hP hw hK
    obtain ⟨hd, hi⟩ := hg
    obtain ⟨hs, hm⟩ := DnAt.raw I hd
    have hl : vs.length = es.size := by rw [← Array.length_toList]; exact Paired.length pr
    have hi2 : i < es.size := by omega
    obtain ⟨⟨k, v⟩, hkv⟩ : ∃ p, vs[i]? = some p := ⟨vs[i], List.getElem?_eq_getElem hi⟩
    obtain ⟨en, hu, ru⟩ := L2.paired_get pr hkv
    have hen : en = es[i] := by
      rw [Array.getElem?_toList, Array.getElem?_eq_getElem hi2] at hu
      exact (Option.some.inj hu).symm
    subst hen
    obtain ⟨ok, ov, he⟩ := st
    have hlt : it < s.heap.objs.size := Heap.lt_size he
    refine wpAny_pyNext_items_item_raw he hm hi2 fun h' ho hT hz hk => ?_
    refine ⟨_, rfl, wpAny_letOwnedTupleGo_items (s := { s with heap := h' }) ho fun h'' he' sb => ?_⟩
    have hT2 : h''.get? s.heap.objs.size = some { cls := .type "tuple", data := .seq #[es[i].key, es[i].val] } := (sb.2 _ (Nat.ne_of_gt hlt)).trans hT
    have new : ObjOk X.prog X.w (upd H s.heap.objs.size (.tup [k, v])) h'' s.heap.objs.size (.tup [k, v]) :=
      ⟨by show 2 ≤ sizeLine; decide, [es[i].key, es[i].val], .cons ru.1 (.cons ru.2 .nil), ⟨_, hT2, rfl, _, rfl⟩⟩
    have I1 : Inv X pins σ (upd H s.heap.objs.size (.tup [k, v])) { s with heap := h'' } :=
      I.turnedNew (t' := s.toks) (ch := [it]) (fun b ob hb e => (sb.2 b (by simpa using hb)).trans (hk b ob (by simpa using hb) e)) hf (Nat.le_refl _) new
    refine ⟨.ref s.heap.objs.size, _, I1, rfl, ⟨_, k, v, hkv, rfl, I.hok.fresh (Nat.le_refl _), rfl⟩, ⟨_, _, he'⟩, fun b hb => ?_⟩
    have e : b = it := by simpa using hb
    rw [e, upd_ne (Nat.ne_of_lt hlt)]
    exact (hf it (by simp)).1
  done := by
    intro X hP hw hK hc i pins s σ H E I hf st hg
    subst hP hw hK
    obtain ⟨hd, hi⟩ := hg
    obtain ⟨f0, f1, f2, f3, f4, f5⟩ := hf it (by simp)
    obtain ⟨hs, hm⟩ := DnAt.raw I hd
    have hl : vs.length = es.size := by rw [← Array.length_toList]; exact Paired.length pr
    obtain ⟨ok, ov, he⟩ := st
    exact wpAny_pyNext_items_end_raw (I.ok.hd hc) he hm (by omega) fun h' eb => ⟨rfl, I.turned (t' := s.toks) (fun b ob hb e => eb b ob hb e) f0 f1 f3 f4 f5⟩
  self := fun A i s Q E st h => let ⟨_, _, e⟩ := st; PySem.W.kcp_self e h
/-- the empty dict is looked at as one whose keys are tuples -/
def iItemsN (td : TE) : TI := fun σ H R => td σ H fun x H1 => ∃ d, x = .ref d ∧ ((∃ es ep vs, H1 d = some (DnO d es ep) ∧ PrV vs es ∧ R (ItN d es ep vs) H1) ∨ (H1 d = some (.dK []) ∧ ∀ ep, R (ItN d #[] ep []) (upd H1 d (DnO d #[] ep))))
theorem pi_itemsN {elts : List Expr} {kk : Nat} {tpos : Pos} (he : PE X e td) (hbase : attributeBase e "items" X.env (eval e X.env) = eval e X.env := by rfl) (hline : (apos.endLine == cpos.line) = true := by rfl) :
    PI X (.Tuple elts kk tpos) (.Call (.Attribute e "items" apos) [] [] cpos) (iItemsN td) := by
  refine ⟨fun pins s σ H R I h => ?_⟩
  refine wpAny_Call_method (T := "dict") (id := "dict.items") hbase rfl hline F.plainAttrs_dict F.slot_dict_items F.type_dict_items (thn (he.run pins s σ H _ I h) fun u s1 ⟨x, H1, I1, rx, d, ex, q⟩ => ?_)
  subst ex
  obtain rfl : u = Value.ref d := rx
  have q : ∃ es ep vs H2, Inv X pins σ H2 s1 ∧ H2 d = some (DnO d es ep) ∧ PrV vs es ∧ R (ItN d es ep vs) H2 := by
    rcases q with ⟨es, ep, vs, h1, h2, h3⟩ | ⟨h1, h2⟩
    · exact ⟨es, ep, vs, H1, I1, h1, h2, h3⟩
    · obtain ⟨hs, hm⟩ := empty_dn I1 h1
      obtain ⟨o, es, ep, ho, hx, hdat, he, _⟩ := hm
      have he : es = #[] := Array.toList_inj.mp he
      subst he
      refine ⟨#[], ep, [], _, ?_, upd_same, .nil, h2 ep⟩
      exact I1.write (x := d) (e := d) (o := DnO d #[] ep) (h' := s1.heap) (t' := s1.toks) (by rw [h1]; exact True.intro) (.inl rfl) (fun b u _ z => z) ⟨o, ho⟩ (dnO_ok hs ho hx hdat)
  obtain ⟨es, ep, vs, H2, I2, hd, pr, q⟩ := q
  obtain ⟨hs, hm⟩ := DnAt.raw I2 hd
  refine ⟨hm.typeIs, (fun a e => by
    obtain ⟨o, ho, hx, _⟩ := hm
    cases e
    exact ⟨o, ho, hx.2.1⟩), ?_⟩
  have I3 : Inv X pins σ H2 { s1 with heap := s1.heap.push { cls := .type "dict_items", data := .fields #[.ref d] } } := I2.kept (t' := s1.toks) fun b ob q => Heap.get?_push_of_some _ q
  have fin : wpAny (model X.prog X.w) X.A (pyIter (.ref s1.heap.objs.size)) (PIE X pins σ (.Tuple elts kk tpos) R) X.xe { s1 with heap := s1.heap.push { cls := .type "dict_items", data := .fields #[.ref d] } } := by
    refine wpAny_pyIter_items_raw (d := d) ⟨_, Heap.get?_push_size _ rfl, rfl, rfl⟩ (hm.at fun o e => Heap.get?_push_of_some _ e) (pi_one (tk := s1.toks) I3 _ (turn_itemsN _ pr) ⟨.none, .none, ?_⟩ q)
    exact Heap.get?_push_size _ rfl
  show wpAny _ _ (callWith cpos (.builtin "dict.items") [.ref d] [] []) _ X.xe s1
  exact method_meetsIn F.slot_dict_items F.entry_dict_items rfl (PySem.evalArgs_none ⟨rfl, hm.typeIs, F.args_dict_items_1 _, _, meets_dict_items_raw d hs, ⟨es, ep, hm⟩, fin⟩)
/-- an object of the store no longer changes -/
theorem R.frzAt {Fr Hd : Hp} {μ : List Addr} {ρ : List Sl} {S : List Ob} {σ : St} {H : Hp} {n : Nat} {a : Addr} {o : Ob} {ho : HO} (r : R X.K Fr Hd μ ρ S σ H) (ea : μ[n]? = some a) (hf : Fr a = none) (h : H a = some ho) (eT : RepT X.K Fr μ a o ho) (eN : frO o ho = some ho) : R X.K (L2.upd Fr a ho) Hd μ ρ (S.set n o) σ H := by
  have le : Le Fr (L2.upd Fr a ho) := Le.upd hf
  have ha : a ∈ μ := List.mem_of_getElem? ea
  obtain ⟨_, _, _, hh, _⟩ := r.b.muH ha
  refine ⟨⟨fun b u q => ?_, fun b u q => ⟨(r.b.hd b u q).1, ?_⟩, by simp [r.b.len], fun k b x e1 e2 => ?_, r.b.nd⟩, r.s.len, fun i x ei => ?_, r.s.inj⟩
  · by_cases z : b = a
    · subst z; rw [upd_same] at q; cases q; exact h
    · rw [upd_ne z] at q; exact r.b.fr b u q
  · rw [upd_ne (ne_of_none q hh)]; exact (r.b.hd b u q).2
  · by_cases q : n = k
    · subst q
      rw [ea] at e1
      cases e1
      have hn : n < S.length := by rw [← r.b.len]; exact (List.getElem?_eq_some_iff.mp ea).1
      rw [List.getElem?_set_self hn] at e2
      cases e2
      exact ⟨ho, h, eT.mono le (List.prefix_refl μ), by rw [upd_same, eN], hh⟩
    · rw [List.getElem?_set_ne q] at e2
      obtain ⟨h1, k1, k2, k3, k4⟩ := r.b.st k b x e1 e2
      refine ⟨h1, k1, k2.mono le (List.prefix_refl μ), ?_, k4⟩
      rw [upd_ne]
      · exact k3
      · rintro rfl
        obtain ⟨hn, en⟩ := List.getElem?_eq_some_iff.mp ea
        obtain ⟨hk, ek⟩ := List.getElem?_eq_some_iff.mp e1
        exact q ((List.getElem_inj r.b.nd).mp (en.trans ek.symm))
  · have k := r.s.sl i x ei
    cases x with
    | un => trivial
    | w x => obtain ⟨u, e1, e2⟩ := k; exact ⟨u, e1, e2.mono le (List.prefix_refl μ)⟩
    | own x =>
      obtain ⟨b, h1, e1, e2, e3, e4, e5, e6⟩ := k
      refine ⟨b, h1, e1, e2, e3.mono le (List.prefix_refl μ), ?_, e5, e6⟩
      rw [upd_ne]
      · exact e4
      · rintro rfl; exact e6 ha
def pairsD : List (PyData × W) → Option (List W)
  | [] => some []
  | (k, .d v) :: r => (pairsD r).map fun l => W.d (.tuple [k, v]) :: l
  | (_, .ref _) :: _ => none
def itemsN (x : W) (S : List Ob) : Res (List W) := match x with
  | .ref n => (match S[n]? with
    | some (.dcn fz kvs) => (match pairsD kvs with
      | some l => if l.length ≤ 16777216 then .ok l (S.set n (.dcn true kvs)) else .bad
      | none => .bad)
    | some (.dct []) => .ok [] (S.set n (.dcn true []))
    | _ => .bad)
  | _ => .bad
def fItemsN (fa : FE) : FA := fun ρ S => (fa ρ S).bind itemsN
theorem pairs_len : ∀ {kvs : List (PyData × W)} {l : List W}, pairsD kvs = some l → l.length = kvs.length
  | [], _, h => by cases h; rfl
  | (k, .d v) :: r, l, h => by
    cases q : pairsD r with
    | none => unfold pairsD at h; rw [q] at h; cases h
    | some l1 =>
      unfold pairsD at h
      rw [q] at h
      cases h
      rw [List.length_cons, List.length_cons, pairs_len q]
  | (_, .ref _) :: _, _, h => by cases h
/-- the pairs as values -/
theorem pairs_rep {Fr : Hp} {μ : List Addr} : ∀ {kvs : List (PyData × W)} {l : List W} {xs : List (NestedKey × Addr × Value)}, Paired (EnX X.K Fr μ) kvs xs → pairsD kvs = some l →
    ∃ vs : List (V × V), Paired (fun (p : V × V) (x : NestedKey × Addr × Value) => RelV p.1 (Value.ref x.2.1) ∧ RelV p.2 x.2.2) vs xs ∧ Paired (fun (w : W) (p : V × V) => ∃ ds, w = .d (.tuple ds) ∧ DpAll X.K Fr [p.1, p.2] ds) l vs
  | _, _, _, .nil, h => by cases h; exact ⟨[], .nil, .nil⟩
  | (k, .d v) :: r, l, _, .cons (b := x) e t, h => by
    cases q : pairsD r with
    | none => unfold pairsD at h; rw [q] at h; cases h
    | some l1 =>
      unfold pairsD at h
      rw [q] at h
      cases h
      obtain ⟨vs, h1, h2⟩ := pairs_rep t q
      obtain ⟨_, _, e1, v', e2, e3⟩ := e
      exact ⟨(.ref x.2.1, v') :: vs, .cons ⟨rfl, e3⟩ h1, .cons ⟨[k, v], rfl, .cons e1 (.cons e2 .nil)⟩ h2⟩
  | (_, .ref _) :: _, _, _, .cons _ _, h => by cases h
theorem prV_of {P : Program} {w : World} : ∀ {vs : List (V × V)} {xs : List (NestedKey × Addr × Value)}, Paired (fun (p : V × V) (x : NestedKey × Addr × Value) => RelV p.1 (Value.ref x.2.1) ∧ RelV p.2 x.2.2) vs xs → Paired (fun (p : V × V) (e : DictEntry) => RelV p.1 e.key ∧ RelV p.2 e.val) vs (xs.map (entryOfKey (nestedKind P w)))
  | _, _, .nil => .nil
  | _, _, .cons r t => .cons r (prV_of t)
theorem walk_itemsN {Fr Hd : Hp} {μ : List Addr} {d : Addr} {es : Array DictEntry} {ep : Nat} {vs : List (V × V)} {l : List W} (hF : Fr d = some (DnO d es ep)) (hl : Paired (fun (w : W) (p : V × V) => ∃ ds, w = .d (.tuple ds) ∧ DpAll X.K Fr [p.1, p.2] ds) l vs) :
    Walk (ItN d es ep vs) l.length (fun H => Le Fr H ∧ Le Hd H) (Yq X.K Fr μ l) := by
  have el := Paired.length hl
  refine ⟨fun i _ hi q => ⟨q.1 d _ hF, by omega⟩, fun _ q => ⟨q.1 d _ hF, by omega⟩, fun i H v H' hi q y => ?_⟩
  obtain ⟨T, k, x, k1, rfl, k3, rfl⟩ := y
  have hi : i < l.length := by have := (List.getElem?_eq_some_iff.mp k1).1; omega
  obtain ⟨p, k4, ds, k5, k6⟩ := L2.paired_get hl (List.getElem?_eq_getElem hi)
  rw [k1] at k4
  cases k4
  exact ⟨_, List.getElem?_eq_getElem hi, .inr ⟨T, _, ds, rfl, k3, rfl, k5, k6⟩⟩
theorem i_itemsN {elts : List Expr} {kk : Nat} {tpos : Pos} (ha : PE X e (LE X Wc fa)) (hbase : attributeBase e "items" X.env (eval e X.env) = eval e X.env := by rfl) (hline : (apos.endLine == cpos.line) = true := by rfl) :
    PI X (.Tuple elts kk tpos) (.Call (.Attribute e "items" apos) [] [] cpos) (LI X Wc (fItemsN fa)) := PI.imp (pi_itemsN ha hbase hline) fun σ H Q h => by
  obtain ⟨F, Hd, m, ρ, S, r, c⟩ := h
  refine stepI r c fun F1 m1 x v S1 H1 l1 p1 r1 e1 c1 => ?_
  cases x with
  | d x => exact c1.elim
  | ref n =>
    obtain ⟨a, ea, rfl⟩ := e1
    unfold itemsN at c1
    dsimp only at c1
    refine ⟨a, rfl, ?_⟩
    split at c1
    · rename_i fz kvs es
      split at c1
      · rename_i l hp
        split at c1
        · rename_i hl
          obtain ⟨ho, h1, h2, hf, _⟩ := r1.b.st n a _ ea es
          have h2 : RepN X.K F1 m1 a kvs ho := h2
          obtain ⟨xs, es', ep, rfl, h3, h4⟩ := repN_at (X := X) r1.b.fr h1 h2
          obtain ⟨vs, k1, k2⟩ := pairs_rep h4 hp
          refine .inl ⟨es', ep, vs, h1, by unfold PrV; rw [h3.es]; exact prV_of k1, ?_⟩
          cases fz with
          | true =>
            have hf : F1 a = some (DnO a es' ep) := hf
            have eS : S1.set n (.dcn true kvs) = S1 := set_at es
            rw [eS] at c1
            exact c1 F1 Hd m1 H1 _ Le.refl Le.refl (List.prefix_refl m1) r1 (walk_itemsN hf k2) (by rw [sizeLine_eq]; exact hl)
          | false =>
            have hf : F1 a = none := hf
            have le : Le F1 (upd F1 a (DnO a es' ep)) := Le.upd hf
            have r2 := R.frzAt (o := .dcn true kvs) r1 ea hf h1 h2 rfl
            have k3 : Paired (fun (w : W) (p : V × V) => ∃ ds, w = .d (.tuple ds) ∧ DpAll X.K (upd F1 a (DnO a es' ep)) [p.1, p.2] ds) l vs := by
              clear k1 c1 hl hp
              induction k2 with
              | nil => exact .nil
              | cons q t ih =>
                obtain ⟨ds, z1, z2⟩ := q
                exact .cons ⟨ds, z1, Le.dps le _ _ z2⟩ ih
            exact c1 _ Hd m1 H1 _ le Le.refl (List.prefix_refl m1) r2 (walk_itemsN upd_same k3) (by rw [sizeLine_eq]; exact hl)
        · exact c1.elim
      · exact c1.elim
    · rename_i es
      obtain ⟨ho, h1, ⟨vs, rfl, q⟩, hf, _⟩ := r1.b.st n a _ ea es
      cases q
      refine .inr ⟨h1, fun ep => ?_⟩
      have hf : F1 a = none := hf
      have r2 := R.putT (o := .dcn false []) r1 ea hf (ho := DnO a #[] ep) ⟨#[], ep, rfl, List.nodup_nil, .nil⟩ rfl
      have hn : n < S1.length := (List.getElem?_eq_some_iff.mp es).1
      have r3 := R.frzAt (o := .dcn true []) r2 ea hf upd_same ⟨#[], ep, rfl, List.nodup_nil, .nil⟩ rfl
      rw [List.set_set] at r3
      exact c1 _ Hd m1 _ _ (Le.upd hf) Le.refl (List.prefix_refl m1) r3 (walk_itemsN (l := []) upd_same .nil) (by rw [sizeLine_eq]; decide)
    · exact c1.elim
end
/-! ### x.extend(a tuple) -/
theorem extend_tup (l : Addr) (items : Array Value) (n : Nat) (b : Addr) (items2 : Array Value) (n2 : Nat) (dc : Option Addr) (sl : Array (Option Value)) (hs0 : ¬(!items.isEmpty && Builtin.List.listTooLong (items.size + items2.size)) = true) (hs1 : items.size ≤ sizeLine) (hs2 : items.size + items2.size ≤ sizeLine + 1) :
    Meets (Builtin.«list.extend» ⟨[.ref l, .ref b], []⟩) (fun _ R s => s.heap.get? l = some { cls := .type "list", dict := none, data := .seq items n, slots := #[] } ∧ s.heap.get? b = some { cls := .type "tuple", dict := dc, data := .seq items2 n2, slots := sl } ∧ R (.ok (.ret Value.none)) { s with heap := s.heap.update l (Obj.mapSeq fun x => x ++ items2), toks := s.toks }) :=
  .of_wp fun prog w A R s h => by
    obtain ⟨hp, g, d, tk, os⟩ := s; obtain ⟨hl, hb, h⟩ := h; have f1 := AutoSeq1.idx_int; have f2 := AutoSeq1.sub_tuple_tuple; have f3 := AutoSeq1.sub_list_list; have f4 := AutoSeq1.sub_tuple_list; have f5 := AutoSeq1.sub_list_tuple
    have hz' : (items ++ items2).size ≤ sizeLine + 1 := by rw [Array.size_append]; exact hs2
    wp_walk using (wpAny_updateSeq hl rfl (hz := hs1) (_hz' := hz')), AutoSeq1.wpAny_loadPart' hl, AutoSeq1.wpAny_loadPart' hb
    exact ⟨_, rfl, h⟩
def rExtT (K : PySem.W.Frag) : V → List V → Hp → VK → Prop := fun x vs H Q => ∃ l b xs zs, x = .ref l ∧ vs = [.ref b] ∧ H l = some (.lst xs) ∧ SqT K H b zs ∧ xs.length + zs.length ≤ sizeLine ∧ Q .non (upd H l (.lst (xs ++ zs)))
theorem mt_extT {X : Cx} : MtM X "list.extend" (rExtT X.K) := by
  intro pins s σ H x vs v us Q I rx rv h
  obtain ⟨l, b, xs, zs, rfl, rfl, hH, hB, hz, q⟩ := h
  cases rx
  obtain ⟨u, rfl, ru⟩ := rv.one
  cases ru
  obtain ⟨z, its, n, r, hl, e⟩ := I.lstM hH
  obtain ⟨its2, r2, ⟨⟨c2, dc, dat, sl⟩, e2, hc2, n2, hd2⟩, hl2⟩ := I.tuple hB
  dsimp only at hc2 hd2
  subst hc2 hd2
  have k1 := r.length
  have k2 := r2.length
  have hsz : its.toArray.size + its2.toArray.size ≤ sizeLine := by rw [List.size_toArray, List.size_toArray]; omega
  have hlong : ¬ (!its.toArray.isEmpty && Builtin.List.listTooLong (its.toArray.size + its2.toArray.size)) = true := by
    rw [notLongL hsz, Bool.and_false]
    exact Bool.false_ne_true
  refine call_meets F.slot_list_extend ⟨_, e, rfl⟩ F.entry_list_extend (F.args_list_extend_2 _ _)
    (extend_tup l its.toArray n b its2.toArray n2 dc sl hlong (by rw [List.size_toArray]; omega) (by omega)) ⟨e, e2, ?_⟩
  refine ⟨.non, _, I.lset (its' := its ++ its2) hH e (by simp) (r.append r2) ?_, rfl, q⟩
  rw [List.length_append]
  omega
section
variable {X : Cx} {Wc : WX} {e : Expr} {fa : FE} {apos cpos : Pos}
def fExtV (i : Nat) (fa : FE) : FX := fun ρ S => match ρ[i]? with
  | some (.own (.lst xs)) => (fa ρ S).bind fun o S1 => (match o with
    | .d (.tuple ds) => if xs.length + ds.length ≤ 16777216 then .ok (.d .none, ρ.set i (.own (.lst (xs ++ ds.map .d)))) S1 else .bad
    | _ => .bad)
  | _ => .bad
theorem x_extV {i : Nat} {x : Str} {p' : Pos} (hN : X.N[i]? = some x) (hv : Vis X.env.scope x) (ha : PE X e (LE X Wc fa)) (hd : (x == ("__debug__" : Str)) = false := by decide) (hcd : (x == ("__classdict__" : Str)) = false := by decide)
    (hbase : attributeBase (.Name x p') "extend" X.env (eval (.Name x p') X.env) = eval (.Name x p') X.env := by rfl)
    (hfew : ((backTo cpos (starEach [e] X.env)).all (fun x => !x.1) && (backToKw cpos (keywordEach [] X.env)).all (fun x => x.1.isSome)
      && decide (([e] : List Expr).length + ([] : List Keyword).length + (if ([] : List Keyword).isEmpty then 0 else 1) < 30)) = true := by rfl)
    (hline : (apos.endLine == cpos.line) = true := by rfl) (hs : starEach [e] X.env = (false, eval e X.env) :: starEach [] X.env := by rfl) (hplain : (backTo cpos (starEach [] X.env)).any (·.1) = false := by rfl) :
    PE X (.Call (.Attribute (.Name x p') "extend" apos) [e] [] cpos) (LX X Wc (fExtV i fa)) :=
  PE.imp (pe_bm PySem.F.plainAttrs_list PySem.F.slot_list_extend PySem.F.type_list_extend mt_extT (pe_var hN hv hd hcd) (pa_cons ha pa_nil hs) hbase hfew hline hs hplain) fun σ H Q h => by
  obtain ⟨F, D, m, ρ, S, r, c⟩ := h
  unfold fExtV at c
  split at c
  · rename_i xs ex
    obtain ⟨a, vs, ea, h1, q1⟩ := own_lst r ex
    refine ⟨_, ea, .inl ⟨rfl, vs, .inl (.inl h1)⟩, ?_⟩
    refine stepX r c fun F1 m1 o v S1 H1 l1 p1 r1 ey c1 => ?_
    obtain ⟨a', vs', ea', h1', q1'⟩ := own_lst r1 ex
    rw [ea] at ea'
    cases ea'
    split at c1
    · rename_i ds
      split at c1
      · rename_i hl
        cases ey with
        | @tup b us _ t1 t2 =>
          have q2 := dpa_rep (μ := m1) t2
          have k2 := Paired.length q2
          rw [List.length_map] at k2
          refine ⟨a, b, vs', us, rfl, rfl, h1', Le.sqT r1.b.fr t1, by rw [← Paired.length q1', ← k2, sizeLine_eq]; exact hl, ?_⟩
          exact c1 F1 m1 .non _ Le.refl (List.prefix_refl m1) (r1.putOwn ex ea ⟨_, rfl, paired_app q1' q2⟩) Dp.non
      · exact c1.elim
    · exact c1.elim
  · exact c.elim
end
section
variable {ρ : List Sl} {S : List Ob} {fa fb fv : FE} {n : Nat} {kvs : List (PyData × W)} {fz : Bool}
@[simp] theorem e_Nput : fNput fv fa fb ρ S = fl (fv ρ S) ρ fun v S1 => fl (fa ρ S1) ρ fun x S2 => fl (fb ρ S2) ρ fun y S3 => putNS v x y ρ S3 := rfl
@[simp] theorem e_LenN : fLenN fa ρ S = (fa ρ S).bind lenN := rfl
@[simp] theorem e_ItemsN : fItemsN fa ρ S = (fa ρ S).bind itemsN := rfl
@[simp] theorem e_ExtV {i : Nat} {xs : List W} (h : ρ[i]? = some (.own (.lst xs))) : fExtV i fa ρ S = (fa ρ S).bind fun o S1 => (match o with
    | .d (.tuple ds) => if xs.length + ds.length ≤ 16777216 then .ok (.d .none, ρ.set i (.own (.lst (xs ++ ds.map .d)))) S1 else .bad
    | _ => .bad) := by
  unfold fExtV
  rw [h]
theorem e_lenN (h : S[n]? = some (.dcn fz kvs)) (hl : kvs.length ≤ 16777216) : lenN (.ref n) S = .ok (.d (.int ((kvs.length : Nat) : Int))) S := by
  unfold lenN
  dsimp only
  rw [h]
  exact if_pos hl
theorem e_lenN0 (h : S[n]? = some (.dct [])) : lenN (.ref n) S = .ok (.d (.int 0)) S := by
  unfold lenN
  dsimp only
  rw [h]
  rfl
end
end L2.Q
namespace L2.Q.P
open PySem PySem.Spec PyProof.Rows
def top (i : Nat) : Stmt := PySem.Challenge.pw_sumsworn_k43_marks_of_sums.main.body.getD i (.Pass ⟨0, 0, 0, 0⟩)
def fuelW : Nat := 1000000000
/-- which class lies under which -/
def subQ (d c : Str) : Bool := ([("BadSum", "BadSum"), ("BadSum", "SumError"), ("BadFirst", "BadFirst"), ("BadFirst", "SumError"), ("TooGreat", "TooGreat"), ("TooGreat", "SumError"), ("SumError", "SumError")] : List (Str × Str)).any fun p => decide (p.1 = d) && decide (p.2 = c)
/-! is_int -/
def b_is_int : FT := (fRet (fAndV (fIsi "int" (fVar 0)) (fNotV (fIsi "bool" (fVar 0)))))
def m_is_int : FM := runF 1 b_is_int
/-! within -/
def b_within : FT := (fRet (fAndV (fCall m_is_int (fCons (fVar 0) fNil)) (fChain oLe oLe (fVar 1) (fVar 0) (fVar 2))))
def m_within : FM := runF 3 b_within
/-! is_index -/
def b_is_index : FT := (fRet (fAndV (fCall m_is_int (fCons (fVar 0) fNil)) (fBin oGe (fVar 0) (fC (.int 0)))))
def m_is_index : FM := runF 1 b_is_index
/-! is_row -/
def b_is_row : FT := (fRet (fAndV (fIsi "tuple" (fVar 0)) (fChain oLe oLe (fVar 1) (fLen (fIt (fVar 0))) (fVar 2))))
def m_is_row : FM := runF 3 b_is_row
/-! is_term -/
def b_is_term : FT := (fRet (fAndV (fCall m_is_row (fCons (fVar 0) (fCons (fC (.int 2)) (fCons (fC (.int 2)) fNil)))) (fAndV (fCall m_is_index (fCons (fBin oIx (fVar 0) (fC (.int 0))) fNil)) (fAndV (fCall m_is_int (fCons (fBin oIx (fVar 0) (fC (.int 1))) fNil)) (fBin oGe (fBin oIx (fVar 0) (fC (.int 1))) (fC (.int 1)))))))
def m_is_term : FM := runF 1 b_is_term
/-! are_terms -/
def e_are_terms_0 : FE := (fCall m_is_term (fCons (fVar 2) fNil))
def e_are_terms_1 : FE := (fBin oDiv (fVar 3) (fC (.int 2)))
def e_are_terms_2 : FE := (fBin oLt (fVar 5) (fVar 6))
def b_are_terms : FT := (fSeq (fIfS (fOr (fNot (fT (fIsi "tuple" (fVar 0)))) (fNot (fT (fAll (fItO (fLc (fIt (fVar 0)) [2] (gN 2) (fun _ S => .ok true S) e_are_terms_0)))))) (fRet (fC (.bool false))) fNx)
    (fSeq (fSetO 1 (fLc (fIt (fVar 0)) [3, 4] (gT 2 (gsC (gN 3) (gsC (gN 4) gsN))) (fun _ S => .ok true S) e_are_terms_1))
    (fFrz 1 (fRet (fAll (fItO (fLc (fZip (fVar 1) (fCut (fVar 1) (fP (fC (.int 1))) fNoP)) [5, 6] (gT 2 (gsC (gN 5) (gsC (gN 6) gsN))) (fun _ S => .ok true S) e_are_terms_2)))))))
def m_are_terms : FM := runF 7 b_are_terms
/-! is_sum -/
def b_is_sum : FT := (fRet (fAndV (fCall m_is_row (fCons (fVar 0) (fCons (fC (.int 2)) (fCons (fC (.int 2)) fNil)))) (fAndV (fCall m_are_terms (fCons (fBin oIx (fVar 0) (fC (.int 0))) fNil)) (fCall m_is_int (fCons (fBin oIx (fVar 0) (fC (.int 1))) fNil)))))
def m_is_sum : FM := runF 1 b_is_sum
/-! cut_of -/
def e_cut_of_0 : FE := (fTup (fCons (fVar 1) (fCons (fBin oMin (fVar 2) (fBin oIx (fVar 0) (fC (.int 1)))) fNil)))
def b_cut_of : FT := (fSeq (fIfS (fT (fBin oLe (fBin oIx (fVar 0) (fC (.int 1))) (fC (.int 0)))) (fRet (fTup (fCons (fTup fNil) (fCons (fC (.int 0)) fNil)))) fNx)
    (fRet (fTup (fCons (fTupL (fItO (fLc (fIt (fBin oIx (fVar 0) (fC (.int 0)))) [1, 2] (gT 2 (gsC (gN 1) (gsC (gN 2) gsN))) (fun _ S => .ok true S) e_cut_of_0))) (fCons (fBin oIx (fVar 0) (fC (.int 1))) fNil)))))
def m_cut_of : FM := runF 3 b_cut_of
/-! half_of -/
def b_half_of : FT := (fSeq (fAsg (gT 2 (gsC (gN 1) (gsC (gN 2) gsN))) (fVar 0))
    (fRet (fBin oDiv (fBin oAddA (fBin oAddA (fVar 1) (fVar 2)) (fC (.int 1))) (fC (.int 2)))))
def m_half_of : FM := runF 3 b_half_of
/-! children_of -/
def b_children_of : FT := (fSeq (fAsg (gT 2 (gsC (gN 1) (gsC (gN 2) gsN))) (fVar 0))
    (fRet (fTup (fCons (fTup (fCons (fVar 1) (fCons (fCall m_half_of (fCons (fVar 0) fNil)) fNil))) (fCons (fTup (fCons (fCall m_half_of (fCons (fVar 0) fNil)) (fCons (fVar 2) fNil))) fNil)))))
def m_children_of : FM := runF 3 b_children_of
/-! is_leaf -/
def b_is_leaf : FT := (fRet (fBin (oEqS false) (fBin oSub (fBin oIx (fVar 0) (fC (.int 1))) (fBin oIx (fVar 0) (fC (.int 0)))) (fC (.int 1))))
def m_is_leaf : FM := runF 1 b_is_leaf
/-! inner_parts -/
def t_inner_parts_0 : FB := (fT (fCmpO true 2 (fFz (fNewL fNil))))
def l_inner_parts_0 : FT := (fSeq (fAsgX (gN 3) (fPop 2))
    (fIfS (fNot (fT (fCall m_is_leaf (fCons (fVar 3) fNil)))) (fSeq (fDropX (fApp 1 (fVar 3)))
    (fDropX (fExtV 2 (fCall m_children_of (fCons (fVar 3) fNil))))) fNx))
def t_inner_parts_1 : FB := (fT (fBin (oEqS true) (fVar 3) (fTup (fCons (fC (.int 0)) (fCons (fVar 0) fNil)))))
def e_inner_parts_0 : FE := (fVar 3)
def b_inner_parts : FT := (fSeq (fPar 1 2 (fCo (fNewL fNil)) (fCo (fNewL (fCons (fTup (fCons (fC (.int 0)) (fCons (fVar 0) fNil))) fNil))))
    (fSeq (fWhile fuelW t_inner_parts_0 l_inner_parts_0)
    (fFrz 1 (fRet (fSrt (fItO (fLc (fIt (fVar 1)) [3] (gN 3) t_inner_parts_1 e_inner_parts_0)))))))
def m_inner_parts : FM := runF 4 b_inner_parts
/-! Totals_total -/
def e_Totals_total_0 : FE := (fVar 3)
def b_Totals_total : FT := (fRet (fSum (fItO (fLc (fIt (fCut (fFld "Totals" "terms" (fVar 0)) (fP (fBin oIx (fVar 1) (fC (.int 0)))) (fP (fBin oIx (fVar 1) (fC (.int 1)))))) [2, 3] (gT 2 (gsC (gN 2) (gsC (gN 3) gsN))) (fun _ S => .ok true S) e_Totals_total_0))))
def m_Totals_total : FM := runF 4 b_Totals_total
/-! Totals_cap -/
def b_Totals_cap : FT := (fRet (fBin oMin (fMeth "Totals" "total" m_Totals_total (fVar 0) (fCons (fVar 1) fNil)) (fFld "Totals" "degree" (fVar 0))))
def m_Totals_cap : FM := runF 2 b_Totals_cap
/-! Totals___init__ -/
def l_Totals___init___0 : FT := (fNput (fBin oAddA (fVar 2) (fLenN (fFld "Totals" "marks" (fVar 0)))) (fFld "Totals" "marks" (fVar 0)) (fTup (fCons (fVar 3) (fCons (fVar 4) fNil))))
def l_Totals___init___1 : FT := (fFor (fRng2 (fC (.int 1)) (fBin oAddA (fMeth "Totals" "cap" m_Totals_cap (fVar 0) (fCons (fVar 3) fNil)) (fC (.int 1)))) (gN 4) l_Totals___init___0)
def b_Totals___init__ : FT := (fSeq (fPutsD "Totals" 0 ["terms", "degree"] (fVar 1))
    (fSeq (fPutF "Totals" "whole" (fTup (fCons (fC (.int 0)) (fCons (fLen (fIt (fFld "Totals" "terms" (fVar 0)))) fNil))) (fVar 0))
    (fSeq (fPutF "Totals" "parts" (fCall m_inner_parts (fCons (fLen (fIt (fFld "Totals" "terms" (fVar 0)))) fNil)) (fVar 0))
    (fSeq (fPutF "Totals" "marks" (fSto fDnew) (fVar 0))
    (fFor (fIt (fFld "Totals" "parts" (fVar 0))) (gN 3) l_Totals___init___1)))))
def m_Totals___init__ : FM := runF 5 b_Totals___init__
/-! count_marks -/
def e_count_marks_0 : FE := (fVar 7)
def l_count_marks_0 : FT := (fAug 3 (oI yes fun i j => .int (i + j)) (fBin oMin (fSum (fItO (fLc (fIt (fCut (fVar 1) (fP (fVar 4)) (fP (fVar 5)))) [6, 7] (gT 2 (gsC (gN 6) (gsC (gN 7) gsN))) (fun _ S => .ok true S) e_count_marks_0))) (fVar 2)))
def b_count_marks : FT := (fSeq (fAsg (gT 2 (gsC (gN 1) (gsC (gN 2) gsN))) (fVar 0))
    (fSeq (fSet 3 (fC (.int 0)))
    (fSeq (fFor (fIt (fCall m_inner_parts (fCons (fLen (fIt (fVar 1))) fNil))) (gT 2 (gsC (gN 4) (gsC (gN 5) gsN))) l_count_marks_0)
    (fRet (fVar 3)))))
def m_count_marks : FM := runF 8 b_count_marks
/-! need_marked -/
def b_need_marked : FT := (fSeq (fIfS (fOr (fNot (fT (fCall m_is_sum (fCons (fVar 0) fNil)))) (fOr (fT (fBin oLt (fLen (fIt (fBin oIx (fVar 0) (fC (.int 0))))) (fC (.int 2)))) (fOr (fT (fBin oLt (fBin oIx (fVar 0) (fC (.int 1))) (fC (.int 2)))) (fT (fBin (oEqS true) (fCall m_cut_of (fCons (fVar 0) fNil)) (fVar 0)))))) (fRaise "BadSum") fNx)
    (fSeq (fIfS (fNot (fT (fCall m_within (fCons (fVar 1) (fCons (fBin oAddA (fBin oDiv (fBin oIx (fBin oIx (fBin oIx (fVar 0) (fC (.int 0))) (fUn oNeg (fC (.int 1)))) (fC (.int 0))) (fC (.int 2))) (fC (.int 1))) (fCons (fC (.int 1000000)) fNil)))))) (fRaise "BadFirst") fNx)
    (fIfS (fT (fBin oGt (fCall m_count_marks (fCons (fVar 0) fNil)) (fC (.int 200)))) (fRaise "TooGreat") fNx)))
def m_need_marked : FM := runF 2 b_need_marked
/-! mark_rows -/
def e_mark_rows_0 : FE := (fTup (fCons (fVar 2) (fCons (fVar 3) (fCons (fVar 4) fNil))))
def b_mark_rows : FT := (fSeq (fDrop (fCall m_need_marked (fCons (fVar 0) (fCons (fVar 1) fNil))))
    (fRet (fTupL (fItO (fLc (fItemsN (fFld "Totals" "marks" (fMake "Totals" m_Totals___init__ (fCons (fVar 0) (fCons (fVar 1) fNil))))) [2, 3, 4] (gT 2 (gsC (gT 2 (gsC (gN 2) (gsC (gN 3) gsN))) (gsC (gN 4) gsN))) (fun _ S => .ok true S) e_mark_rows_0)))))
def m_mark_rows : FM := runF 5 b_mark_rows
/-! _law_source -/
def e__law_source_0 : FE := (fBin oMod (fInt (fVar 4)) (fBin oPow (fC (.int 10)) (fC (.int 60))))
def t__law_source_0 : FB := (fT (fBin oGe (fVar 4) (fBin oPow (fC (.int 10)) (fC (.int 18)))))
def e__law_source_1 : FE := (fVar 4)
def t__law_source_1 : FB := (fT (fBin oLt (fVar 4) (fBin oPow (fC (.int 10)) (fC (.int 18)))))
def e__law_source_2 : FE := (fVar 4)
def b__law_source : FT := (fSeq (fSetO 1 (fLc (fIt (fCut (fVar 0) fNoP (fP (fC (.int 63))))) [4] (gN 4) (fun _ S => .ok true S) e__law_source_0))
    (fSeq (fFrz 1 (fSet 2 (fSto (fLc (fIt (fVar 1)) [4] (gN 4) t__law_source_0 e__law_source_1))))
    (fSeq (fFrz 1 (fSetO 3 (fLc (fIt (fVar 1)) [4] (gN 4) t__law_source_1 e__law_source_2)))
    (fFrz 3 (fRetO (fNewL (fCons (fVar 2) (fCons (fVar 3) (fCons (fC (.int 0)) fNil)))))))))
def m__law_source : FM := runF 5 b__law_source
/-! _law_draw -/
def b__law_draw : FT := (fSeq (fPar3 2 3 4 (fCw (fBin oIx (fVar 0) (fC (.int 0)))) (fCw (fBin oIx (fVar 0) (fC (.int 1)))) (fCw (fBin oIx (fVar 0) (fC (.int 2)))))
    (fSeq (fSetIx (fBin oAddA (fVar 4) (fC (.int 1))) (fVar 0) (fC (.int 2)))
    (fSeq (fIfS (fT (fBin (oEqS true) (fVar 2) (fFz (fNewL fNil)))) (fSeq (fSet 5 (fBin oIx (fVar 2) (fC (.int 0))))
    (fSeq (fSetIx (fBin oDiv (fVar 5) (fVar 1)) (fVar 2) (fC (.int 0)))
    (fSeq (fIfS (fT (fBin (oEqS false) (fBin oIx (fVar 2) (fC (.int 0))) (fC (.int 0)))) (fDrop (fPopS (fVar 2) (fC (.int 0)))) fNx)
    (fRet (fBin oMod (fInt (fVar 5)) (fVar 1)))))) fNx)
    (fSeq (fSet 6 (fIf (fT (fBin (oEqS true) (fVar 3) (fFz (fNewL fNil)))) (fBin oIx (fVar 3) (fBin oMod (fVar 4) (fLen (fIt (fVar 3))))) (fC (.int 5))))
    (fSeq (fSet 7 (fBin oMod (fInt (fBin oMulA (fBin oAddA (fBin oAddA (fVar 6) (fBin oMulA (fC (.int 17)) (fVar 4))) (fC (.int 3))) (fBin oAddA (fC (.int 69621)) (fBin oMulA (fC (.int 2)) (fVar 4))))) (fC (.int 2147483647))))
    (fSeq (fSet 8 (fBin oMod (fInt (fBin oMulA (fVar 7) (fBin oAddA (fBin oMod (fVar 7) (fC (.int 9973))) (fC (.int 11))))) (fC (.int 2147483629))))
    (fRet (fBin oMod (fInt (fBin oDiv (fVar 8) (fC (.int 5)))) (fVar 1)))))))))
def m__law_draw : FM := runF 9 b__law_draw
/-! _law_inner_parts -/
def l__law_inner_parts_0 : FT := (fIfS (fT (fCmpO true 2 (fFz (fNewL fNil)))) (fSeq (fAsgX (gT 2 (gsC (gN 4) (gsC (gN 5) gsN))) (fPop 2))
    (fSeq (fSet 6 (fBin oDiv (fBin oAddA (fBin oAddA (fVar 4) (fVar 5)) (fC (.int 1))) (fC (.int 2))))
    (fIfS (fT (fBin oGt (fBin oSub (fVar 5) (fVar 4)) (fC (.int 1)))) (fSeq (fDropX (fExt 2 (fNewL (fCons (fTup (fCons (fVar 4) (fCons (fVar 6) fNil))) (fCons (fTup (fCons (fVar 6) (fCons (fVar 5) fNil))) fNil)))))
    (fIfS (fT (fBin (oEqS true) (fTup (fCons (fVar 4) (fCons (fVar 5) fNil))) (fTup (fCons (fC (.int 0)) (fCons (fVar 0) fNil))))) (fDropX (fApp 1 (fTup (fCons (fVar 4) (fCons (fVar 5) fNil))))) fNx)) fNx))) fNx)
def b__law_inner_parts : FT := (fSeq (fPar 1 2 (fCo (fNewL fNil)) (fCo (fNewL (fCons (fTup (fCons (fC (.int 0)) (fCons (fVar 0) fNil))) fNil))))
    (fSeq (fFor (fRng1 (fBin oMulA (fC (.int 2)) (fVar 0))) (gN 3) l__law_inner_parts_0)
    (fRet (fSrt (fOwn 1)))))
def m__law_inner_parts : FM := runF 7 b__law_inner_parts
/-! _law_part_total -/
def e__law_part_total_0 : FE := (fVar 3)
def b__law_part_total : FT := (fRet (fSum (fItO (fLc (fIt (fCut (fBin oIx (fVar 0) (fC (.int 0))) (fP (fBin oIx (fVar 1) (fC (.int 0)))) (fP (fBin oIx (fVar 1) (fC (.int 1)))))) [2, 3] (gT 2 (gsC (gN 2) (gsC (gN 3) gsN))) (fun _ S => .ok true S) e__law_part_total_0))))
def m__law_part_total : FM := runF 4 b__law_part_total
/-! _law_marks -/
def l__law_marks_0 : FT := (fDropX (fApp 2 (fTup (fCons (fVar 3) (fCons (fVar 4) (fCons (fBin oAddA (fVar 1) (fLen (fOwn 2))) fNil))))))
def l__law_marks_1 : FT := (fFor (fRng2 (fC (.int 1)) (fBin oAddA (fBin oMin (fCall m__law_part_total (fCons (fVar 0) (fCons (fVar 3) fNil))) (fBin oIx (fVar 0) (fC (.int 1)))) (fC (.int 1)))) (gN 4) l__law_marks_0)
def b__law_marks : FT := (fSeq (fSetO 2 (fNewL fNil))
    (fSeq (fFor (fIt (fCall m__law_inner_parts (fCons (fLen (fIt (fBin oIx (fVar 0) (fC (.int 0))))) fNil))) (gN 3) l__law_marks_1)
    (fFrz 2 (fRet (fVar 2)))))
def m__law_marks : FM := runF 5 b__law_marks
/-! _law_mark_count -/
def e__law_mark_count_0 : FE := (fBin oMin (fCall m__law_part_total (fCons (fVar 0) (fCons (fVar 2) fNil))) (fBin oIx (fVar 0) (fC (.int 1))))
def b__law_mark_count : FT := (fSeq (fSet 1 (fCall m__law_inner_parts (fCons (fLen (fIt (fBin oIx (fVar 0) (fC (.int 0))))) fNil)))
    (fRet (fSum (fItO (fLc (fIt (fVar 1)) [2] (gN 2) (fun _ S => .ok true S) e__law_mark_count_0)))))
def m__law_mark_count : FM := runF 3 b__law_mark_count
/-! _law_cut_sum -/
def l__law_cut_sum_0 : FT := (fIfS (fOr (fT (fBin oLt (fVar 4) (fC (.int 2)))) (fT (fBin oGt (fCall m__law_draw (fCons (fVar 0) (fCons (fC (.int 4)) fNil))) (fC (.int 0))))) (fSeq (fSet 5 (fIf (fT (fBin (oEqS false) (fCall m__law_draw (fCons (fVar 0) (fCons (fC (.int 2)) fNil))) (fC (.int 0)))) (fC (.int 1)) (fBin oAddA (fC (.int 1)) (fCall m__law_draw (fCons (fVar 0) (fCons (fC (.int 4)) fNil))))))
    (fDropX (fApp 3 (fTup (fCons (fBin oAddA (fBin oMulA (fC (.int 2)) (fBin oAddA (fVar 2) (fVar 4))) (fCall m__law_draw (fCons (fVar 0) (fCons (fC (.int 2)) fNil)))) (fCons (fVar 5) fNil)))))) fNx)
def e__law_cut_sum_0 : FE := (fVar 5)
def e__law_cut_sum_1 : FE := (fTup (fCons (fVar 8) (fCons (fBin oMin (fVar 5) (fVar 7)) fNil)))
def b__law_cut_sum : FT := (fSeq (fSetO 3 (fNewL fNil))
    (fSeq (fFor (fRng1 (fVar 1)) (gN 4) l__law_cut_sum_0)
    (fSeq (fFrz 3 (fSet 6 (fSum (fItO (fLc (fIt (fVar 3)) [8, 5] (gT 2 (gsC (gN 8) (gsC (gN 5) gsN))) (fun _ S => .ok true S) e__law_cut_sum_0)))))
    (fSeq (fSet 7 (fBin oAddA (fC (.int 2)) (fCall m__law_draw (fCons (fVar 0) (fCons (fVar 6) fNil)))))
    (fFrz 3 (fRet (fTup (fCons (fTupL (fItO (fLc (fIt (fVar 3)) [8, 5] (gT 2 (gsC (gN 8) (gsC (gN 5) gsN))) (fun _ S => .ok true S) e__law_cut_sum_1))) (fCons (fVar 7) fNil)))))))))
def m__law_cut_sum : FM := runF 9 b__law_cut_sum
/-! _law_word -/
def b__law_word : FT := (fSeq (fSet 2 (fC (.str "")))
    (fSeq (fTry subQ ["BadFirst", "BadSum", "TooGreat"] (fDrop (fCall m_mark_rows (fCons (fVar 0) (fCons (fVar 1) fNil)))) [⟨"SumError", some 3, fun c => if c = "BadFirst" then fPut [(2, .str "other"), (2, .str "first")] else if c = "BadSum" then fPut [(2, .str "other"), (2, .str "sum")] else if c = "TooGreat" then fPut [(2, .str "other"), (2, .str "great")] else fNever⟩])
    (fRet (fVar 2))))
def m__law_word : FM := runF 4 b__law_word
/-! _law_greater -/
def e__law_greater_0 : FE := (fTup (fCons (fVar 4) (fCons (fBin oAddA (fVar 5) (fCall m__law_draw (fCons (fVar 0) (fCons (fC (.int 117)) fNil)))) fNil)))
def e__law_greater_1 : FE := (fVar 5)
def b__law_greater : FT := (fSeq (fSet 2 (fTupL (fItO (fLc (fIt (fBin oIx (fVar 1) (fC (.int 0)))) [4, 5] (gT 2 (gsC (gN 4) (gsC (gN 5) gsN))) (fun _ S => .ok true S) e__law_greater_0))))
    (fSeq (fSet 3 (fBin oAddA (fMaxL (fItO (fAddN (fFz (fNewL (fCons (fC (.int 2)) fNil))) (fFz (fLc (fIt (fVar 2)) [4, 5] (gT 2 (gsC (gN 4) (gsC (gN 5) gsN))) (fun _ S => .ok true S) e__law_greater_1))))) (fCall m__law_draw (fCons (fVar 0) (fCons (fC (.int 200)) fNil)))))
    (fRet (fTup (fCons (fVar 2) (fCons (fVar 3) fNil))))))
def m__law_greater : FM := runF 6 b__law_greater
/-! _law_wrong_sums -/
def b__law_wrong_sums : FT := (fSeq (fAsg (gT 2 (gsC (gN 1) (gsC (gN 2) gsN))) (fVar 0))
    (fRet (fFz (fNewL (fCons (fTup (fCons (fCut (fVar 1) fNoP (fP (fC (.int 1)))) (fCons (fVar 2) fNil))) (fCons (fTup (fCons (fTup fNil) (fCons (fVar 2) fNil))) (fCons (fTup (fCons (fVar 1) (fCons (fC (.int 1)) fNil))) (fCons (fTup (fCons (fBin oAddA (fCut (fVar 1) fNoP (fP (fUn oNeg (fC (.int 1))))) (fTup (fCons (fTup (fCons (fBin oIx (fBin oIx (fVar 1) (fUn oNeg (fC (.int 1)))) (fC (.int 0))) (fCons (fBin oAddA (fVar 2) (fC (.int 1))) fNil))) fNil))) (fCons (fVar 2) fNil))) (fCons (fTup (fCons (fVar 1) (fCons (fC (.int 0)) fNil))) (fCons (fTup (fCons (fRevT (fVar 1)) (fCons (fVar 2) fNil))) (fCons (fTup (fCons (fFz (fNewL (fIt (fVar 1)))) (fCons (fVar 2) fNil))) (fCons (fTup (fCons (fVar 1) (fCons (fC (.bool true)) fNil))) (fCons (fC .none) fNil)))))))))))))
def m__law_wrong_sums : FM := runF 3 b__law_wrong_sums
/-! law -/
def l_law_0 : FT := (fIfS (fT (fBin (oEqS true) (fCall m__law_word (fCons (fVar 5) (fCons (fUn oNeg (fC (.int 1))) fNil))) (fC (.str "sum")))) (fRet (fC (.bool false))) fNx)
def l_law_1 : FT := (fIfS (fT (fBin (oEqS true) (fCall m__law_word (fCons (fVar 2) (fCons (fVar 6) fNil))) (fC (.str "first")))) (fRet (fC (.bool false))) fNx)
def b_law : FT := (fSeq (fSet 1 (fSto (fCallO m__law_source (fCons (fVar 0) fNil))))
    (fSeq (fSet 2 (fCall m__law_cut_sum (fCons (fVar 1) (fCons (fBin oAddA (fC (.int 2)) (fCall m__law_draw (fCons (fVar 1) (fCons (fC (.int 8)) fNil)))) (fCons (fCall m__law_draw (fCons (fVar 1) (fCons (fC (.int 41)) fNil))) fNil)))))
    (fSeq (fIfS (fT (fBin (oEqS false) (fCall m__law_draw (fCons (fVar 1) (fCons (fC (.int 3)) fNil))) (fC (.int 0)))) (fSet 2 (fCall m__law_greater (fCons (fVar 1) (fCons (fVar 2) fNil)))) fNx)
    (fSeq (fSet 3 (fBin oDiv (fBin oIx (fBin oIx (fBin oIx (fVar 2) (fC (.int 0))) (fUn oNeg (fC (.int 1)))) (fC (.int 0))) (fC (.int 2))))
    (fSeq (fSet 4 (fBin oAddA (fBin oAddA (fVar 3) (fC (.int 1))) (fCall m__law_draw (fCons (fVar 1) (fCons (fC (.int 50)) fNil)))))
    (fSeq (fIfS (fT (fBin (oEqS false) (fCall m__law_draw (fCons (fVar 1) (fCons (fC (.int 9)) fNil))) (fC (.int 0)))) (fSet 4 (fBin oPow (fC (.int 10)) (fC (.int 6)))) fNx)
    (fSeq (fIfS (fT (fBin oGt (fCall m__law_mark_count (fCons (fVar 2) fNil)) (fC (.int 200)))) (fIfS (fT (fBin (oEqS true) (fCall m__law_word (fCons (fVar 2) (fCons (fVar 4) fNil))) (fC (.str "great")))) (fRet (fC (.bool false))) fNx) (fIfS (fOr (fT (fBin (oEqS true) (fCall m_mark_rows (fCons (fVar 2) (fCons (fVar 4) fNil))) (fTupL (fLv (fCall m__law_marks (fCons (fVar 2) (fCons (fVar 4) fNil))))))) (fT (fBin (oEqS true) (fCall m__law_word (fCons (fVar 2) (fCons (fBin oAddA (fVar 3) (fC (.int 1))) fNil))) (fC (.str ""))))) (fRet (fC (.bool false))) fNx))
    (fSeq (fFor (fIt (fCall m__law_wrong_sums (fCons (fVar 2) fNil))) (gN 5) l_law_0)
    (fSeq (fFor (fIt (fTup (fCons (fVar 3) (fCons (fC (.int 0)) (fCons (fUn oNeg (fC (.int 1))) (fCons (fBin oAddA (fBin oPow (fC (.int 10)) (fC (.int 6))) (fC (.int 1))) (fCons (fC (.bool true)) (fCons (fC .none) fNil)))))))) (gN 6) l_law_1)
    (fRet (fBin (oEqS false) (fCall m_mark_rows (fCons (fTup (fCons (fTup (fCons (fTup (fCons (fC (.int 0)) (fCons (fC (.int 1)) fNil))) (fCons (fTup (fCons (fC (.int 2)) (fCons (fC (.int 1)) fNil))) fNil))) (fCons (fC (.int 2)) fNil))) (fCons (fC (.int 2)) fNil))) (fTup fNil))))))))))))
def m_law : FM := runF 7 b_law
end L2.Q.P
namespace L2.Q.P
open PySem PySem.Spec PyProof.Rows
theorem hu200 {k : Nat} {A : Around} (hr : Room k A) : A.units + 200 < cLine := by have := hr.un; omega
theorem hu16 {k : Nat} {A : Around} (hr : Room k A) : A.units + 16 < cLine := by have := hr.un; omega
theorem es_to {X : Cx} {i : Nat} {a : Addr} {sts : List Stmt} {l m : List (Nat × V)} (h : ESs X i a sts l) (e : l = m) : ESs X i a sts m := e ▸ h
abbrev s_is_int : Stmt := top 7
abbrev N_is_int : List Str := ["thing"]
abbrev ps_is_int : List Str := ["thing"]
theorem sc_is_int : FnScope N_is_int ps_is_int (defScope s_is_int) := ⟨rfl, rfl, rfl, by decide +kernel, rfl, by decide +kernel, by decide +kernel⟩
abbrev s_within : Stmt := top 8
abbrev N_within : List Str := ["thing", "low", "high"]
abbrev ps_within : List Str := ["thing", "low", "high"]
theorem sc_within : FnScope N_within ps_within (defScope s_within) := ⟨rfl, rfl, rfl, by decide +kernel, rfl, by decide +kernel, by decide +kernel⟩
abbrev s_is_index : Stmt := top 9
abbrev N_is_index : List Str := ["thing"]
abbrev ps_is_index : List Str := ["thing"]
theorem sc_is_index : FnScope N_is_index ps_is_index (defScope s_is_index) := ⟨rfl, rfl, rfl, by decide +kernel, rfl, by decide +kernel, by decide +kernel⟩
abbrev s_is_row : Stmt := top 10
abbrev N_is_row : List Str := ["thing", "low", "high"]
abbrev ps_is_row : List Str := ["thing", "low", "high"]
theorem sc_is_row : FnScope N_is_row ps_is_row (defScope s_is_row) := ⟨rfl, rfl, rfl, by decide +kernel, rfl, by decide +kernel, by decide +kernel⟩
abbrev s_is_term : Stmt := top 12
abbrev N_is_term : List Str := ["thing"]
abbrev ps_is_term : List Str := ["thing"]
theorem sc_is_term : FnScope N_is_term ps_is_term (defScope s_is_term) := ⟨rfl, rfl, rfl, by decide +kernel, rfl, by decide +kernel, by decide +kernel⟩
abbrev s_are_terms : Stmt := top 13
abbrev N_are_terms : List Str := ["thing", "variables", "entry", "literal", "weight", "one", "other"]
abbrev ps_are_terms : List Str := ["thing"]
theorem sc_are_terms : FnScope N_are_terms ps_are_terms (defScope s_are_terms) := ⟨rfl, rfl, rfl, by decide +kernel, rfl, by decide +kernel, by decide +kernel⟩
abbrev s_is_sum : Stmt := top 14
abbrev N_is_sum : List Str := ["thing"]
abbrev ps_is_sum : List Str := ["thing"]
theorem sc_is_sum : FnScope N_is_sum ps_is_sum (defScope s_is_sum) := ⟨rfl, rfl, rfl, by decide +kernel, rfl, by decide +kernel, by decide +kernel⟩
abbrev s_cut_of : Stmt := top 15
abbrev N_cut_of : List Str := ["one", "literal", "weight"]
abbrev ps_cut_of : List Str := ["one"]
theorem sc_cut_of : FnScope N_cut_of ps_cut_of (defScope s_cut_of) := ⟨rfl, rfl, rfl, by decide +kernel, rfl, by decide +kernel, by decide +kernel⟩
abbrev s_half_of : Stmt := top 19
abbrev N_half_of : List Str := ["part", "begin", "behind"]
abbrev ps_half_of : List Str := ["part"]
theorem sc_half_of : FnScope N_half_of ps_half_of (defScope s_half_of) := ⟨rfl, rfl, rfl, by decide +kernel, rfl, by decide +kernel, by decide +kernel⟩
abbrev s_children_of : Stmt := top 20
abbrev N_children_of : List Str := ["part", "begin", "behind"]
abbrev ps_children_of : List Str := ["part"]
theorem sc_children_of : FnScope N_children_of ps_children_of (defScope s_children_of) := ⟨rfl, rfl, rfl, by decide +kernel, rfl, by decide +kernel, by decide +kernel⟩
abbrev s_is_leaf : Stmt := top 21
abbrev N_is_leaf : List Str := ["part"]
abbrev ps_is_leaf : List Str := ["part"]
theorem sc_is_leaf : FnScope N_is_leaf ps_is_leaf (defScope s_is_leaf) := ⟨rfl, rfl, rfl, by decide +kernel, rfl, by decide +kernel, by decide +kernel⟩
abbrev s_inner_parts : Stmt := top 22
abbrev N_inner_parts : List Str := ["many", "found", "waiting", "part"]
abbrev ps_inner_parts : List Str := ["many"]
theorem sc_inner_parts : FnScope N_inner_parts ps_inner_parts (defScope s_inner_parts) := ⟨rfl, rfl, rfl, by decide +kernel, rfl, by decide +kernel, by decide +kernel⟩
abbrev s_Totals___init__ : Stmt := (clsBody (top 23)).getD 0 (.Pass ⟨0, 0, 0, 0⟩)
abbrev N_Totals___init__ : List Str := ["self", "one", "first", "part", "j"]
abbrev ps_Totals___init__ : List Str := ["self", "one", "first"]
theorem sc_Totals___init__ : FnScope N_Totals___init__ ps_Totals___init__ (defScope s_Totals___init__) := ⟨rfl, rfl, rfl, by decide +kernel, rfl, by decide +kernel, by decide +kernel⟩
abbrev s_Totals_total : Stmt := (clsBody (top 23)).getD 1 (.Pass ⟨0, 0, 0, 0⟩)
abbrev N_Totals_total : List Str := ["self", "part", "literal", "weight"]
abbrev ps_Totals_total : List Str := ["self", "part"]
theorem sc_Totals_total : FnScope N_Totals_total ps_Totals_total (defScope s_Totals_total) := ⟨rfl, rfl, rfl, by decide +kernel, rfl, by decide +kernel, by decide +kernel⟩
abbrev s_Totals_cap : Stmt := (clsBody (top 23)).getD 2 (.Pass ⟨0, 0, 0, 0⟩)
abbrev N_Totals_cap : List Str := ["self", "part"]
abbrev ps_Totals_cap : List Str := ["self", "part"]
theorem sc_Totals_cap : FnScope N_Totals_cap ps_Totals_cap (defScope s_Totals_cap) := ⟨rfl, rfl, rfl, by decide +kernel, rfl, by decide +kernel, by decide +kernel⟩
abbrev s_count_marks : Stmt := top 24
abbrev N_count_marks : List Str := ["one", "terms", "degree", "found", "begin", "behind", "literal", "weight"]
abbrev ps_count_marks : List Str := ["one"]
theorem sc_count_marks : FnScope N_count_marks ps_count_marks (defScope s_count_marks) := ⟨rfl, rfl, rfl, by decide +kernel, rfl, by decide +kernel, by decide +kernel⟩
abbrev s_need_marked : Stmt := top 25
abbrev N_need_marked : List Str := ["one", "first"]
abbrev ps_need_marked : List Str := ["one", "first"]
theorem sc_need_marked : FnScope N_need_marked ps_need_marked (defScope s_need_marked) := ⟨rfl, rfl, rfl, by decide +kernel, rfl, by decide +kernel, by decide +kernel⟩
abbrev s_mark_rows : Stmt := top 26
abbrev N_mark_rows : List Str := ["one", "first", "part", "j", "variable"]
abbrev ps_mark_rows : List Str := ["one", "first"]
theorem sc_mark_rows : FnScope N_mark_rows ps_mark_rows (defScope s_mark_rows) := ⟨rfl, rfl, rfl, by decide +kernel, rfl, by decide +kernel, by decide +kernel⟩
abbrev s__law_source : Stmt := top 28
abbrev N__law_source : List Str := ["script", "cells", "great", "small", "cell"]
abbrev ps__law_source : List Str := ["script"]
theorem sc__law_source : FnScope N__law_source ps__law_source (defScope s__law_source) := ⟨rfl, rfl, rfl, by decide +kernel, rfl, by decide +kernel, by decide +kernel⟩
abbrev s__law_draw : Stmt := top 29
abbrev N__law_draw : List Str := ["source", "many", "great", "small", "turn", "number", "cell", "first", "second"]
abbrev ps__law_draw : List Str := ["source", "many"]
theorem sc__law_draw : FnScope N__law_draw ps__law_draw (defScope s__law_draw) := ⟨rfl, rfl, rfl, by decide +kernel, rfl, by decide +kernel, by decide +kernel⟩
abbrev s__law_inner_parts : Stmt := top 30
abbrev N__law_inner_parts : List Str := ["many", "found", "waiting", "turn", "begin", "behind", "half"]
abbrev ps__law_inner_parts : List Str := ["many"]
theorem sc__law_inner_parts : FnScope N__law_inner_parts ps__law_inner_parts (defScope s__law_inner_parts) := ⟨rfl, rfl, rfl, by decide +kernel, rfl, by decide +kernel, by decide +kernel⟩
abbrev s__law_part_total : Stmt := top 31
abbrev N__law_part_total : List Str := ["one", "part", "literal", "weight"]
abbrev ps__law_part_total : List Str := ["one", "part"]
theorem sc__law_part_total : FnScope N__law_part_total ps__law_part_total (defScope s__law_part_total) := ⟨rfl, rfl, rfl, by decide +kernel, rfl, by decide +kernel, by decide +kernel⟩
abbrev s__law_marks : Stmt := top 32
abbrev N__law_marks : List Str := ["one", "first", "found", "part", "j"]
abbrev ps__law_marks : List Str := ["one", "first"]
theorem sc__law_marks : FnScope N__law_marks ps__law_marks (defScope s__law_marks) := ⟨rfl, rfl, rfl, by decide +kernel, rfl, by decide +kernel, by decide +kernel⟩
abbrev s__law_mark_count : Stmt := top 33
abbrev N__law_mark_count : List Str := ["one", "parts", "part"]
abbrev ps__law_mark_count : List Str := ["one"]
theorem sc__law_mark_count : FnScope N__law_mark_count ps__law_mark_count (defScope s__law_mark_count) := ⟨rfl, rfl, rfl, by decide +kernel, rfl, by decide +kernel, by decide +kernel⟩
abbrev s__law_cut_sum : Stmt := top 34
abbrev N__law_cut_sum : List Str := ["source", "many", "first_variable", "terms", "variable", "weight", "most", "degree", "literal"]
abbrev ps__law_cut_sum : List Str := ["source", "many", "first_variable"]
theorem sc__law_cut_sum : FnScope N__law_cut_sum ps__law_cut_sum (defScope s__law_cut_sum) := ⟨rfl, rfl, rfl, by decide +kernel, rfl, by decide +kernel, by decide +kernel⟩
abbrev s__law_word : Stmt := top 35
abbrev N__law_word : List Str := ["one", "first", "word", "e"]
abbrev ps__law_word : List Str := ["one", "first"]
theorem sc__law_word : FnScope N__law_word ps__law_word (defScope s__law_word) := ⟨rfl, rfl, rfl, by decide +kernel, rfl, by decide +kernel, by decide +kernel⟩
abbrev s__law_greater : Stmt := top 36
abbrev N__law_greater : List Str := ["source", "one", "terms", "degree", "literal", "weight"]
abbrev ps__law_greater : List Str := ["source", "one"]
theorem sc__law_greater : FnScope N__law_greater ps__law_greater (defScope s__law_greater) := ⟨rfl, rfl, rfl, by decide +kernel, rfl, by decide +kernel, by decide +kernel⟩
abbrev s__law_wrong_sums : Stmt := top 37
abbrev N__law_wrong_sums : List Str := ["one", "terms", "degree"]
abbrev ps__law_wrong_sums : List Str := ["one"]
theorem sc__law_wrong_sums : FnScope N__law_wrong_sums ps__law_wrong_sums (defScope s__law_wrong_sums) := ⟨rfl, rfl, rfl, by decide +kernel, rfl, by decide +kernel, by decide +kernel⟩
abbrev s_law : Stmt := top 38
abbrev N_law : List Str := ["script", "source", "one", "last", "first", "wrong", "number"]
abbrev ps_law : List Str := ["script"]
theorem sc_law : FnScope N_law ps_law (defScope s_law) := ⟨rfl, rfl, rfl, by decide +kernel, rfl, by decide +kernel, by decide +kernel⟩
structure Fx (K : PySem.W.Frag) (mg : Str → Option Value) : Prop where
  z_isinstance : mg "isinstance" = none
  z_bool : mg "bool" = none
  z_int : mg "int" = none
  z_len : mg "len" = none
  z_tuple : mg "tuple" = none
  z_all : mg "all" = none
  z_zip : mg "zip" = none
  z_min : mg "min" = none
  z_sorted : mg "sorted" = none
  z_range : mg "range" = none
  z_sum : mg "sum" = none
  z_max : mg "max" = none
  z_list : mg "list" = none
  i_MOST_FIRST : ∃ t, mg "MOST_FIRST" = some (.int 1000000 t)
  i_MOST_MARKS : ∃ t, mg "MOST_MARKS" = some (.int 200 t)
  cl_Totals : Cls K (He.ga K "Totals")
  na_Totals_degree : NoAttr K (He.ga K "Totals") "degree"
  na_Totals_terms : NoAttr K (He.ga K "Totals") "terms"
  na_Totals_whole : NoAttr K (He.ga K "Totals") "whole"
  na_Totals_parts : NoAttr K (He.ga K "Totals") "parts"
  na_Totals_marks : NoAttr K (He.ga K "Totals") "marks"
  me_Totals_cap : Meth K (He.ga K "Totals") "cap" (He.ma K (He.ga K "Totals") "cap")
  me_Totals_total : Meth K (He.ga K "Totals") "total" (He.ma K (He.ga K "Totals") "total")
  mk_Totals : Mk K (He.ga K "Totals") (He.ma K (He.ga K "Totals") "__init__")
  gc_Totals : mg "Totals" = some (.ref (He.ga K "Totals"))
  g_is_int : mg "is_int" = some (.ref (He.ga K "is_int"))
  g_within : mg "within" = some (.ref (He.ga K "within"))
  g_is_index : mg "is_index" = some (.ref (He.ga K "is_index"))
  g_is_row : mg "is_row" = some (.ref (He.ga K "is_row"))
  g_is_term : mg "is_term" = some (.ref (He.ga K "is_term"))
  g_are_terms : mg "are_terms" = some (.ref (He.ga K "are_terms"))
  g_is_sum : mg "is_sum" = some (.ref (He.ga K "is_sum"))
  g_cut_of : mg "cut_of" = some (.ref (He.ga K "cut_of"))
  g_half_of : mg "half_of" = some (.ref (He.ga K "half_of"))
  g_children_of : mg "children_of" = some (.ref (He.ga K "children_of"))
  g_is_leaf : mg "is_leaf" = some (.ref (He.ga K "is_leaf"))
  g_inner_parts : mg "inner_parts" = some (.ref (He.ga K "inner_parts"))
  g_count_marks : mg "count_marks" = some (.ref (He.ga K "count_marks"))
  g_need_marked : mg "need_marked" = some (.ref (He.ga K "need_marked"))
  g_mark_rows : mg "mark_rows" = some (.ref (He.ga K "mark_rows"))
  g__law_source : mg "_law_source" = some (.ref (He.ga K "_law_source"))
  g__law_draw : mg "_law_draw" = some (.ref (He.ga K "_law_draw"))
  g__law_inner_parts : mg "_law_inner_parts" = some (.ref (He.ga K "_law_inner_parts"))
  g__law_part_total : mg "_law_part_total" = some (.ref (He.ga K "_law_part_total"))
  g__law_marks : mg "_law_marks" = some (.ref (He.ga K "_law_marks"))
  g__law_mark_count : mg "_law_mark_count" = some (.ref (He.ga K "_law_mark_count"))
  g__law_cut_sum : mg "_law_cut_sum" = some (.ref (He.ga K "_law_cut_sum"))
  g__law_word : mg "_law_word" = some (.ref (He.ga K "_law_word"))
  g__law_greater : mg "_law_greater" = some (.ref (He.ga K "_law_greater"))
  g__law_wrong_sums : mg "_law_wrong_sums" = some (.ref (He.ga K "_law_wrong_sums"))
  g_law : mg "law" = some (.ref (He.ga K "law"))
  c_BadSum : mg "BadSum" = some (.ref (He.ga K "BadSum"))
  x_BadSum : PySem.W.excIn K (He.ga K "BadSum") He.veBase "ValueError.__new__" = true ∧ PySem.W.keepIn K (.ref (He.ga K "BadSum")) = true ∧ PySem.W.subIn K (.ref (He.ga K "BadSum")) (.type "BaseException") = some true ∧ PySem.W.typeIn K (.ref (He.ga K "BadSum")) = some (.type "type")
  c_BadFirst : mg "BadFirst" = some (.ref (He.ga K "BadFirst"))
  x_BadFirst : PySem.W.excIn K (He.ga K "BadFirst") He.veBase "ValueError.__new__" = true ∧ PySem.W.keepIn K (.ref (He.ga K "BadFirst")) = true ∧ PySem.W.subIn K (.ref (He.ga K "BadFirst")) (.type "BaseException") = some true ∧ PySem.W.typeIn K (.ref (He.ga K "BadFirst")) = some (.type "type")
  c_TooGreat : mg "TooGreat" = some (.ref (He.ga K "TooGreat"))
  x_TooGreat : PySem.W.excIn K (He.ga K "TooGreat") He.veBase "ValueError.__new__" = true ∧ PySem.W.keepIn K (.ref (He.ga K "TooGreat")) = true ∧ PySem.W.subIn K (.ref (He.ga K "TooGreat")) (.type "BaseException") = some true ∧ PySem.W.typeIn K (.ref (He.ga K "TooGreat")) = some (.type "type")
  c_SumError : mg "SumError" = some (.ref (He.ga K "SumError"))
  x_SumError : PySem.W.excIn K (He.ga K "SumError") He.veBase "ValueError.__new__" = true ∧ PySem.W.keepIn K (.ref (He.ga K "SumError")) = true ∧ PySem.W.subIn K (.ref (He.ga K "SumError")) (.type "BaseException") = some true ∧ PySem.W.typeIn K (.ref (He.ga K "SumError")) = some (.type "type")
  w_TooGreat : ExcC K (He.ga K "TooGreat")
  w_BadSum : ExcC K (He.ga K "BadSum")
  w_BadFirst : ExcC K (He.ga K "BadFirst")
  p_BadFirst_SumError : PySem.W.exmOne K (.ref (He.ga K "BadFirst")) (.ref (He.ga K "SumError")) = some true
  p_BadSum_SumError : PySem.W.exmOne K (.ref (He.ga K "BadSum")) (.ref (He.ga K "SumError")) = some true
  p_TooGreat_SumError : PySem.W.exmOne K (.ref (He.ga K "TooGreat")) (.ref (He.ga K "SumError")) = some true
  k_TooGreat_BadSum : PySem.W.kitOne K (.ref (He.ga K "TooGreat")) (.ref (He.ga K "BadSum")) = some false
  k_TooGreat_BadFirst : PySem.W.kitOne K (.ref (He.ga K "TooGreat")) (.ref (He.ga K "BadFirst")) = some false
  k_TooGreat_TooGreat : PySem.W.kitOne K (.ref (He.ga K "TooGreat")) (.ref (He.ga K "TooGreat")) = some true
  k_BadSum_BadSum : PySem.W.kitOne K (.ref (He.ga K "BadSum")) (.ref (He.ga K "BadSum")) = some true
  k_BadSum_BadFirst : PySem.W.kitOne K (.ref (He.ga K "BadSum")) (.ref (He.ga K "BadFirst")) = some false
  k_BadSum_TooGreat : PySem.W.kitOne K (.ref (He.ga K "BadSum")) (.ref (He.ga K "TooGreat")) = some false
  k_BadFirst_BadSum : PySem.W.kitOne K (.ref (He.ga K "BadFirst")) (.ref (He.ga K "BadSum")) = some false
  k_BadFirst_BadFirst : PySem.W.kitOne K (.ref (He.ga K "BadFirst")) (.ref (He.ga K "BadFirst")) = some true
  k_BadFirst_TooGreat : PySem.W.kitOne K (.ref (He.ga K "BadFirst")) (.ref (He.ga K "TooGreat")) = some false
  d_is_int : ∃ fd, FnP K "is_int" s_is_int (He.ga K "is_int") fd
  d_within : ∃ fd, FnP K "within" s_within (He.ga K "within") fd
  d_is_index : ∃ fd, FnP K "is_index" s_is_index (He.ga K "is_index") fd
  d_is_row : ∃ fd, FnP K "is_row" s_is_row (He.ga K "is_row") fd
  d_is_term : ∃ fd, FnP K "is_term" s_is_term (He.ga K "is_term") fd
  d_are_terms : ∃ fd, FnP K "are_terms" s_are_terms (He.ga K "are_terms") fd
  d_is_sum : ∃ fd, FnP K "is_sum" s_is_sum (He.ga K "is_sum") fd
  d_cut_of : ∃ fd, FnP K "cut_of" s_cut_of (He.ga K "cut_of") fd
  d_half_of : ∃ fd, FnP K "half_of" s_half_of (He.ga K "half_of") fd
  d_children_of : ∃ fd, FnP K "children_of" s_children_of (He.ga K "children_of") fd
  d_is_leaf : ∃ fd, FnP K "is_leaf" s_is_leaf (He.ga K "is_leaf") fd
  d_inner_parts : ∃ fd, FnP K "inner_parts" s_inner_parts (He.ga K "inner_parts") fd
  d_Totals___init__ : ∃ fd, FnM K "__init__" "Totals.__init__" s_Totals___init__ (He.ma K (He.ga K "Totals") "__init__") fd
  d_Totals_total : ∃ fd, FnM K "total" "Totals.total" s_Totals_total (He.ma K (He.ga K "Totals") "total") fd
  d_Totals_cap : ∃ fd, FnM K "cap" "Totals.cap" s_Totals_cap (He.ma K (He.ga K "Totals") "cap") fd
  d_count_marks : ∃ fd, FnP K "count_marks" s_count_marks (He.ga K "count_marks") fd
  d_need_marked : ∃ fd, FnP K "need_marked" s_need_marked (He.ga K "need_marked") fd
  d_mark_rows : ∃ fd, FnP K "mark_rows" s_mark_rows (He.ga K "mark_rows") fd
  d__law_source : ∃ fd, FnP K "_law_source" s__law_source (He.ga K "_law_source") fd
  d__law_draw : ∃ fd, FnP K "_law_draw" s__law_draw (He.ga K "_law_draw") fd
  d__law_inner_parts : ∃ fd, FnP K "_law_inner_parts" s__law_inner_parts (He.ga K "_law_inner_parts") fd
  d__law_part_total : ∃ fd, FnP K "_law_part_total" s__law_part_total (He.ga K "_law_part_total") fd
  d__law_marks : ∃ fd, FnP K "_law_marks" s__law_marks (He.ga K "_law_marks") fd
  d__law_mark_count : ∃ fd, FnP K "_law_mark_count" s__law_mark_count (He.ga K "_law_mark_count") fd
  d__law_cut_sum : ∃ fd, FnP K "_law_cut_sum" s__law_cut_sum (He.ga K "_law_cut_sum") fd
  d__law_word : ∃ fd, FnP K "_law_word" s__law_word (He.ga K "_law_word") fd
  d__law_greater : ∃ fd, FnP K "_law_greater" s__law_greater (He.ga K "_law_greater") fd
  d__law_wrong_sums : ∃ fd, FnP K "_law_wrong_sums" s__law_wrong_sums (He.ga K "_law_wrong_sums") fd
  d_law : ∃ fd, FnP K "law" s_law (He.ga K "law") fd
section
variable {P : Program} {w : World} {K : PySem.W.Frag} {mg : Str → Option Value} {base : Heap}
theorem su__law_word_148 (T : Fx K mg) : Subs K mg subQ ["BadFirst", "BadSum", "TooGreat"] ["SumError"] := by
  intro d hd c hc C D e1 e2
  simp only [List.mem_cons, List.not_mem_nil, or_false] at hd hc
  rcases hd with rfl | rfl | rfl <;> rcases hc with rfl
  · cases e1.symm.trans T.c_BadFirst; cases e2.symm.trans T.c_SumError; exact T.p_BadFirst_SumError.trans (congrArg some (by decide +kernel))
  · cases e1.symm.trans T.c_BadSum; cases e2.symm.trans T.c_SumError; exact T.p_BadSum_SumError.trans (congrArg some (by decide +kernel))
  · cases e1.symm.trans T.c_TooGreat; cases e2.symm.trans T.c_SumError; exact T.p_TooGreat_SumError.trans (congrArg some (by decide +kernel))
theorem bn_is_int {f : Addr} {fd : FuncData} (F : FnP K "is_int" s_is_int f fd) : Binds K fd ps_is_int [] := F.bindsN fun _ _ _ _ _ _ us hl => match us, hl with | [_], _ => rfl
theorem bn_within {f : Addr} {fd : FuncData} (F : FnP K "within" s_within f fd) : Binds K fd ps_within [] := F.bindsN fun _ _ _ _ _ _ us hl => match us, hl with | [_, _, _], _ => rfl
theorem bn_is_index {f : Addr} {fd : FuncData} (F : FnP K "is_index" s_is_index f fd) : Binds K fd ps_is_index [] := F.bindsN fun _ _ _ _ _ _ us hl => match us, hl with | [_], _ => rfl
theorem bn_is_row {f : Addr} {fd : FuncData} (F : FnP K "is_row" s_is_row f fd) : Binds K fd ps_is_row [] := F.bindsN fun _ _ _ _ _ _ us hl => match us, hl with | [_, _, _], _ => rfl
theorem bn_is_term {f : Addr} {fd : FuncData} (F : FnP K "is_term" s_is_term f fd) : Binds K fd ps_is_term [] := F.bindsN fun _ _ _ _ _ _ us hl => match us, hl with | [_], _ => rfl
theorem bn_are_terms {f : Addr} {fd : FuncData} (F : FnP K "are_terms" s_are_terms f fd) : Binds K fd ps_are_terms [] := F.bindsN fun _ _ _ _ _ _ us hl => match us, hl with | [_], _ => rfl
theorem bn_is_sum {f : Addr} {fd : FuncData} (F : FnP K "is_sum" s_is_sum f fd) : Binds K fd ps_is_sum [] := F.bindsN fun _ _ _ _ _ _ us hl => match us, hl with | [_], _ => rfl
theorem bn_cut_of {f : Addr} {fd : FuncData} (F : FnP K "cut_of" s_cut_of f fd) : Binds K fd ps_cut_of [] := F.bindsN fun _ _ _ _ _ _ us hl => match us, hl with | [_], _ => rfl
theorem bn_half_of {f : Addr} {fd : FuncData} (F : FnP K "half_of" s_half_of f fd) : Binds K fd ps_half_of [] := F.bindsN fun _ _ _ _ _ _ us hl => match us, hl with | [_], _ => rfl
theorem bn_children_of {f : Addr} {fd : FuncData} (F : FnP K "children_of" s_children_of f fd) : Binds K fd ps_children_of [] := F.bindsN fun _ _ _ _ _ _ us hl => match us, hl with | [_], _ => rfl
theorem bn_is_leaf {f : Addr} {fd : FuncData} (F : FnP K "is_leaf" s_is_leaf f fd) : Binds K fd ps_is_leaf [] := F.bindsN fun _ _ _ _ _ _ us hl => match us, hl with | [_], _ => rfl
theorem bn_inner_parts {f : Addr} {fd : FuncData} (F : FnP K "inner_parts" s_inner_parts f fd) : Binds K fd ps_inner_parts [] := F.bindsN fun _ _ _ _ _ _ us hl => match us, hl with | [_], _ => rfl
theorem bn_Totals___init__ {f : Addr} {fd : FuncData} (F : FnM K "__init__" "Totals.__init__" s_Totals___init__ f fd) : Binds K fd ps_Totals___init__ [] := F.bindsN fun _ _ _ _ _ _ us hl => match us, hl with | [_, _, _], _ => rfl
theorem bn_Totals_total {f : Addr} {fd : FuncData} (F : FnM K "total" "Totals.total" s_Totals_total f fd) : Binds K fd ps_Totals_total [] := F.bindsN fun _ _ _ _ _ _ us hl => match us, hl with | [_, _], _ => rfl
theorem bn_Totals_cap {f : Addr} {fd : FuncData} (F : FnM K "cap" "Totals.cap" s_Totals_cap f fd) : Binds K fd ps_Totals_cap [] := F.bindsN fun _ _ _ _ _ _ us hl => match us, hl with | [_, _], _ => rfl
theorem bn_count_marks {f : Addr} {fd : FuncData} (F : FnP K "count_marks" s_count_marks f fd) : Binds K fd ps_count_marks [] := F.bindsN fun _ _ _ _ _ _ us hl => match us, hl with | [_], _ => rfl
theorem bn_need_marked {f : Addr} {fd : FuncData} (F : FnP K "need_marked" s_need_marked f fd) : Binds K fd ps_need_marked [] := F.bindsN fun _ _ _ _ _ _ us hl => match us, hl with | [_, _], _ => rfl
theorem bn_mark_rows {f : Addr} {fd : FuncData} (F : FnP K "mark_rows" s_mark_rows f fd) : Binds K fd ps_mark_rows [] := F.bindsN fun _ _ _ _ _ _ us hl => match us, hl with | [_, _], _ => rfl
theorem bn__law_source {f : Addr} {fd : FuncData} (F : FnP K "_law_source" s__law_source f fd) : Binds K fd ps__law_source [] := F.bindsN fun _ _ _ _ _ _ us hl => match us, hl with | [_], _ => rfl
theorem bn__law_draw {f : Addr} {fd : FuncData} (F : FnP K "_law_draw" s__law_draw f fd) : Binds K fd ps__law_draw [] := F.bindsN fun _ _ _ _ _ _ us hl => match us, hl with | [_, _], _ => rfl
theorem bn__law_inner_parts {f : Addr} {fd : FuncData} (F : FnP K "_law_inner_parts" s__law_inner_parts f fd) : Binds K fd ps__law_inner_parts [] := F.bindsN fun _ _ _ _ _ _ us hl => match us, hl with | [_], _ => rfl
theorem bn__law_part_total {f : Addr} {fd : FuncData} (F : FnP K "_law_part_total" s__law_part_total f fd) : Binds K fd ps__law_part_total [] := F.bindsN fun _ _ _ _ _ _ us hl => match us, hl with | [_, _], _ => rfl
theorem bn__law_marks {f : Addr} {fd : FuncData} (F : FnP K "_law_marks" s__law_marks f fd) : Binds K fd ps__law_marks [] := F.bindsN fun _ _ _ _ _ _ us hl => match us, hl with | [_, _], _ => rfl
theorem bn__law_mark_count {f : Addr} {fd : FuncData} (F : FnP K "_law_mark_count" s__law_mark_count f fd) : Binds K fd ps__law_mark_count [] := F.bindsN fun _ _ _ _ _ _ us hl => match us, hl with | [_], _ => rfl
theorem bn__law_cut_sum {f : Addr} {fd : FuncData} (F : FnP K "_law_cut_sum" s__law_cut_sum f fd) : Binds K fd ps__law_cut_sum [] := F.bindsN fun _ _ _ _ _ _ us hl => match us, hl with | [_, _, _], _ => rfl
theorem bn__law_word {f : Addr} {fd : FuncData} (F : FnP K "_law_word" s__law_word f fd) : Binds K fd ps__law_word [] := F.bindsN fun _ _ _ _ _ _ us hl => match us, hl with | [_, _], _ => rfl
theorem bn__law_greater {f : Addr} {fd : FuncData} (F : FnP K "_law_greater" s__law_greater f fd) : Binds K fd ps__law_greater [] := F.bindsN fun _ _ _ _ _ _ us hl => match us, hl with | [_, _], _ => rfl
theorem bn__law_wrong_sums {f : Addr} {fd : FuncData} (F : FnP K "_law_wrong_sums" s__law_wrong_sums f fd) : Binds K fd ps__law_wrong_sums [] := F.bindsN fun _ _ _ _ _ _ us hl => match us, hl with | [_], _ => rfl
theorem bn_law {f : Addr} {fd : FuncData} (F : FnP K "law" s_law f fd) : Binds K fd ps_law [] := F.bindsN fun _ _ _ _ _ _ us hl => match us, hl with | [_], _ => rfl
theorem ok_is_int (T : Fx K mg) {fd : FuncData} (F : FnP K "is_int" s_is_int (He.ga K "is_int") fd) : FnQ P w K mg base 1 (He.ga K "is_int") fd ps_is_int m_is_int := by
  refine q_fn F.toFun sc_is_int rfl fun cdv A outer s H E hr => ?_
  have NO : N_is_int.Nodup := sc_is_int.nd
  exact (s_one (s_ret (q_andV (q_isi (n := "int") rfl T.z_isinstance rfl T.z_int (by decide +kernel) (q_var (i := 0) rfl (.inl rfl))) (q_one (q_notV (q_isi (n := "bool") rfl T.z_isinstance rfl T.z_bool (by decide +kernel) (q_var (i := 0) rfl (.inl rfl))))))))
theorem ok_within (T : Fx K mg) {fd : FuncData} (F : FnP K "within" s_within (He.ga K "within") fd) : FnQ P w K mg base 2 (He.ga K "within") fd ps_within m_within := by
  obtain ⟨fd_is_int, F_is_int⟩ := T.d_is_int
  refine q_fn F.toFun sc_within rfl fun cdv A outer s H E hr => ?_
  have NO : N_within.Nodup := sc_within.nd
  exact (s_one (s_ret (q_andV (q_call (ok_is_int T F_is_int) (hr.mono (by decide)) rfl T.g_is_int F_is_int.kp (bn_is_int F_is_int) (takes_of rfl rfl rfl rfl) (ln_cons ln_nil) (q_acons (q_var (i := 0) rfl (.inl rfl)) q_anil)) (q_one (q_chainI op_le op_le (q_var (i := 1) rfl (.inl rfl)) (q_var (i := 0) rfl (.inl rfl)) (q_var (i := 2) rfl (.inl rfl)))))))
theorem ok_is_index (T : Fx K mg) {fd : FuncData} (F : FnP K "is_index" s_is_index (He.ga K "is_index") fd) : FnQ P w K mg base 2 (He.ga K "is_index") fd ps_is_index m_is_index := by
  obtain ⟨fd_is_int, F_is_int⟩ := T.d_is_int
  refine q_fn F.toFun sc_is_index rfl fun cdv A outer s H E hr => ?_
  have NO : N_is_index.Nodup := sc_is_index.nd
  exact (s_one (s_ret (q_andV (q_call (ok_is_int T F_is_int) (hr.mono (by decide)) rfl T.g_is_int F_is_int.kp (bn_is_int F_is_int) (takes_of rfl rfl rfl rfl) (ln_cons ln_nil) (q_acons (q_var (i := 0) rfl (.inl rfl)) q_anil)) (q_one (q_cmp op_ge f_ge (q_var (i := 0) rfl (.inl rfl)) q_int (nomark _))))))
theorem ok_is_row (T : Fx K mg) {fd : FuncData} (F : FnP K "is_row" s_is_row (He.ga K "is_row") fd) : FnQ P w K mg base 1 (He.ga K "is_row") fd ps_is_row m_is_row := by
  refine q_fn F.toFun sc_is_row rfl fun cdv A outer s H E hr => ?_
  have NO : N_is_row.Nodup := sc_is_row.nd
  exact (s_one (s_ret (q_andV (q_isi (n := "tuple") rfl T.z_isinstance rfl T.z_tuple (by decide +kernel) (q_var (i := 0) rfl (.inl rfl))) (q_one (q_chainI op_le op_le (q_var (i := 1) rfl (.inl rfl)) (q_len rfl T.z_len (qs_v (q_var (i := 0) rfl (.inl rfl)))) (q_var (i := 2) rfl (.inl rfl)))))))
theorem ok_is_term (T : Fx K mg) {fd : FuncData} (F : FnP K "is_term" s_is_term (He.ga K "is_term") fd) : FnQ P w K mg base 3 (He.ga K "is_term") fd ps_is_term m_is_term := by
  obtain ⟨fd_is_row, F_is_row⟩ := T.d_is_row
  obtain ⟨fd_is_index, F_is_index⟩ := T.d_is_index
  obtain ⟨fd_is_int, F_is_int⟩ := T.d_is_int
  refine q_fn F.toFun sc_is_term rfl fun cdv A outer s H E hr => ?_
  have NO : N_is_term.Nodup := sc_is_term.nd
  exact (s_one (s_ret (q_andV (q_call (ok_is_row T F_is_row) (hr.mono (by decide)) rfl T.g_is_row F_is_row.kp (bn_is_row F_is_row) (takes_of rfl rfl rfl rfl) (ln_cons (ln_cons (ln_cons ln_nil))) (q_acons (q_var (i := 0) rfl (.inl rfl)) (q_acons q_int (q_acons q_int q_anil)))) (q_andV (q_call (ok_is_index T F_is_index) (hr.mono (by decide)) rfl T.g_is_index F_is_index.kp (bn_is_index F_is_index) (takes_of rfl rfl rfl rfl) (ln_cons ln_nil) (q_acons (q_ix (q_var (i := 0) rfl (.inl rfl)) q_int) q_anil)) (q_andV (q_call (ok_is_int T F_is_int) (hr.mono (by decide)) rfl T.g_is_int F_is_int.kp (bn_is_int F_is_int) (takes_of rfl rfl rfl rfl) (ln_cons ln_nil) (q_acons (q_ix (q_var (i := 0) rfl (.inl rfl)) q_int) q_anil)) (q_one (q_cmp op_ge f_ge (q_ix (q_var (i := 0) rfl (.inl rfl)) q_int) q_int (nomark _))))))))
theorem ok_are_terms (T : Fx K mg) {fd : FuncData} (F : FnP K "are_terms" s_are_terms (He.ga K "are_terms") fd) : FnQ P w K mg base 4 (He.ga K "are_terms") fd ps_are_terms m_are_terms := by
  obtain ⟨fd_is_term, F_is_term⟩ := T.d_is_term
  refine q_fn F.toFun sc_are_terms rfl fun cdv A outer s H E hr => ?_
  have NO : N_are_terms.Nodup := sc_are_terms.nd
  exact (s_cons (s_if (PW.pt (q_or (q_not (q_tv (q_isi (n := "tuple") rfl T.z_isinstance rfl T.z_tuple (by decide +kernel) (q_var (i := 0) rfl (.inl rfl))))) (q_or1 (q_not (q_tv (q_all rfl rfl T.z_all (l_new (q_lc (own := [("entry", 2)]) rfl NO (go_n (by decide)) (i_val (q_var (i := 0) rfl (.inl rfl))) (blk_of (by kernel_rfl)) (fun _ _ _ _ _ => (g_name (i := 2) (by decide) NO rfl (.inl rfl))) (fun _ _ _ _ _ => ts_nil) (fun _ _ _ _ _ => (q_call (ok_is_term T F_is_term) (hr.mono (by decide)) rfl T.g_is_term F_is_term.kp (bn_is_term F_is_term) tk0 (ln_cons ln_nil) (q_acons (q_var (i := 2) rfl (.inl rfl)) q_anil))))))))))) (s_one (s_ret q_bl)) s_nil)
    (s_cons (s_setLc (i := 1) (own := [("literal", 3), ("weight", 4)]) rfl NO rfl rfl (by rfl) (go_t (go_c (go_n (by decide)) (go_c (go_n (by decide)) go_nil))) (i_val (q_var (i := 0) rfl (.inl rfl))) (blk_of (by kernel_rfl)) (fun _ _ _ _ _ => (g_tup rfl (gs_cons (g_name (i := 3) (by decide) NO rfl (.inl rfl)) (gs_cons (g_name (i := 4) (by decide) NO rfl (.inl rfl)) gs_nil)))) (fun _ _ _ _ _ => ts_nil) (fun _ _ _ _ _ => (q_op op_fdivW f_div (q_var (i := 3) rfl (.inl rfl)) q_int)))
    (s_one (s_frz 1 (s_ret (q_all rfl rfl T.z_all (l_new (q_lc (own := [("one", 5), ("other", 6)]) rfl NO (go_t (go_c (go_n (by decide)) (go_c (go_n (by decide)) go_nil))) (i_zip rfl T.z_zip (q_var (i := 1) rfl (.inl rfl)) (q_cut (q_var (i := 1) rfl (.inl rfl)) (p_some q_int) p_none)) (blk_of (by kernel_rfl)) (fun _ _ _ _ _ => (g_tup rfl (gs_cons (g_name (i := 5) (by decide) NO rfl (.inl rfl)) (gs_cons (g_name (i := 6) (by decide) NO rfl (.inl rfl)) gs_nil)))) (fun _ _ _ _ _ => ts_nil) (fun _ _ _ _ _ => (q_cmp op_lt f_lt (q_var (i := 5) rfl (.inl rfl)) (q_var (i := 6) rfl (.inl rfl)) (nomark _)))))))))))
theorem ok_is_sum (T : Fx K mg) {fd : FuncData} (F : FnP K "is_sum" s_is_sum (He.ga K "is_sum") fd) : FnQ P w K mg base 5 (He.ga K "is_sum") fd ps_is_sum m_is_sum := by
  obtain ⟨fd_is_row, F_is_row⟩ := T.d_is_row
  obtain ⟨fd_are_terms, F_are_terms⟩ := T.d_are_terms
  obtain ⟨fd_is_int, F_is_int⟩ := T.d_is_int
  refine q_fn F.toFun sc_is_sum rfl fun cdv A outer s H E hr => ?_
  have NO : N_is_sum.Nodup := sc_is_sum.nd
  exact (s_one (s_ret (q_andV (q_call (ok_is_row T F_is_row) (hr.mono (by decide)) rfl T.g_is_row F_is_row.kp (bn_is_row F_is_row) (takes_of rfl rfl rfl rfl) (ln_cons (ln_cons (ln_cons ln_nil))) (q_acons (q_var (i := 0) rfl (.inl rfl)) (q_acons q_int (q_acons q_int q_anil)))) (q_andV (q_call (ok_are_terms T F_are_terms) (hr.mono (by decide)) rfl T.g_are_terms F_are_terms.kp (bn_are_terms F_are_terms) (takes_of rfl rfl rfl rfl) (ln_cons ln_nil) (q_acons (q_ix (q_var (i := 0) rfl (.inl rfl)) q_int) q_anil)) (q_one (q_call (ok_is_int T F_is_int) (hr.mono (by decide)) rfl T.g_is_int F_is_int.kp (bn_is_int F_is_int) (takes_of rfl rfl rfl rfl) (ln_cons ln_nil) (q_acons (q_ix (q_var (i := 0) rfl (.inl rfl)) q_int) q_anil)))))))
theorem ok_cut_of (T : Fx K mg) {fd : FuncData} (F : FnP K "cut_of" s_cut_of (He.ga K "cut_of") fd) : FnQ P w K mg base 1 (He.ga K "cut_of") fd ps_cut_of m_cut_of := by
  refine q_fn F.toFun sc_cut_of rfl fun cdv A outer s H E hr => ?_
  have NO : N_cut_of.Nodup := sc_cut_of.nd
  exact (s_cons (s_if (q_tc op_le f_le (q_ix (q_var (i := 0) rfl (.inr (.inl rfl))) q_int) q_int (nomark _)) (s_one (s_ret (q_tup (q_acons (q_tup q_anil ln_nil) (q_acons q_int q_anil)) (ln_cons (ln_cons ln_nil))))) s_nil)
    (s_one (s_ret (q_tup (q_acons (q_tupL rfl T.z_tuple (l_new (q_lc (own := [("literal", 1), ("weight", 2)]) rfl NO (go_t (go_c (go_n (by decide)) (go_c (go_n (by decide)) go_nil))) (i_val (q_ix (q_var (i := 0) rfl (.inr (.inl rfl))) q_int)) (blk_of (by kernel_rfl)) (fun _ _ _ _ _ => (g_tup rfl (gs_cons (g_name (i := 1) (by decide) NO rfl (.inl rfl)) (gs_cons (g_name (i := 2) (by decide) NO rfl (.inl rfl)) gs_nil)))) (fun _ _ _ _ _ => ts_nil) (fun _ _ _ _ _ => (q_tup (q_acons (q_var (i := 1) rfl (.inl rfl)) (q_acons (q_min2 rfl rfl T.z_min (q_var (i := 2) rfl (.inl rfl)) (q_ix (q_var (i := 0) rfl (.inr (.inl rfl))) q_int)) q_anil)) (ln_cons (ln_cons ln_nil))))))) (q_acons (q_ix (q_var (i := 0) rfl (.inr (.inl rfl))) q_int) q_anil)) (ln_cons (ln_cons ln_nil))))))
theorem ok_half_of (T : Fx K mg) {fd : FuncData} (F : FnP K "half_of" s_half_of (He.ga K "half_of") fd) : FnQ P w K mg base 1 (He.ga K "half_of") fd ps_half_of m_half_of := by
  refine q_fn F.toFun sc_half_of rfl fun cdv A outer s H E hr => ?_
  have NO : N_half_of.Nodup := sc_half_of.nd
  exact (s_cons (s_asg (own := [1, 2]) (q_var (i := 0) rfl (.inl rfl)) (g_tup rfl (gs_cons (g_name (i := 1) (by decide) NO rfl (.inl rfl)) (gs_cons (g_name (i := 2) (by decide) NO rfl (.inl rfl)) gs_nil))))
    (s_one (s_ret (q_op op_fdivW f_div (q_add (q_add (q_var (i := 1) rfl (.inl rfl)) (q_var (i := 2) rfl (.inl rfl))) q_int) q_int))))
theorem ok_children_of (T : Fx K mg) {fd : FuncData} (F : FnP K "children_of" s_children_of (He.ga K "children_of") fd) : FnQ P w K mg base 2 (He.ga K "children_of") fd ps_children_of m_children_of := by
  obtain ⟨fd_half_of, F_half_of⟩ := T.d_half_of
  refine q_fn F.toFun sc_children_of rfl fun cdv A outer s H E hr => ?_
  have NO : N_children_of.Nodup := sc_children_of.nd
  exact (s_cons (s_asg (own := [1, 2]) (q_var (i := 0) rfl (.inl rfl)) (g_tup rfl (gs_cons (g_name (i := 1) (by decide) NO rfl (.inl rfl)) (gs_cons (g_name (i := 2) (by decide) NO rfl (.inl rfl)) gs_nil))))
    (s_one (s_ret (q_tup (q_acons (q_tup (q_acons (q_var (i := 1) rfl (.inl rfl)) (q_acons (q_call (ok_half_of T F_half_of) (hr.mono (by decide)) rfl T.g_half_of F_half_of.kp (bn_half_of F_half_of) (takes_of rfl rfl rfl rfl) (ln_cons ln_nil) (q_acons (q_var (i := 0) rfl (.inl rfl)) q_anil)) q_anil)) (ln_cons (ln_cons ln_nil))) (q_acons (q_tup (q_acons (q_call (ok_half_of T F_half_of) (hr.mono (by decide)) rfl T.g_half_of F_half_of.kp (bn_half_of F_half_of) (takes_of rfl rfl rfl rfl) (ln_cons ln_nil) (q_acons (q_var (i := 0) rfl (.inl rfl)) q_anil)) (q_acons (q_var (i := 2) rfl (.inl rfl)) q_anil)) (ln_cons (ln_cons ln_nil))) q_anil)) (ln_cons (ln_cons ln_nil))))))
theorem ok_is_leaf (T : Fx K mg) {fd : FuncData} (F : FnP K "is_leaf" s_is_leaf (He.ga K "is_leaf") fd) : FnQ P w K mg base 1 (He.ga K "is_leaf") fd ps_is_leaf m_is_leaf := by
  refine q_fn F.toFun sc_is_leaf rfl fun cdv A outer s H E hr => ?_
  have NO : N_is_leaf.Nodup := sc_is_leaf.nd
  exact (s_one (s_ret (q_eq hr.units (q_op op_sub f_sub (q_ix (q_var (i := 0) rfl (.inl rfl)) q_int) (q_ix (q_var (i := 0) rfl (.inl rfl)) q_int)) q_int)))
theorem ok_inner_parts (T : Fx K mg) {fd : FuncData} (F : FnP K "inner_parts" s_inner_parts (He.ga K "inner_parts") fd) : FnQ P w K mg base 3 (He.ga K "inner_parts") fd ps_inner_parts m_inner_parts := by
  obtain ⟨fd_is_leaf, F_is_leaf⟩ := T.d_is_leaf
  obtain ⟨fd_children_of, F_children_of⟩ := T.d_children_of
  refine q_fn F.toFun sc_inner_parts rfl fun cdv A outer s H E hr => ?_
  have NO : N_inner_parts.Nodup := sc_inner_parts.nd
  exact (s_cons (s_par (i := 1) (j := 2) rfl NO rfl rfl (by decide) rfl rfl (c_o (q_lst q_anil ln_nil)) (c_o (q_lst (q_acons (q_tup (q_acons q_int (q_acons (q_var (i := 0) rfl (.inr (.inl rfl))) q_anil)) (ln_cons (ln_cons ln_nil))) q_anil) (ln_cons ln_nil))) (by rfl))
    (s_cons (s_while fuelW (passes_of rfl) (t_neO (i := 2) hr.units rfl (.inl rfl) (q_fz (q_lst q_anil ln_nil))) (s_cons (s_asgX (own := [3]) (x_pop (i := 2) rfl (.inl rfl)) (g_name (i := 3) (by decide) NO rfl (.inl rfl)))
    (s_one (s_if (q_not (q_tv (q_call (ok_is_leaf T F_is_leaf) (hr.mono (by decide)) rfl T.g_is_leaf F_is_leaf.kp (bn_is_leaf F_is_leaf) (takes_of rfl rfl rfl rfl) (ln_cons ln_nil) (q_acons (q_var (i := 3) rfl (.inl rfl)) q_anil)))) (s_cons (s_exprX (x_app (i := 1) rfl (.inl rfl) (q_var (i := 3) rfl (.inl rfl))))
    (s_one (s_exprX (x_extV (i := 2) rfl (.inl rfl) (q_call (ok_children_of T F_children_of) (hr.mono (by decide)) rfl T.g_children_of F_children_of.kp (bn_children_of F_children_of) (takes_of rfl rfl rfl rfl) (ln_cons ln_nil) (q_acons (q_var (i := 3) rfl (.inl rfl)) q_anil)))))) s_nil))))
    (s_one (s_frz 1 (s_ret (q_srt (hu200 hr) rfl T.z_sorted (l_new (q_lc (own := [("part", 3)]) rfl NO (go_n (by decide)) (i_val (q_var (i := 1) rfl (.inl rfl))) (blk_of (by kernel_rfl)) (fun _ _ _ _ _ => (g_name (i := 3) (by decide) NO rfl (.inl rfl))) (fun _ _ _ _ _ => (ts_one (t_ne hr.units (q_var (i := 3) rfl (.inl rfl)) (q_tup (q_acons q_int (q_acons (q_var (i := 0) rfl (.inr (.inl rfl))) q_anil)) (ln_cons (ln_cons ln_nil)))))) (fun _ _ _ _ _ => (q_var (i := 3) rfl (.inl rfl)))))))))))
theorem ok_Totals_total (T : Fx K mg) {fd : FuncData} (F : FnM K "total" "Totals.total" s_Totals_total (He.ma K (He.ga K "Totals") "total") fd) : FnQ P w K mg base 1 (He.ma K (He.ga K "Totals") "total") fd ps_Totals_total m_Totals_total := by
  refine q_fn F.toFun sc_Totals_total rfl fun cdv A outer s H E hr => ?_
  have NO : N_Totals_total.Nodup := sc_Totals_total.nd
  exact (s_one (s_ret (q_sum rfl rfl T.z_sum (l_new (q_lc (own := [("literal", 2), ("weight", 3)]) rfl NO (go_t (go_c (go_n (by decide)) (go_c (go_n (by decide)) go_nil))) (i_val (q_cut (q_fld T.cl_Totals T.na_Totals_terms (q_var (i := 0) rfl (.inl rfl))) (p_some (q_ix (q_var (i := 1) rfl (.inl rfl)) q_int)) (p_some (q_ix (q_var (i := 1) rfl (.inl rfl)) q_int)))) (blk_of (by kernel_rfl)) (fun _ _ _ _ _ => (g_tup rfl (gs_cons (g_name (i := 2) (by decide) NO rfl (.inl rfl)) (gs_cons (g_name (i := 3) (by decide) NO rfl (.inl rfl)) gs_nil)))) (fun _ _ _ _ _ => ts_nil) (fun _ _ _ _ _ => (q_var (i := 3) rfl (.inl rfl))))))))
theorem ok_Totals_cap (T : Fx K mg) {fd : FuncData} (F : FnM K "cap" "Totals.cap" s_Totals_cap (He.ma K (He.ga K "Totals") "cap") fd) : FnQ P w K mg base 2 (He.ma K (He.ga K "Totals") "cap") fd ps_Totals_cap m_Totals_cap := by
  obtain ⟨fd_Totals_total, F_Totals_total⟩ := T.d_Totals_total
  refine q_fn F.toFun sc_Totals_cap rfl fun cdv A outer s H E hr => ?_
  have NO : N_Totals_cap.Nodup := sc_Totals_cap.nd
  exact (s_one (s_ret (q_min2 rfl rfl T.z_min (q_meth T.cl_Totals T.me_Totals_total (ok_Totals_total T F_Totals_total) (hr.mono (by decide)) (bn_Totals_total F_Totals_total) (takes_of rfl rfl rfl rfl) (ln_cons ln_nil) rfl (q_var (i := 0) rfl (.inl rfl)) (q_acons (q_var (i := 1) rfl (.inl rfl)) q_anil)) (q_fld T.cl_Totals T.na_Totals_degree (q_var (i := 0) rfl (.inl rfl))))))
theorem ok_Totals___init__ (T : Fx K mg) {fd : FuncData} (F : FnM K "__init__" "Totals.__init__" s_Totals___init__ (He.ma K (He.ga K "Totals") "__init__") fd) : FnQ P w K mg base 4 (He.ma K (He.ga K "Totals") "__init__") fd ps_Totals___init__ m_Totals___init__ := by
  obtain ⟨fd_inner_parts, F_inner_parts⟩ := T.d_inner_parts
  obtain ⟨fd_Totals_cap, F_Totals_cap⟩ := T.d_Totals_cap
  refine q_fn F.toFun sc_Totals___init__ rfl fun cdv A outer s H E hr => ?_
  have NO : N_Totals___init__.Nodup := sc_Totals___init__.nd
  exact (s_cons (s_asgF (c := "Totals") (i := 0) (ts := [("terms", _, _), ("degree", _, _)]) rfl T.cl_Totals (fa_cons T.na_Totals_terms (fa_cons T.na_Totals_degree fa_nil)) (fun _ => q_var (i := 0) rfl (.inl rfl)) (q_var (i := 1) rfl (.inl rfl)) rfl)
    (s_cons (s_fld T.cl_Totals T.na_Totals_whole (q_var (i := 0) rfl (.inl rfl)) (q_tup (q_acons q_int (q_acons (q_len rfl T.z_len (qs_v (q_fld T.cl_Totals T.na_Totals_terms (q_var (i := 0) rfl (.inl rfl))))) q_anil)) (ln_cons (ln_cons ln_nil))))
    (s_cons (s_fld T.cl_Totals T.na_Totals_parts (q_var (i := 0) rfl (.inl rfl)) (q_call (ok_inner_parts T F_inner_parts) (hr.mono (by decide)) rfl T.g_inner_parts F_inner_parts.kp (bn_inner_parts F_inner_parts) (takes_of rfl rfl rfl rfl) (ln_cons ln_nil) (q_acons (q_len rfl T.z_len (qs_v (q_fld T.cl_Totals T.na_Totals_terms (q_var (i := 0) rfl (.inl rfl))))) q_anil)))
    (s_cons (s_fld T.cl_Totals T.na_Totals_marks (q_var (i := 0) rfl (.inl rfl)) (q_sto q_dnew))
    (s_one (s_for (own := [3]) (passes_of rfl) rfl (i_val (q_fld T.cl_Totals T.na_Totals_parts (q_var (i := 0) rfl (.inl rfl)))) (g_name (i := 3) (by decide) NO rfl (.inl rfl)) (s_one (s_for (own := [4]) (passes_of rfl) rfl (i_rng2 rfl T.z_range q_int (q_add (q_meth T.cl_Totals T.me_Totals_cap (ok_Totals_cap T F_Totals_cap) (hr.mono (by decide)) (bn_Totals_cap F_Totals_cap) (takes_of rfl rfl rfl rfl) (ln_cons ln_nil) rfl (q_var (i := 0) rfl (.inl rfl)) (q_acons (q_var (i := 3) rfl (.inl rfl)) q_anil)) q_int)) (g_name (i := 4) (by decide) NO rfl (.inl rfl)) (s_one (s_nput (hu16 hr) (q_fld T.cl_Totals T.na_Totals_marks (q_var (i := 0) rfl (.inl rfl))) (q_tup (q_acons (q_var (i := 3) rfl (.inl rfl)) (q_acons (q_var (i := 4) rfl (.inl rfl)) q_anil)) (ln_cons (ln_cons ln_nil))) (q_add (q_var (i := 2) rfl (.inl rfl)) (q_lenN rfl T.z_len (q_fld T.cl_Totals T.na_Totals_marks (q_var (i := 0) rfl (.inl rfl)))))))))))))))
theorem ok_count_marks (T : Fx K mg) {fd : FuncData} (F : FnP K "count_marks" s_count_marks (He.ga K "count_marks") fd) : FnQ P w K mg base 4 (He.ga K "count_marks") fd ps_count_marks m_count_marks := by
  obtain ⟨fd_inner_parts, F_inner_parts⟩ := T.d_inner_parts
  refine q_fn F.toFun sc_count_marks rfl fun cdv A outer s H E hr => ?_
  have NO : N_count_marks.Nodup := sc_count_marks.nd
  exact (s_cons (s_asg (own := [1, 2]) (q_var (i := 0) rfl (.inl rfl)) (g_tup rfl (gs_cons (g_name (i := 1) (by decide) NO rfl (.inl rfl)) (gs_cons (g_name (i := 2) (by decide) NO rfl (.inl rfl)) gs_nil))))
    (s_cons (s_set NO (i := 3) rfl (.inl rfl) q_int)
    (s_cons (s_for (own := [4, 5]) (passes_of rfl) rfl (i_val (q_call (ok_inner_parts T F_inner_parts) (hr.mono (by decide)) rfl T.g_inner_parts F_inner_parts.kp (bn_inner_parts F_inner_parts) (takes_of rfl rfl rfl rfl) (ln_cons ln_nil) (q_acons (q_len rfl T.z_len (qs_v (q_var (i := 1) rfl (.inl rfl)))) q_anil))) (g_tup rfl (gs_cons (g_name (i := 4) (by decide) NO rfl (.inl rfl)) (gs_cons (g_name (i := 5) (by decide) NO rfl (.inl rfl)) gs_nil))) (s_one (s_aug NO (i := 3) rfl (.inl rfl) (q_min2 rfl rfl T.z_min (q_sum rfl rfl T.z_sum (l_new (q_lc (own := [("literal", 6), ("weight", 7)]) rfl NO (go_t (go_c (go_n (by decide)) (go_c (go_n (by decide)) go_nil))) (i_val (q_cut (q_var (i := 1) rfl (.inl rfl)) (p_some (q_var (i := 4) rfl (.inl rfl))) (p_some (q_var (i := 5) rfl (.inl rfl))))) (blk_of (by kernel_rfl)) (fun _ _ _ _ _ => (g_tup rfl (gs_cons (g_name (i := 6) (by decide) NO rfl (.inl rfl)) (gs_cons (g_name (i := 7) (by decide) NO rfl (.inl rfl)) gs_nil)))) (fun _ _ _ _ _ => ts_nil) (fun _ _ _ _ _ => (q_var (i := 7) rfl (.inl rfl)))))) (q_var (i := 2) rfl (.inl rfl))) ip_add f_iadd)))
    (s_one (s_ret (q_var (i := 3) rfl (.inl rfl)))))))
theorem ok_need_marked (T : Fx K mg) {fd : FuncData} (F : FnP K "need_marked" s_need_marked (He.ga K "need_marked") fd) : FnQ P w K mg base 6 (He.ga K "need_marked") fd ps_need_marked m_need_marked := by
  obtain ⟨fd_is_sum, F_is_sum⟩ := T.d_is_sum
  obtain ⟨fd_cut_of, F_cut_of⟩ := T.d_cut_of
  obtain ⟨fd_within, F_within⟩ := T.d_within
  obtain ⟨fd_count_marks, F_count_marks⟩ := T.d_count_marks
  refine q_fn F.toFun sc_need_marked rfl fun cdv A outer s H E hr => ?_
  have NO : N_need_marked.Nodup := sc_need_marked.nd
  exact (s_cons (s_if (PW.pt (q_or (q_not (q_tv (q_call (ok_is_sum T F_is_sum) (hr.mono (by decide)) rfl T.g_is_sum F_is_sum.kp (bn_is_sum F_is_sum) (takes_of rfl rfl rfl rfl) (ln_cons ln_nil) (q_acons (q_var (i := 0) rfl (.inl rfl)) q_anil)))) (q_or (q_tc op_lt f_lt (q_len rfl T.z_len (qs_v (q_ix (q_var (i := 0) rfl (.inl rfl)) q_int))) q_int (nomark _)) (q_or (q_tc op_lt f_lt (q_ix (q_var (i := 0) rfl (.inl rfl)) q_int) q_int (nomark _)) (q_or1 (t_ne hr.units (q_call (ok_cut_of T F_cut_of) (hr.mono (by decide)) rfl T.g_cut_of F_cut_of.kp (bn_cut_of F_cut_of) (takes_of rfl rfl rfl rfl) (ln_cons ln_nil) (q_acons (q_var (i := 0) rfl (.inl rfl)) q_anil)) (q_var (i := 0) rfl (.inl rfl)))))))) (s_one (s_raise rfl (takes_of rfl rfl rfl rfl) T.c_BadSum (pmk_own PySem.F.excBase_ValueError T.x_BadSum.1 T.c_BadSum T.x_BadSum.2.1 (raises_own T.x_BadSum.2.2.1 T.x_BadSum.2.2.2) rfl))) s_nil)
    (s_cons (s_if (q_not (q_tv (q_call (ok_within T F_within) (hr.mono (by decide)) rfl T.g_within F_within.kp (bn_within F_within) (takes_of rfl rfl rfl rfl) (ln_cons (ln_cons (ln_cons ln_nil))) (q_acons (q_var (i := 1) rfl (.inl rfl)) (q_acons (q_add (q_op op_fdivW f_div (q_ix (q_ix (q_ix (q_var (i := 0) rfl (.inl rfl)) q_int) (q_un un_neg f_neg q_int)) q_int) q_int) q_int) (q_acons (q_glob (v := .int 1000000) rfl (T.i_MOST_FIRST).choose_spec ⟨_, rfl⟩ (fun _ => .int _)) q_anil)))))) (s_one (s_raise rfl (takes_of rfl rfl rfl rfl) T.c_BadFirst (pmk_own PySem.F.excBase_ValueError T.x_BadFirst.1 T.c_BadFirst T.x_BadFirst.2.1 (raises_own T.x_BadFirst.2.2.1 T.x_BadFirst.2.2.2) rfl))) s_nil)
    (s_one (s_if (q_tc op_gt f_gt (q_call (ok_count_marks T F_count_marks) (hr.mono (by decide)) rfl T.g_count_marks F_count_marks.kp (bn_count_marks F_count_marks) (takes_of rfl rfl rfl rfl) (ln_cons ln_nil) (q_acons (q_var (i := 0) rfl (.inl rfl)) q_anil)) (q_glob (v := .int 200) rfl (T.i_MOST_MARKS).choose_spec ⟨_, rfl⟩ (fun _ => .int _)) (nomark _)) (s_one (s_raise rfl (takes_of rfl rfl rfl rfl) T.c_TooGreat (pmk_own PySem.F.excBase_ValueError T.x_TooGreat.1 T.c_TooGreat T.x_TooGreat.2.1 (raises_own T.x_TooGreat.2.2.1 T.x_TooGreat.2.2.2) rfl))) s_nil))))
theorem ok_mark_rows (T : Fx K mg) {fd : FuncData} (F : FnP K "mark_rows" s_mark_rows (He.ga K "mark_rows") fd) : FnQ P w K mg base 7 (He.ga K "mark_rows") fd ps_mark_rows m_mark_rows := by
  obtain ⟨fd_need_marked, F_need_marked⟩ := T.d_need_marked
  obtain ⟨fd_Totals___init__, F_Totals___init__⟩ := T.d_Totals___init__
  refine q_fn F.toFun sc_mark_rows rfl fun cdv A outer s H E hr => ?_
  have NO : N_mark_rows.Nodup := sc_mark_rows.nd
  exact (s_cons (s_expr (q_call (ok_need_marked T F_need_marked) (hr.mono (by decide)) rfl T.g_need_marked F_need_marked.kp (bn_need_marked F_need_marked) (takes_of rfl rfl rfl rfl) (ln_cons (ln_cons ln_nil)) (q_acons (q_var (i := 0) rfl (.inl rfl)) (q_acons (q_var (i := 1) rfl (.inl rfl)) q_anil))))
    (s_one (s_ret (q_tupL rfl T.z_tuple (l_new (q_lc (own := [("part", 2), ("j", 3), ("variable", 4)]) rfl NO (go_t (go_c (go_t (go_c (go_n (by decide)) (go_c (go_n (by decide)) go_nil))) (go_c (go_n (by decide)) go_nil))) (i_itemsN (q_fld T.cl_Totals T.na_Totals_marks (q_make T.mk_Totals (ok_Totals___init__ T F_Totals___init__) (hr.mono (by decide)) rfl T.gc_Totals (bn_Totals___init__ F_Totals___init__) (takes_of rfl rfl rfl rfl) (ln_cons (ln_cons ln_nil)) rfl (q_acons (q_var (i := 0) rfl (.inl rfl)) (q_acons (q_var (i := 1) rfl (.inl rfl)) q_anil))))) (blk_of (by kernel_rfl)) (fun _ _ _ _ _ => (g_tup rfl (gs_cons (g_tup rfl (gs_cons (g_name (i := 2) (by decide) NO rfl (.inl rfl)) (gs_cons (g_name (i := 3) (by decide) NO rfl (.inl rfl)) gs_nil))) (gs_cons (g_name (i := 4) (by decide) NO rfl (.inl rfl)) gs_nil)))) (fun _ _ _ _ _ => ts_nil) (fun _ _ _ _ _ => (q_tup (q_acons (q_var (i := 2) rfl (.inl rfl)) (q_acons (q_var (i := 3) rfl (.inl rfl)) (q_acons (q_var (i := 4) rfl (.inl rfl)) q_anil))) (ln_cons (ln_cons (ln_cons ln_nil)))))))))))
theorem ok__law_source (T : Fx K mg) {fd : FuncData} (F : FnP K "_law_source" s__law_source (He.ga K "_law_source") fd) : FnQ P w K mg base 1 (He.ga K "_law_source") fd ps__law_source m__law_source := by
  refine q_fn F.toFun sc__law_source rfl fun cdv A outer s H E hr => ?_
  have NO : N__law_source.Nodup := sc__law_source.nd
  exact (s_cons (s_setLc (i := 1) (own := [("cell", 4)]) rfl NO rfl rfl (by rfl) (go_n (by decide)) (i_val (q_cut (q_var (i := 0) rfl (.inl rfl)) p_none (p_some q_int))) (blk_of (by kernel_rfl)) (fun _ _ _ _ _ => (g_name (i := 4) (by decide) NO rfl (.inl rfl))) (fun _ _ _ _ _ => ts_nil) (fun _ _ _ _ _ => (q_op op_mod f_mod (q_toI rfl T.z_int (q_var (i := 4) rfl (.inl rfl))) (q_op op_pow f_pow q_int q_int))))
    (s_cons (s_frz 1 (s_setLcS (i := 2) (own := [("cell", 4)]) rfl NO rfl rfl (by rfl) (go_n (by decide)) (i_val (q_var (i := 1) rfl (.inl rfl))) (blk_of (by kernel_rfl)) (fun _ _ _ _ _ => (g_name (i := 4) (by decide) NO rfl (.inl rfl))) (fun _ _ _ _ _ => (ts_one (q_tc op_ge f_ge (q_var (i := 4) rfl (.inl rfl)) (q_op op_pow f_pow q_int q_int) (nomark _)))) (fun _ _ _ _ _ => (q_var (i := 4) rfl (.inl rfl)))))
    (s_cons (s_frz 1 (s_setLc (i := 3) (own := [("cell", 4)]) rfl NO rfl rfl (by rfl) (go_n (by decide)) (i_val (q_var (i := 1) rfl (.inl rfl))) (blk_of (by kernel_rfl)) (fun _ _ _ _ _ => (g_name (i := 4) (by decide) NO rfl (.inl rfl))) (fun _ _ _ _ _ => (ts_one (q_tc op_lt f_lt (q_var (i := 4) rfl (.inl rfl)) (q_op op_pow f_pow q_int q_int) (nomark _)))) (fun _ _ _ _ _ => (q_var (i := 4) rfl (.inl rfl)))))
    (s_one (s_frz 3 (s_retO (q_lst (q_acons (q_var (i := 2) rfl (.inl rfl)) (q_acons (q_var (i := 3) rfl (.inl rfl)) (q_acons q_int q_anil))) (ln_cons (ln_cons (ln_cons ln_nil))))))))))
theorem ok__law_draw (T : Fx K mg) {fd : FuncData} (F : FnP K "_law_draw" s__law_draw (He.ga K "_law_draw") fd) : FnQ P w K mg base 1 (He.ga K "_law_draw") fd ps__law_draw m__law_draw := by
  refine q_fn F.toFun sc__law_draw rfl fun cdv A outer s H E hr => ?_
  have NO : N__law_draw.Nodup := sc__law_draw.nd
  exact (s_cons (s_par3 (i := 2) (j := 3) (l := 4) rfl NO rfl rfl rfl (by decide) (by decide) (by decide) rfl rfl rfl (c_w (q_ix (q_var (i := 0) rfl (.inl rfl)) q_int)) (c_w (q_ix (q_var (i := 0) rfl (.inl rfl)) q_int)) (c_w (q_ix (q_var (i := 0) rfl (.inl rfl)) q_int)) (by rfl))
    (s_cons (s_setIx (q_add (q_var (i := 4) rfl (.inl rfl)) q_int) (q_var (i := 0) rfl (.inl rfl)) q_int)
    (s_cons (s_if (t_ne hr.units (q_var (i := 2) rfl (.inl rfl)) (q_fz (q_lst q_anil ln_nil))) (s_cons (s_set NO (i := 5) rfl (.inl rfl) (q_ix (q_var (i := 2) rfl (.inl rfl)) q_int))
    (s_cons (s_setIx (q_op op_fdivW f_div (q_var (i := 5) rfl (.inl rfl)) (q_var (i := 1) rfl (.inl rfl))) (q_var (i := 2) rfl (.inl rfl)) q_int)
    (s_cons (s_if (t_eq hr.units (q_ix (q_var (i := 2) rfl (.inl rfl)) q_int) q_int) (s_one (s_expr (q_popS (q_var (i := 2) rfl (.inl rfl)) q_int))) s_nil)
    (s_one (s_ret (q_op op_mod f_mod (q_toI rfl T.z_int (q_var (i := 5) rfl (.inl rfl))) (q_var (i := 1) rfl (.inl rfl)))))))) s_nil)
    (s_cons (s_set NO (i := 6) rfl (.inl rfl) (q_if (t_ne hr.units (q_var (i := 3) rfl (.inl rfl)) (q_fz (q_lst q_anil ln_nil))) (q_ix (q_var (i := 3) rfl (.inl rfl)) (q_op op_mod f_mod (q_var (i := 4) rfl (.inl rfl)) (q_len rfl T.z_len (qs_v (q_var (i := 3) rfl (.inl rfl)))))) q_int))
    (s_cons (s_set NO (i := 7) rfl (.inl rfl) (q_op op_mod f_mod (q_toI rfl T.z_int (q_mul (q_add (q_add (q_var (i := 6) rfl (.inl rfl)) (q_mul q_int (q_var (i := 4) rfl (.inl rfl)))) q_int) (q_add q_int (q_mul q_int (q_var (i := 4) rfl (.inl rfl)))))) q_int))
    (s_cons (s_set NO (i := 8) rfl (.inl rfl) (q_op op_mod f_mod (q_toI rfl T.z_int (q_mul (q_var (i := 7) rfl (.inl rfl)) (q_add (q_op op_mod f_mod (q_var (i := 7) rfl (.inl rfl)) q_int) q_int))) q_int))
    (s_one (s_ret (q_op op_mod f_mod (q_toI rfl T.z_int (q_op op_fdivW f_div (q_var (i := 8) rfl (.inl rfl)) q_int)) (q_var (i := 1) rfl (.inl rfl)))))))))))
theorem ok__law_inner_parts (T : Fx K mg) {fd : FuncData} (F : FnP K "_law_inner_parts" s__law_inner_parts (He.ga K "_law_inner_parts") fd) : FnQ P w K mg base 1 (He.ga K "_law_inner_parts") fd ps__law_inner_parts m__law_inner_parts := by
  refine q_fn F.toFun sc__law_inner_parts rfl fun cdv A outer s H E hr => ?_
  have NO : N__law_inner_parts.Nodup := sc__law_inner_parts.nd
  exact (s_cons (s_par (i := 1) (j := 2) rfl NO rfl rfl (by decide) rfl rfl (c_o (q_lst q_anil ln_nil)) (c_o (q_lst (q_acons (q_tup (q_acons q_int (q_acons (q_var (i := 0) rfl (.inl rfl)) q_anil)) (ln_cons (ln_cons ln_nil))) q_anil) (ln_cons ln_nil))) (by rfl))
    (s_cons (s_for (own := [3]) (passes_of rfl) rfl (i_rng1 rfl T.z_range (q_mul q_int (q_var (i := 0) rfl (.inl rfl)))) (g_name (i := 3) (by decide) NO rfl (.inl rfl)) (s_one (s_if (t_neO (i := 2) hr.units rfl (.inl rfl) (q_fz (q_lst q_anil ln_nil))) (s_cons (s_asgX (own := [4, 5]) (x_pop (i := 2) rfl (.inl rfl)) (g_tup rfl (gs_cons (g_name (i := 4) (by decide) NO rfl (.inl rfl)) (gs_cons (g_name (i := 5) (by decide) NO rfl (.inl rfl)) gs_nil))))
    (s_cons (s_set NO (i := 6) rfl (.inl rfl) (q_op op_fdivW f_div (q_add (q_add (q_var (i := 4) rfl (.inl rfl)) (q_var (i := 5) rfl (.inl rfl))) q_int) q_int))
    (s_one (s_if (q_tc op_gt f_gt (q_op op_sub f_sub (q_var (i := 5) rfl (.inl rfl)) (q_var (i := 4) rfl (.inl rfl))) q_int (nomark _)) (s_cons (s_exprX (x_ext (i := 2) rfl (.inl rfl) (q_lst (q_acons (q_tup (q_acons (q_var (i := 4) rfl (.inl rfl)) (q_acons (q_var (i := 6) rfl (.inl rfl)) q_anil)) (ln_cons (ln_cons ln_nil))) (q_acons (q_tup (q_acons (q_var (i := 6) rfl (.inl rfl)) (q_acons (q_var (i := 5) rfl (.inl rfl)) q_anil)) (ln_cons (ln_cons ln_nil))) q_anil)) (ln_cons (ln_cons ln_nil)))))
    (s_one (s_if (t_ne hr.units (q_tup (q_acons (q_var (i := 4) rfl (.inl rfl)) (q_acons (q_var (i := 5) rfl (.inl rfl)) q_anil)) (ln_cons (ln_cons ln_nil))) (q_tup (q_acons q_int (q_acons (q_var (i := 0) rfl (.inl rfl)) q_anil)) (ln_cons (ln_cons ln_nil)))) (s_one (s_exprX (x_app (i := 1) rfl (.inl rfl) (q_tup (q_acons (q_var (i := 4) rfl (.inl rfl)) (q_acons (q_var (i := 5) rfl (.inl rfl)) q_anil)) (ln_cons (ln_cons ln_nil)))))) s_nil))) s_nil)))) s_nil)))
    (s_one (s_ret (q_srt (hu200 hr) rfl T.z_sorted (l_own (i := 1) rfl (.inl rfl)))))))
theorem ok__law_part_total (T : Fx K mg) {fd : FuncData} (F : FnP K "_law_part_total" s__law_part_total (He.ga K "_law_part_total") fd) : FnQ P w K mg base 1 (He.ga K "_law_part_total") fd ps__law_part_total m__law_part_total := by
  refine q_fn F.toFun sc__law_part_total rfl fun cdv A outer s H E hr => ?_
  have NO : N__law_part_total.Nodup := sc__law_part_total.nd
  exact (s_one (s_ret (q_sum rfl rfl T.z_sum (l_new (q_lc (own := [("literal", 2), ("weight", 3)]) rfl NO (go_t (go_c (go_n (by decide)) (go_c (go_n (by decide)) go_nil))) (i_val (q_cut (q_ix (q_var (i := 0) rfl (.inl rfl)) q_int) (p_some (q_ix (q_var (i := 1) rfl (.inl rfl)) q_int)) (p_some (q_ix (q_var (i := 1) rfl (.inl rfl)) q_int)))) (blk_of (by kernel_rfl)) (fun _ _ _ _ _ => (g_tup rfl (gs_cons (g_name (i := 2) (by decide) NO rfl (.inl rfl)) (gs_cons (g_name (i := 3) (by decide) NO rfl (.inl rfl)) gs_nil)))) (fun _ _ _ _ _ => ts_nil) (fun _ _ _ _ _ => (q_var (i := 3) rfl (.inl rfl))))))))
theorem ok__law_marks (T : Fx K mg) {fd : FuncData} (F : FnP K "_law_marks" s__law_marks (He.ga K "_law_marks") fd) : FnQ P w K mg base 2 (He.ga K "_law_marks") fd ps__law_marks m__law_marks := by
  obtain ⟨fd__law_inner_parts, F__law_inner_parts⟩ := T.d__law_inner_parts
  obtain ⟨fd__law_part_total, F__law_part_total⟩ := T.d__law_part_total
  refine q_fn F.toFun sc__law_marks rfl fun cdv A outer s H E hr => ?_
  have NO : N__law_marks.Nodup := sc__law_marks.nd
  exact (s_cons (s_setO NO (i := 2) rfl (.inl rfl) (q_lst q_anil ln_nil))
    (s_cons (s_for (own := [3]) (passes_of rfl) rfl (i_val (q_call (ok__law_inner_parts T F__law_inner_parts) (hr.mono (by decide)) rfl T.g__law_inner_parts F__law_inner_parts.kp (bn__law_inner_parts F__law_inner_parts) (takes_of rfl rfl rfl rfl) (ln_cons ln_nil) (q_acons (q_len rfl T.z_len (qs_v (q_ix (q_var (i := 0) rfl (.inl rfl)) q_int))) q_anil))) (g_name (i := 3) (by decide) NO rfl (.inl rfl)) (s_one (s_for (own := [4]) (passes_of rfl) rfl (i_rng2 rfl T.z_range q_int (q_add (q_min2 rfl rfl T.z_min (q_call (ok__law_part_total T F__law_part_total) (hr.mono (by decide)) rfl T.g__law_part_total F__law_part_total.kp (bn__law_part_total F__law_part_total) (takes_of rfl rfl rfl rfl) (ln_cons (ln_cons ln_nil)) (q_acons (q_var (i := 0) rfl (.inl rfl)) (q_acons (q_var (i := 3) rfl (.inl rfl)) q_anil))) (q_ix (q_var (i := 0) rfl (.inl rfl)) q_int)) q_int)) (g_name (i := 4) (by decide) NO rfl (.inl rfl)) (s_one (s_exprX (x_app (i := 2) rfl (.inl rfl) (q_tup (q_acons (q_var (i := 3) rfl (.inl rfl)) (q_acons (q_var (i := 4) rfl (.inl rfl)) (q_acons (q_add (q_var (i := 1) rfl (.inl rfl)) (q_len rfl T.z_len (qs_l (l_own (i := 2) rfl (.inl rfl))))) q_anil))) (ln_cons (ln_cons (ln_cons ln_nil))))))))))
    (s_one (s_frz 2 (s_ret (q_var (i := 2) rfl (.inl rfl)))))))
theorem ok__law_mark_count (T : Fx K mg) {fd : FuncData} (F : FnP K "_law_mark_count" s__law_mark_count (He.ga K "_law_mark_count") fd) : FnQ P w K mg base 2 (He.ga K "_law_mark_count") fd ps__law_mark_count m__law_mark_count := by
  obtain ⟨fd__law_inner_parts, F__law_inner_parts⟩ := T.d__law_inner_parts
  obtain ⟨fd__law_part_total, F__law_part_total⟩ := T.d__law_part_total
  refine q_fn F.toFun sc__law_mark_count rfl fun cdv A outer s H E hr => ?_
  have NO : N__law_mark_count.Nodup := sc__law_mark_count.nd
  exact (s_cons (s_set NO (i := 1) rfl (.inl rfl) (q_call (ok__law_inner_parts T F__law_inner_parts) (hr.mono (by decide)) rfl T.g__law_inner_parts F__law_inner_parts.kp (bn__law_inner_parts F__law_inner_parts) (takes_of rfl rfl rfl rfl) (ln_cons ln_nil) (q_acons (q_len rfl T.z_len (qs_v (q_ix (q_var (i := 0) rfl (.inr (.inl rfl))) q_int))) q_anil)))
    (s_one (s_ret (q_sum rfl rfl T.z_sum (l_new (q_lc (own := [("part", 2)]) rfl NO (go_n (by decide)) (i_val (q_var (i := 1) rfl (.inl rfl))) (blk_of (by kernel_rfl)) (fun _ _ _ _ _ => (g_name (i := 2) (by decide) NO rfl (.inl rfl))) (fun _ _ _ _ _ => ts_nil) (fun _ _ _ _ _ => (q_min2 rfl rfl T.z_min (q_call (ok__law_part_total T F__law_part_total) (hr.mono (by decide)) rfl T.g__law_part_total F__law_part_total.kp (bn__law_part_total F__law_part_total) tk0 (ln_cons (ln_cons ln_nil)) (q_acons (q_var (i := 0) rfl (.inr (.inl rfl))) (q_acons (q_var (i := 2) rfl (.inl rfl)) q_anil))) (q_ix (q_var (i := 0) rfl (.inr (.inl rfl))) q_int)))))))))
theorem ok__law_cut_sum (T : Fx K mg) {fd : FuncData} (F : FnP K "_law_cut_sum" s__law_cut_sum (He.ga K "_law_cut_sum") fd) : FnQ P w K mg base 2 (He.ga K "_law_cut_sum") fd ps__law_cut_sum m__law_cut_sum := by
  obtain ⟨fd__law_draw, F__law_draw⟩ := T.d__law_draw
  refine q_fn F.toFun sc__law_cut_sum rfl fun cdv A outer s H E hr => ?_
  have NO : N__law_cut_sum.Nodup := sc__law_cut_sum.nd
  exact (s_cons (s_setO NO (i := 3) rfl (.inl rfl) (q_lst q_anil ln_nil))
    (s_cons (s_for (own := [4]) (passes_of rfl) rfl (i_rng1 rfl T.z_range (q_var (i := 1) rfl (.inl rfl))) (g_name (i := 4) (by decide) NO rfl (.inl rfl)) (s_one (s_if (PW.pt (q_or (q_tc op_lt f_lt (q_var (i := 4) rfl (.inl rfl)) q_int (nomark _)) (q_or1 (q_tc op_gt f_gt (q_call (ok__law_draw T F__law_draw) (hr.mono (by decide)) rfl T.g__law_draw F__law_draw.kp (bn__law_draw F__law_draw) (takes_of rfl rfl rfl rfl) (ln_cons (ln_cons ln_nil)) (q_acons (q_var (i := 0) rfl (.inl rfl)) (q_acons q_int q_anil))) q_int (nomark _))))) (s_cons (s_set NO (i := 5) rfl (.inl rfl) (q_if (t_eq hr.units (q_call (ok__law_draw T F__law_draw) (hr.mono (by decide)) rfl T.g__law_draw F__law_draw.kp (bn__law_draw F__law_draw) (takes_of rfl rfl rfl rfl) (ln_cons (ln_cons ln_nil)) (q_acons (q_var (i := 0) rfl (.inl rfl)) (q_acons q_int q_anil))) q_int) q_int (q_add q_int (q_call (ok__law_draw T F__law_draw) (hr.mono (by decide)) rfl T.g__law_draw F__law_draw.kp (bn__law_draw F__law_draw) (takes_of rfl rfl rfl rfl) (ln_cons (ln_cons ln_nil)) (q_acons (q_var (i := 0) rfl (.inl rfl)) (q_acons q_int q_anil))))))
    (s_one (s_exprX (x_app (i := 3) rfl (.inl rfl) (q_tup (q_acons (q_add (q_mul q_int (q_add (q_var (i := 2) rfl (.inl rfl)) (q_var (i := 4) rfl (.inl rfl)))) (q_call (ok__law_draw T F__law_draw) (hr.mono (by decide)) rfl T.g__law_draw F__law_draw.kp (bn__law_draw F__law_draw) (takes_of rfl rfl rfl rfl) (ln_cons (ln_cons ln_nil)) (q_acons (q_var (i := 0) rfl (.inl rfl)) (q_acons q_int q_anil)))) (q_acons (q_var (i := 5) rfl (.inl rfl)) q_anil)) (ln_cons (ln_cons ln_nil))))))) s_nil)))
    (s_cons (s_frz 3 (s_set NO (i := 6) rfl (.inl rfl) (q_sum rfl rfl T.z_sum (l_new (q_lc (own := [("literal", 8), ("weight", 5)]) rfl NO (go_t (go_c (go_n (by decide)) (go_c (go_n (by decide)) go_nil))) (i_val (q_var (i := 3) rfl (.inl rfl))) (blk_of (by kernel_rfl)) (fun _ _ _ _ _ => (g_tup rfl (gs_cons (g_name (i := 8) (by decide) NO rfl (.inl rfl)) (gs_cons (g_name (i := 5) (by decide) NO rfl (.inl rfl)) gs_nil)))) (fun _ _ _ _ _ => ts_nil) (fun _ _ _ _ _ => (q_var (i := 5) rfl (.inl rfl))))))))
    (s_cons (s_set NO (i := 7) rfl (.inr rfl) (q_add q_int (q_call (ok__law_draw T F__law_draw) (hr.mono (by decide)) rfl T.g__law_draw F__law_draw.kp (bn__law_draw F__law_draw) (takes_of rfl rfl rfl rfl) (ln_cons (ln_cons ln_nil)) (q_acons (q_var (i := 0) rfl (.inl rfl)) (q_acons (q_var (i := 6) rfl (.inl rfl)) q_anil)))))
    (s_one (s_frz 3 (s_ret (q_tup (q_acons (q_tupL rfl T.z_tuple (l_new (q_lc (own := [("literal", 8), ("weight", 5)]) rfl NO (go_t (go_c (go_n (by decide)) (go_c (go_n (by decide)) go_nil))) (i_val (q_var (i := 3) rfl (.inl rfl))) (blk_of (by kernel_rfl)) (fun _ _ _ _ _ => (g_tup rfl (gs_cons (g_name (i := 8) (by decide) NO rfl (.inl rfl)) (gs_cons (g_name (i := 5) (by decide) NO rfl (.inl rfl)) gs_nil)))) (fun _ _ _ _ _ => ts_nil) (fun _ _ _ _ _ => (q_tup (q_acons (q_var (i := 8) rfl (.inl rfl)) (q_acons (q_min2 rfl rfl T.z_min (q_var (i := 5) rfl (.inl rfl)) (q_var (i := 7) rfl (.inr (.inl rfl)))) q_anil)) (ln_cons (ln_cons ln_nil))))))) (q_acons (q_var (i := 7) rfl (.inr (.inl rfl))) q_anil)) (ln_cons (ln_cons ln_nil))))))))))
theorem ok__law_word (T : Fx K mg) {fd : FuncData} (F : FnP K "_law_word" s__law_word (He.ga K "_law_word") fd) : FnQ P w K mg base 8 (He.ga K "_law_word") fd ps__law_word m__law_word := by
  obtain ⟨fd_mark_rows, F_mark_rows⟩ := T.d_mark_rows
  refine q_fn F.toFun sc__law_word rfl fun cdv A outer s H E hr => ?_
  have NO : N__law_word.Nodup := sc__law_word.nd
  exact (s_cons (s_set NO (i := 2) rfl (.inl rfl) q_str)
    (s_cons (s_try (ds := ["BadFirst", "BadSum", "TooGreat"]) (cs := ["SumError"]) rfl rfl NO (takes_of rfl rfl rfl rfl) (su__law_word_148 T) (by decide) (fun W pn xe tk1 pw1 => (s_one (s_expr (q_call (ok_mark_rows T F_mark_rows) (hr.mono (by decide)) rfl T.g_mark_rows F_mark_rows.kp (bn_mark_rows F_mark_rows) tk1 (ln_cons (ln_cons ln_nil)) (q_acons (q_var (i := 0) rfl (.inl rfl)) (q_acons (q_var (i := 1) rfl (.inl rfl)) q_anil)))))) (HdF.named rfl T.c_SumError (by decide) (i := 3) rfl rfl (fun c => (if h0 : c = "BadFirst" then (fun h0 : c = "BadFirst" => by subst h0; exact .inr ⟨[(2, .str "other"), (2, .str "first")], [(2, .str "other"), (2, .str "first")], if_pos rfl, (.cons (fun _ => .str _) (.cons (fun _ => .str _) .nil)), fun a o D pn hc hz hf => by cases hc.symm.trans T.c_BadFirst; exact es_to (es_cons (es_set (j := 2) (by decide) NO rfl (.inl rfl) (ee_c pe_str)) (es_cons (es_if (et_v (ee_isi (T.w_BadFirst) hz hf rfl (.inl rfl) T.k_BadFirst_BadSum rfl T.z_isinstance rfl T.c_BadSum)) (es_cons (es_set (j := 2) (by decide) NO rfl (.inl rfl) (ee_c pe_str)) es_nil) (es_cons (es_if (et_v (ee_isi (T.w_BadFirst) hz hf rfl (.inl rfl) T.k_BadFirst_BadFirst rfl T.z_isinstance rfl T.c_BadFirst)) (es_cons (es_set (j := 2) (by decide) NO rfl (.inl rfl) (ee_c pe_str)) es_nil) (es_cons (es_if (et_v (ee_isi (T.w_BadFirst) hz hf rfl (.inl rfl) T.k_BadFirst_TooGreat rfl T.z_isinstance rfl T.c_TooGreat)) (es_cons (es_set (j := 2) (by decide) NO rfl (.inl rfl) (ee_c pe_str)) es_nil) es_nil) es_nil)) es_nil)) es_nil)) (by rfl)⟩) h0 else (if h1 : c = "BadSum" then (fun h1 : c = "BadSum" => by subst h1; exact .inr ⟨[(2, .str "other"), (2, .str "sum")], [(2, .str "other"), (2, .str "sum")], (if_neg (by decide)).trans (if_pos rfl), (.cons (fun _ => .str _) (.cons (fun _ => .str _) .nil)), fun a o D pn hc hz hf => by cases hc.symm.trans T.c_BadSum; exact es_to (es_cons (es_set (j := 2) (by decide) NO rfl (.inl rfl) (ee_c pe_str)) (es_cons (es_if (et_v (ee_isi (T.w_BadSum) hz hf rfl (.inl rfl) T.k_BadSum_BadSum rfl T.z_isinstance rfl T.c_BadSum)) (es_cons (es_set (j := 2) (by decide) NO rfl (.inl rfl) (ee_c pe_str)) es_nil) (es_cons (es_if (et_v (ee_isi (T.w_BadSum) hz hf rfl (.inl rfl) T.k_BadSum_BadFirst rfl T.z_isinstance rfl T.c_BadFirst)) (es_cons (es_set (j := 2) (by decide) NO rfl (.inl rfl) (ee_c pe_str)) es_nil) (es_cons (es_if (et_v (ee_isi (T.w_BadSum) hz hf rfl (.inl rfl) T.k_BadSum_TooGreat rfl T.z_isinstance rfl T.c_TooGreat)) (es_cons (es_set (j := 2) (by decide) NO rfl (.inl rfl) (ee_c pe_str)) es_nil) es_nil) es_nil)) es_nil)) es_nil)) (by rfl)⟩) h1 else (if h2 : c = "TooGreat" then (fun h2 : c = "TooGreat" => by subst h2; exact .inr ⟨[(2, .str "other"), (2, .str "great")], [(2, .str "other"), (2, .str "great")], (if_neg (by decide)).trans ((if_neg (by decide)).trans (if_pos rfl)), (.cons (fun _ => .str _) (.cons (fun _ => .str _) .nil)), fun a o D pn hc hz hf => by cases hc.symm.trans T.c_TooGreat; exact es_to (es_cons (es_set (j := 2) (by decide) NO rfl (.inl rfl) (ee_c pe_str)) (es_cons (es_if (et_v (ee_isi (T.w_TooGreat) hz hf rfl (.inl rfl) T.k_TooGreat_BadSum rfl T.z_isinstance rfl T.c_BadSum)) (es_cons (es_set (j := 2) (by decide) NO rfl (.inl rfl) (ee_c pe_str)) es_nil) (es_cons (es_if (et_v (ee_isi (T.w_TooGreat) hz hf rfl (.inl rfl) T.k_TooGreat_BadFirst rfl T.z_isinstance rfl T.c_BadFirst)) (es_cons (es_set (j := 2) (by decide) NO rfl (.inl rfl) (ee_c pe_str)) es_nil) (es_cons (es_if (et_v (ee_isi (T.w_TooGreat) hz hf rfl (.inl rfl) T.k_TooGreat_TooGreat rfl T.z_isinstance rfl T.c_TooGreat)) (es_cons (es_set (j := 2) (by decide) NO rfl (.inl rfl) (ee_c pe_str)) es_nil) es_nil) es_nil)) es_nil)) es_nil)) (by rfl)⟩) h2 else .inl (by rw [if_neg h0, if_neg h1, if_neg h2]))))) HdF.nil))
    (s_one (s_ret (q_var (i := 2) rfl (.inl rfl))))))
theorem ok__law_greater (T : Fx K mg) {fd : FuncData} (F : FnP K "_law_greater" s__law_greater (He.ga K "_law_greater") fd) : FnQ P w K mg base 2 (He.ga K "_law_greater") fd ps__law_greater m__law_greater := by
  obtain ⟨fd__law_draw, F__law_draw⟩ := T.d__law_draw
  refine q_fn F.toFun sc__law_greater rfl fun cdv A outer s H E hr => ?_
  have NO : N__law_greater.Nodup := sc__law_greater.nd
  exact (s_cons (s_set NO (i := 2) rfl (.inl rfl) (q_tupL rfl T.z_tuple (l_new (q_lc (own := [("literal", 4), ("weight", 5)]) rfl NO (go_t (go_c (go_n (by decide)) (go_c (go_n (by decide)) go_nil))) (i_val (q_ix (q_var (i := 1) rfl (.inl rfl)) q_int)) (blk_of (by kernel_rfl)) (fun _ _ _ _ _ => (g_tup rfl (gs_cons (g_name (i := 4) (by decide) NO rfl (.inl rfl)) (gs_cons (g_name (i := 5) (by decide) NO rfl (.inl rfl)) gs_nil)))) (fun _ _ _ _ _ => ts_nil) (fun _ _ _ _ _ => (q_tup (q_acons (q_var (i := 4) rfl (.inl rfl)) (q_acons (q_add (q_var (i := 5) rfl (.inl rfl)) (q_call (ok__law_draw T F__law_draw) (hr.mono (by decide)) rfl T.g__law_draw F__law_draw.kp (bn__law_draw F__law_draw) tk0 (ln_cons (ln_cons ln_nil)) (q_acons (q_var (i := 0) rfl (.inr (.inl rfl))) (q_acons q_int q_anil)))) q_anil)) (ln_cons (ln_cons ln_nil))))))))
    (s_cons (s_set NO (i := 3) rfl (.inl rfl) (q_add (q_maxL rfl rfl T.z_max (l_new (q_addN (q_fz (q_lst (q_acons q_int q_anil) (ln_cons ln_nil))) (q_fz (q_lc (own := [("literal", 4), ("weight", 5)]) rfl NO (go_t (go_c (go_n (by decide)) (go_c (go_n (by decide)) go_nil))) (i_val (q_var (i := 2) rfl (.inl rfl))) (blk_of (by kernel_rfl)) (fun _ _ _ _ _ => (g_tup rfl (gs_cons (g_name (i := 4) (by decide) NO rfl (.inl rfl)) (gs_cons (g_name (i := 5) (by decide) NO rfl (.inl rfl)) gs_nil)))) (fun _ _ _ _ _ => ts_nil) (fun _ _ _ _ _ => (q_var (i := 5) rfl (.inl rfl)))))))) (q_call (ok__law_draw T F__law_draw) (hr.mono (by decide)) rfl T.g__law_draw F__law_draw.kp (bn__law_draw F__law_draw) (takes_of rfl rfl rfl rfl) (ln_cons (ln_cons ln_nil)) (q_acons (q_var (i := 0) rfl (.inr (.inl rfl))) (q_acons q_int q_anil)))))
    (s_one (s_ret (q_tup (q_acons (q_var (i := 2) rfl (.inl rfl)) (q_acons (q_var (i := 3) rfl (.inl rfl)) q_anil)) (ln_cons (ln_cons ln_nil)))))))
theorem ok__law_wrong_sums (T : Fx K mg) {fd : FuncData} (F : FnP K "_law_wrong_sums" s__law_wrong_sums (He.ga K "_law_wrong_sums") fd) : FnQ P w K mg base 1 (He.ga K "_law_wrong_sums") fd ps__law_wrong_sums m__law_wrong_sums := by
  refine q_fn F.toFun sc__law_wrong_sums rfl fun cdv A outer s H E hr => ?_
  have NO : N__law_wrong_sums.Nodup := sc__law_wrong_sums.nd
  exact (s_cons (s_asg (own := [1, 2]) (q_var (i := 0) rfl (.inl rfl)) (g_tup rfl (gs_cons (g_name (i := 1) (by decide) NO rfl (.inl rfl)) (gs_cons (g_name (i := 2) (by decide) NO rfl (.inl rfl)) gs_nil))))
    (s_one (s_ret (q_fz (q_lst (q_acons (q_tup (q_acons (q_cut (q_var (i := 1) rfl (.inl rfl)) p_none (p_some q_int)) (q_acons (q_var (i := 2) rfl (.inl rfl)) q_anil)) (ln_cons (ln_cons ln_nil))) (q_acons (q_tup (q_acons (q_tup q_anil ln_nil) (q_acons (q_var (i := 2) rfl (.inl rfl)) q_anil)) (ln_cons (ln_cons ln_nil))) (q_acons (q_tup (q_acons (q_var (i := 1) rfl (.inl rfl)) (q_acons q_int q_anil)) (ln_cons (ln_cons ln_nil))) (q_acons (q_tup (q_acons (q_add (q_cut (q_var (i := 1) rfl (.inl rfl)) p_none (p_some (q_un un_neg f_neg q_int))) (q_tup (q_acons (q_tup (q_acons (q_ix (q_ix (q_var (i := 1) rfl (.inl rfl)) (q_un un_neg f_neg q_int)) q_int) (q_acons (q_add (q_var (i := 2) rfl (.inl rfl)) q_int) q_anil)) (ln_cons (ln_cons ln_nil))) q_anil) (ln_cons ln_nil))) (q_acons (q_var (i := 2) rfl (.inl rfl)) q_anil)) (ln_cons (ln_cons ln_nil))) (q_acons (q_tup (q_acons (q_var (i := 1) rfl (.inl rfl)) (q_acons q_int q_anil)) (ln_cons (ln_cons ln_nil))) (q_acons (q_tup (q_acons (q_revT (q_var (i := 1) rfl (.inl rfl))) (q_acons (q_var (i := 2) rfl (.inl rfl)) q_anil)) (ln_cons (ln_cons ln_nil))) (q_acons (q_tup (q_acons (q_fz (q_listOf rfl T.z_list (qs_v (q_var (i := 1) rfl (.inl rfl))))) (q_acons (q_var (i := 2) rfl (.inl rfl)) q_anil)) (ln_cons (ln_cons ln_nil))) (q_acons (q_tup (q_acons (q_var (i := 1) rfl (.inl rfl)) (q_acons q_bl q_anil)) (ln_cons (ln_cons ln_nil))) (q_acons q_non q_anil))))))))) (ln_cons (ln_cons (ln_cons (ln_cons (ln_cons (ln_cons (ln_cons (ln_cons (ln_cons ln_nil))))))))))))))
theorem ok_law (T : Fx K mg) {fd : FuncData} (F : FnP K "law" s_law (He.ga K "law") fd) : FnQ P w K mg base 9 (He.ga K "law") fd ps_law m_law := by
  obtain ⟨fd__law_source, F__law_source⟩ := T.d__law_source
  obtain ⟨fd__law_cut_sum, F__law_cut_sum⟩ := T.d__law_cut_sum
  obtain ⟨fd__law_draw, F__law_draw⟩ := T.d__law_draw
  obtain ⟨fd__law_greater, F__law_greater⟩ := T.d__law_greater
  obtain ⟨fd__law_mark_count, F__law_mark_count⟩ := T.d__law_mark_count
  obtain ⟨fd__law_word, F__law_word⟩ := T.d__law_word
  obtain ⟨fd_mark_rows, F_mark_rows⟩ := T.d_mark_rows
  obtain ⟨fd__law_marks, F__law_marks⟩ := T.d__law_marks
  obtain ⟨fd__law_wrong_sums, F__law_wrong_sums⟩ := T.d__law_wrong_sums
  refine q_fn F.toFun sc_law rfl fun cdv A outer s H E hr => ?_
  have NO : N_law.Nodup := sc_law.nd
  exact (s_cons (s_set NO (i := 1) rfl (.inl rfl) (q_sto (q_callO (ok__law_source T F__law_source) (hr.mono (by decide)) rfl T.g__law_source F__law_source.kp (bn__law_source F__law_source) (takes_of rfl rfl rfl rfl) (ln_cons ln_nil) (q_acons (q_var (i := 0) rfl (.inl rfl)) q_anil))))
    (s_cons (s_set NO (i := 2) rfl (.inl rfl) (q_call (ok__law_cut_sum T F__law_cut_sum) (hr.mono (by decide)) rfl T.g__law_cut_sum F__law_cut_sum.kp (bn__law_cut_sum F__law_cut_sum) (takes_of rfl rfl rfl rfl) (ln_cons (ln_cons (ln_cons ln_nil))) (q_acons (q_var (i := 1) rfl (.inl rfl)) (q_acons (q_add q_int (q_call (ok__law_draw T F__law_draw) (hr.mono (by decide)) rfl T.g__law_draw F__law_draw.kp (bn__law_draw F__law_draw) (takes_of rfl rfl rfl rfl) (ln_cons (ln_cons ln_nil)) (q_acons (q_var (i := 1) rfl (.inl rfl)) (q_acons q_int q_anil)))) (q_acons (q_call (ok__law_draw T F__law_draw) (hr.mono (by decide)) rfl T.g__law_draw F__law_draw.kp (bn__law_draw F__law_draw) (takes_of rfl rfl rfl rfl) (ln_cons (ln_cons ln_nil)) (q_acons (q_var (i := 1) rfl (.inl rfl)) (q_acons q_int q_anil))) q_anil)))))
    (s_cons (s_if (t_eq hr.units (q_call (ok__law_draw T F__law_draw) (hr.mono (by decide)) rfl T.g__law_draw F__law_draw.kp (bn__law_draw F__law_draw) (takes_of rfl rfl rfl rfl) (ln_cons (ln_cons ln_nil)) (q_acons (q_var (i := 1) rfl (.inl rfl)) (q_acons q_int q_anil))) q_int) (s_one (s_set NO (i := 2) rfl (.inl rfl) (q_call (ok__law_greater T F__law_greater) (hr.mono (by decide)) rfl T.g__law_greater F__law_greater.kp (bn__law_greater F__law_greater) (takes_of rfl rfl rfl rfl) (ln_cons (ln_cons ln_nil)) (q_acons (q_var (i := 1) rfl (.inl rfl)) (q_acons (q_var (i := 2) rfl (.inl rfl)) q_anil))))) s_nil)
    (s_cons (s_set NO (i := 3) rfl (.inl rfl) (q_op op_fdivW f_div (q_ix (q_ix (q_ix (q_var (i := 2) rfl (.inl rfl)) q_int) (q_un un_neg f_neg q_int)) q_int) q_int))
    (s_cons (s_set NO (i := 4) rfl (.inl rfl) (q_add (q_add (q_var (i := 3) rfl (.inl rfl)) q_int) (q_call (ok__law_draw T F__law_draw) (hr.mono (by decide)) rfl T.g__law_draw F__law_draw.kp (bn__law_draw F__law_draw) (takes_of rfl rfl rfl rfl) (ln_cons (ln_cons ln_nil)) (q_acons (q_var (i := 1) rfl (.inl rfl)) (q_acons q_int q_anil)))))
    (s_cons (s_if (t_eq hr.units (q_call (ok__law_draw T F__law_draw) (hr.mono (by decide)) rfl T.g__law_draw F__law_draw.kp (bn__law_draw F__law_draw) (takes_of rfl rfl rfl rfl) (ln_cons (ln_cons ln_nil)) (q_acons (q_var (i := 1) rfl (.inl rfl)) (q_acons q_int q_anil))) q_int) (s_one (s_set NO (i := 4) rfl (.inl rfl) (q_op op_pow f_pow q_int q_int))) s_nil)
    (s_cons (s_if (q_tc op_gt f_gt (q_call (ok__law_mark_count T F__law_mark_count) (hr.mono (by decide)) rfl T.g__law_mark_count F__law_mark_count.kp (bn__law_mark_count F__law_mark_count) (takes_of rfl rfl rfl rfl) (ln_cons ln_nil) (q_acons (q_var (i := 2) rfl (.inl rfl)) q_anil)) q_int (nomark _)) (s_one (s_if (t_ne hr.units (q_call (ok__law_word T F__law_word) (hr.mono (by decide)) rfl T.g__law_word F__law_word.kp (bn__law_word F__law_word) (takes_of rfl rfl rfl rfl) (ln_cons (ln_cons ln_nil)) (q_acons (q_var (i := 2) rfl (.inl rfl)) (q_acons (q_var (i := 4) rfl (.inl rfl)) q_anil))) q_str) (s_one (s_ret q_bl)) s_nil)) (s_one (s_if (PW.pt (q_or (t_ne hr.units (q_call (ok_mark_rows T F_mark_rows) (hr.mono (by decide)) rfl T.g_mark_rows F_mark_rows.kp (bn_mark_rows F_mark_rows) (takes_of rfl rfl rfl rfl) (ln_cons (ln_cons ln_nil)) (q_acons (q_var (i := 2) rfl (.inl rfl)) (q_acons (q_var (i := 4) rfl (.inl rfl)) q_anil))) (q_tupL rfl T.z_tuple (l_val (q_call (ok__law_marks T F__law_marks) (hr.mono (by decide)) rfl T.g__law_marks F__law_marks.kp (bn__law_marks F__law_marks) (takes_of rfl rfl rfl rfl) (ln_cons (ln_cons ln_nil)) (q_acons (q_var (i := 2) rfl (.inl rfl)) (q_acons (q_var (i := 4) rfl (.inl rfl)) q_anil)))))) (q_or1 (t_ne hr.units (q_call (ok__law_word T F__law_word) (hr.mono (by decide)) rfl T.g__law_word F__law_word.kp (bn__law_word F__law_word) (takes_of rfl rfl rfl rfl) (ln_cons (ln_cons ln_nil)) (q_acons (q_var (i := 2) rfl (.inl rfl)) (q_acons (q_add (q_var (i := 3) rfl (.inl rfl)) q_int) q_anil))) q_str)))) (s_one (s_ret q_bl)) s_nil)))
    (s_cons (s_for (own := [5]) (passes_of rfl) rfl (i_val (q_call (ok__law_wrong_sums T F__law_wrong_sums) (hr.mono (by decide)) rfl T.g__law_wrong_sums F__law_wrong_sums.kp (bn__law_wrong_sums F__law_wrong_sums) (takes_of rfl rfl rfl rfl) (ln_cons ln_nil) (q_acons (q_var (i := 2) rfl (.inl rfl)) q_anil))) (g_name (i := 5) (by decide) NO rfl (.inl rfl)) (s_one (s_if (t_ne hr.units (q_call (ok__law_word T F__law_word) (hr.mono (by decide)) rfl T.g__law_word F__law_word.kp (bn__law_word F__law_word) (takes_of rfl rfl rfl rfl) (ln_cons (ln_cons ln_nil)) (q_acons (q_var (i := 5) rfl (.inl rfl)) (q_acons (q_un un_neg f_neg q_int) q_anil))) q_str) (s_one (s_ret q_bl)) s_nil)))
    (s_cons (s_for (own := [6]) (passes_of rfl) rfl (i_val (q_tup (q_acons (q_var (i := 3) rfl (.inl rfl)) (q_acons q_int (q_acons (q_un un_neg f_neg q_int) (q_acons (q_add (q_op op_pow f_pow q_int q_int) q_int) (q_acons q_bl (q_acons q_non q_anil)))))) (ln_cons (ln_cons (ln_cons (ln_cons (ln_cons (ln_cons ln_nil)))))))) (g_name (i := 6) (by decide) NO rfl (.inl rfl)) (s_one (s_if (t_ne hr.units (q_call (ok__law_word T F__law_word) (hr.mono (by decide)) rfl T.g__law_word F__law_word.kp (bn__law_word F__law_word) (takes_of rfl rfl rfl rfl) (ln_cons (ln_cons ln_nil)) (q_acons (q_var (i := 2) rfl (.inl rfl)) (q_acons (q_var (i := 6) rfl (.inl rfl)) q_anil))) q_str) (s_one (s_ret q_bl)) s_nil)))
    (s_one (s_ret (q_eq hr.units (q_call (ok_mark_rows T F_mark_rows) (hr.mono (by decide)) rfl T.g_mark_rows F_mark_rows.kp (bn_mark_rows F_mark_rows) (takes_of rfl rfl rfl rfl) (ln_cons (ln_cons ln_nil)) (q_acons (q_tup (q_acons (q_tup (q_acons (q_tup (q_acons q_int (q_acons q_int q_anil)) (ln_cons (ln_cons ln_nil))) (q_acons (q_tup (q_acons q_int (q_acons q_int q_anil)) (ln_cons (ln_cons ln_nil))) q_anil)) (ln_cons (ln_cons ln_nil))) (q_acons q_int q_anil)) (ln_cons (ln_cons ln_nil))) (q_acons q_int q_anil))) (q_tup q_anil ln_nil)))))))))))))
end
end L2.Q.P
namespace L2.Q.P
open PySem PySem.Spec PyProof.Rows
def fns : List He.DefD := [topD "is_int" s_is_int, topD "within" s_within, topD "is_index" s_is_index, topD "is_row" s_is_row, topD "is_term" s_is_term, topD "are_terms" s_are_terms, topD "is_sum" s_is_sum, topD "cut_of" s_cut_of, topD "half_of" s_half_of, topD "children_of" s_children_of, topD "is_leaf" s_is_leaf, topD "inner_parts" s_inner_parts, methD "Totals" "__init__" "Totals.__init__" s_Totals___init__, methD "Totals" "total" "Totals.total" s_Totals_total, methD "Totals" "cap" "Totals.cap" s_Totals_cap, topD "count_marks" s_count_marks, topD "need_marked" s_need_marked, topD "mark_rows" s_mark_rows, topD "_law_source" s__law_source, topD "_law_draw" s__law_draw, topD "_law_inner_parts" s__law_inner_parts, topD "_law_part_total" s__law_part_total, topD "_law_marks" s__law_marks, topD "_law_mark_count" s__law_mark_count, topD "_law_cut_sum" s__law_cut_sum, topD "_law_word" s__law_word, topD "_law_greater" s__law_greater, topD "_law_wrong_sums" s__law_wrong_sums, topD "law" s_law]
def fcs : List FbT := [fcFree "isinstance", fcFree "bool", fcFree "int", fcFree "len", fcFree "tuple", fcFree "all", fcFree "zip", fcFree "min", fcFree "sorted", fcFree "range", fcFree "sum", fcFree "max", fcFree "list", fcInt "MOST_FIRST" 1000000, fcInt "MOST_MARKS" 200, fcCls "Totals", fcNoat "Totals" "degree", fcNoat "Totals" "terms", fcNoat "Totals" "whole", fcNoat "Totals" "parts", fcNoat "Totals" "marks", fcMeth "Totals" "cap", fcMeth "Totals" "total", fcMkr "Totals", fcGlo "Totals", fcGlo "is_int", fcGlo "within", fcGlo "is_index", fcGlo "is_row", fcGlo "is_term", fcGlo "are_terms", fcGlo "is_sum", fcGlo "cut_of", fcGlo "half_of", fcGlo "children_of", fcGlo "is_leaf", fcGlo "inner_parts", fcGlo "count_marks", fcGlo "need_marked", fcGlo "mark_rows", fcGlo "_law_source", fcGlo "_law_draw", fcGlo "_law_inner_parts", fcGlo "_law_part_total", fcGlo "_law_marks", fcGlo "_law_mark_count", fcGlo "_law_cut_sum", fcGlo "_law_word", fcGlo "_law_greater", fcGlo "_law_wrong_sums", fcGlo "law", fcGlo "BadSum", fcExc "BadSum", fcGlo "BadFirst", fcExc "BadFirst", fcGlo "TooGreat", fcExc "TooGreat", fcGlo "SumError", fcExc "SumError", fcEx "TooGreat", fcEx "BadSum", fcEx "BadFirst", fcSub "BadFirst" "SumError" true, fcSub "BadSum" "SumError" true, fcSub "TooGreat" "SumError" true, fcIs "TooGreat" "BadSum" false, fcIs "TooGreat" "BadFirst" false, fcIs "TooGreat" "TooGreat" true, fcIs "BadSum" "BadSum" true, fcIs "BadSum" "BadFirst" false, fcIs "BadSum" "TooGreat" false, fcIs "BadFirst" "BadSum" false, fcIs "BadFirst" "BadFirst" true, fcIs "BadFirst" "TooGreat" false]
theorem fx_ok {K : PySem.W.Frag} {h : Heap} {mg : Str → Option Value} (X : K.In h) (G : h.Ns mainGlobals mg) (c : SaysB fcs fns K) : Fx K mg := by
  constructor
  · exact He.free_ok X G (c.fact 0 rfl)
  · exact He.free_ok X G (c.fact 1 rfl)
  · exact He.free_ok X G (c.fact 2 rfl)
  · exact He.free_ok X G (c.fact 3 rfl)
  · exact He.free_ok X G (c.fact 4 rfl)
  · exact He.free_ok X G (c.fact 5 rfl)
  · exact He.free_ok X G (c.fact 6 rfl)
  · exact He.free_ok X G (c.fact 7 rfl)
  · exact He.free_ok X G (c.fact 8 rfl)
  · exact He.free_ok X G (c.fact 9 rfl)
  · exact He.free_ok X G (c.fact 10 rfl)
  · exact He.free_ok X G (c.fact 11 rfl)
  · exact He.free_ok X G (c.fact 12 rfl)
  · exact He.int_ok X G (c.fact 13 rfl)
  · exact He.int_ok X G (c.fact 14 rfl)
  · exact He.cls_ok (c.fact 15 rfl)
  · exact He.noat_ok (c.fact 16 rfl)
  · exact He.noat_ok (c.fact 17 rfl)
  · exact He.noat_ok (c.fact 18 rfl)
  · exact He.noat_ok (c.fact 19 rfl)
  · exact He.noat_ok (c.fact 20 rfl)
  · exact He.meth_ok (c.fact 21 rfl)
  · exact He.meth_ok (c.fact 22 rfl)
  · exact He.mkr_ok (c.fact 23 rfl)
  · exact He.glo_ok X G (c.fact 24 rfl)
  · exact He.glo_ok X G (c.fact 25 rfl)
  · exact He.glo_ok X G (c.fact 26 rfl)
  · exact He.glo_ok X G (c.fact 27 rfl)
  · exact He.glo_ok X G (c.fact 28 rfl)
  · exact He.glo_ok X G (c.fact 29 rfl)
  · exact He.glo_ok X G (c.fact 30 rfl)
  · exact He.glo_ok X G (c.fact 31 rfl)
  · exact He.glo_ok X G (c.fact 32 rfl)
  · exact He.glo_ok X G (c.fact 33 rfl)
  · exact He.glo_ok X G (c.fact 34 rfl)
  · exact He.glo_ok X G (c.fact 35 rfl)
  · exact He.glo_ok X G (c.fact 36 rfl)
  · exact He.glo_ok X G (c.fact 37 rfl)
  · exact He.glo_ok X G (c.fact 38 rfl)
  · exact He.glo_ok X G (c.fact 39 rfl)
  · exact He.glo_ok X G (c.fact 40 rfl)
  · exact He.glo_ok X G (c.fact 41 rfl)
  · exact He.glo_ok X G (c.fact 42 rfl)
  · exact He.glo_ok X G (c.fact 43 rfl)
  · exact He.glo_ok X G (c.fact 44 rfl)
  · exact He.glo_ok X G (c.fact 45 rfl)
  · exact He.glo_ok X G (c.fact 46 rfl)
  · exact He.glo_ok X G (c.fact 47 rfl)
  · exact He.glo_ok X G (c.fact 48 rfl)
  · exact He.glo_ok X G (c.fact 49 rfl)
  · exact He.glo_ok X G (c.fact 50 rfl)
  · exact He.glo_ok X G (c.fact 51 rfl)
  · exact He.exc_ok (c.fact 52 rfl)
  · exact He.glo_ok X G (c.fact 53 rfl)
  · exact He.exc_ok (c.fact 54 rfl)
  · exact He.glo_ok X G (c.fact 55 rfl)
  · exact He.exc_ok (c.fact 56 rfl)
  · exact He.glo_ok X G (c.fact 57 rfl)
  · exact He.exc_ok (c.fact 58 rfl)
  · exact fcEx_ok (c.fact 59 rfl)
  · exact fcEx_ok (c.fact 60 rfl)
  · exact fcEx_ok (c.fact 61 rfl)
  · exact of_decide_eq_true (c.fact 62 rfl)
  · exact of_decide_eq_true (c.fact 63 rfl)
  · exact of_decide_eq_true (c.fact 64 rfl)
  · exact of_decide_eq_true (c.fact 65 rfl)
  · exact of_decide_eq_true (c.fact 66 rfl)
  · exact of_decide_eq_true (c.fact 67 rfl)
  · exact of_decide_eq_true (c.fact 68 rfl)
  · exact of_decide_eq_true (c.fact 69 rfl)
  · exact of_decide_eq_true (c.fact 70 rfl)
  · exact of_decide_eq_true (c.fact 71 rfl)
  · exact of_decide_eq_true (c.fact 72 rfl)
  · exact of_decide_eq_true (c.fact 73 rfl)
  · exact c.def_ 0 (d := topD "is_int" s_is_int) rfl
  · exact c.def_ 1 (d := topD "within" s_within) rfl
  · exact c.def_ 2 (d := topD "is_index" s_is_index) rfl
  · exact c.def_ 3 (d := topD "is_row" s_is_row) rfl
  · exact c.def_ 4 (d := topD "is_term" s_is_term) rfl
  · exact c.def_ 5 (d := topD "are_terms" s_are_terms) rfl
  · exact c.def_ 6 (d := topD "is_sum" s_is_sum) rfl
  · exact c.def_ 7 (d := topD "cut_of" s_cut_of) rfl
  · exact c.def_ 8 (d := topD "half_of" s_half_of) rfl
  · exact c.def_ 9 (d := topD "children_of" s_children_of) rfl
  · exact c.def_ 10 (d := topD "is_leaf" s_is_leaf) rfl
  · exact c.def_ 11 (d := topD "inner_parts" s_inner_parts) rfl
  · exact c.def_ 12 (d := methD "Totals" "__init__" "Totals.__init__" s_Totals___init__) rfl
  · exact c.def_ 13 (d := methD "Totals" "total" "Totals.total" s_Totals_total) rfl
  · exact c.def_ 14 (d := methD "Totals" "cap" "Totals.cap" s_Totals_cap) rfl
  · exact c.def_ 15 (d := topD "count_marks" s_count_marks) rfl
  · exact c.def_ 16 (d := topD "need_marked" s_need_marked) rfl
  · exact c.def_ 17 (d := topD "mark_rows" s_mark_rows) rfl
  · exact c.def_ 18 (d := topD "_law_source" s__law_source) rfl
  · exact c.def_ 19 (d := topD "_law_draw" s__law_draw) rfl
  · exact c.def_ 20 (d := topD "_law_inner_parts" s__law_inner_parts) rfl
  · exact c.def_ 21 (d := topD "_law_part_total" s__law_part_total) rfl
  · exact c.def_ 22 (d := topD "_law_marks" s__law_marks) rfl
  · exact c.def_ 23 (d := topD "_law_mark_count" s__law_mark_count) rfl
  · exact c.def_ 24 (d := topD "_law_cut_sum" s__law_cut_sum) rfl
  · exact c.def_ 25 (d := topD "_law_word" s__law_word) rfl
  · exact c.def_ 26 (d := topD "_law_greater" s__law_greater) rfl
  · exact c.def_ 27 (d := topD "_law_wrong_sums" s__law_wrong_sums) rfl
  · exact c.def_ 28 (d := topD "law" s_law) rfl
def loose0 : List Str := ["_wall", "is_int", "within", "is_index", "is_row", "is_term", "are_terms", "is_sum", "cut_of", "half_of", "children_of", "is_leaf", "inner_parts", "count_marks", "need_marked", "mark_rows", "_law_source", "_law_draw", "_law_inner_parts", "_law_part_total"]
def loose1 : List Str := ["_law_marks", "_law_mark_count", "_law_cut_sum", "_law_word", "_law_greater", "_law_wrong_sums", "MOST_MARKS", "MOST_FIRST", "SumError", "BadSum", "BadFirst", "TooGreat", "Totals"]
abbrev loose : List Str := loose0 ++ loose1
abbrev R : PySem.W.OpenRow := PySem.W.OpenLaw.row PySem.Challenge.rw_sumsworn_k43_marks_of_sums
abbrev hk : PySem.W.Hook := hookB 5 fcs fns
def ob (s : PySem.W.SharedT) : He.AlD := obsBG 5 fcs fns (HandSHeadRun.getT s)
theorem ob_eq (s : PySem.W.SharedT) : ob s = hk.obs s.abs := obsBG_eq (HandSHeadRun.getT_eq s)
theorem run (w : World) : HandSHeadRun.RunEq R (PySem.W.view R.prog [38]) hk ob 20000 loose w := by
  intro os
  kernel_rfl
theorem holds_of (hm : ∀ ns : List Int, ns.length ≤ 63 → (∀ z ∈ ns, Builtin.Int.intBits z ≤ 1048576) → ∃ S, m_law [.d (.list (ns.map .int))] [] = .ok (.w (.d (.bool true))) S) : PySem.Challenge.rw_sumsworn_k43_marks_of_sums.Holds := by
  w_on; o_law
  refine HandSHeadRun.head_any (r := PySem.W.OpenLaw.row PySem.Challenge.rw_sumsworn_k43_marks_of_sums) (q := PySem.W.view (PySem.W.OpenLaw.row PySem.Challenge.rw_sumsworn_k43_marks_of_sums).prog [38]) (H := hk) (ob := ob) (M := 20000) (loose := loose) (d := HandSHeadRun.topDef (PySem.W.OpenLaw.row PySem.Challenge.rw_sumsworn_k43_marks_of_sums).prog 38) (kwd := []) ob_eq
    (by kernel_rfl) (fun s => by kernel_rfl) run (by kernel_rfl) (by kernel_rfl) (by kernel_rfl) (by rfl) (by first | assumption | decide +kernel) (by decide +kernel) ⟨rfl, rfl, rfl, rfl, rfl, by decide +kernel⟩ ?hw ?hc
  case hw => w_witness2
  case hc =>
    refine walk_ofEB (l := PySem.Challenge.rw_sumsworn_k43_marks_of_sums) (n := 63) (k := 9) (x := "script") rfl (by decide) (by kernel_rfl) ⟨rfl, by decide, by decide⟩ ?F
    intro w mg fa h Y G hmg0
    obtain ⟨K, KX, c⟩ := Y
    have hmg : mg ("law" : Str) = some (.ref fa) := by
      have e : (HandSHeadRun.topDef (PySem.W.OpenLaw.row PySem.Challenge.rw_sumsworn_k43_marks_of_sums).prog 38).name = ("law" : Str) := by kernel_rfl
      rw [← e]
      exact hmg0
    have T := fx_ok KX G c
    obtain ⟨fd, F⟩ := T.d_law
    cases hmg.symm.trans T.g_law
    have b := FunD.bindsA (ps := ["script"]) F fun _ _ _ _ _ _ us hl => match us, hl with | [_], _ => rfl
    exact ⟨K, fd, spLawQ K mg m_law, KX, fun s u => b s [u] rfl, fun H a ns hl hb _ hS => law_sp hm H a ns hl hb hS, fun base _ _ => ok_law T F⟩
end L2.Q.P
namespace L2.Q.P
open PySem PySem.Spec PyProof.Rows
/-! small judges -/
def intB (d : PyData) : Bool := match d with
  | .int _ => true
  | _ => false
theorem is_int_ok (d : PyData) (S : List Ob) : m_is_int [.d d] S = .ok (.w (.d (.bool (intB d)))) S := by
  cases d <;> simp [m_is_int, b_is_int, start0, isInt, isBool, intB]
def rowB (d : PyData) (lo hi : Int) : Bool := match d with
  | .tuple xs => decide (lo ≤ (xs.length : Int)) && decide ((xs.length : Int) ≤ hi)
  | _ => false
theorem is_row_ok (d : PyData) (lo hi : Int) (S : List Ob) : m_is_row [.d d, .d (.int lo), .d (.int hi)] S = .ok (.w (.d (.bool (rowB d lo hi)))) S := by
  cases d with
  | tuple xs =>
    by_cases h : lo ≤ (xs.length : Int)
    · simp [m_is_row, b_is_row, start0, isTup, rowB, h]
    · simp [m_is_row, b_is_row, start0, isTup, rowB, h]
  | _ => simp [m_is_row, b_is_row, start0, isTup, rowB]
end L2.Q.P
namespace L2.Q.P
open PySem PySem.Spec PyProof.Rows
/-! pairs -/
abbrev Prs := List (Int × Int)
def pd (p : Int × Int) : PyData := .tuple [.int p.1, .int p.2]
def pD (ps : Prs) : PyData := .tuple (ps.map pd)
/-- what a sum counts, by coefficients of literals -/
def lin (c : Int → Int) : Prs → Int
  | [] => 0
  | p :: r => c p.1 * p.2 + lin c r
theorem lin_app (c : Int → Int) : ∀ ps qs : Prs, lin c (ps ++ qs) = lin c ps + lin c qs
  | [], qs => by simp [lin]
  | p :: r, qs => by simp [lin, lin_app c r qs]; omega
theorem lin_add (c d : Int → Int) : ∀ ps : Prs, lin (fun l => c l + d l) ps = lin c ps + lin d ps
  | [] => rfl
  | p :: r => by simp only [lin, lin_add c d r, Int.add_mul]; omega
theorem lin_congr {c d : Int → Int} : ∀ {ps : Prs}, (∀ p ∈ ps, c p.1 = d p.1) → lin c ps = lin d ps
  | [], _ => rfl
  | p :: r, h => by simp only [lin]; rw [h p (List.mem_cons_self ..), lin_congr fun q hq => h q (List.mem_cons_of_mem _ hq)]
/-! the net: variable by variable -/
def kvN (N : Prs) : List (Key × W) := N.map fun p => (Sum.inl p.1, W.d (.int p.2))
def look (N : Prs) (k : Int) : Int := ((N.find? fun p => decide (p.1 = k)).map (·.2)).getD 0
def put (N : Prs) (k x : Int) : Prs := if (N.any fun p => decide (p.1 = k)) = true then N.map (fun p => if p.1 = k then (p.1, x) else p) else N ++ [(k, x)]
theorem inl_inj (a b : Int) : ((Sum.inl a : Key) = Sum.inl b) ↔ a = b := ⟨fun h => by cases h; rfl, fun h => by rw [h]⟩
theorem find_kv (k : Int) : ∀ N : Prs, (kvN N).find? (fun kv => decide (kv.1 = Sum.inl k)) = (N.find? fun p => decide (p.1 = k)).map fun p => (Sum.inl p.1, W.d (.int p.2))
  | [] => rfl
  | p :: r => by
    by_cases h : p.1 = k
    · simp [kvN, List.find?_cons, h]
    · have : ¬ ((Sum.inl p.1 : Key) = Sum.inl k) := fun e => h ((inl_inj _ _).mp e)
      have ih := find_kv k r
      unfold kvN at ih
      rw [List.find?_map] at ih
      simp [kvN, List.find?_cons, h, this]
      exact ih
theorem valW_kv (N : Prs) (k : Int) : (valW (kvN N) (.inl k)).getD (.d (.int 0)) = .d (.int (look N k)) := by
  unfold valW look
  rw [find_kv]
  cases N.find? fun p => decide (p.1 = k) with
  | none => rfl
  | some p => rfl
theorem any_kv (k : Int) (N : Prs) : ((kvN N).any fun kv => decide (kv.1 = Sum.inl k)) = N.any fun p => decide (p.1 = k) := by
  unfold kvN
  rw [List.any_map]
  congr 1
  funext p
  exact decide_eq_decide.mpr (inl_inj _ _)
theorem putW_kv (N : Prs) (k x : Int) : putW (kvN N) (.inl k) (.d (.int x)) = kvN (put N k x) := by
  unfold putW put
  rw [any_kv]
  split
  · unfold kvN
    rw [List.map_map, List.map_map]
    congr 1
    funext p
    by_cases h : p.1 = k
    · simp [h]
    · have : ¬ ((Sum.inl p.1 : Key) = Sum.inl k) := fun e => h ((inl_inj _ _).mp e)
      simp [h, this]
  · unfold kvN; rw [List.map_append]; rfl
def keys (N : Prs) : List Int := N.map (·.1)
theorem intKeys_kv : ∀ N : Prs, intKeys (kvN N) = some (keys N)
  | [] => rfl
  | p :: r => by show (intKeys (kvN r)).map (p.1 :: ·) = _; rw [intKeys_kv r]; rfl
theorem keys_put (N : Prs) (k x : Int) : keys (put N k x) = if (N.any fun p => decide (p.1 = k)) = true then keys N else keys N ++ [k] := by
  unfold put
  split
  · unfold keys
    rw [List.map_map]
    congr 1
    funext p
    by_cases h : p.1 = k <;> simp [h]
  · unfold keys; rw [List.map_append]; rfl
theorem any_mem (N : Prs) (k : Int) : (N.any fun p => decide (p.1 = k)) = true ↔ k ∈ keys N := by
  unfold keys
  rw [List.any_eq_true, List.mem_map]
  constructor
  · rintro ⟨p, hp, e⟩; exact ⟨p, hp, of_decide_eq_true e⟩
  · rintro ⟨p, hp, e⟩; exact ⟨p, hp, decide_eq_true e⟩
theorem nodup_put {N : Prs} (h : (keys N).Nodup) (k x : Int) : (keys (put N k x)).Nodup := by
  rw [keys_put]
  split
  · exact h
  · rename_i q
    rw [any_mem] at q
    exact List.nodup_append.mpr ⟨h, by simp, fun a ha b hb => by simp at hb; subst hb; exact fun e => q (e ▸ ha)⟩
theorem len_put (N : Prs) (k x : Int) : (put N k x).length ≤ N.length + 1 := by
  unfold put
  split <;> simp
theorem look_cons (p : Int × Int) (r : Prs) (k : Int) : look (p :: r) k = if p.1 = k then p.2 else look r k := by
  unfold look
  rw [List.find?_cons]
  by_cases h : p.1 = k <;> simp [h]
/-- sums over the net -/
theorem lin_map_put (h : Int → Int) (k x : Int) : ∀ N : Prs, (keys N).Nodup → k ∈ keys N → lin h (N.map fun p => if p.1 = k then (p.1, x) else p) = lin h N + h k * (x - look N k)
  | [], _, hm => by simp [keys] at hm
  | p :: r, hn, hm => by
    have hn' : p.1 ∉ keys r ∧ (keys r).Nodup := by simpa [keys] using hn
    rw [List.map_cons, look_cons]
    by_cases e : p.1 = k
    · have same : r.map (fun p => if p.1 = k then (p.1, x) else p) = r := by
        conv => rhs; rw [← List.map_id r]
        apply List.map_congr_left
        intro q hq
        have : ¬ q.1 = k := fun z => hn'.1 (by rw [e, ← z]; exact List.mem_map_of_mem hq)
        simp [this]
      rw [same, if_pos e, if_pos e]
      simp only [lin]
      rw [e, Int.mul_sub]; omega
    · rw [if_neg e, if_neg e]
      have hk : k ∈ keys r := by
        have : k ∈ p.1 :: keys r := hm
        rcases List.mem_cons.mp this with z | z
        · exact absurd z.symm e
        · exact z
      simp only [lin]
      rw [lin_map_put h k x r hn'.2 hk]; omega
theorem look_none {N : Prs} {k : Int} (h : k ∉ keys N) : look N k = 0 := by
  induction N with
  | nil => rfl
  | cons p r ih =>
    have h' : ¬ k = p.1 ∧ k ∉ keys r := by simpa [keys] using h
    rw [look_cons, if_neg (fun e => h'.1 e.symm)]
    exact ih h'.2
theorem lin_put (h : Int → Int) {N : Prs} (hn : (keys N).Nodup) (k x : Int) : lin h (put N k x) = lin h N + h k * (x - look N k) := by
  unfold put
  split
  · rename_i q; exact lin_map_put h k x N hn ((any_mem N k).mp q)
  · rename_i q
    rw [any_mem] at q
    rw [lin_app, look_none q]
    simp [lin]
theorem look_lin {N : Prs} (hn : (keys N).Nodup) (k : Int) : lin (fun j => if j = k then 1 else 0) N = look N k := by
  induction N with
  | nil => rfl
  | cons p r ih =>
    have hn' : p.1 ∉ keys r ∧ (keys r).Nodup := by simpa [keys] using hn
    rw [look_cons]
    simp only [lin]
    rw [ih hn'.2]
    by_cases e : p.1 = k
    · rw [if_pos e, if_pos e, look_none (by rw [← e]; exact hn'.1)]; omega
    · rw [if_neg e, if_neg e]; omega
def okT : Int → Prs → Prop
  | _, [] => True
  | last, p :: r => 0 ≤ p.1 ∧ 1 ≤ p.2 ∧ last < p.1 / 2 ∧ okT (p.1 / 2) r
theorem sum_lin (p : Int → Bool) : ∀ T : Prs, ((T.filter fun t => p t.1).map (·.2)).sum = lin (fun l => if p l = true then 1 else 0) T
  | [] => rfl
  | t :: r => by
    have ih := sum_lin p r
    by_cases q : p t.1 = true
    · rw [List.filter_cons_of_pos (by simpa using q)]
      simp only [List.map_cons, List.sum_cons, lin, ih, q, if_true]; omega
    · rw [List.filter_cons_of_neg (by simpa using q)]
      simp only [lin, ih, q]; simp
def pOf (w : W) : Int × Int := match w with
  | .d (.tuple [.int l, .int x]) => (l, x)
  | _ => (0, 0)
theorem pOf_pd (p : Int × Int) : pOf (.d (pd p)) = p := rfl
theorem lc_pairs (g : FG) (t : FB) (fe : FE) (ρ : List Sl) (S : List Ob) (p : Int → Bool) (T : Prs)
    (h : ∀ q ∈ T, ∃ ρ1, g (.d (pd q)) ρ = some ρ1 ∧ t ρ1 S = .ok (p q.1) S ∧ (p q.1 = true → fe ρ1 S = .ok (.d (.int q.2)) S)) : lcL g t fe ρ ((T.map pd).map .d) S = .ok (((T.filter fun q => p q.1).map (·.2)).map fun i => .d (.int i)) S := by
  rw [lc_pure g t fe ρ S (fun w => p (pOf w).1) (fun w => .d (.int (pOf w).2)) ((T.map pd).map .d) fun w hw => ?_]
  · congr 1
    induction T with
    | nil => rfl
    | cons q r ih =>
      have ih := ih fun z hz => h z (List.mem_cons_of_mem _ hz)
      by_cases e : p q.1 = true
      · rw [List.map_cons, List.map_cons, List.filter_cons_of_pos (by simpa [pOf_pd] using e), List.filter_cons_of_pos (by simpa using e), List.map_cons, ih]; rfl
      · rw [List.map_cons, List.map_cons, List.filter_cons_of_neg (by simpa [pOf_pd] using e), List.filter_cons_of_neg (by simpa using e), ih]
  · obtain ⟨d, hd, rfl⟩ := List.mem_map.mp hw
    obtain ⟨q, hq, rfl⟩ := List.mem_map.mp hd
    exact h q hq
end L2.Q.P
namespace L2.Q.P
open PySem PySem.Spec PyProof.Rows
/-! sizes, places -/
theorem log2_bits (z : Int) : z.natAbs.log2 ≤ Builtin.Int.intBits z := by
  unfold Builtin.Int.intBits
  split
  · rename_i h; have h : z.natAbs = 0 := by first | exact h | simpa using h
    rw [h]; decide
  · omega
theorem log2_small {i : Int} {k : Nat} (h : i.natAbs < 2 ^ k) (hk : 0 < k) : i.natAbs.log2 < k := PySem.Flt.log2_lt_of hk h
theorem mulC_of {i j : Int} (a b : Nat) (ha : i.natAbs < 2 ^ a) (hb : j.natAbs < 2 ^ b) (h0 : 0 < a) (h1 : 0 < b) (h : a + b ≤ 100000000) : mulC i j = true := by
  have x := log2_small ha h0
  have y := log2_small hb h1
  unfold mulC
  exact decide_eq_true (by omega)
theorem mulC_log {i j : Int} (h : i.natAbs.log2 + j.natAbs.log2 < 100000000) : mulC i j = true := decide_eq_true h
theorem divC_of {i j : Int} (h : 0 < j) (h2 : j < 2 ^ 8000) : divC i j = true := by
  have hb : j.natAbs < 2 ^ 8000 := by omega
  have y := log2_small hb (by omega)
  unfold divC
  rw [decide_eq_true h, decide_eq_true (show j.natAbs.log2 < 9000 by omega)]
  rfl
theorem modC_of {i j : Int} (h : 0 < j) : modC i j = true := decide_eq_true h
theorem pow6 : powC 10 6 = true := by decide +kernel
theorem pow18 : powC 10 18 = true := by decide +kernel
theorem pow60 : powC 10 60 = true := by decide +kernel
@[simp] theorem ix0 (n : Nat) : ixN (n + 1) 0 = some 0 := by unfold ixN; simp
@[simp] theorem ix1 (n : Nat) : ixN (n + 2) 1 = some 1 := by unfold ixN; rw [if_pos (by omega), if_pos (by omega)]; rfl
@[simp] theorem ix2 (n : Nat) : ixN (n + 3) 2 = some 2 := by unfold ixN; rw [if_pos (by omega), if_pos (by omega)]; rfl
end L2.Q.P
namespace L2.Q.P
open PySem PySem.Spec PyProof.Rows
def pW (ps : Prs) : List W := (ps.map pd).map .d
theorem pW_len (ps : Prs) : (pW ps).length = ps.length := by simp [pW]
theorem pW_app (ps : Prs) (p : Int × Int) : pW (ps ++ [p]) = pW ps ++ [.d (pd p)] := by simp [pW]
theorem shp_pd (p : Int × Int) : shp 1 (pd p) := shp_tup fun d h => by simp at h; rcases h with rfl | rfl <;> exact shp_int _ _
theorem pW_ne (ps : Prs) (S : List Ob) : cmpO true (pW ps) (.d (.list [])) S = .ok (.d (.bool (!ps.isEmpty))) S := by
  have h1 : SeqAt.shaped (.list (ps.map pd)) = true := shaped_of (shp_mono (k := 2) (shp_list fun d hd => by
    obtain ⟨p, _, rfl⟩ := List.mem_map.mp hd
    exact shp_pd p) (by omega))
  have h2 : SeqAt.shaped (.list []) = true := shaped_of (shp_mono (shp_list (k := 0) (ds := []) (by simp)) (by omega))
  unfold cmpO pW
  rw [e_datsm]
  dsimp only
  rw [h1, h2, eqv_nil]
  cases ps <;> rfl
theorem pW_at {ps : Prs} {k : Int} (h0 : 0 ≤ k) (h : k < ps.length) : ∃ q ∈ ps, atI (pW ps) k = some (.d (pd q)) := by
  have hk : k.toNat < ps.length := by omega
  have e : (pW ps)[k.toNat]? = some (.d (pd ps[k.toNat])) := by simp [pW, List.getElem?_eq_getElem hk]
  have := atI_nat e
  rw [show ((k.toNat : Nat) : Int) = k by omega] at this
  exact ⟨_, List.getElem_mem hk, this⟩
theorem dats_pW (ps : Prs) : dats (pW ps) = some (ps.map pd) := by unfold pW; exact dats_map _
theorem xor_lit {l b m : Int} (h0 : 0 ≤ l) (h1 : l < 2 * m) (hb : b = 0 ∨ b = 1) : 0 ≤ Builtin.bitXor l b ∧ Builtin.bitXor l b < 2 * m := by
  rcases hb with rfl | rfl
  · rw [bitXor_zero]; exact ⟨h0, h1⟩
  · rw [bitXor_and, bitAnd_m1]; omega
end L2.Q.P
namespace L2.Q.P
open PySem PySem.Spec PyProof.Rows
/-! what a comprehension of judgements gives -/
theorem lc_judge (fe : FE) (j : PyData → Bool) (i : Nat) (ρ : List Sl) (S : List Ob) (ds : List PyData) (h : ∀ d ∈ ds, fe (ρ.set i (.w (.d d))) S = .ok (.d (.bool (j d))) S) :
    lcL (gN i) (fun _ S => .ok true S) fe ρ (ds.map .d) S = .ok ((ds.map j).map fun b => .d (.bool b)) S := by
  induction ds with
  | nil => rfl
  | cons d r ih =>
    have ih := ih fun z hz => h z (List.mem_cons_of_mem _ hz)
    rw [List.map_cons]
    unfold lcL
    simp only [e_gN, h d (List.mem_cons_self ..), if_true, ih, e_ok, List.map_cons]
theorem all_map_id {γ : Type} (j : γ → Bool) (ds : List γ) : (ds.map j).all id = ds.all j := by rw [List.all_map]; rfl
end L2.Q.P
namespace L2.Q.P
open PySem PySem.Spec PyProof.Rows
/-! is_index, is_term, are_terms, is_sum, whatever they are asked -/
def idxB (d : PyData) : Bool := match d with
  | .int i => decide (0 ≤ i)
  | _ => false
theorem is_index_ok (d : PyData) (S : List Ob) : m_is_index [.d d] S = .ok (.w (.d (.bool (idxB d)))) S := by
  cases d <;> simp [m_is_index, b_is_index, start0, is_int_ok, intB, idxB]
def termB (d : PyData) : Bool := match d with
  | .tuple [.int l, .int w] => decide (0 ≤ l) && decide (1 ≤ w)
  | _ => false
theorem is_term_ok (d : PyData) (S : List Ob) : m_is_term [.d d] S = .ok (.w (.d (.bool (termB d)))) S := by
  cases d with
  | tuple xs =>
    match xs with
    | [] => simp [m_is_term, b_is_term, start0, is_row_ok, rowB, termB]
    | [x] => simp [m_is_term, b_is_term, start0, is_row_ok, rowB, termB]
    | [x, y] =>
      cases x with
      | int l =>
        by_cases h : 0 ≤ l
        · cases y <;> simp [m_is_term, b_is_term, start0, is_row_ok, rowB, termB, is_int_ok, is_index_ok, intB, idxB, h]
        · cases y <;> simp [m_is_term, b_is_term, start0, is_row_ok, rowB, termB, is_int_ok, is_index_ok, intB, idxB, h]
      | _ => simp [m_is_term, b_is_term, start0, is_row_ok, rowB, termB, is_int_ok, is_index_ok, intB, idxB]
    | x :: y :: z :: r =>
      have h : ¬ ((r.length : Int) + 1 + 1 + 1 ≤ 2) := by omega
      simp [m_is_term, b_is_term, start0, is_row_ok, rowB, termB, h]
  | _ => simp [m_is_term, b_is_term, start0, is_row_ok, rowB, termB]
def varD (d : PyData) : Int := match d with
  | .tuple [.int l, _] => l / 2
  | _ => 0
def incB (vs : List Int) : Bool := (vs.zip (vs.drop 1)).all fun p => decide (p.1 < p.2)
def termsB (d : PyData) : Bool := match d with
  | .tuple ds => ds.all termB && incB (ds.map varD)
  | _ => false
theorem termB_pd : ∀ {ds : List PyData}, ds.all termB = true → ∃ T : Prs, ds = T.map pd ∧ ∀ t ∈ T, 0 ≤ t.1 ∧ 1 ≤ t.2
  | [], _ => ⟨[], rfl, fun t h => by cases h⟩
  | d :: r, h => by
    rw [List.all_cons, Bool.and_eq_true] at h
    obtain ⟨T, rfl, hT⟩ := termB_pd h.2
    have hd := h.1
    unfold termB at hd
    split at hd
    · rename_i l w
      simp at hd
      exact ⟨(l, w) :: T, rfl, fun t ht => by
        rcases List.mem_cons.mp ht with rfl | ht
        · exact hd
        · exact hT t ht⟩
    · cases hd
theorem cut_one {α : Type} (xs : List α) : cut xs (some 1) none = xs.drop 1 := by
  unfold cut
  rw [show HT.sIx xs.length 0 (some 1) = min 1 xs.length from HT.sIx_nat xs.length 0 1, HT.sIx_none]
  cases xs with
  | nil => rfl
  | cons x r =>
    rw [show min 1 (x :: r).length = 1 by rw [List.length_cons]; omega]
    show (List.take ((x :: r).length - 1) r) = r
    rw [List.length_cons, Nat.add_sub_cancel]
    exact List.take_length
theorem zipD_ints : ∀ xs ys : List Int, zipD (xs.map .int) (ys.map .int) = ((xs.zip ys).map pd).map .d
  | [], _ => by simp [zipD]
  | _ :: _, [] => by simp [zipD]
  | x :: r, y :: s => by simp [zipD, pd, zipD_ints r s]
/-- a comprehension over pairs, all of them -/
theorem lc_all (g : FG) (fe : FE) (ρ : List Sl) (S : List Ob) (y : Int × Int → W) (T : Prs)
    (h : ∀ q ∈ T, ∃ ρ1, g (.d (pd q)) ρ = some ρ1 ∧ fe ρ1 S = .ok (y q) S) : lcL g (fun _ S => .ok true S) fe ρ ((T.map pd).map .d) S = .ok (T.map y) S := by
  induction T with
  | nil => rfl
  | cons q r ih =>
    obtain ⟨ρ1, h1, h2⟩ := h q (List.mem_cons_self ..)
    have ih := ih fun z hz => h z (List.mem_cons_of_mem _ hz)
    rw [List.map_cons, List.map_cons]
    unfold lcL
    simp only [h1, h2, if_true, ih, e_ok, List.map_cons]
theorem are_terms_ok (d : PyData) (S : List Ob) (hs : ∀ ds, d = .tuple ds → ds.length ≤ 1000) : m_are_terms [.d d] S = .ok (.w (.d (.bool (termsB d)))) S := by
  cases d with
  | tuple ds =>
    have hl := hs ds rfl
    have st : start0 7 [W.d (.tuple ds)] = [.w (.d (.tuple ds)), .un, .un, .un, .un, .un, .un] := rfl
    have a0 : fAll (fItO (fLc (fIt (fVar 0)) [2] (gN 2) (fun _ S => .ok true S) e_are_terms_0)) [.w (.d (.tuple ds)), .un, .un, .un, .un, .un, .un] S = .ok (.d (.bool (ds.all termB))) S := by
      have e : fLc (fIt (fVar 0)) [2] (gN 2) (fun _ S => .ok true S) e_are_terms_0 [.w (.d (.tuple ds)), .un, .un, .un, .un, .un, .un] S = .ok (.lst ((ds.map termB).map fun b => .d (.bool b))) S := by
        rw [e_Lc (xs := ds.map .d) (S' := S) _ _ _ (by simp) rfl]
        show (lcL (gN 2) (fun _ S => Res.ok true S) e_are_terms_0 [.w (.d (.tuple ds)), .un, .un, .un, .un, .un, .un] (ds.map .d) S).bind _ = _
        rw [lc_judge e_are_terms_0 termB 2 _ S ds fun d _ => by simp [e_are_terms_0, is_term_ok]]
        rfl
      rw [e_All, e_ItO, e, e_ok, e_lstOf, e_ok, e_onB, all_map_id]
    unfold m_are_terms b_are_terms
    rw [e_runF, st, e_Seq, e_IfS]
    cases q : ds.all termB with
    | false =>
      rw [q] at a0
      simp [-e_All, isTup, a0, termsB, q]
    | true =>
      rw [q] at a0
      obtain ⟨T, rfl, hT⟩ := termB_pd q
      have hv : (T.map pd).map varD = T.map (fun t => t.1 / 2) := by rw [List.map_map]; rfl
      have e1 : fLc (fIt (fVar 0)) [3, 4] (gT 2 (gsC (gN 3) (gsC (gN 4) gsN))) (fun _ S => .ok true S) e_are_terms_1 [.w (.d (.tuple (T.map pd))), .un, .un, .un, .un, .un, .un] S = .ok (.lst ((T.map (fun t => t.1 / 2)).map fun i => .d (.int i))) S := by
        rw [e_Lc (xs := (T.map pd).map .d) (S' := S) _ _ _ (by simp) rfl]
        show (lcL _ (fun _ S => Res.ok true S) e_are_terms_1 [.w (.d (.tuple (T.map pd))), .un, .un, .un, .un, .un, .un] ((T.map pd).map .d) S).bind _ = _
        rw [lc_all _ e_are_terms_1 _ S (fun t => .d (.int (t.1 / 2))) T fun q _ => ⟨[.w (.d (.tuple (T.map pd))), .un, .un, .w (.d (.int q.1)), .w (.d (.int q.2)), .un, .un], by simp [pd], by simp [e_are_terms_1, show divC q.1 2 = true from divC_of (by omega) (by omega)]⟩]
        rw [e_ok, List.map_map]; rfl
      have hl1 : T.length ≤ 16777216 := by simp at hl; omega
      have e2 : fAll (fItO (fLc (fZip (fVar 1) (fCut (fVar 1) (fP (fC (.int 1))) fNoP)) [5, 6] (gT 2 (gsC (gN 5) (gsC (gN 6) gsN))) (fun _ S => .ok true S) e_are_terms_2)) [.w (.d (.tuple (T.map pd))), .w (.d (.list ((T.map (fun t => t.1 / 2)).map .int))), .un, .un, .un, .un, .un] S = .ok (.d (.bool (incB (T.map fun t => t.1 / 2)))) S := by
        have z : fZip (fVar 1) (fCut (fVar 1) (fP (fC (.int 1))) fNoP) [.w (.d (.tuple (T.map pd))), .w (.d (.list ((T.map (fun t => t.1 / 2)).map .int))), .un, .un, .un, .un, .un] S = .ok ((((T.map fun t => t.1 / 2).zip ((T.map fun t => t.1 / 2).drop 1)).map pd).map .d) S := by
          unfold fZip
          simp only [e_var, List.getElem?_cons_succ, List.getElem?_cons_zero, e_ok, e_Cut, e_P, e_c, e_NoP, e_cutL]
          rw [cut_one, ← List.map_drop]
          unfold zipV
          dsimp only
          rw [if_pos (by simpa using hl1), zipD_ints]
        have e : fLc (fZip (fVar 1) (fCut (fVar 1) (fP (fC (.int 1))) fNoP)) [5, 6] (gT 2 (gsC (gN 5) (gsC (gN 6) gsN))) (fun _ S => .ok true S) e_are_terms_2 [.w (.d (.tuple (T.map pd))), .w (.d (.list ((T.map (fun t => t.1 / 2)).map .int))), .un, .un, .un, .un, .un] S = .ok (.lst ((((T.map fun t => t.1 / 2).zip ((T.map fun t => t.1 / 2).drop 1)).map fun p => decide (p.1 < p.2)).map fun b => .d (.bool b))) S := by
          rw [e_Lc (S' := S) _ _ _ z rfl]
          show (lcL _ (fun _ S => Res.ok true S) e_are_terms_2 [.w (.d (.tuple (T.map pd))), .w (.d (.list ((T.map (fun t => t.1 / 2)).map .int))), .un, .un, .un, .un, .un] _ S).bind _ = _
          rw [lc_all _ e_are_terms_2 _ S (fun p => .d (.bool (decide (p.1 < p.2)))) _ fun q _ => ⟨[.w (.d (.tuple (T.map pd))), .w (.d (.list ((T.map (fun t => t.1 / 2)).map .int))), .un, .un, .un, .w (.d (.int q.1)), .w (.d (.int q.2))], by simp [pd], by simp [e_are_terms_2]⟩]
          rw [e_ok, List.map_map]; rfl
        rw [e_All, e_ItO, e, e_ok, e_lstOf, e_ok, e_onB, all_map_id]
        rfl
      have f1 : fSetO 1 (fLc (fIt (fVar 0)) [3, 4] (gT 2 (gsC (gN 3) (gsC (gN 4) gsN))) (fun _ S => .ok true S) e_are_terms_1) [.w (.d (.tuple (T.map pd))), .un, .un, .un, .un, .un, .un] S = .nx [.w (.d (.tuple (T.map pd))), .own (.lst ((T.map (fun t => t.1 / 2)).map fun i => .d (.int i))), .un, .un, .un, .un, .un] S := by
        rw [e_SetO, e1]; rfl
      have t0 : fOr (fNot (fT (fIsi "tuple" (fVar 0)))) (fNot (fT (fAll (fItO (fLc (fIt (fVar 0)) [2] (gN 2) (fun _ S => .ok true S) e_are_terms_0))))) [.w (.d (.tuple (T.map pd))), .un, .un, .un, .un, .un, .un] S = .ok false S := by
        simp [-e_All, isTup, a0]
      rw [t0, e_flok]
      simp only [Bool.false_eq_true, if_false, e_Nx, e_thenN]
      rw [e_Seq, f1, e_thenN, e_Frz]
      simp only [List.getElem?_cons_succ, List.getElem?_cons_zero, e_frz, dats_ints, Option.map_some, List.set_cons_succ, List.set_cons_zero]
      rw [e_Ret, e2]
      simp [termsB, q, hv]
  | _ => simp [m_are_terms, b_are_terms, start0, isTup, termsB]
def sumB (d : PyData) : Bool := match d with
  | .tuple [x, .int _] => termsB x
  | _ => false
def Sml (d : PyData) : Prop := ∀ ds y, d = .tuple [.tuple ds, y] → ds.length ≤ 1000
theorem sum_judged (d : PyData) (S : List Ob) (hs : Sml d) : m_is_sum [.d d] S = .ok (.w (.d (.bool (sumB d)))) S := by
  cases d with
  | tuple xs =>
    match xs with
    | [] => simp [m_is_sum, b_is_sum, start0, is_row_ok, rowB, sumB]
    | [x] => simp [m_is_sum, b_is_sum, start0, is_row_ok, rowB, sumB]
    | [x, y] =>
      have e := are_terms_ok x S fun ds h => hs ds y (by rw [h])
      cases h : termsB x with
      | true => rw [h] at e; cases y <;> simp [m_is_sum, b_is_sum, start0, is_row_ok, rowB, sumB, is_int_ok, intB, e, h]
      | false => rw [h] at e; cases y <;> simp [m_is_sum, b_is_sum, start0, is_row_ok, rowB, sumB, is_int_ok, intB, e, h]
    | x :: y :: z :: r =>
      have h : ¬ ((r.length : Int) + 1 + 1 + 1 ≤ 2) := by omega
      simp [m_is_sum, b_is_sum, start0, is_row_ok, rowB, sumB, h]
  | _ => simp [m_is_sum, b_is_sum, start0, is_row_ok, rowB, sumB]
end L2.Q.P
namespace L2.Q.P
open PySem PySem.Spec PyProof.Rows
/-! reckonings on right sums -/
def sD (T : Prs) (g : Int) : PyData := .tuple [pD T, .int g]
structure Rt (T : Prs) : Prop where
  len : T.length ≤ 20
  lo : ∀ t ∈ T, 0 ≤ t.1 ∧ t.1 < 2 ^ 20 ∧ 1 ≤ t.2 ∧ t.2 < 2 ^ 250
  inc : incB (T.map fun t => t.1 / 2) = true
theorem Rt.terms {T : Prs} (h : Rt T) : termsB (pD T) = true := by
  unfold pD termsB
  rw [Bool.and_eq_true, List.all_map, List.all_eq_true, List.map_map]
  refine ⟨fun t ht => ?_, h.inc⟩
  have := h.lo t ht
  simp [pd, termB]; omega
theorem Rt.sum {T : Prs} (h : Rt T) (g : Int) : sumB (sD T g) = true := h.terms
theorem Rt.sml {T : Prs} (h : T.length ≤ 1000) (g : Int) : Sml (sD T g) := fun ds y e => by
  unfold sD pD at e
  injection e with e
  injection e with e1 e2
  injection e1 with e1
  subst e1
  simpa using h
theorem judged {T : Prs} (h : Rt T) (g : Int) (S : List Ob) : m_is_sum [.d (sD T g)] S = .ok (.w (.d (.bool true))) S := by
  rw [sum_judged _ S (Rt.sml (by have := h.len; omega) g), h.sum g]
/-- a tuple made of a sum's terms -/
theorem tup_map (fi : FA) (own : List Nat) (g : FG) (fe : FE) (ρ : List Sl) (S : List Ob) (T : Prs) (f : Int × Int → Int × Int) (hi : fi ρ S = .ok ((T.map pd).map .d) S) (ho : own.any (fun i => isOwn ρ[i]?) = false)
    (h : ∀ q ∈ T, ∃ ρ1, g (.d (pd q)) (unset ρ own) = some ρ1 ∧ fe ρ1 S = .ok (.d (pd (f q))) S) : fTupL (fItO (fLc fi own g (fun _ S => .ok true S) fe)) ρ S = .ok (.d (pD (T.map f))) S := by
  rw [e_TupL, e_ItO, e_Lc _ _ _ hi ho, lc_all g fe _ S (fun q => .d (pd (f q))) T h]
  simp [pD]
theorem tup_filter (fi : FA) (own : List Nat) (g : FG) (t : FB) (fe : FE) (ρ : List Sl) (S : List Ob) (T : Prs) (p : Int × Int → Bool) (hi : fi ρ S = .ok ((T.map pd).map .d) S) (ho : own.any (fun i => isOwn ρ[i]?) = false)
    (h : ∀ q ∈ T, ∃ ρ1, g (.d (pd q)) (unset ρ own) = some ρ1 ∧ t ρ1 S = .ok (p q) S ∧ fe ρ1 S = .ok (.d (pd q)) S) : fTupL (fItO (fLc fi own g t fe)) ρ S = .ok (.d (pD (T.filter p))) S := by
  have e : lcL g t fe (unset ρ own) ((T.map pd).map .d) S = .ok (((T.filter p).map pd).map .d) S := by
    clear hi
    induction T with
    | nil => rfl
    | cons q r ih =>
      obtain ⟨ρ1, h1, h2, h3⟩ := h q (List.mem_cons_self ..)
      have ih := ih fun z hz => h z (List.mem_cons_of_mem _ hz)
      rw [List.map_cons, List.map_cons]
      unfold lcL
      cases hp : p q with
      | true => simp only [h1, h2, hp, if_true, h3, ih, e_ok, List.filter_cons_of_pos hp, List.map_cons]
      | false => simp only [h1, h2, hp, Bool.false_eq_true, if_false, ih]; rw [List.filter_cons_of_neg (by rw [hp]; exact Bool.false_ne_true)]
  rw [e_TupL, e_ItO, e_Lc _ _ _ hi ho, e]
  simp [pD]
/-- a sum over a sum's terms -/
theorem sum_over (fi : FA) (own : List Nat) (g : FG) (t : FB) (fe : FE) (ρ : List Sl) (S : List Ob) (T : Prs) (p : Int → Bool) (hi : fi ρ S = .ok ((T.map pd).map .d) S) (ho : own.any (fun i => isOwn ρ[i]?) = false)
    (h : ∀ q ∈ T, ∃ ρ1, g (.d (pd q)) (unset ρ own) = some ρ1 ∧ t ρ1 S = .ok (p q.1) S ∧ (p q.1 = true → fe ρ1 S = .ok (.d (.int q.2)) S)) : fSum (fItO (fLc fi own g t fe)) ρ S = .ok (.d (.int (lin (fun l => if p l = true then 1 else 0) T))) S := by
  rw [e_Sum, e_ItO, e_Lc _ _ _ hi ho, lc_pairs g t fe _ S p T h, e_ok, e_ok, e_lstOf, e_ok, e_onI, sum_lin]
theorem terms_at (ρ : List Sl) (S : List Ob) (T : Prs) (g : Int) (i : Nat) (h : ρ[i]? = some (.w (.d (sD T g)))) : fIt (fBin oIx (fVar i) (fC (.int 0))) ρ S = .ok ((T.map pd).map .d) S := by
  simp [h, sD, pD]
theorem pair_inc : ∀ {vs : List Int}, vs.Pairwise (· < ·) → incB vs = true
  | [], _ => rfl
  | [x], _ => rfl
  | x :: y :: r, h => by
    have h' := List.pairwise_cons.mp h
    have ih := pair_inc h'.2
    unfold incB at ih ⊢
    simp only [List.drop_succ_cons, List.drop_zero, List.zip_cons_cons, List.all_cons, Bool.and_eq_true]
    exact ⟨decide_eq_true (h'.1 y (List.mem_cons_self ..)), by simpa using ih⟩
end L2.Q.P
namespace L2.Q.P
open PySem PySem.Spec PyProof.Rows
/-! cut sums -/
def cutS' (T : Prs) (g : Int) : PyData := if g ≤ 0 then sD [] 0 else sD (T.map fun t => (t.1, if g < t.2 then g else t.2)) g
theorem cut_ok (T : Prs) (g : Int) (S : List Ob) : m_cut_of [.d (sD T g)] S = .ok (.w (.d (cutS' T g))) S := by
  have e := tup_map (fIt (fBin oIx (fVar 0) (fC (.int 0)))) [1, 2] (gT 2 (gsC (gN 1) (gsC (gN 2) gsN))) e_cut_of_0 [.w (.d (sD T g)), .un, .un] S T (fun t => (t.1, if g < t.2 then g else t.2)) (terms_at _ S T g 0 rfl) rfl fun q hq => ⟨[.w (.d (sD T g)), .w (.d (.int q.1)), .w (.d (.int q.2))], by simp [pd, unset], by simp [e_cut_of_0, pd, sD]⟩
  have st : start0 3 [W.d (sD T g)] = [.w (.d (sD T g)), .un, .un] := rfl
  have hg : oIx (.d (sD T g)) (.d (.int 1)) S = .ok (.d (.int g)) S := by simp [sD]
  unfold m_cut_of b_cut_of
  rw [e_runF, st, e_Seq]
  by_cases q : g ≤ 0
  · have f0 : fIfS (fT (fBin oLe (fBin oIx (fVar 0) (fC (.int 1))) (fC (.int 0)))) (fRet (fTup (fCons (fTup fNil) (fCons (fC (.int 0)) fNil)))) fNx [.w (.d (sD T g)), .un, .un] S = .rt (.w (.d (.tuple [.tuple [], .int 0]))) S := by simp [-e_ixT, hg, q]
    rw [f0, e_thenR]
    simp [cutS', q, sD, pD]
  · have f0 : fIfS (fT (fBin oLe (fBin oIx (fVar 0) (fC (.int 1))) (fC (.int 0)))) (fRet (fTup (fCons (fTup fNil) (fCons (fC (.int 0)) fNil)))) fNx [.w (.d (sD T g)), .un, .un] S = .nx [.w (.d (sD T g)), .un, .un] S := by simp [-e_ixT, hg, q]
    rw [f0, e_thenN, e_Ret, e_Tup, e_Cons, e]
    simp [q, cutS', sD]
end L2.Q.P
namespace L2.Q.P
open PySem PySem.Spec PyProof.Rows
/-! sorted pairs of different variables -/
def lexB (p q : Int × Int) : Bool := decide (p.1 < q.1 ∨ (p.1 = q.1 ∧ p.2 ≤ q.2))
theorem lexB_trans (a b c : Int × Int) (h1 : lexB a b = true) (h2 : lexB b c = true) : lexB a c = true := by
  unfold lexB at *
  simp only [decide_eq_true_eq] at *
  omega
theorem lexB_total (a b : Int × Int) : (lexB a b || lexB b a) = true := by
  unfold lexB
  simp only [Bool.or_eq_true, decide_eq_true_eq]
  omega
theorem sortD_pairs (L : Prs) : sortD (L.map pd) = (L.mergeSort lexB).map pd := by
  unfold sortD
  refine (List.map_mergeSort fun a _ b _ => ?_).symm
  have := congrFun (congrFun (PySem.W.dataLe_ii (β := Int × Int) (fun p => p.1) (fun p => p.2)) a) b
  exact this.symm
theorem alike_pds : ∀ L : Prs, alikes (L.map pd) = true
  | [] => rfl
  | a :: r => by
    have al : ∀ p q : Int × Int, PySem.W.alike (pd p) (pd q) = true := fun p q => by simp [pd, PySem.W.alike, PySem.W.alikeAll]
    rw [List.map_cons]
    unfold alikes
    rw [al, alike_pds r, Bool.and_true, Bool.true_and, List.all_map, List.all_eq_true]
    intro b _
    simp [al]
theorem srt_pairs {L : Prs} (hd : (L.map fun t => t.1 / 2).Nodup) (S : List Ob) : ∃ L' : Prs, srt ((L.map pd).map .d) S = .ok (.d (.list (L'.map pd))) S ∧ L'.Perm L ∧ (L'.map fun t => t.1 / 2).Pairwise (· < ·) := by
  have pm := List.mergeSort_perm L lexB
  refine ⟨L.mergeSort lexB, ?_, pm, ?_⟩
  · unfold srt
    rw [e_datsm]
    dsimp only
    have k1 : sortableD (L.map pd) = true := by
      unfold sortableD
      have : (L.map pd).all isTupD = true := by rw [List.all_map, List.all_eq_true]; exact fun _ _ => rfl
      rw [this]; rfl
    have k2 : (L.map pd).all (fun d => decide (d.depth ≤ 64)) = true := by
      rw [List.all_map, List.all_eq_true]
      intro t _
      have : shp 1 (pd t) := shp_tup fun d h => by simp at h; rcases h with rfl | rfl <;> exact shp_int _ _
      have := this.2
      exact decide_eq_true (by omega)
    rw [if_pos ⟨alike_pds L, k1, k2⟩, sortD_pairs]
  · have pw := List.pairwise_mergeSort (le := lexB) lexB_trans lexB_total L
    have nd : ((L.mergeSort lexB).map fun t => t.1 / 2).Nodup := (pm.map _).nodup_iff.mpr hd
    rw [List.pairwise_map]
    have nd := List.pairwise_map.mp nd
    refine (pw.and nd).imp fun {a b} h => ?_
    obtain ⟨h1, h2⟩ := h
    unfold lexB at h1
    have h1 := of_decide_eq_true h1
    have h2 : a.1 / 2 ≠ b.1 / 2 := h2
    omega
end L2.Q.P
namespace L2.Q.P
open PySem PySem.Spec PyProof.Rows
/-! lists: places, cuts, ranges -/
theorem at_mem {α : Type} {xs : List α} {v : Int} (h0 : 0 ≤ v) (h1 : v < xs.length) : ∃ d, atI xs v = some d ∧ d ∈ xs := by
  have hk : v.toNat < xs.length := by omega
  have := atI_nat (List.getElem?_eq_getElem hk)
  rw [show ((v.toNat : Nat) : Int) = v by omega] at this
  exact ⟨_, this, List.getElem_mem hk⟩
theorem cut_len {α : Type} (xs : List α) (lo hi : Option Int) : (cut xs lo hi).length ≤ xs.length := by unfold cut; simp; omega
theorem addT_ok {xs ys : List PyData} {S : List Ob} (h : xs.length + ys.length ≤ 16777216) : oAddA (.d (.tuple xs)) (.d (.tuple ys)) S = .ok (.d (.tuple (xs ++ ys))) S := by rw [e_addT, if_pos h]
theorem str_eq (s : Str) (S : List Ob) (h : SeqAt.shaped (.str s) = true) : oEqS false (.d (.str s)) (.d (.str s)) S = .ok (.d (.bool true)) S := by
  rw [e_eqD false _ _ h h]
  have : PyData.eqv (.str s) (.str s) = true := by simp [PyData.eqv]
  rw [this]; rfl
theorem str_ne (s : Str) (S : List Ob) (h : SeqAt.shaped (.str s) = true) : oEqS true (.d (.str s)) (.d (.str s)) S = .ok (.d (.bool false)) S := by
  rw [e_eqD true _ _ h h]
  have : PyData.eqv (.str s) (.str s) = true := by simp [PyData.eqv]
  rw [this]; rfl
theorem rngL_cons (a : Int) (n : Nat) : rngL a (n + 1) = .d (.int a) :: rngL (a + 1) n := by
  unfold rngL
  rw [List.range_succ_eq_map, List.map_cons, List.map_map]
  congr 1
  · simp
  · apply List.map_congr_left
    intro i _
    simp only [Function.comp, Nat.succ_eq_add_one]
    congr 2
    omega
theorem p8000 {i : Int} (h : i ≤ 16777216) : i < 2 ^ 8000 := by
  have h1 : (2 : Int) ^ 25 ≤ 2 ^ 8000 := by exact_mod_cast Nat.pow_le_pow_right (by omega) (by omega)
  have h2 : (16777216 : Int) < 2 ^ 25 := by decide
  omega
end L2.Q.P
namespace L2.Q.P
open PySem PySem.Spec PyProof.Rows
/-! inner parts -/
/-- the inner parts as they are found -/
def ipL (n : Nat) : Prs := match n with
  | 2 => []
  | 3 => [(0, 2)]
  | 4 => [(2, 4), (0, 2)]
  | 5 => [(3, 5), (0, 3), (0, 2)]
  | 6 => [(3, 6), (3, 5), (0, 3), (0, 2)]
  | 7 => [(4, 7), (4, 6), (0, 4), (2, 4), (0, 2)]
  | 8 => [(4, 8), (6, 8), (4, 6), (0, 4), (2, 4), (0, 2)]
  | 9 => [(5, 9), (7, 9), (5, 7), (0, 5), (3, 5), (0, 3), (0, 2)]
  | _ => []
theorem ipw_2 (S : List Ob) : (fSeq (fPar 1 2 (fCo (fNewL fNil)) (fCo (fNewL (fCons (fTup (fCons (fC (.int 0)) (fCons (fVar 0) fNil))) fNil)))) (fWhile fuelW t_inner_parts_0 l_inner_parts_0)) [.w (.d (.int 2)), .un, .un, .un] S = .nx [.w (.d (.int 2)), .own (.lst ((((0, 2) :: ipL 2).map pd).map .d)), .own (.lst []), .w (.d (pd (0, 1)))] S := by kernel_rfl
theorem ipl_2 (S : List Ob) : (fSeq (fPar 1 2 (fCo (fNewL fNil)) (fCo (fNewL (fCons (fTup (fCons (fC (.int 0)) (fCons (fVar 0) fNil))) fNil)))) (fFor (fRng1 (fBin oMulA (fC (.int 2)) (fVar 0))) (gN 3) l__law_inner_parts_0)) [.w (.d (.int 2)), .un, .un, .un, .un, .un, .un] S = .nx [.w (.d (.int 2)), .own (.lst (((ipL 2).map pd).map .d)), .own (.lst []), .w (.d (.int 3)), .w (.d (.int 0)), .w (.d (.int 1)), .w (.d (.int 1))] S := by kernel_rfl
theorem ipw_3 (S : List Ob) : (fSeq (fPar 1 2 (fCo (fNewL fNil)) (fCo (fNewL (fCons (fTup (fCons (fC (.int 0)) (fCons (fVar 0) fNil))) fNil)))) (fWhile fuelW t_inner_parts_0 l_inner_parts_0)) [.w (.d (.int 3)), .un, .un, .un] S = .nx [.w (.d (.int 3)), .own (.lst ((((0, 3) :: ipL 3).map pd).map .d)), .own (.lst []), .w (.d (pd (0, 1)))] S := by kernel_rfl
theorem ipl_3 (S : List Ob) : (fSeq (fPar 1 2 (fCo (fNewL fNil)) (fCo (fNewL (fCons (fTup (fCons (fC (.int 0)) (fCons (fVar 0) fNil))) fNil)))) (fFor (fRng1 (fBin oMulA (fC (.int 2)) (fVar 0))) (gN 3) l__law_inner_parts_0)) [.w (.d (.int 3)), .un, .un, .un, .un, .un, .un] S = .nx [.w (.d (.int 3)), .own (.lst (((ipL 3).map pd).map .d)), .own (.lst []), .w (.d (.int 5)), .w (.d (.int 0)), .w (.d (.int 1)), .w (.d (.int 1))] S := by kernel_rfl
theorem ipw_4 (S : List Ob) : (fSeq (fPar 1 2 (fCo (fNewL fNil)) (fCo (fNewL (fCons (fTup (fCons (fC (.int 0)) (fCons (fVar 0) fNil))) fNil)))) (fWhile fuelW t_inner_parts_0 l_inner_parts_0)) [.w (.d (.int 4)), .un, .un, .un] S = .nx [.w (.d (.int 4)), .own (.lst ((((0, 4) :: ipL 4).map pd).map .d)), .own (.lst []), .w (.d (pd (0, 1)))] S := by kernel_rfl
theorem ipl_4 (S : List Ob) : (fSeq (fPar 1 2 (fCo (fNewL fNil)) (fCo (fNewL (fCons (fTup (fCons (fC (.int 0)) (fCons (fVar 0) fNil))) fNil)))) (fFor (fRng1 (fBin oMulA (fC (.int 2)) (fVar 0))) (gN 3) l__law_inner_parts_0)) [.w (.d (.int 4)), .un, .un, .un, .un, .un, .un] S = .nx [.w (.d (.int 4)), .own (.lst (((ipL 4).map pd).map .d)), .own (.lst []), .w (.d (.int 7)), .w (.d (.int 0)), .w (.d (.int 1)), .w (.d (.int 1))] S := by kernel_rfl
theorem ipw_5 (S : List Ob) : (fSeq (fPar 1 2 (fCo (fNewL fNil)) (fCo (fNewL (fCons (fTup (fCons (fC (.int 0)) (fCons (fVar 0) fNil))) fNil)))) (fWhile fuelW t_inner_parts_0 l_inner_parts_0)) [.w (.d (.int 5)), .un, .un, .un] S = .nx [.w (.d (.int 5)), .own (.lst ((((0, 5) :: ipL 5).map pd).map .d)), .own (.lst []), .w (.d (pd (0, 1)))] S := by kernel_rfl
theorem ipl_5 (S : List Ob) : (fSeq (fPar 1 2 (fCo (fNewL fNil)) (fCo (fNewL (fCons (fTup (fCons (fC (.int 0)) (fCons (fVar 0) fNil))) fNil)))) (fFor (fRng1 (fBin oMulA (fC (.int 2)) (fVar 0))) (gN 3) l__law_inner_parts_0)) [.w (.d (.int 5)), .un, .un, .un, .un, .un, .un] S = .nx [.w (.d (.int 5)), .own (.lst (((ipL 5).map pd).map .d)), .own (.lst []), .w (.d (.int 9)), .w (.d (.int 0)), .w (.d (.int 1)), .w (.d (.int 1))] S := by kernel_rfl
theorem ipw_6 (S : List Ob) : (fSeq (fPar 1 2 (fCo (fNewL fNil)) (fCo (fNewL (fCons (fTup (fCons (fC (.int 0)) (fCons (fVar 0) fNil))) fNil)))) (fWhile fuelW t_inner_parts_0 l_inner_parts_0)) [.w (.d (.int 6)), .un, .un, .un] S = .nx [.w (.d (.int 6)), .own (.lst ((((0, 6) :: ipL 6).map pd).map .d)), .own (.lst []), .w (.d (pd (0, 1)))] S := by kernel_rfl
theorem ipl_6 (S : List Ob) : (fSeq (fPar 1 2 (fCo (fNewL fNil)) (fCo (fNewL (fCons (fTup (fCons (fC (.int 0)) (fCons (fVar 0) fNil))) fNil)))) (fFor (fRng1 (fBin oMulA (fC (.int 2)) (fVar 0))) (gN 3) l__law_inner_parts_0)) [.w (.d (.int 6)), .un, .un, .un, .un, .un, .un] S = .nx [.w (.d (.int 6)), .own (.lst (((ipL 6).map pd).map .d)), .own (.lst []), .w (.d (.int 11)), .w (.d (.int 0)), .w (.d (.int 1)), .w (.d (.int 1))] S := by kernel_rfl
theorem ipw_7 (S : List Ob) : (fSeq (fPar 1 2 (fCo (fNewL fNil)) (fCo (fNewL (fCons (fTup (fCons (fC (.int 0)) (fCons (fVar 0) fNil))) fNil)))) (fWhile fuelW t_inner_parts_0 l_inner_parts_0)) [.w (.d (.int 7)), .un, .un, .un] S = .nx [.w (.d (.int 7)), .own (.lst ((((0, 7) :: ipL 7).map pd).map .d)), .own (.lst []), .w (.d (pd (0, 1)))] S := by kernel_rfl
theorem ipl_7 (S : List Ob) : (fSeq (fPar 1 2 (fCo (fNewL fNil)) (fCo (fNewL (fCons (fTup (fCons (fC (.int 0)) (fCons (fVar 0) fNil))) fNil)))) (fFor (fRng1 (fBin oMulA (fC (.int 2)) (fVar 0))) (gN 3) l__law_inner_parts_0)) [.w (.d (.int 7)), .un, .un, .un, .un, .un, .un] S = .nx [.w (.d (.int 7)), .own (.lst (((ipL 7).map pd).map .d)), .own (.lst []), .w (.d (.int 13)), .w (.d (.int 0)), .w (.d (.int 1)), .w (.d (.int 1))] S := by kernel_rfl
theorem ipw_8 (S : List Ob) : (fSeq (fPar 1 2 (fCo (fNewL fNil)) (fCo (fNewL (fCons (fTup (fCons (fC (.int 0)) (fCons (fVar 0) fNil))) fNil)))) (fWhile fuelW t_inner_parts_0 l_inner_parts_0)) [.w (.d (.int 8)), .un, .un, .un] S = .nx [.w (.d (.int 8)), .own (.lst ((((0, 8) :: ipL 8).map pd).map .d)), .own (.lst []), .w (.d (pd (0, 1)))] S := by kernel_rfl
theorem ipl_8 (S : List Ob) : (fSeq (fPar 1 2 (fCo (fNewL fNil)) (fCo (fNewL (fCons (fTup (fCons (fC (.int 0)) (fCons (fVar 0) fNil))) fNil)))) (fFor (fRng1 (fBin oMulA (fC (.int 2)) (fVar 0))) (gN 3) l__law_inner_parts_0)) [.w (.d (.int 8)), .un, .un, .un, .un, .un, .un] S = .nx [.w (.d (.int 8)), .own (.lst (((ipL 8).map pd).map .d)), .own (.lst []), .w (.d (.int 15)), .w (.d (.int 0)), .w (.d (.int 1)), .w (.d (.int 1))] S := by kernel_rfl
theorem ipw_9 (S : List Ob) : (fSeq (fPar 1 2 (fCo (fNewL fNil)) (fCo (fNewL (fCons (fTup (fCons (fC (.int 0)) (fCons (fVar 0) fNil))) fNil)))) (fWhile fuelW t_inner_parts_0 l_inner_parts_0)) [.w (.d (.int 9)), .un, .un, .un] S = .nx [.w (.d (.int 9)), .own (.lst ((((0, 9) :: ipL 9).map pd).map .d)), .own (.lst []), .w (.d (pd (0, 1)))] S := by kernel_rfl
theorem ipl_9 (S : List Ob) : (fSeq (fPar 1 2 (fCo (fNewL fNil)) (fCo (fNewL (fCons (fTup (fCons (fC (.int 0)) (fCons (fVar 0) fNil))) fNil)))) (fFor (fRng1 (fBin oMulA (fC (.int 2)) (fVar 0))) (gN 3) l__law_inner_parts_0)) [.w (.d (.int 9)), .un, .un, .un, .un, .un, .un] S = .nx [.w (.d (.int 9)), .own (.lst (((ipL 9).map pd).map .d)), .own (.lst []), .w (.d (.int 17)), .w (.d (.int 0)), .w (.d (.int 1)), .w (.d (.int 1))] S := by kernel_rfl
end L2.Q.P
namespace L2.Q.P
open PySem PySem.Spec PyProof.Rows
/-! items of what is well shaped -/
theorem shp_in {k : Nat} : ∀ {xs : List PyData}, PyData.canLayAll0 xs = true → PyData.depthAll xs ≤ k → ∀ x ∈ xs, shp k x
  | y :: r, h, d, x, hx => by
    have h : (PyData.canLay0 y && PyData.canLayAll0 r) = true := by simpa [PyData.canLayAll0] using h
    have d : max (PyData.depth y) (PyData.depthAll r) ≤ k := by simpa [PyData.depthAll] using d
    obtain ⟨h1, h2⟩ := Bool.and_eq_true_iff.mp h
    rcases List.mem_cons.mp hx with rfl | hx
    · exact ⟨h1, by omega⟩
    · exact shp_in h2 (by omega) x hx
theorem shp_items {k : Nat} {xs : List PyData} (h : shp k (.tuple xs)) : ∀ x ∈ xs, shp k x := by
  have h1 : PyData.canLayAll0 xs = true := by simpa [PyData.canLay0] using h.1
  have h2 : PyData.depthAll xs + 1 ≤ k := by simpa [PyData.depth] using h.2
  exact shp_in h1 (by omega)
theorem shp_sub {k : Nat} {xs : List PyData} (h : shp (k + 1) (.tuple xs)) : ∀ x ∈ xs, shp k x := by
  have h1 : PyData.canLayAll0 xs = true := by simpa [PyData.canLay0] using h.1
  have h2 : PyData.depthAll xs + 1 ≤ k + 1 := by simpa [PyData.depth] using h.2
  exact shp_in h1 (by omega)
end L2.Q.P
namespace L2.Q.P
open PySem PySem.Spec PyProof.Rows
/-! comprehensions with tests -/
/-- a comprehension with a test, over things as they are told -/
theorem lc_sel {α : Type} (g : FG) (t : FB) (fe : FE) (ρ : List Sl) (S : List Ob) (w : α → W) (p : α → Bool) (y : α → W) (xs : List α) (h : ∀ a ∈ xs, ∃ ρ1, g (w a) ρ = some ρ1 ∧ t ρ1 S = .ok (p a) S ∧ (p a = true → fe ρ1 S = .ok (y a) S)) :
    lcL g t fe ρ (xs.map w) S = .ok ((xs.filter p).map y) S := by
  induction xs with
  | nil => rfl
  | cons a r ih =>
    obtain ⟨ρ1, h1, h2, h3⟩ := h a (List.mem_cons_self ..)
    have ih := ih fun z hz => h z (List.mem_cons_of_mem _ hz)
    rw [List.map_cons]
    unfold lcL
    simp only [h1, h2]
    cases hp : p a with
    | true => simp only [h3 hp, if_true, ih, e_ok, List.filter_cons_of_pos hp, List.map_cons]
    | false => simp only [Bool.false_eq_true, if_false, ih]; rw [List.filter_cons_of_neg (by rw [hp]; exact Bool.false_ne_true)]
theorem none_left {α : Type} (p : α → Bool) (xs : List α) : (xs.filter fun a => !p a).isEmpty = xs.all p := by
  induction xs with
  | nil => rfl
  | cons a r ih =>
    cases h : p a with
    | true => rw [List.filter_cons_of_neg (by simp [h]), ih]; simp [h]
    | false => rw [List.filter_cons_of_pos (by simp [h])]; simp [h]
theorem eq_nil (neg : Bool) (ds : List PyData) (S : List Ob) (h : ∀ d ∈ ds, shp 60 d) : oEqS neg (.d (.list ds)) (.d (.list [])) S = .ok (.d (.bool (neg ^^ ds.isEmpty))) S := by
  rw [e_eqD neg _ _ (shaped_of (shp_mono (shp_list h) (by omega))) (shaped_of (shp_mono (shp_list (k := 0) (ds := []) (by simp)) (by omega))), eqv_nil]
end L2.Q.P
namespace L2.Q.P
open PySem PySem.Spec PyProof.Rows
/-! inner parts, sorted -/
theorem srt_pd (L : Prs) (S : List Ob) : srt ((L.map pd).map .d) S = .ok (.d (.list ((L.mergeSort lexB).map pd))) S := by
  unfold srt
  rw [e_datsm]
  dsimp only
  have k1 : sortableD (L.map pd) = true := by
    unfold sortableD
    have : (L.map pd).all isTupD = true := by rw [List.all_map, List.all_eq_true]; exact fun _ _ => rfl
    rw [this]; rfl
  have k2 : (L.map pd).all (fun d => decide (d.depth ≤ 64)) = true := by
    rw [List.all_map, List.all_eq_true]
    intro t _
    have : shp 1 (pd t) := shp_tup fun d h => by simp at h; rcases h with rfl | rfl <;> exact shp_int _ _
    have := this.2
    exact decide_eq_true (by omega)
  rw [if_pos ⟨alike_pds L, k1, k2⟩, sortD_pairs]
theorem ne_pd (p q : Int × Int) (S : List Ob) : oEqS true (.d (pd p)) (.d (pd q)) S = .ok (.d (.bool (!decide (p = q)))) S := by
  rw [e_eqD true _ _ (shaped_of (shp_mono (shp_pd p) (by omega))) (shaped_of (shp_mono (shp_pd q) (by omega)))]
  have : PyData.eqv (pd p) (pd q) = decide (p = q) := by
    obtain ⟨a, b⟩ := p
    obtain ⟨c, d⟩ := q
    rw [Bool.eq_iff_iff]
    simp [pd, PyData.eqv, PyData.eqvAll]
  rw [this, Bool.true_xor]
theorem ip_end {n : Int} {M : Prs} (h : ∀ p ∈ M, p ≠ (0, n)) (a b : Sl) (S : List Ob) (hb : isOwn (some b) = false) :
    fFrz 1 (fRet (fSrt (fItO (fLc (fIt (fVar 1)) [3] (gN 3) t_inner_parts_1 e_inner_parts_0)))) [.w (.d (.int n)), .own (.lst ((((0, n) :: M).map pd).map .d)), a, b] S = .rt (.w (.d (.list ((M.mergeSort lexB).map pd)))) S := by
  have fz : frz (.lst ((((0, n) :: M).map pd).map .d)) = some (.d (.list (((0, n) :: M).map pd))) := by rw [e_frz, e_datsm]; rfl
  have src : fIt (fVar 1) [.w (.d (.int n)), .w (.d (.list (((0, n) :: M).map pd))), a, b] S = .ok (((0, n) :: M).map fun p => W.d (pd p)) S := by
    show Res.ok ((((0, n) :: M).map pd).map W.d) S = _
    rw [List.map_map]; rfl
  have lc := lc_sel (gN 3) t_inner_parts_1 e_inner_parts_0 [.w (.d (.int n)), .w (.d (.list (((0, n) :: M).map pd))), a, .un] S (fun p : Int × Int => W.d (pd p)) (fun p => !decide (p = (0, n))) (fun p => W.d (pd p)) ((0, n) :: M) fun p hp => ⟨_, rfl, by
    have e := ne_pd p (0, n) S
    simp only [pd] at e
    simp [t_inner_parts_1, pd, e], fun _ => by simp [e_inner_parts_0]⟩
  have fll : ((0, n) :: M).filter (fun p => !decide (p = (0, n))) = M := by
    rw [List.filter_cons_of_neg (by simp)]
    exact List.filter_eq_self.mpr fun p hp => by simp [h p hp]
  rw [fll] at lc
  have ho : ([3].any fun i => isOwn ([Sl.w (.d (.int n)), .w (.d (.list (((0, n) :: M).map pd))), a, b] : List Sl)[i]?) = false := by
    show (isOwn (some b) || false) = false
    rw [hb]; rfl
  have sp := srt_pd M S
  rw [List.map_map] at sp
  rw [e_Frz]
  show (match frz (.lst ((((0, n) :: M).map pd).map .d)) with | some x => fRet (fSrt (fItO (fLc (fIt (fVar 1)) [3] (gN 3) t_inner_parts_1 e_inner_parts_0))) ([Sl.w (.d (.int n)), .own (.lst ((((0, n) :: M).map pd).map .d)), a, b].set 1 (.w x)) S | none => .bad) = _
  rw [fz]
  show fRet (fSrt (fItO (fLc (fIt (fVar 1)) [3] (gN 3) t_inner_parts_1 e_inner_parts_0))) [.w (.d (.int n)), .w (.d (.list (((0, n) :: M).map pd))), a, b] S = _
  rw [e_Ret, e_Srt, e_ItO, e_Lc (h := src) (ho := ho)]
  show fl (((((lcL (gN 3) t_inner_parts_1 e_inner_parts_0 [.w (.d (.int n)), .w (.d (.list (((0, n) :: M).map pd))), a, .un] ((((0, n) :: M)).map fun p => W.d (pd p)) S).bind fun ys S2 => .ok (Ob.lst ys) S2).bind lstOf)).bind srt) _ _ = _
  rw [lc]
  show fl (srt (M.map fun p => W.d (pd p)) S) _ _ = _
  have : (M.map fun p => W.d (pd p)) = M.map (W.d ∘ pd) := rfl
  rw [this, sp]
  rfl
theorem ip_of {n : Nat} {b : Sl} {r3 r4 r5 r6 : Sl} (hb : isOwn (some b) = false) (h1 : ∀ p ∈ ipL n, p ≠ (0, (n : Int)))
    (e1 : ∀ S, (fSeq (fPar 1 2 (fCo (fNewL fNil)) (fCo (fNewL (fCons (fTup (fCons (fC (.int 0)) (fCons (fVar 0) fNil))) fNil)))) (fWhile fuelW t_inner_parts_0 l_inner_parts_0)) [.w (.d (.int (n : Int))), .un, .un, .un] S = .nx [.w (.d (.int (n : Int))), .own (.lst ((((0, (n : Int)) :: ipL n).map pd).map .d)), .own (.lst []), b] S)
    (e2 : ∀ S, (fSeq (fPar 1 2 (fCo (fNewL fNil)) (fCo (fNewL (fCons (fTup (fCons (fC (.int 0)) (fCons (fVar 0) fNil))) fNil)))) (fFor (fRng1 (fBin oMulA (fC (.int 2)) (fVar 0))) (gN 3) l__law_inner_parts_0)) [.w (.d (.int (n : Int))), .un, .un, .un, .un, .un, .un] S = .nx [.w (.d (.int (n : Int))), .own (.lst (((ipL n).map pd).map .d)), .own (.lst []), r3, r4, r5, r6] S) (S : List Ob) :
    m_inner_parts [.d (.int (n : Int))] S = .ok (.w (.d (.list (((ipL n).mergeSort lexB).map pd)))) S ∧ m__law_inner_parts [.d (.int (n : Int))] S = .ok (.w (.d (.list (((ipL n).mergeSort lexB).map pd)))) S := by
  have seq : ∀ (a b c : FT) (ρ : List Sl), fSeq a (fSeq b c) ρ S = thenF (fSeq a b ρ S) c := fun a b c ρ => by
    show thenF (a ρ S) (fun ρ S => thenF (b ρ S) c) = thenF (thenF (a ρ S) b) c
    cases a ρ S <;> rfl
  constructor
  · have st : start0 4 [W.d (.int (n : Int))] = [.w (.d (.int (n : Int))), .un, .un, .un] := rfl
    unfold m_inner_parts b_inner_parts
    rw [e_runF, st, seq, e1 S, e_thenN, ip_end h1 _ _ S hb]
    rfl
  · have st : start0 7 [W.d (.int (n : Int))] = [.w (.d (.int (n : Int))), .un, .un, .un, .un, .un, .un] := rfl
    have fo : fOwn 1 [.w (.d (.int (n : Int))), .own (.lst (((ipL n).map pd).map .d)), .own (.lst []), r3, r4, r5, r6] S = .ok (((ipL n).map pd).map .d) S := rfl
    unfold m__law_inner_parts b__law_inner_parts
    rw [e_runF, st, seq, e2 S, e_thenN, e_Ret, e_Srt, fo, e_ok, srt_pd]
    rfl
def ipS (n : Nat) : Prs := (ipL n).mergeSort lexB
structure IpOk (n : Nat) : Prop where
  p : ∀ S, m_inner_parts [.d (.int (n : Int))] S = .ok (.w (.d (.list ((ipS n).map pd)))) S
  l : ∀ S, m__law_inner_parts [.d (.int (n : Int))] S = .ok (.w (.d (.list ((ipS n).map pd)))) S
  nd : (ipS n).Nodup
  bd : ∀ p ∈ ipS n, 0 ≤ p.1 ∧ p.1 < p.2 ∧ p.2 ≤ n
  len : (ipS n).length ≤ 8
theorem ips_of {n : Nat} (h : (ipL n).Nodup ∧ (ipL n).length ≤ 8 ∧ ∀ p ∈ ipL n, 0 ≤ p.1 ∧ p.1 < p.2 ∧ p.2 ≤ n) : (ipS n).Nodup ∧ (ipS n).length ≤ 8 ∧ ∀ p ∈ ipS n, 0 ≤ p.1 ∧ p.1 < p.2 ∧ p.2 ≤ n := by
  have pm := List.mergeSort_perm (ipL n) lexB
  exact ⟨pm.nodup_iff.mpr h.1, by unfold ipS; rw [pm.length_eq]; exact h.2.1, fun p hp => h.2.2 p (pm.mem_iff.mp hp)⟩
theorem ip_ok {n : Nat} (h2 : 2 ≤ n) (h9 : n ≤ 9) : IpOk n := by
  have k : n = 2 ∨ n = 3 ∨ n = 4 ∨ n = 5 ∨ n = 6 ∨ n = 7 ∨ n = 8 ∨ n = 9 := by omega
  rcases k with rfl | rfl | rfl | rfl | rfl | rfl | rfl | rfl
  · obtain ⟨h1, h2, h3⟩ := ips_of (n := 2) (by decide +kernel)
    exact ⟨fun S => (ip_of (n := 2) rfl (by decide +kernel) ipw_2 ipl_2 S).1, fun S => (ip_of (n := 2) rfl (by decide +kernel) ipw_2 ipl_2 S).2, h1, h3, h2⟩
  · obtain ⟨h1, h2, h3⟩ := ips_of (n := 3) (by decide +kernel)
    exact ⟨fun S => (ip_of (n := 3) rfl (by decide +kernel) ipw_3 ipl_3 S).1, fun S => (ip_of (n := 3) rfl (by decide +kernel) ipw_3 ipl_3 S).2, h1, h3, h2⟩
  · obtain ⟨h1, h2, h3⟩ := ips_of (n := 4) (by decide +kernel)
    exact ⟨fun S => (ip_of (n := 4) rfl (by decide +kernel) ipw_4 ipl_4 S).1, fun S => (ip_of (n := 4) rfl (by decide +kernel) ipw_4 ipl_4 S).2, h1, h3, h2⟩
  · obtain ⟨h1, h2, h3⟩ := ips_of (n := 5) (by decide +kernel)
    exact ⟨fun S => (ip_of (n := 5) rfl (by decide +kernel) ipw_5 ipl_5 S).1, fun S => (ip_of (n := 5) rfl (by decide +kernel) ipw_5 ipl_5 S).2, h1, h3, h2⟩
  · obtain ⟨h1, h2, h3⟩ := ips_of (n := 6) (by decide +kernel)
    exact ⟨fun S => (ip_of (n := 6) rfl (by decide +kernel) ipw_6 ipl_6 S).1, fun S => (ip_of (n := 6) rfl (by decide +kernel) ipw_6 ipl_6 S).2, h1, h3, h2⟩
  · obtain ⟨h1, h2, h3⟩ := ips_of (n := 7) (by decide +kernel)
    exact ⟨fun S => (ip_of (n := 7) rfl (by decide +kernel) ipw_7 ipl_7 S).1, fun S => (ip_of (n := 7) rfl (by decide +kernel) ipw_7 ipl_7 S).2, h1, h3, h2⟩
  · obtain ⟨h1, h2, h3⟩ := ips_of (n := 8) (by decide +kernel)
    exact ⟨fun S => (ip_of (n := 8) rfl (by decide +kernel) ipw_8 ipl_8 S).1, fun S => (ip_of (n := 8) rfl (by decide +kernel) ipw_8 ipl_8 S).2, h1, h3, h2⟩
  · obtain ⟨h1, h2, h3⟩ := ips_of (n := 9) (by decide +kernel)
    exact ⟨fun S => (ip_of (n := 9) rfl (by decide +kernel) ipw_9 ipl_9 S).1, fun S => (ip_of (n := 9) rfl (by decide +kernel) ipw_9 ipl_9 S).2, h1, h3, h2⟩
end L2.Q.P
namespace L2.Q.P
open PySem PySem.Spec PyProof.Rows
/-! totals of parts, and how many marks there are -/
theorem cutm {α β : Type} (f : α → β) (xs : List α) (lo hi : Option Int) : cut (xs.map f) lo hi = (cut xs lo hi).map f := by
  unfold cut
  rw [List.length_map, List.map_take, List.map_drop]
def totP (T : Prs) (p : Int × Int) : Int := lin (fun _ => 1) (cut T (some p.1) (some p.2))
def capP (T : Prs) (D : Int) (p : Int × Int) : Int := if D < totP T p then D else totP T p
/-- an instance of Totals: what is asked of its fields -/
structure Tt (T : Prs) (D : Int) (n : Nat) (S : List Ob) (fs : List (Str × W)) : Prop where
  at_ : S[n]? = some (.ins "Totals" fs)
  t : fldOf "terms" fs = some (.d (pD T))
  d : fldOf "degree" fs = some (.d (.int D))
  m1 : fldOf "total" fs = none
  m2 : fldOf "cap" fs = none
section
variable {T : Prs} {D : Int} {S : List Ob}
theorem tot_sum (fa : FE) (l h : FP) (own : List Nat) (g : FG) (fe : FE) (ρ : List Sl) (p : Int × Int) (e : fCut fa l h ρ S = .ok (.d (.tuple ((cut T (some p.1) (some p.2)).map pd))) S) (ho : own.any (fun i => isOwn ρ[i]?) = false)
    (hh : ∀ q : Int × Int, ∃ ρ1, g (.d (pd q)) (unset ρ own) = some ρ1 ∧ fe ρ1 S = .ok (.d (.int q.2)) S) : fSum (fItO (fLc (fIt (fCut fa l h)) own g (fun _ S => .ok true S) fe)) ρ S = .ok (.d (.int (totP T p))) S := by
  have src : fIt (fCut fa l h) ρ S = .ok (((cut T (some p.1) (some p.2)).map pd).map .d) S := by
    show (fCut fa l h ρ S).bind _ = _
    rw [e]; rfl
  have := sum_over (fIt (fCut fa l h)) own g (fun _ S => .ok true S) fe ρ S (cut T (some p.1) (some p.2)) (fun _ => true) src ho fun q _ => by
    obtain ⟨ρ1, h1, h2⟩ := hh q
    exact ⟨ρ1, h1, rfl, fun _ => h2⟩
  rw [this]
  rfl
theorem total_ok {n : Nat} {fs : List (Str × W)} (t : Tt T D n S fs) (p : Int × Int) : m_Totals_total [.ref n, .d (pd p)] S = .ok (.w (.d (.int (totP T p)))) S := by
  have e := tot_sum (T := T) (S := S) (fFld "Totals" "terms" (fVar 0)) (fP (fBin oIx (fVar 1) (fC (.int 0)))) (fP (fBin oIx (fVar 1) (fC (.int 1)))) [2, 3] (gT 2 (gsC (gN 2) (gsC (gN 3) gsN))) e_Totals_total_0 [.w (.ref n), .w (.d (pd p)), .un, .un] p (by
    have f := e_fldW t.at_ t.t
    simp [f, pd, pD, cutm]) rfl fun q => ⟨[.w (.ref n), .w (.d (pd p)), .w (.d (.int q.1)), .w (.d (.int q.2))], by simp [pd, unset], by simp [e_Totals_total_0]⟩
  have st : start0 4 [W.ref n, W.d (pd p)] = [.w (.ref n), .w (.d (pd p)), .un, .un] := rfl
  unfold m_Totals_total b_Totals_total
  rw [e_runF, st, e_Ret, e]
  rfl
theorem cap_ok {n : Nat} {fs : List (Str × W)} (t : Tt T D n S fs) (p : Int × Int) : m_Totals_cap [.ref n, .d (pd p)] S = .ok (.w (.d (.int (capP T D p)))) S := by
  have f := e_fldW t.at_ t.d
  have m := e_isMeth t.at_ t.m1
  have tt := total_ok t p
  generalize pd p = P at tt ⊢
  simp [m_Totals_cap, b_Totals_cap, start0, f, m, tt, capP]
theorem law_total_ok (p : Int × Int) : m__law_part_total [.d (sD T D), .d (pd p)] S = .ok (.w (.d (.int (totP T p)))) S := by
  have e := tot_sum (T := T) (S := S) (fBin oIx (fVar 0) (fC (.int 0))) (fP (fBin oIx (fVar 1) (fC (.int 0)))) (fP (fBin oIx (fVar 1) (fC (.int 1)))) [2, 3] (gT 2 (gsC (gN 2) (gsC (gN 3) gsN))) e__law_part_total_0 [.w (.d (sD T D)), .w (.d (pd p)), .un, .un] p (by
    simp [pd, pD, sD, cutm]) rfl fun q => ⟨[.w (.d (sD T D)), .w (.d (pd p)), .w (.d (.int q.1)), .w (.d (.int q.2))], by simp [pd, unset], by simp [e__law_part_total_0]⟩
  have st : start0 4 [W.d (sD T D), W.d (pd p)] = [.w (.d (sD T D)), .w (.d (pd p)), .un, .un] := rfl
  unfold m__law_part_total b__law_part_total
  rw [e_runF, st, e_Ret, e]
  rfl
/-- how many marks -/
def cntM (T : Prs) (D : Int) (L : Prs) : Int := (L.map (capP T D)).sum
theorem law_count_marks (hT : IpOk T.length) : m__law_mark_count [.d (sD T D)] S = .ok (.w (.d (.int (cntM T D (ipS T.length))))) S := by
  have ip := hT.l S
  have src : ∀ a : Sl, fIt (fVar 1) [.w (.d (sD T D)), .w (.d (.list ((ipS T.length).map pd))), a] S = .ok ((ipS T.length).map fun p => W.d (pd p)) S := fun a => by
    show Res.ok (((ipS T.length).map pd).map W.d) S = _
    rw [List.map_map]; rfl
  have x0 : (fSet 1 (fCall m__law_inner_parts (fCons (fLen (fIt (fBin oIx (fVar 0) (fC (.int 0))))) fNil))) [.w (.d (sD T D)), .un, .un] S = .nx [.w (.d (sD T D)), .w (.d (.list ((ipS T.length).map pd))), .un] S := by
    generalize (ipS T.length).map pd = L at ip ⊢
    simp [sD, pD, ip]
  have lc := lc_sel (gN 2) (fun _ S => .ok true S) e__law_mark_count_0 [.w (.d (sD T D)), .w (.d (.list ((ipS T.length).map pd))), .un] S (fun p : Int × Int => W.d (pd p)) (fun _ => true) (fun p => W.d (.int (capP T D p))) (ipS T.length) fun p _ => ⟨_, rfl, rfl, fun _ => by
    have lt := law_total_ok (T := T) (D := D) (S := S) p
    have ix : oIx (.d (sD T D)) (.d (.int 1)) S = .ok (.d (.int D)) S := by simp [sD]
    generalize pd p = P at lt ⊢
    generalize sD T D = Z at lt ix ⊢
    simp [e__law_mark_count_0, lt, ix, capP]⟩
  have st : start0 3 [W.d (sD T D)] = [.w (.d (sD T D)), .un, .un] := rfl
  rw [List.filter_eq_self.mpr (fun _ _ => rfl)] at lc
  unfold m__law_mark_count b__law_mark_count
  rw [e_runF, st, e_Seq, x0, e_thenN, e_Ret, e_Sum, e_ItO, e_Lc (h := src .un) (ho := rfl)]
  show outF (fl (((((lcL (gN 2) (fun _ S => .ok true S) e__law_mark_count_0 [.w (.d (sD T D)), .w (.d (.list ((ipS T.length).map pd))), .un] ((ipS T.length).map fun p => W.d (pd p)) S).bind fun ys S2 => .ok (Ob.lst ys) S2).bind lstOf).bind (onI List.sum))) _ _) = _
  rw [lc]
  have := e_onI (S := S) List.sum ((ipS T.length).map (capP T D))
  rw [List.map_map] at this
  show outF (fl (onI List.sum ((ipS T.length).map fun p => W.d (.int (capP T D p))) S) _ _) = _
  have e2 : ((ipS T.length).map fun p => W.d (.int (capP T D p))) = (ipS T.length).map ((fun i : Int => W.d (.int i)) ∘ capP T D) := rfl
  rw [e2, this]
  rfl
theorem count_loop (d0 : Sl) (x7 : Sl) (h7 : isOwn (some x7) = false) : ∀ (L : Prs) (c : Int) (x4 x5 x6 : Sl), isOwn (some x6) = false → ∃ y4 y5 y6, forL (gT 2 (gsC (gN 4) (gsC (gN 5) gsN))) l_count_marks_0 (L.map fun p => W.d (pd p)) [d0, .w (.d (pD T)), .w (.d (.int D)), .w (.d (.int c)), x4, x5, x6, x7] S = .nx [d0, .w (.d (pD T)), .w (.d (.int D)), .w (.d (.int (c + cntM T D L))), y4, y5, y6, x7] S
  | [], c, x4, x5, x6, _ => ⟨x4, x5, x6, by rw [show c + cntM T D [] = c from Int.add_zero c]; rfl⟩
  | p :: r, c, x4, x5, x6, h6 => by
    obtain ⟨y4, y5, y6, e⟩ := count_loop d0 x7 h7 r (c + capP T D p) (.w (.d (.int p.1))) (.w (.d (.int p.2))) x6 h6
    refine ⟨y4, y5, y6, ?_⟩
    have s := tot_sum (T := T) (S := S) (fVar 1) (fP (fVar 4)) (fP (fVar 5)) [6, 7] (gT 2 (gsC (gN 6) (gsC (gN 7) gsN))) e_count_marks_0 [d0, .w (.d (pD T)), .w (.d (.int D)), .w (.d (.int c)), .w (.d (.int p.1)), .w (.d (.int p.2)), x6, x7] p (by
      simp [pD, cutm]) (by show (isOwn (some x6) || (isOwn (some x7) || false)) = false; rw [h6, h7]; rfl) fun q => ⟨[d0, .w (.d (pD T)), .w (.d (.int D)), .w (.d (.int c)), .w (.d (.int p.1)), .w (.d (.int p.2)), .w (.d (.int q.1)), .w (.d (.int q.2))], by simp [pd, unset], by simp [e_count_marks_0]⟩
    have tn : l_count_marks_0 [d0, .w (.d (pD T)), .w (.d (.int D)), .w (.d (.int c)), .w (.d (.int p.1)), .w (.d (.int p.2)), x6, x7] S = .nx [d0, .w (.d (pD T)), .w (.d (.int D)), .w (.d (.int (c + capP T D p))), .w (.d (.int p.1)), .w (.d (.int p.2)), x6, x7] S := by
      unfold l_count_marks_0
      generalize fSum (fItO (fLc (fIt (fCut (fVar 1) (fP (fVar 4)) (fP (fVar 5)))) [6, 7] (gT 2 (gsC (gN 6) (gsC (gN 7) gsN))) (fun _ S => .ok true S) e_count_marks_0)) = Z at s ⊢
      simp [s, capP]
    have gg : (gT 2 (gsC (gN 4) (gsC (gN 5) gsN))) (W.d (pd p)) [d0, .w (.d (pD T)), .w (.d (.int D)), .w (.d (.int c)), x4, x5, x6, x7] = some [d0, .w (.d (pD T)), .w (.d (.int D)), .w (.d (.int c)), .w (.d (.int p.1)), .w (.d (.int p.2)), x6, x7] := by simp [pd]
    rw [List.map_cons, for_cons, gg]
    show turnF (l_count_marks_0 _ S) _ = _
    rw [tn, e_turnN, e]
    have : c + capP T D p + cntM T D r = c + cntM T D (p :: r) := by unfold cntM; rw [List.map_cons, List.sum_cons]; omega
    rw [this]
theorem count_marks_ok (hT : IpOk T.length) : m_count_marks [.d (sD T D)] S = .ok (.w (.d (.int (cntM T D (ipS T.length))))) S := by
  have ip := hT.p S
  obtain ⟨y4, y5, y6, e⟩ := count_loop (T := T) (D := D) (S := S) (.w (.d (sD T D))) .un rfl (ipS T.length) 0 .un .un .un rfl
  have st : start0 8 [W.d (sD T D)] = [.w (.d (sD T D)), .un, .un, .un, .un, .un, .un, .un] := rfl
  have x0 : (fAsg (gT 2 (gsC (gN 1) (gsC (gN 2) gsN))) (fVar 0)) [.w (.d (sD T D)), .un, .un, .un, .un, .un, .un, .un] S = .nx [.w (.d (sD T D)), .w (.d (pD T)), .w (.d (.int D)), .un, .un, .un, .un, .un] S := by simp [sD]
  have x1 : (fSet 3 (fC (.int 0))) [.w (.d (sD T D)), .w (.d (pD T)), .w (.d (.int D)), .un, .un, .un, .un, .un] S = .nx [.w (.d (sD T D)), .w (.d (pD T)), .w (.d (.int D)), .w (.d (.int 0)), .un, .un, .un, .un] S := by simp
  have src : fIt (fCall m_inner_parts (fCons (fLen (fIt (fVar 1))) fNil)) [.w (.d (sD T D)), .w (.d (pD T)), .w (.d (.int D)), .w (.d (.int 0)), .un, .un, .un, .un] S = .ok ((ipS T.length).map fun p => W.d (pd p)) S := by
    have : ((ipS T.length).map fun p => W.d (pd p)) = ((ipS T.length).map pd).map W.d := by rw [List.map_map]; rfl
    rw [this]
    generalize (ipS T.length).map pd = L at ip ⊢
    generalize sD T D = Z
    simp [pD, ip]
  unfold m_count_marks b_count_marks
  rw [e_runF, st, e_Seq, x0, e_thenN, e_Seq, x1, e_thenN, e_Seq, e_For (h := src), e, e_thenN, Int.zero_add]
  rfl
end
end L2.Q.P
namespace L2.Q.P
open PySem PySem.Spec PyProof.Rows
/-! the marks, on both sides -/
abbrev Ky := (Int × Int) × Int
def keyD (k : Ky) : PyData := .tuple [pd k.1, .int k.2]
/-- the dict's entries: numbers from a first one on -/
def kvF (f : Int) : List Ky → List (PyData × W)
  | [] => []
  | k :: r => (keyD k, .d (.int f)) :: kvF (f + 1) r
def rowM (k : Ky) (v : Int) : PyData := .tuple [pd k.1, .int k.2, .int v]
def rowsM (f : Int) : List Ky → List PyData
  | [] => []
  | k :: r => rowM k f :: rowsM (f + 1) r
theorem kvF_len (f : Int) : ∀ ks : List Ky, (kvF f ks).length = ks.length := fun ks => by
  induction ks generalizing f with
  | nil => rfl
  | cons k r ih => rw [kvF, List.length_cons, ih, List.length_cons]
theorem kvF_snoc (f : Int) (k : Ky) : ∀ ks : List Ky, kvF f (ks ++ [k]) = kvF f ks ++ [(keyD k, .d (.int (f + ((ks.length : Nat) : Int))))] := fun ks => by
  induction ks generalizing f with
  | nil => simp [kvF]
  | cons q r ih =>
    rw [List.cons_append, kvF, ih, kvF, List.cons_append, List.length_cons]
    have : f + 1 + ((r.length : Nat) : Int) = f + ((r.length + 1 : Nat) : Int) := by omega
    rw [this]
theorem rowsM_snoc (f : Int) (k : Ky) : ∀ ks : List Ky, rowsM f (ks ++ [k]) = rowsM f ks ++ [rowM k (f + ((ks.length : Nat) : Int))] := fun ks => by
  induction ks generalizing f with
  | nil => simp [rowsM]
  | cons q r ih =>
    rw [List.cons_append, rowsM, ih, rowsM, List.cons_append, List.length_cons]
    have : f + 1 + ((r.length : Nat) : Int) = f + ((r.length + 1 : Nat) : Int) := by omega
    rw [this]
theorem rowsM_len (f : Int) : ∀ ks : List Ky, (rowsM f ks).length = ks.length := fun ks => by
  induction ks generalizing f with
  | nil => rfl
  | cons k r ih => rw [rowsM, List.length_cons, ih, List.length_cons]
theorem nk_key (k : Ky) : nk (keyD k) = .tup [.tup [.num k.1.1, .num k.1.2], .num k.2] := rfl
theorem nk_inj {k q : Ky} (h : nk (keyD k) = nk (keyD q)) : k = q := by
  rw [nk_key, nk_key] at h
  injection h with h
  injection h with h1 h2
  injection h1 with h1
  injection h1 with a1 a2
  injection a2 with a2 _
  injection h2 with h2 _
  injection a1 with a1
  injection a2 with a2
  injection h2 with h2
  obtain ⟨⟨a, b⟩, c⟩ := k
  obtain ⟨⟨a', b'⟩, c'⟩ := q
  dsimp only at a1 a2 h2
  subst a1 a2 h2
  rfl
theorem keyB_key (k : Ky) : keyB (keyD k) = true := rfl
theorem any_kvF {k : Ky} : ∀ {ks : List Ky} (f : Int), k ∉ ks → ((kvF f ks).any fun p => decide (nk p.1 = nk (keyD k))) = false
  | [], _, _ => rfl
  | q :: r, f, h => by
    rw [kvF, List.any_cons, any_kvF (f + 1) fun z => h (List.mem_cons_of_mem _ z), Bool.or_false]
    exact decide_eq_false fun z => h (by rw [nk_inj z]; exact List.mem_cons_self ..)
theorem putN_kvF {k : Ky} {ks : List Ky} (f : Int) (h : k ∉ ks) : putN (kvF f ks) (keyD k) (.d (.int (f + ((ks.length : Nat) : Int)))) = kvF f (ks ++ [k]) := by
  unfold putN
  rw [any_kvF f h, if_neg Bool.false_ne_true, kvF_snoc]
/-- the object of the marks -/
def dob (f : Int) (ks : List Ky) : Ob := match ks with
  | [] => .dct []
  | k :: r => .dcn false (kvF f (k :: r))
theorem dob_snoc (f : Int) (ks : List Ky) (k : Ky) : dob f (ks ++ [k]) = .dcn false (kvF f (ks ++ [k])) := by cases ks <;> rfl
section
variable {T : Prs} {D f : Int} {S : List Ob} {n0 n1 : Nat} {fs : List (Str × W)}
/-- the store with the instance and the marks that are there -/
structure Mk' (T : Prs) (D : Int) (n0 n1 : Nat) (S : List Ob) (fs : List (Str × W)) : Prop where
  t : Tt T D n0 S fs
  ne : n0 ≠ n1
  lt : n1 < S.length
  m : fldOf "marks" fs = some (.ref n1)
theorem Mk'.at1 (h : Mk' T D n0 n1 S fs) (o : Ob) : (S.set n1 o)[n1]? = some o := List.getElem?_set_self h.lt
theorem Mk'.at0 (h : Mk' T D n0 n1 S fs) (o : Ob) : (S.set n1 o)[n0]? = some (.ins "Totals" fs) := by rw [List.getElem?_set_ne (Ne.symm h.ne)]; exact h.t.at_
theorem Mk'.tt (h : Mk' T D n0 n1 S fs) (o : Ob) : Tt T D n0 (S.set n1 o) fs := ⟨h.at0 o, h.t.t, h.t.d, h.t.m1, h.t.m2⟩
theorem mark_one (h : Mk' T D n0 n1 S fs) (o : Sl) {ks : List Ky} {p : Int × Int} {j : Int} (hk : (p, j) ∉ ks) (hl : ks.length ≤ 1000) :
    l_Totals___init___0 [.w (.ref n0), o, .w (.d (.int f)), .w (.d (pd p)), .w (.d (.int j))] (S.set n1 (dob f ks)) = .nx [.w (.ref n0), o, .w (.d (.int f)), .w (.d (pd p)), .w (.d (.int j))] (S.set n1 (dob f (ks ++ [(p, j)]))) := by
  have fl := e_fldW (h.at0 (dob f ks)) h.m
  have ln : lenN (.ref n1) (S.set n1 (dob f ks)) = .ok (.d (.int ((ks.length : Nat) : Int))) (S.set n1 (dob f ks)) := by
    cases ks with
    | nil => exact e_lenN0 (h.at1 _)
    | cons k r =>
      have e := e_lenN (h.at1 (.dcn false (kvF f (k :: r)))) (by rw [kvF_len]; omega)
      rw [kvF_len] at e
      exact e
  have nd : ndAt n1 (S.set n1 (dob f ks)) = some (kvF f ks) := by
    unfold ndAt
    rw [h.at1]
    cases ks <;> rfl
  have pt : putNS (.d (.int (f + ((ks.length : Nat) : Int)))) (.ref n1) (.d (keyD (p, j))) [.w (.ref n0), o, .w (.d (.int f)), .w (.d (pd p)), .w (.d (.int j))] (S.set n1 (dob f ks)) = .nx [.w (.ref n0), o, .w (.d (.int f)), .w (.d (pd p)), .w (.d (.int j))] (S.set n1 (dob f (ks ++ [(p, j)]))) := by
    unfold putNS
    dsimp only
    rw [nd]
    dsimp only
    rw [if_pos ⟨keyB_key _, by rw [kvF_len]; omega⟩, List.set_set, putN_kvF f hk, dob_snoc]
  unfold keyD at pt
  dsimp only at pt
  generalize S.set n1 (dob f ks) = S1 at fl ln pt ⊢
  generalize S.set n1 (dob f (ks ++ [(p, j)])) = S2 at pt ⊢
  generalize pd p = P at pt ⊢
  simp [l_Totals___init___0, fl, ln, pt]
/-- the keys of a part, from a number on -/
def jk (p : Int × Int) : Int → Nat → List Ky
  | _, 0 => []
  | j, m + 1 => (p, j) :: jk p (j + 1) m
theorem jk_len (p : Int × Int) : ∀ (m : Nat) (j : Int), (jk p j m).length = m
  | 0, _ => rfl
  | m + 1, j => by rw [jk, List.length_cons, jk_len p m]
theorem jk_mem {p : Int × Int} {k : Ky} : ∀ (m : Nat) (j : Int), k ∈ jk p j m → k.1 = p
  | 0, _, h => by cases h
  | m + 1, j, h => by
    rcases List.mem_cons.mp h with rfl | h
    · rfl
    · exact jk_mem m (j + 1) h
theorem marks_in (h : Mk' T D n0 n1 S fs) (o : Sl) (p : Int × Int) : ∀ (m : Nat) (j : Int) (ks : List Ky) (x : Sl), (∀ k ∈ ks, k.1 = p → k.2 < j) → ks.length + m ≤ 1000 →
    ∃ y, forL (gN 4) l_Totals___init___0 (rngL j m) [.w (.ref n0), o, .w (.d (.int f)), .w (.d (pd p)), x] (S.set n1 (dob f ks)) = .nx [.w (.ref n0), o, .w (.d (.int f)), .w (.d (pd p)), y] (S.set n1 (dob f (ks ++ jk p j m)))
  | 0, j, ks, x, _, _ => ⟨x, by rw [jk, List.append_nil]; rfl⟩
  | m + 1, j, ks, x, hk, hl => by
    have nin : (p, j) ∉ ks := fun z => by have := hk _ z rfl; dsimp only at this; omega
    obtain ⟨y, e⟩ := marks_in h o p m (j + 1) (ks ++ [(p, j)]) (.w (.d (.int j))) (fun k hk' hp => by
      rcases List.mem_append.mp hk' with hk' | hk'
      · have := hk k hk' hp; omega
      · rw [List.mem_singleton.mp hk']; dsimp only; omega) (by rw [List.length_append, List.length_singleton]; omega)
    refine ⟨y, ?_⟩
    rw [rngL_cons, for_cons]
    show turnF (l_Totals___init___0 [.w (.ref n0), o, .w (.d (.int f)), .w (.d (pd p)), .w (.d (.int j))] _) _ = _
    rw [mark_one h o nin (by omega), e_turnN, e, List.append_assoc]
    rfl
def keysM (T : Prs) (D : Int) : Prs → List Ky
  | [] => []
  | p :: r => jk p 1 (capP T D p).toNat ++ keysM T D r
theorem keysM_len (T : Prs) (D : Int) : ∀ L : Prs, (∀ p ∈ L, 0 ≤ capP T D p) → (((keysM T D L).length : Nat) : Int) = cntM T D L
  | [], _ => rfl
  | p :: r, h => by
    have ih := keysM_len T D r fun q hq => h q (List.mem_cons_of_mem _ hq)
    have := h p (List.mem_cons_self ..)
    rw [keysM, List.length_append, jk_len]
    unfold cntM at ih ⊢
    rw [List.map_cons, List.sum_cons, ← ih]
    omega
theorem rng2_cap {c : Int} (h0 : 0 ≤ c) (h1 : c ≤ 1000) (S : List Ob) : rng2 (.d (.int 1)) (.d (.int (c + 1))) S = .ok (rngL 1 c.toNat) S := by
  unfold rng2
  dsimp only
  rw [if_pos (by omega), show c + 1 - 1 = c by omega]
theorem marks_out (h : Mk' T D n0 n1 S fs) (o : Sl) : ∀ (L : Prs) (ks : List Ky) (x3 x4 : Sl), L.Nodup → (∀ p ∈ L, 0 ≤ capP T D p) → (∀ k ∈ ks, k.1 ∉ L) → ks.length + (keysM T D L).length ≤ 1000 →
    ∃ y3 y4, forL (gN 3) l_Totals___init___1 (L.map fun p => W.d (pd p)) [.w (.ref n0), o, .w (.d (.int f)), x3, x4] (S.set n1 (dob f ks)) = .nx [.w (.ref n0), o, .w (.d (.int f)), y3, y4] (S.set n1 (dob f (ks ++ keysM T D L)))
  | [], ks, x3, x4, _, _, _, _ => ⟨x3, x4, by rw [keysM, List.append_nil]; rfl⟩
  | p :: r, ks, x3, x4, nd, hc, hk, hl => by
    rw [keysM, List.length_append, jk_len] at hl
    have c0 := hc p (List.mem_cons_self ..)
    obtain ⟨y, e1⟩ := marks_in (f := f) h o p (capP T D p).toNat 1 ks x4 (fun k hk' hp => absurd (List.mem_cons_self ..) (hp ▸ hk k hk')) (by omega)
    obtain ⟨y3, y4, e2⟩ := marks_out h o r (ks ++ jk p 1 (capP T D p).toNat) (.w (.d (pd p))) y (List.nodup_cons.mp nd).2 (fun q hq => hc q (List.mem_cons_of_mem _ hq)) (fun k hk' hr => by
      rcases List.mem_append.mp hk' with hk' | hk'
      · exact hk k hk' (List.mem_cons_of_mem _ hr)
      · rw [jk_mem _ _ hk'] at hr; exact (List.nodup_cons.mp nd).1 hr) (by rw [List.length_append, jk_len]; omega)
    refine ⟨y3, y4, ?_⟩
    have cap := cap_ok (h.tt (dob f ks)) p
    have im := e_isMeth (h.at0 (dob f ks)) h.t.m2
    have rg := rng2_cap c0 (by omega) (S.set n1 (dob f ks))
    have src : fRng2 (fC (.int 1)) (fBin oAddA (fMeth "Totals" "cap" m_Totals_cap (fVar 0) (fCons (fVar 3) fNil)) (fC (.int 1))) [.w (.ref n0), o, .w (.d (.int f)), .w (.d (pd p)), x4] (S.set n1 (dob f ks)) = .ok (rngL 1 (capP T D p).toNat) (S.set n1 (dob f ks)) := by
      generalize S.set n1 (dob f ks) = S1 at cap im rg ⊢
      generalize pd p = P at cap ⊢
      generalize capP T D p = c at cap rg ⊢
      generalize rngL 1 c.toNat = l at rg ⊢
      have : ∀ fa fb ρ S, fRng2 fa fb ρ S = (fa ρ S).bind fun x S1 => (fb ρ S1).bind fun y S2 => rng2 x y S2 := fun _ _ _ _ => rfl
      simp [this, cap, im, rg]
    have tn : l_Totals___init___1 [.w (.ref n0), o, .w (.d (.int f)), .w (.d (pd p)), x4] (S.set n1 (dob f ks)) = .nx [.w (.ref n0), o, .w (.d (.int f)), .w (.d (pd p)), y] (S.set n1 (dob f (ks ++ jk p 1 (capP T D p).toNat))) := by
      unfold l_Totals___init___1
      rw [e_For (h := src), e1]
    rw [List.map_cons, for_cons]
    show turnF (l_Totals___init___1 [.w (.ref n0), o, .w (.d (.int f)), .w (.d (pd p)), x4] _) _ = _
    rw [tn, e_turnN, e2, List.append_assoc]
    rfl
/-! the law's own list -/
theorem lmark_in (o : Sl) (p : Int × Int) : ∀ (m : Nat) (j : Int) (ks : List Ky) (x : Sl), ks.length + m ≤ 1000 →
    ∃ y, forL (gN 4) l__law_marks_0 (rngL j m) [o, .w (.d (.int f)), .own (.lst ((rowsM f ks).map .d)), .w (.d (pd p)), x] S = .nx [o, .w (.d (.int f)), .own (.lst ((rowsM f (ks ++ jk p j m)).map .d)), .w (.d (pd p)), y] S
  | 0, j, ks, x, _ => ⟨x, by rw [jk, List.append_nil]; rfl⟩
  | m + 1, j, ks, x, hl => by
    obtain ⟨y, e⟩ := lmark_in o p m (j + 1) (ks ++ [(p, j)]) (.w (.d (.int j))) (by rw [List.length_append, List.length_singleton]; omega)
    refine ⟨y, ?_⟩
    have tn : l__law_marks_0 [o, .w (.d (.int f)), .own (.lst ((rowsM f ks).map .d)), .w (.d (pd p)), .w (.d (.int j))] S = .nx [o, .w (.d (.int f)), .own (.lst ((rowsM f (ks ++ [(p, j)])).map .d)), .w (.d (pd p)), .w (.d (.int j))] S := by
      rw [rowsM_snoc, List.map_append, List.map_singleton]
      have ll : ((rowsM f ks).map W.d).length = ks.length := by rw [List.length_map, rowsM_len]
      unfold rowM
      dsimp only
      generalize (rowsM f ks).map W.d = R at ll ⊢
      generalize pd p = P
      have l2 : ks.length < 16777216 := by omega
      simp [l__law_marks_0, ll, l2]
    rw [rngL_cons, for_cons]
    show turnF (l__law_marks_0 [o, .w (.d (.int f)), .own (.lst ((rowsM f ks).map .d)), .w (.d (pd p)), .w (.d (.int j))] _) _ = _
    rw [tn, e_turnN, e, List.append_assoc]
    rfl
theorem lmark_out : ∀ (L : Prs) (ks : List Ky) (x3 x4 : Sl), (∀ p ∈ L, 0 ≤ capP T D p) → ks.length + (keysM T D L).length ≤ 1000 →
    ∃ y3 y4, forL (gN 3) l__law_marks_1 (L.map fun p => W.d (pd p)) [.w (.d (sD T D)), .w (.d (.int f)), .own (.lst ((rowsM f ks).map .d)), x3, x4] S = .nx [.w (.d (sD T D)), .w (.d (.int f)), .own (.lst ((rowsM f (ks ++ keysM T D L)).map .d)), y3, y4] S
  | [], ks, x3, x4, _, _ => ⟨x3, x4, by rw [keysM, List.append_nil]; rfl⟩
  | p :: r, ks, x3, x4, hc, hl => by
    rw [keysM, List.length_append, jk_len] at hl
    have c0 := hc p (List.mem_cons_self ..)
    obtain ⟨y, e1⟩ := lmark_in (f := f) (S := S) (.w (.d (sD T D))) p (capP T D p).toNat 1 ks x4 (by omega)
    obtain ⟨y3, y4, e2⟩ := lmark_out r (ks ++ jk p 1 (capP T D p).toNat) (.w (.d (pd p))) y (fun q hq => hc q (List.mem_cons_of_mem _ hq)) (by rw [List.length_append, jk_len]; omega)
    refine ⟨y3, y4, ?_⟩
    have lt := law_total_ok (T := T) (D := D) (S := S) p
    have ix : oIx (.d (sD T D)) (.d (.int 1)) S = .ok (.d (.int D)) S := by simp [sD]
    have rg := rng2_cap c0 (by omega) S
    have src : fRng2 (fC (.int 1)) (fBin oAddA (fBin oMin (fCall m__law_part_total (fCons (fVar 0) (fCons (fVar 3) fNil))) (fBin oIx (fVar 0) (fC (.int 1)))) (fC (.int 1))) [.w (.d (sD T D)), .w (.d (.int f)), .own (.lst ((rowsM f ks).map .d)), .w (.d (pd p)), x4] S = .ok (rngL 1 (capP T D p).toNat) S := by
      unfold capP at rg ⊢
      generalize (rowsM f ks).map W.d = R
      generalize pd p = P at lt ⊢
      generalize sD T D = Z at lt ix ⊢
      generalize totP T p = t at lt rg ⊢
      generalize hl' : rngL 1 (if D < t then D else t).toNat = l at rg ⊢
      have : ∀ fa fb ρ S, fRng2 fa fb ρ S = (fa ρ S).bind fun x S1 => (fb ρ S1).bind fun y S2 => rng2 x y S2 := fun _ _ _ _ => rfl
      simp [this, lt, ix, rg]
    have tn : l__law_marks_1 [.w (.d (sD T D)), .w (.d (.int f)), .own (.lst ((rowsM f ks).map .d)), .w (.d (pd p)), x4] S = .nx [.w (.d (sD T D)), .w (.d (.int f)), .own (.lst ((rowsM f (ks ++ jk p 1 (capP T D p).toNat)).map .d)), .w (.d (pd p)), y] S := by
      unfold l__law_marks_1
      rw [e_For (h := src), e1]
    rw [List.map_cons, for_cons]
    show turnF (l__law_marks_1 [.w (.d (sD T D)), .w (.d (.int f)), .own (.lst ((rowsM f ks).map .d)), .w (.d (pd p)), x4] _) _ = _
    rw [tn, e_turnN, e2, List.append_assoc]
    rfl
theorem law_marks_ok (hT : IpOk T.length) (hc : ∀ p ∈ ipS T.length, 0 ≤ capP T D p) (hl : (keysM T D (ipS T.length)).length ≤ 1000) : m__law_marks [.d (sD T D), .d (.int f)] S = .ok (.w (.d (.list (rowsM f (keysM T D (ipS T.length)))))) S := by
  have ip := hT.l S
  obtain ⟨y3, y4, e⟩ := lmark_out (T := T) (D := D) (f := f) (S := S) (ipS T.length) [] .un .un hc (by simpa using hl)
  rw [List.nil_append] at e
  have st : start0 5 [W.d (sD T D), W.d (.int f)] = [.w (.d (sD T D)), .w (.d (.int f)), .un, .un, .un] := rfl
  have x0 : (fSetO 2 (fNewL fNil)) [.w (.d (sD T D)), .w (.d (.int f)), .un, .un, .un] S = .nx [.w (.d (sD T D)), .w (.d (.int f)), .own (.lst ((rowsM f []).map .d)), .un, .un] S := rfl
  have src : fIt (fCall m__law_inner_parts (fCons (fLen (fIt (fBin oIx (fVar 0) (fC (.int 0))))) fNil)) [.w (.d (sD T D)), .w (.d (.int f)), .own (.lst ((rowsM f []).map .d)), .un, .un] S = .ok ((ipS T.length).map fun p => W.d (pd p)) S := by
    have : ((ipS T.length).map fun p => W.d (pd p)) = ((ipS T.length).map pd).map W.d := by rw [List.map_map]; rfl
    rw [this]
    generalize (ipS T.length).map pd = L at ip ⊢
    simp [sD, pD, ip]
  have fz : frz (.lst ((rowsM f (keysM T D (ipS T.length))).map .d)) = some (.d (.list (rowsM f (keysM T D (ipS T.length))))) := by rw [e_frz, e_datsm]; rfl
  have x2 : (fFrz 2 (fRet (fVar 2))) [.w (.d (sD T D)), .w (.d (.int f)), .own (.lst ((rowsM f (keysM T D (ipS T.length))).map .d)), y3, y4] S = .rt (.w (.d (.list (rowsM f (keysM T D (ipS T.length)))))) S := by
    rw [e_Frz]
    show (match frz (.lst ((rowsM f (keysM T D (ipS T.length))).map .d)) with | some x => fRet (fVar 2) ([Sl.w (.d (sD T D)), .w (.d (.int f)), .own (.lst ((rowsM f (keysM T D (ipS T.length))).map .d)), y3, y4].set 2 (.w x)) S | none => .bad) = _
    rw [fz]
    rfl
  unfold m__law_marks b__law_marks
  rw [e_runF, st, e_Seq, x0, e_thenN, e_Seq, e_For (h := src), e, e_thenN, x2]
  rfl
end
end L2.Q.P
namespace L2.Q.P
open PySem PySem.Spec PyProof.Rows
/-! within -/
def inB (d : PyData) (lo hi : Int) : Bool := match d with
  | .int i => decide (lo ≤ i) && decide (i ≤ hi)
  | _ => false
theorem within_ok (d : PyData) (lo hi : Int) (S : List Ob) : m_within [.d d, .d (.int lo), .d (.int hi)] S = .ok (.w (.d (.bool (inB d lo hi)))) S := by
  cases d with
  | int i =>
    by_cases h : lo ≤ i
    · simp [m_within, b_within, start0, is_int_ok, intB, inB, h]
    · simp [m_within, b_within, start0, is_int_ok, intB, inB, h]
  | _ => simp [m_within, b_within, start0, is_int_ok, intB, inB]
end L2.Q.P
namespace L2.Q.P
open PySem PySem.Spec PyProof.Rows
/-! what is asked of a sum and a first variable -/
theorem eq_self {d : PyData} (h : shp 60 d) (neg : Bool) (S : List Ob) : oEqS neg (.d d) (.d d) S = .ok (.d (.bool (!neg))) S := by
  rw [e_eqD neg _ _ (shaped_of (shp_mono h (by omega))) (shaped_of (shp_mono h (by omega))), SeqAt.eqv_refl d h.1, Bool.xor_comm, Bool.true_xor]
theorem shp_sD (T : Prs) (D : Int) : shp 60 (sD T D) := by
  refine shp_mono (k := 3) (shp_tup (k := 2) fun d hd => ?_) (by omega)
  simp only [List.mem_cons, List.not_mem_nil, or_false] at hd
  rcases hd with rfl | rfl
  · refine shp_tup (k := 1) fun d hd => ?_
    obtain ⟨t, _, rfl⟩ := List.mem_map.mp hd
    exact shp_pd t
  · exact shp_int _ _
theorem eqv_pds : ∀ T U : Prs, PyData.eqvAll (T.map pd) (U.map pd) = decide (T = U)
  | [], [] => by simp [PyData.eqvAll]
  | [], _ :: _ => by simp [PyData.eqvAll]
  | _ :: _, [] => by simp [PyData.eqvAll]
  | (a, b) :: r, (c, e) :: u => by
    have ih := eqv_pds r u
    rw [Bool.eq_iff_iff]
    simp [PyData.eqvAll, PyData.eqv, pd, ih]
theorem ne_sD (T U : Prs) (D : Int) (S : List Ob) : oEqS true (.d (sD T D)) (.d (sD U D)) S = .ok (.d (.bool (!decide (T = U)))) S := by
  rw [e_eqD true _ _ (shaped_of (shp_mono (shp_sD T D) (by omega))) (shaped_of (shp_mono (shp_sD U D) (by omega)))]
  have : PyData.eqv (sD T D) (sD U D) = decide (T = U) := by
    have := eqv_pds T U
    simp [sD, pD, PyData.eqv, PyData.eqvAll, this]
  rw [this, Bool.true_xor]
structure Gd (T : Prs) (D : Int) : Prop where
  rt : Rt T
  l2 : 2 ≤ T.length
  l9 : T.length ≤ 9
  d2 : 2 ≤ D
  cut : ∀ t ∈ T, t.2 ≤ D
theorem Gd.cutS {T : Prs} {D : Int} (g : Gd T D) : cutS' T D = sD T D := by
  unfold cutS'
  rw [if_neg (by have := g.d2; omega)]
  congr 1
  conv => rhs; rw [← List.map_id T]
  refine List.map_congr_left fun t ht => ?_
  have := g.cut t ht
  rw [if_neg (by omega)]
  rfl
section
variable {S : List Ob} {x : PyData}
theorem nm_nosum {d : PyData} (hs : Sml d) (hb : sumB d = false) : m_need_marked [.d d, .d x] S = .err "BadSum" S := by
  have j := sum_judged d S hs
  rw [hb] at j
  simp [m_need_marked, b_need_marked, start0, j]
theorem nm_cond {T : Prs} {D : Int} (hl : T.length ≤ 1000) (hb : sumB (sD T D) = true) : fOr (fNot (fT (fCall m_is_sum (fCons (fVar 0) fNil)))) (fOr (fT (fBin oLt (fLen (fIt (fBin oIx (fVar 0) (fC (.int 0))))) (fC (.int 2)))) (fOr (fT (fBin oLt (fBin oIx (fVar 0) (fC (.int 1))) (fC (.int 2)))) (fT (fBin (oEqS true) (fCall m_cut_of (fCons (fVar 0) fNil)) (fVar 0))))) [.w (.d (sD T D)), .w (.d x)] S
    = if T.length < 2 then .ok true S else if D < 2 then .ok true S else .ok (!decide (T.map (fun t => (t.1, if D < t.2 then D else t.2)) = T)) S := by
  have j := sum_judged (sD T D) S (Rt.sml hl D)
  rw [hb] at j
  have i0 : oIx (.d (sD T D)) (.d (.int 0)) S = .ok (.d (.tuple (T.map pd))) S := by simp [sD, pD]
  have i1 : oIx (.d (sD T D)) (.d (.int 1)) S = .ok (.d (.int D)) S := by simp [sD]
  have c := cut_ok T D S
  have ll : (T.map pd).length = T.length := List.length_map ..
  by_cases h1 : T.length < 2
  · rw [if_pos h1]
    have h1' : ((T.length : Nat) : Int) < 2 := by omega
    generalize T.map pd = L at i0 ll
    generalize sD T D = Z at j i0 i1 ⊢
    simp [j, i0, ll, h1']
  · rw [if_neg h1]
    have h1' : ¬ ((T.length : Nat) : Int) < 2 := by omega
    by_cases h2 : D < 2
    · rw [if_pos h2]
      generalize T.map pd = L at i0 ll
      generalize sD T D = Z at j i0 i1 ⊢
      simp [j, i0, i1, ll, h1', h2]
    · rw [if_neg h2]
      unfold cutS' at c
      rw [if_neg (by omega)] at c
      have e := ne_sD (T.map fun t => (t.1, if D < t.2 then D else t.2)) T D S
      generalize (!decide ((T.map fun t => (t.1, if D < t.2 then D else t.2)) = T)) = bb at e ⊢
      generalize sD (T.map fun t => (t.1, if D < t.2 then D else t.2)) D = C at c e
      generalize T.map pd = L at i0 ll
      generalize sD T D = Z at j i0 i1 c e ⊢
      simp [j, i0, i1, ll, h1', h2, c, e]
theorem nm_bad {T : Prs} {D : Int} (hl : T.length ≤ 1000) (hb : sumB (sD T D) = true) (h : T.length < 2 ∨ D < 2 ∨ (T.map fun t => (t.1, if D < t.2 then D else t.2)) ≠ T) : m_need_marked [.d (sD T D), .d x] S = .err "BadSum" S := by
  have c := nm_cond (x := x) (S := S) hl hb
  have st : start0 2 [W.d (sD T D), W.d x] = [.w (.d (sD T D)), .w (.d x)] := rfl
  have t : (if T.length < 2 then Res.ok true S else if D < 2 then .ok true S else .ok (!decide (T.map (fun t => (t.1, if D < t.2 then D else t.2)) = T)) S) = .ok true S := by
    by_cases h1 : T.length < 2
    · rw [if_pos h1]
    · rw [if_neg h1]
      by_cases h2 : D < 2
      · rw [if_pos h2]
      · rw [if_neg h2]
        rcases h with h | h | h
        · exact absurd h h1
        · exact absurd h h2
        · rw [decide_eq_false h]; rfl
  rw [t] at c
  unfold m_need_marked b_need_marked
  rw [e_runF, st, e_Seq, e_IfS, c]
  rfl
/-- behind the look at the sum -/
theorem nm_rest {T : Prs} {D : Int} (g : Gd T D) : m_need_marked [.d (sD T D), .d x] S = outF ((fSeq (fIfS (fNot (fT (fCall m_within (fCons (fVar 1) (fCons (fBin oAddA (fBin oDiv (fBin oIx (fBin oIx (fBin oIx (fVar 0) (fC (.int 0))) (fUn oNeg (fC (.int 1)))) (fC (.int 0))) (fC (.int 2))) (fC (.int 1))) (fCons (fC (.int 1000000)) fNil)))))) (fRaise "BadFirst") fNx) (fIfS (fT (fBin oGt (fCall m_count_marks (fCons (fVar 0) fNil)) (fC (.int 200)))) (fRaise "TooGreat") fNx)) [.w (.d (sD T D)), .w (.d x)] S) := by
  have c := nm_cond (x := x) (S := S) (T := T) (D := D) (by have := g.l9; omega) (g.rt.sum D)
  have st : start0 2 [W.d (sD T D), W.d x] = [.w (.d (sD T D)), .w (.d x)] := rfl
  have t : (T.map fun t => (t.1, if D < t.2 then D else t.2)) = T := by
    conv => rhs; rw [← List.map_id T]
    refine List.map_congr_left fun t ht => ?_
    have := g.cut t ht
    rw [if_neg (by omega)]
    rfl
  rw [if_neg (by have := g.l2; omega), if_neg (by have := g.d2; omega), decide_eq_true t] at c
  unfold m_need_marked b_need_marked
  rw [e_runF, st, e_Seq, e_IfS, c]
  rfl
/-- the last variable -/
def lastV (T : Prs) : Int := match T.getLast? with
  | some t => t.1 / 2
  | none => 0
theorem at_last {α : Type} (xs : List α) (h : xs ≠ []) : atI xs (-1) = xs.getLast? := by
  have l : 1 ≤ xs.length := List.length_pos_iff.mpr h
  unfold atI ixN
  rw [if_neg (by omega), if_pos (by omega)]
  rw [List.getLast?_eq_getElem?]
  show xs[((xs.length : Int) + -1).toNat]? = _
  congr 1
  omega
theorem last_ok {T : Prs} {D : Int} (h : 2 ≤ T.length) (i : Nat) (ρ : List Sl) (hi : ρ[i]? = some (.w (.d (sD T D)))) : fBin oDiv (fBin oIx (fBin oIx (fBin oIx (fVar i) (fC (.int 0))) (fUn oNeg (fC (.int 1)))) (fC (.int 0))) (fC (.int 2)) ρ S = .ok (.d (.int (lastV T))) S := by
  obtain ⟨t, ht⟩ : ∃ t, T.getLast? = some t := by
    cases q : T.getLast? with
    | none => rw [List.getLast?_eq_none_iff.mp q] at h; simp at h
    | some t => exact ⟨t, rfl⟩
  have a : atI (T.map pd) (-1) = some (pd t) := by
    rw [at_last _ (by intro z; have := congrArg List.length z; rw [List.length_map] at this; simp at this; rw [this] at h; simp at h), List.getLast?_map, ht]; rfl
  have lv : lastV T = t.1 / 2 := by unfold lastV; rw [ht]
  have i0 : oIx (.d (sD T D)) (.d (.int 0)) S = .ok (.d (.tuple (T.map pd))) S := by simp [sD, pD]
  generalize T.map pd = L at i0 a
  generalize sD T D = Z at i0 hi
  simp [hi, i0, a, pd, lv, divC_of]
theorem nm_first {T : Prs} {D : Int} (g : Gd T D) (h : inB x (lastV T + 1) 1000000 = false) : m_need_marked [.d (sD T D), .d x] S = .err "BadFirst" S := by
  have l := last_ok (S := S) (D := D) g.l2 0 [.w (.d (sD T D)), .w (.d x)] rfl
  have w := within_ok x (lastV T + 1) 1000000 S
  rw [h] at w
  rw [nm_rest g]
  generalize fBin oDiv (fBin oIx (fBin oIx (fBin oIx (fVar 0) (fC (.int 0))) (fUn oNeg (fC (.int 1)))) (fC (.int 0))) (fC (.int 2)) = E at l ⊢
  generalize sD T D = Z at l ⊢
  simp [l, w]
theorem nm_count {T : Prs} {D : Int} (g : Gd T D) (h : inB x (lastV T + 1) 1000000 = true) : m_need_marked [.d (sD T D), .d x] S = if 200 < cntM T D (ipS T.length) then .err "TooGreat" S else .ok (.w (.d .none)) S := by
  have l := last_ok (S := S) (D := D) g.l2 0 [.w (.d (sD T D)), .w (.d x)] rfl
  have w := within_ok x (lastV T + 1) 1000000 S
  have c := count_marks_ok (D := D) (S := S) (ip_ok g.l2 g.l9)
  rw [h] at w
  rw [nm_rest g]
  generalize fBin oDiv (fBin oIx (fBin oIx (fBin oIx (fVar 0) (fC (.int 0))) (fUn oNeg (fC (.int 1)))) (fC (.int 0))) (fC (.int 2)) = E at l ⊢
  generalize cntM T D (ipS T.length) = n at c ⊢
  generalize sD T D = Z at l c ⊢
  by_cases hn : 200 < n
  · simp [l, w, c, hn]
  · simp [l, w, c, hn]
end
/-! the words of errors -/
theorem sb1 : subQ "BadSum" "SumError" = true := by decide +kernel
theorem sb2 : subQ "BadFirst" "SumError" = true := by decide +kernel
theorem sb3 : subQ "TooGreat" "SumError" = true := by decide +kernel
theorem nq1 : ¬ ("BadSum" : Str) = "BadFirst" := by decide +kernel
theorem nq2 : ¬ ("TooGreat" : Str) = "BadFirst" := by decide +kernel
theorem nq3 : ¬ ("TooGreat" : Str) = "BadSum" := by decide +kernel
section
variable {a b : W} {S S' : List Ob}
theorem mr_err {c : Str} (h : m_need_marked [a, b] S = .err c S) : m_mark_rows [a, b] S = .err c S := by
  simp [m_mark_rows, b_mark_rows, start0, h]
theorem word_sum (h : m_mark_rows [a, b] S = .err "BadSum" S) : m__law_word [a, b] S = .ok (.w (.d (.str "sum"))) S := by
  simp [m__law_word, b__law_word, start0, fTry, h, handle, sb1, endSlot, quiet, unSlot, fPut, putD, nq1]
theorem word_first (h : m_mark_rows [a, b] S = .err "BadFirst" S) : m__law_word [a, b] S = .ok (.w (.d (.str "first"))) S := by
  simp [m__law_word, b__law_word, start0, fTry, h, handle, sb2, endSlot, quiet, unSlot, fPut, putD]
theorem word_great (h : m_mark_rows [a, b] S = .err "TooGreat" S) : m__law_word [a, b] S = .ok (.w (.d (.str "great"))) S := by
  simp [m__law_word, b__law_word, start0, fTry, h, handle, sb3, endSlot, quiet, unSlot, fPut, putD, nq2, nq3]
theorem word_none {d : PyData} (h : m_mark_rows [a, b] S = .ok (.w (.d d)) S') : m__law_word [a, b] S = .ok (.w (.d (.str ""))) S' := by
  simp [m__law_word, b__law_word, start0, fTry, h]
end
end L2.Q.P
namespace L2.Q.P
open PySem PySem.Spec PyProof.Rows
/-! mark_rows of a right sum -/
theorem set_end {α : Type} (S : List α) (a b : α) (R : List α) : (S ++ a :: R).set S.length b = S ++ b :: R := by
  rw [List.set_append_right _ _ (Nat.le_refl _), Nat.sub_self]
  rfl
theorem at_end {α : Type} (S : List α) (a : α) (R : List α) : (S ++ a :: R)[S.length]? = some a := by
  rw [List.getElem?_append_right (Nat.le_refl _), Nat.sub_self]
  rfl
section
variable {T : Prs} {D f : Int} {S : List Ob}
def fs1 (T : Prs) (D : Int) : List (Str × W) := [("terms", .d (pD T)), ("degree", .d (.int D))]
def fs2 (T : Prs) (D : Int) : List (Str × W) := [("terms", .d (pD T)), ("degree", .d (.int D)), ("whole", .d (.tuple [.int 0, .int ((T.length : Nat) : Int)]))]
def fs3 (T : Prs) (D : Int) : List (Str × W) := [("terms", .d (pD T)), ("degree", .d (.int D)), ("whole", .d (.tuple [.int 0, .int ((T.length : Nat) : Int)])), ("parts", .d (.list ((ipS T.length).map pd)))]
def fs4 (T : Prs) (D : Int) (n : Nat) : List (Str × W) := [("terms", .d (pD T)), ("degree", .d (.int D)), ("whole", .d (.tuple [.int 0, .int ((T.length : Nat) : Int)])), ("parts", .d (.list ((ipS T.length).map pd))), ("marks", .ref n)]
theorem fo1 : fldOf "terms" (fs1 T D) = some (.d (pD T)) := by rfl
theorem fo2 : fldOf "terms" (fs2 T D) = some (.d (pD T)) := by rfl
theorem fo4 (n : Nat) : fldOf "parts" (fs4 T D n) = some (.d (.list ((ipS T.length).map pd))) := by kernel_rfl
theorem fo5 (n : Nat) : fldOf "marks" (fs4 T D n) = some (.ref n) := by kernel_rfl
theorem pf1 : putFw "whole" (.d (.tuple [.int 0, .int ((T.length : Nat) : Int)])) (fs1 T D) = fs2 T D := by kernel_rfl
theorem pf2 : putFw "parts" (.d (.list ((ipS T.length).map pd))) (fs2 T D) = fs3 T D := by kernel_rfl
theorem pf3 (n : Nat) : putFw "marks" (.ref n) (fs3 T D) = fs4 T D n := by kernel_rfl
theorem pf0 : putFw "degree" (.d (.int D)) (putFw "terms" (.d (pD T)) []) = fs1 T D := by kernel_rfl
theorem puts_ok : putsF "Totals" S.length ["terms", "degree"] [.d (pD T), .d (.int D)] (S ++ [.ins "Totals" []]) = some (S ++ [.ins "Totals" (fs1 T D)]) := by
  unfold putsF
  rw [at_end]
  dsimp only
  rw [if_pos ⟨rfl, by decide⟩, set_end]
  unfold putsF
  rw [at_end]
  dsimp only
  rw [if_pos ⟨rfl, by show 1 < 900; decide⟩, set_end, pf0]
  rfl
def dob1 (f : Int) (ks : List Ky) : Ob := .dcn true (kvF f ks)
theorem init_ok (hT : IpOk T.length) (hc : ∀ p ∈ ipS T.length, 0 ≤ capP T D p) (hl : (keysM T D (ipS T.length)).length ≤ 1000) :
    m_Totals___init__ [.ref S.length, .d (sD T D), .d (.int f)] (S ++ [.ins "Totals" []]) = .ok (.w (.d .none)) (S ++ [.ins "Totals" (fs4 T D (S.length + 1)), dob f (keysM T D (ipS T.length))]) := by
  have st : start0 5 [W.ref S.length, W.d (sD T D), W.d (.int f)] = [.w (.ref S.length), .w (.d (sD T D)), .w (.d (.int f)), .un, .un] := rfl
  have x0 : (fPutsD "Totals" 0 ["terms", "degree"] (fVar 1)) [.w (.ref S.length), .w (.d (sD T D)), .w (.d (.int f)), .un, .un] (S ++ [.ins "Totals" []]) = .nx [.w (.ref S.length), .w (.d (sD T D)), .w (.d (.int f)), .un, .un] (S ++ [.ins "Totals" (fs1 T D)]) := by
    show (match putsF "Totals" S.length ["terms", "degree"] [.d (pD T), .d (.int D)] (S ++ [.ins "Totals" []]) with | some S2 => if 2 = 2 then Fl.nx [.w (.ref S.length), .w (.d (sD T D)), .w (.d (.int f)), .un, .un] S2 else .bad | none => .bad) = _
    rw [puts_ok]
    rfl
  have x1 : (fPutF "Totals" "whole" (fTup (fCons (fC (.int 0)) (fCons (fLen (fIt (fFld "Totals" "terms" (fVar 0)))) fNil))) (fVar 0)) [.w (.ref S.length), .w (.d (sD T D)), .w (.d (.int f)), .un, .un] (S ++ [.ins "Totals" (fs1 T D)]) = .nx [.w (.ref S.length), .w (.d (sD T D)), .w (.d (.int f)), .un, .un] (S ++ [.ins "Totals" (fs2 T D)]) := by
    have fl := e_fldW (at_end S (.ins "Totals" (fs1 T D)) []) (fo1 (T := T) (D := D))
    have pt := e_setF (ρ := [.w (.ref S.length), .w (.d (sD T D)), .w (.d (.int f)), .un, .un]) (f := "whole") (v := .d (.tuple [.int 0, .int ((T.length : Nat) : Int)])) (at_end S (.ins "Totals" (fs1 T D)) []) (by show 2 < 900; decide : (fs1 T D).length < 900)
    rw [set_end, pf1] at pt
    generalize S ++ [.ins "Totals" (fs1 T D)] = S1 at fl pt ⊢
    generalize S ++ [.ins "Totals" (fs2 T D)] = S2 at pt ⊢
    generalize S.length = n at fl pt ⊢
    generalize sD T D = Z at pt ⊢
    simp [fl, pt, pD]
  have x2 : (fPutF "Totals" "parts" (fCall m_inner_parts (fCons (fLen (fIt (fFld "Totals" "terms" (fVar 0)))) fNil)) (fVar 0)) [.w (.ref S.length), .w (.d (sD T D)), .w (.d (.int f)), .un, .un] (S ++ [.ins "Totals" (fs2 T D)]) = .nx [.w (.ref S.length), .w (.d (sD T D)), .w (.d (.int f)), .un, .un] (S ++ [.ins "Totals" (fs3 T D)]) := by
    have fl := e_fldW (at_end S (.ins "Totals" (fs2 T D)) []) (fo2 (T := T) (D := D))
    have pt := e_setF (ρ := [.w (.ref S.length), .w (.d (sD T D)), .w (.d (.int f)), .un, .un]) (f := "parts") (v := .d (.list ((ipS T.length).map pd))) (at_end S (.ins "Totals" (fs2 T D)) []) (by show 3 < 900; decide : (fs2 T D).length < 900)
    have ip := hT.p (S ++ [.ins "Totals" (fs2 T D)])
    rw [set_end, pf2] at pt
    generalize S ++ [.ins "Totals" (fs2 T D)] = S1 at fl pt ip ⊢
    generalize S ++ [.ins "Totals" (fs3 T D)] = S2 at pt ⊢
    generalize S.length = n at fl pt ⊢
    generalize sD T D = Z at pt ⊢
    generalize (ipS T.length).map pd = L at pt ip
    simp [fl, pt, pD, ip]
  have x3 : (fPutF "Totals" "marks" (fSto fDnew) (fVar 0)) [.w (.ref S.length), .w (.d (sD T D)), .w (.d (.int f)), .un, .un] (S ++ [.ins "Totals" (fs3 T D)]) = .nx [.w (.ref S.length), .w (.d (sD T D)), .w (.d (.int f)), .un, .un] (S ++ [.ins "Totals" (fs4 T D (S.length + 1)), .dct []]) := by
    have pt := e_setF (ρ := [.w (.ref S.length), .w (.d (sD T D)), .w (.d (.int f)), .un, .un]) (f := "marks") (v := .ref (S.length + 1)) (at_end S (.ins "Totals" (fs3 T D)) [.dct []]) (by show 4 < 900; decide : (fs3 T D).length < 900)
    rw [set_end, pf3] at pt
    have e1 : (S ++ [.ins "Totals" (fs3 T D)]) ++ [Ob.dct []] = S ++ [.ins "Totals" (fs3 T D), .dct []] := by rw [List.append_assoc]; rfl
    have e2 : (S ++ [Ob.ins "Totals" (fs3 T D)]).length = S.length + 1 := by rw [List.length_append]; rfl
    have e3 : fSto fDnew [.w (.ref S.length), .w (.d (sD T D)), .w (.d (.int f)), .un, .un] (S ++ [.ins "Totals" (fs3 T D)]) = .ok (.ref (S.length + 1)) (S ++ [.ins "Totals" (fs3 T D), .dct []]) := by
      show Res.ok (W.ref (S ++ [Ob.ins "Totals" (fs3 T D)]).length) ((S ++ [.ins "Totals" (fs3 T D)]) ++ [Ob.dct []]) = _
      rw [e1, e2]
    rw [e_PutF, e3]
    exact pt
  have at2 : (S ++ [Ob.ins "Totals" (fs4 T D (S.length + 1)), .dct []])[S.length + 1]? = some (.dct []) := by
    rw [List.getElem?_append_right (by omega), show S.length + 1 - S.length = 1 by omega]; rfl
  have mk : Mk' T D S.length (S.length + 1) (S ++ [.ins "Totals" (fs4 T D (S.length + 1)), .dct []]) (fs4 T D (S.length + 1)) :=
    ⟨⟨at_end _ _ _, by kernel_rfl, by kernel_rfl, by kernel_rfl, by kernel_rfl⟩, by omega, by rw [List.length_append]; show S.length + 1 < S.length + 2; omega, fo5 _⟩
  obtain ⟨y3, y4, e⟩ := marks_out (f := f) mk (.w (.d (sD T D))) (ipS T.length) [] .un .un hT.nd hc (fun k hk => by cases hk) (by simpa using hl)
  have s0 : (S ++ [Ob.ins "Totals" (fs4 T D (S.length + 1)), .dct []]).set (S.length + 1) (dob f []) = S ++ [.ins "Totals" (fs4 T D (S.length + 1)), .dct []] := set_at at2
  have s1 : ∀ o, (S ++ [Ob.ins "Totals" (fs4 T D (S.length + 1)), .dct []]).set (S.length + 1) o = S ++ [.ins "Totals" (fs4 T D (S.length + 1)), o] := fun o => by
    rw [List.set_append_right _ _ (by omega), show S.length + 1 - S.length = 1 by omega]; rfl
  rw [s0, List.nil_append, s1] at e
  have src : fIt (fFld "Totals" "parts" (fVar 0)) [.w (.ref S.length), .w (.d (sD T D)), .w (.d (.int f)), .un, .un] (S ++ [.ins "Totals" (fs4 T D (S.length + 1)), .dct []]) = .ok ((ipS T.length).map fun p => W.d (pd p)) (S ++ [.ins "Totals" (fs4 T D (S.length + 1)), .dct []]) := by
    have fl := e_fldW (at_end S (.ins "Totals" (fs4 T D (S.length + 1))) [.dct []]) (fo4 (T := T) (D := D) (S.length + 1))
    have : ((ipS T.length).map fun p => W.d (pd p)) = ((ipS T.length).map pd).map W.d := by rw [List.map_map]; rfl
    rw [this]
    generalize S ++ [.ins "Totals" (fs4 T D (S.length + 1)), .dct []] = S1 at fl ⊢
    generalize (ipS T.length).map pd = L at fl ⊢
    generalize sD T D = Z
    simp [fl]
  unfold m_Totals___init__ b_Totals___init__
  rw [e_runF, st, e_Seq, x0, e_thenN, e_Seq, x1, e_thenN, e_Seq, x2, e_thenN, e_Seq, x3, e_thenN, e_For (h := src), e]
  rfl
/-- the items of the marks -/
def itF (f : Int) : List Ky → List W
  | [] => []
  | k :: r => .d (.tuple [keyD k, .int f]) :: itF (f + 1) r
theorem pairs_kvF (f : Int) : ∀ ks : List Ky, pairsD (kvF f ks) = some (itF f ks) := fun ks => by
  induction ks generalizing f with
  | nil => rfl
  | cons k r ih =>
    show (pairsD (kvF (f + 1) r)).map (fun l => W.d (.tuple [keyD k, .int f]) :: l) = _
    rw [ih]; rfl
theorem itF_len (f : Int) : ∀ ks : List Ky, (itF f ks).length = ks.length := fun ks => by
  induction ks generalizing f with
  | nil => rfl
  | cons k r ih => rw [itF, List.length_cons, ih, List.length_cons]
theorem lc_items (a b x y z : Sl) (S : List Ob) (ks : List Ky) (f : Int) : lcL (gT 2 (gsC (gT 2 (gsC (gN 2) (gsC (gN 3) gsN))) (gsC (gN 4) gsN))) (fun _ S => .ok true S) e_mark_rows_0 [a, b, x, y, z] (itF f ks) S = .ok ((rowsM f ks).map .d) S := by
  induction ks generalizing f with
  | nil => rfl
  | cons k r ih =>
    have g : (gT 2 (gsC (gT 2 (gsC (gN 2) (gsC (gN 3) gsN))) (gsC (gN 4) gsN))) (.d (.tuple [keyD k, .int f])) [a, b, x, y, z] = some [a, b, .w (.d (pd k.1)), .w (.d (.int k.2)), .w (.d (.int f))] := by simp [keyD]
    have e : e_mark_rows_0 [a, b, .w (.d (pd k.1)), .w (.d (.int k.2)), .w (.d (.int f))] S = .ok (.d (rowM k f)) S := by
      unfold rowM
      generalize pd k.1 = P
      simp [e_mark_rows_0]
    rw [itF, rowsM, List.map_cons]
    unfold lcL
    rw [g]
    show ((e_mark_rows_0 [a, b, .w (.d (pd k.1)), .w (.d (.int k.2)), .w (.d (.int f))] S).bind fun y S2 => (lcL _ _ _ _ (itF (f + 1) r) S2).bind fun ys S3 => .ok (y :: ys) S3) = _
    rw [e, e_ok, ih]
    rfl
theorem mark_rows_ok (g : Gd T D) (hi : lastV T + 1 ≤ f ∧ f ≤ 1000000) (hc : ∀ p ∈ ipS T.length, 0 ≤ capP T D p) (hn : cntM T D (ipS T.length) ≤ 200) :
    ∃ S', m_mark_rows [.d (sD T D), .d (.int f)] S = .ok (.w (.d (.tuple (rowsM f (keysM T D (ipS T.length)))))) (S ++ S') := by
  have hT := ip_ok g.l2 g.l9
  have kl := keysM_len T D (ipS T.length) hc
  have nm := nm_count (S := S) (x := .int f) g (by
    show (decide (lastV T + 1 ≤ f) && decide (f ≤ 1000000)) = true
    rw [decide_eq_true hi.1, decide_eq_true hi.2]; rfl)
  rw [if_neg (by omega)] at nm
  refine ⟨[.ins "Totals" (fs4 T D (S.length + 1)), dob1 f (keysM T D (ipS T.length))], ?_⟩
  have it := init_ok (S := S) (f := f) hT hc (by omega)
  have st : start0 5 [W.d (sD T D), W.d (.int f)] = [.w (.d (sD T D)), .w (.d (.int f)), .un, .un, .un] := rfl
  have x0 : (fDrop (fCall m_need_marked (fCons (fVar 0) (fCons (fVar 1) fNil)))) [.w (.d (sD T D)), .w (.d (.int f)), .un, .un, .un] S = .nx [.w (.d (sD T D)), .w (.d (.int f)), .un, .un, .un] S := by
    generalize sD T D = Z at nm ⊢
    simp [nm]
  have mk : fMake "Totals" m_Totals___init__ (fCons (fVar 0) (fCons (fVar 1) fNil)) [.w (.d (sD T D)), .w (.d (.int f)), .un, .un, .un] S = .ok (.ref S.length) (S ++ [.ins "Totals" (fs4 T D (S.length + 1)), dob f (keysM T D (ipS T.length))]) := by
    show (m_Totals___init__ [.ref S.length, .d (sD T D), .d (.int f)] (S ++ [.ins "Totals" []])).bind (mkW S.length) = _
    rw [it]
    rfl
  have fw := e_fldW (at_end S (.ins "Totals" (fs4 T D (S.length + 1))) [dob f (keysM T D (ipS T.length))]) (fo5 (T := T) (D := D) (S.length + 1))
  have at2 : (S ++ [Ob.ins "Totals" (fs4 T D (S.length + 1)), dob f (keysM T D (ipS T.length))])[S.length + 1]? = some (dob f (keysM T D (ipS T.length))) := by
    rw [List.getElem?_append_right (by omega), show S.length + 1 - S.length = 1 by omega]; rfl
  have s1 : ∀ o, (S ++ [Ob.ins "Totals" (fs4 T D (S.length + 1)), dob f (keysM T D (ipS T.length))]).set (S.length + 1) o = S ++ [.ins "Totals" (fs4 T D (S.length + 1)), o] := fun o => by
    rw [List.set_append_right _ _ (by omega), show S.length + 1 - S.length = 1 by omega]; rfl
  have im : itemsN (.ref (S.length + 1)) (S ++ [Ob.ins "Totals" (fs4 T D (S.length + 1)), dob f (keysM T D (ipS T.length))]) = .ok (itF f (keysM T D (ipS T.length))) (S ++ [.ins "Totals" (fs4 T D (S.length + 1)), dob1 f (keysM T D (ipS T.length))]) := by
    unfold itemsN
    dsimp only
    rw [at2]
    have hk : (keysM T D (ipS T.length)).length ≤ 1000 := by omega
    generalize keysM T D (ipS T.length) = ks at s1 hk ⊢
    cases ks with
    | nil =>
      show Res.ok [] ((S ++ [Ob.ins "Totals" (fs4 T D (S.length + 1)), dob f []]).set (S.length + 1) (.dcn true [])) = _
      rw [s1]; rfl
    | cons k r =>
      show (match pairsD (kvF f (k :: r)) with | some l => if l.length ≤ 16777216 then Res.ok l ((S ++ [Ob.ins "Totals" (fs4 T D (S.length + 1)), dob f (k :: r)]).set (S.length + 1) (.dcn true (kvF f (k :: r)))) else .bad | none => .bad) = _
      rw [pairs_kvF]
      dsimp only
      rw [if_pos (by rw [itF_len]; omega), s1]
      rfl
  have src : fItemsN (fFld "Totals" "marks" (fMake "Totals" m_Totals___init__ (fCons (fVar 0) (fCons (fVar 1) fNil)))) [.w (.d (sD T D)), .w (.d (.int f)), .un, .un, .un] S = .ok (itF f (keysM T D (ipS T.length))) (S ++ [.ins "Totals" (fs4 T D (S.length + 1)), dob1 f (keysM T D (ipS T.length))]) := by
    rw [e_ItemsN, e_Fld, mk, e_ok, fw, e_ok, im]
  unfold m_mark_rows b_mark_rows
  rw [e_runF, st, e_Seq, x0, e_thenN, e_Ret, e_TupL, e_ItO, e_Lc (h := src) (ho := rfl)]
  have lc := lc_items (.w (.d (sD T D))) (.w (.d (.int f))) .un .un .un (S ++ [.ins "Totals" (fs4 T D (S.length + 1)), dob1 f (keysM T D (ipS T.length))]) (keysM T D (ipS T.length)) f
  show outF (fl (((((lcL _ _ e_mark_rows_0 [.w (.d (sD T D)), .w (.d (.int f)), .un, .un, .un] (itF f (keysM T D (ipS T.length))) _).bind fun ys S2 => .ok (Ob.lst ys) S2).bind lstOf)).bind _) _ _) = _
  rw [lc]
  simp [e_datsm]
end
end L2.Q.P
namespace L2.Q.P
open PySem PySem.Spec PyProof.Rows
/-! drawn terms -/
structure Ty (n : Nat) (V W : Int) (T : Prs) : Prop where
  len : T.length ≤ n
  lo : ∀ t ∈ T, 0 ≤ t.1 ∧ t.1 / 2 < V ∧ 1 ≤ t.2 ∧ t.2 ≤ W
  inc : (T.map fun t => t.1 / 2).Pairwise (· < ·)
theorem Ty.nil (n : Nat) (V W : Int) : Ty n V W [] := ⟨by simp, fun t ht => by simp at ht, by simp⟩
theorem Ty.snoc {n : Nat} {V V' W : Int} {T : Prs} (h : Ty n V W T) {l w : Int} {n' : Nat} (hl : T.length + 1 ≤ n') (h1 : V ≤ l / 2) (hv : l / 2 < V') (h0 : 0 ≤ l) (h2 : 1 ≤ w) (h3 : w ≤ W) : Ty n' V' W (T ++ [(l, w)]) := by
  refine ⟨by simpa using hl, fun t ht => ?_, ?_⟩
  · rcases List.mem_append.mp ht with ht | ht
    · have := h.lo t ht; omega
    · simp at ht; subst ht; dsimp only; omega
  · rw [List.map_append]
    refine List.pairwise_append.mpr ⟨h.inc, by simp, fun a ha b hb => ?_⟩
    obtain ⟨t, ht, rfl⟩ := List.mem_map.mp ha
    simp at hb
    subst hb
    have := h.lo t ht
    omega
theorem Ty.mono {n n' : Nat} {V V' W : Int} {T : Prs} (h : Ty n V W T) (hl : n ≤ n') (hV : V ≤ V') : Ty n' V' W T := ⟨by have := h.len; omega, fun t ht => by have := h.lo t ht; omega, h.inc⟩
theorem Ty.rt {n : Nat} {V W : Int} {T : Prs} (h : Ty n V W T) (hn : n ≤ 20) (hV : V < 2 ^ 18) (hW : W < 2 ^ 250) : Rt T := ⟨by have := h.len; omega, fun t ht => by have := h.lo t ht; omega, pair_inc h.inc⟩
theorem lin_le {T : Prs} (h : ∀ t ∈ T, 1 ≤ t.2 ∧ t.2 ≤ 100000) : 0 ≤ lin (fun _ => 1) T ∧ lin (fun _ => 1) T ≤ T.length * 100000 := by
  induction T with
  | nil => simp [lin]
  | cons t r ih =>
    have h1 := h t (List.mem_cons_self ..)
    have ih := ih fun x hx => h x (List.mem_cons_of_mem _ hx)
    simp only [lin, List.length_cons]
    omega
end L2.Q.P
namespace L2.Q.P
open PySem PySem.Spec PyProof.Rows
/-! the deck of great and small cells -/
def DQ (g sm : List Int) (t : Int) (R : List Ob) : List Ob := .lst (g.map fun i => .d (.int i)) :: .lst [.ref 0, .d (.list (sm.map .int)), .d (.int t)] :: R
/-- n: so many draws may come -/
structure DqOk (g sm : List Int) (t : Int) (n : Nat) : Prop where
  gl : g.length ≤ 63
  gb : ∀ x ∈ g, 0 ≤ x ∧ x < 10 ^ 60
  sl : sm.length ≤ 63
  sb : ∀ x ∈ sm, 0 ≤ x ∧ x < 10 ^ 18
  t0 : 0 ≤ t
  t1 : t + n ≤ 2 ^ 40
def DqR (R : List Ob) (n : Nat) (S : List Ob) : Prop := ∃ g sm t, S = DQ g sm t R ∧ DqOk g sm t n
def Dq (n : Nat) (S : List Ob) : Prop := ∃ R, DqR R n S
theorem DqR.le {R : List Ob} {n k : Nat} {S : List Ob} (h : DqR R n S) (l : k ≤ n) : DqR R k S := by
  obtain ⟨g, sm, t, e, h⟩ := h
  exact ⟨g, sm, t, e, h.gl, h.gb, h.sl, h.sb, h.t0, by have := h.t1; omega⟩
theorem Dq.le {n k : Nat} {S : List Ob} (h : Dq n S) (l : k ≤ n) : Dq k S := by
  obtain ⟨R, h⟩ := h
  exact ⟨R, h.le l⟩
theorem Dq.more {n : Nat} {S : List Ob} (h : Dq n S) (o : Ob) : Dq n (S ++ [o]) := by
  obtain ⟨R, g, sm, t, rfl, h⟩ := h
  exact ⟨R ++ [o], g, sm, t, rfl, h⟩
theorem Dq.two {n : Nat} {S : List Ob} (h : Dq n S) : 2 ≤ S.length := by
  obtain ⟨R, g, sm, t, rfl, h⟩ := h
  simp [DQ]
/-- another object of the store, written -/
theorem DqR.put {R : List Ob} {n : Nat} {S : List Ob} (h : DqR R n S) {j : Nat} (o : Ob) (hj : 2 ≤ j) : ∃ R', DqR R' n (S.set j o) := by
  obtain ⟨g, sm, t, rfl, h⟩ := h
  obtain ⟨k, rfl⟩ : ∃ k, j = k + 2 := ⟨j - 2, by omega⟩
  exact ⟨R.set k o, g, sm, t, rfl, h⟩
theorem Dq.put {n : Nat} {S : List Ob} (h : Dq n S) {j : Nat} (o : Ob) (hj : 2 ≤ j) : Dq n (S.set j o) := by
  obtain ⟨R, h⟩ := h
  exact h.put o hj
section
variable (R : List Ob) (g sm : List Int) (t : Int)
@[simp] theorem DQ_0 : (DQ g sm t R)[0]? = some (.lst (g.map fun i => .d (.int i))) := rfl
@[simp] theorem DQ_1 : (DQ g sm t R)[1]? = some (.lst [.ref 0, .d (.list (sm.map .int)), .d (.int t)]) := rfl
@[simp] theorem DQ_s1 (t' : Int) : (DQ g sm t R).set 1 (.lst [.ref 0, .d (.list (sm.map .int)), .d (.int t')]) = DQ g sm t' R := rfl
@[simp] theorem DQ_s0 (g' : List Int) : (DQ g sm t R).set 0 (.lst (g'.map fun i => .d (.int i))) = DQ g' sm t R := rfl
theorem asD_great : asD (.ref 0) (DQ g sm t R) = some (.list (g.map .int)) := by
  show (dats (g.map fun i => .d (.int i))).map PyData.list = _
  rw [dats_ints]; rfl
theorem great_ne : oEqS true (.ref 0) (.d (.list [])) (DQ g sm t R) = .ok (.d (.bool (!g.isEmpty))) (DQ g sm t R) := by
  rw [e_eqS true (asD_great R g sm t) rfl (shp_mono (shp_ints g) (by omega)) (show shp 64 (.list []) from shp_mono (shp_ints []) (by omega)), eqv_nil]
  cases g <;> rfl
theorem small_ne (S : List Ob) : oEqS true (.d (.list (sm.map .int))) (.d (.list [])) S = .ok (.d (.bool (!sm.isEmpty))) S := by
  rw [e_eqS true rfl rfl (shp_mono (shp_ints sm) (by omega)) (show shp 64 (.list []) from shp_mono (shp_ints []) (by omega)), eqv_nil]
  cases sm <;> rfl
end
theorem popQ (R : List Ob) (c : Int) (g sm : List Int) (t : Int) (h : g.length < 100) : popSt (.ref 0) (.d (.int 0)) (DQ (c :: g) sm t R) = .ok (.d (.int c)) (DQ g sm t R) := by
  unfold popSt
  simp only [DQ_0, List.length_map, List.map_cons, List.length_cons, ix0, List.getElem?_cons_zero, List.eraseIdx_cons_zero]
  rw [if_pos (by omega)]
  rfl
theorem ix_nth (n : Nat) (k : Int) (h0 : 0 ≤ k) (h1 : k < n) : ixN n k = some k.toNat := by
  unfold ixN
  rw [if_pos h0, if_pos (by omega)]
theorem atI_in {α : Type} {xs : List α} {v : Int} (h0 : 0 ≤ v) (h1 : v < xs.length) : ∃ d, atI xs v = some d ∧ d ∈ xs := by
  have hk : v.toNat < xs.length := by omega
  have := atI_nat (List.getElem?_eq_getElem hk)
  rw [show ((v.toNat : Nat) : Int) = v by omega] at this
  exact ⟨_, this, List.getElem_mem hk⟩
theorem drawR_ok {R : List Ob} {n : Nat} {S : List Ob} (hS : DqR R (n + 1) S) {many : Int} (hm : 0 < many) (hm2 : many < 2 ^ 8000) : ∃ v S', m__law_draw [.ref 1, .d (.int many)] S = .ok (.w (.d (.int v))) S' ∧ 0 ≤ v ∧ v < many ∧ DqR R n S' := by
  obtain ⟨g, sm, t, rfl, h⟩ := hS
  have k1 : ∀ i, modC i many = true := fun i => modC_of hm
  have k2 : ∀ i, divC i many = true := fun i => divC_of hm hm2
  have t0 := h.t0
  have t1 := h.t1
  cases g with
  | cons c g =>
    have hl : g.length < 100 := by have := h.gl; simp at this; omega
    have hc := h.gb c (List.mem_cons_self ..)
    have kq : ∀ g', g'.length ≤ g.length + 1 → (∀ x ∈ g', 0 ≤ x ∧ x < 10 ^ 60) → DqOk g' sm (t + 1) n := fun g' l b => ⟨by have := h.gl; simp at this; omega, b, h.sl, h.sb, by omega, by omega⟩
    have ne : ∀ t, oEqS true (.ref 0) (.d (.list [])) (DQ (c :: g) sm t R) = .ok (.d (.bool true)) (DQ (c :: g) sm t R) := fun t => great_ne R (c :: g) sm t
    have p0 : ∀ x t, popSt (.ref 0) (.d (.int 0)) (DQ (x :: g) sm t R) = .ok (.d (.int x)) (DQ g sm t R) := fun x t => popQ R x g sm t hl
    have s0 : ∀ (x y t : Int), (DQ (x :: g) sm t R).set 0 (.lst (.d (.int y) :: g.map fun i => .d (.int i))) = DQ (y :: g) sm t R := fun _ _ _ => rfl
    have z0 : ∀ (x t : Int), (DQ (x :: g) sm t R)[0]? = some (.lst (.d (.int x) :: g.map fun i => .d (.int i))) := fun _ _ => rfl
    by_cases q : c / many = 0
    · refine ⟨c % many, DQ g sm (t + 1) R, ?_, Int.emod_nonneg _ (by omega), Int.emod_lt_of_pos _ hm, g, sm, t + 1, rfl, kq g (by omega) fun x hx => h.gb x (List.mem_cons_of_mem _ hx)⟩
      simp [m__law_draw, b__law_draw, start0, ne, z0, s0, k1, k2, q, p0]
    · refine ⟨c % many, DQ (c / many :: g) sm (t + 1) R, ?_, Int.emod_nonneg _ (by omega), Int.emod_lt_of_pos _ hm, c / many :: g, sm, t + 1, rfl, kq _ (by simp) fun x hx => ?_⟩
      · simp [m__law_draw, b__law_draw, start0, ne, z0, s0, k1, k2, q, p0]
      · rcases List.mem_cons.mp hx with rfl | hx
        · have := Int.ediv_le_self many hc.1
          exact ⟨Int.ediv_nonneg hc.1 (by omega), by omega⟩
        · exact h.gb x (List.mem_cons_of_mem _ hx)
  | nil =>
    have ne : ∀ t, oEqS true (.ref 0) (.d (.list [])) (DQ [] sm t R) = .ok (.d (.bool false)) (DQ [] sm t R) := fun t => great_ne R [] sm t
    have z0 : ∀ t, (DQ [] sm t R)[0]? = some (.lst []) := fun _ => rfl
    have kq : DqOk [] sm (t + 1) n := ⟨h.gl, h.gb, h.sl, h.sb, by omega, by omega⟩
    -- what is left of the small branch
    have fin : ∀ cell : Int, 0 ≤ cell → cell < 10 ^ 18 → ∃ v, (mulC 17 t && (mulC 2 t && mulC (cell + 17 * t + 3) (69621 + 2 * t))) = true ∧ mulC ((cell + 17 * t + 3) * (69621 + 2 * t) % 2147483647) ((cell + 17 * t + 3) * (69621 + 2 * t) % 2147483647 % 9973 + 11) = true ∧
        v = ((cell + 17 * t + 3) * (69621 + 2 * t) % 2147483647) * ((cell + 17 * t + 3) * (69621 + 2 * t) % 2147483647 % 9973 + 11) % 2147483629 / 5 % many := fun cell c0 c1 => by
      have m1 : mulC 17 t = true := mulC_of 10 50 (by decide) (by omega) (by omega) (by omega) (by omega)
      have m2 : mulC 2 t = true := mulC_of 10 50 (by decide) (by omega) (by omega) (by omega) (by omega)
      have m3 : mulC (cell + 17 * t + 3) (69621 + 2 * t) = true := mulC_of 70 70 (by omega) (by omega) (by omega) (by omega) (by omega)
      have f0 := Int.emod_nonneg ((cell + 17 * t + 3) * (69621 + 2 * t)) (show (2147483647 : Int) ≠ 0 by omega)
      have f1 := Int.emod_lt_of_pos ((cell + 17 * t + 3) * (69621 + 2 * t)) (show (0 : Int) < 2147483647 by omega)
      generalize (cell + 17 * t + 3) * (69621 + 2 * t) % 2147483647 = f at f0 f1 ⊢
      have m4 : mulC f (f % 9973 + 11) = true := mulC_of 40 40 (by omega) (by omega) (by omega) (by omega) (by omega)
      exact ⟨_, by rw [m1, m2, m3]; rfl, m4, rfl⟩
    have a1 : ∀ i, modC i 2147483647 = true := fun i => modC_of (by omega)
    have a2 : ∀ i, modC i 9973 = true := fun i => modC_of (by omega)
    have a3 : ∀ i, modC i 2147483629 = true := fun i => modC_of (by omega)
    have a4 : ∀ i, divC i 5 = true := fun i => divC_of (by omega) (by omega)
    cases sm with
    | nil =>
      have sn : ∀ S, oEqS true (.d (.list [])) (.d (.list [])) S = .ok (.d (.bool false)) S := fun S => small_ne [] S
      obtain ⟨v, m1, m4, ev⟩ := fin 5 (by omega) (by omega)
      rw [Bool.and_eq_true, Bool.and_eq_true] at m1
      obtain ⟨m1, m2, m3⟩ := m1
      refine ⟨v, DQ [] [] (t + 1) R, ?_, by rw [ev]; exact Int.emod_nonneg _ (by omega), by rw [ev]; exact Int.emod_lt_of_pos _ hm, [], [], t + 1, rfl, kq⟩
      have s1 : ∀ (t t' : Int), (DQ [] [] t R).set 1 (.lst [.ref 0, .d (.list []), .d (.int t')]) = DQ [] [] t' R := fun _ _ => rfl
      have z1 : ∀ t, (DQ [] [] t R)[1]? = some (.lst [.ref 0, .d (.list []), .d (.int t)]) := fun _ => rfl
      simp [m__law_draw, b__law_draw, start0, ne, z0, z1, s1, sn, m1, m2, m3, m4, a1, a2, a3, a4, k1, ← ev]
    | cons c sm =>
      have sn : ∀ S, oEqS true (.d (.list ((c :: sm).map .int))) (.d (.list [])) S = .ok (.d (.bool true)) S := fun S => small_ne (c :: sm) S
      have b0 := Int.emod_nonneg t (show ((c :: sm).length : Int) ≠ 0 by simp only [List.length_cons]; omega)
      have b1 := Int.emod_lt_of_pos t (show (0 : Int) < (c :: sm).length by simp)
      have a5 : modC t ((c :: sm).length : Int) = true := modC_of (by simp)
      obtain ⟨d, hd, hm'⟩ := atI_in (xs := (c :: sm).map PyData.int) b0 (by rw [List.length_map]; exact b1)
      obtain ⟨x, hx, rfl⟩ := List.mem_map.mp hm'
      have hx' := h.sb x hx
      obtain ⟨v, m1, m4, ev⟩ := fin x hx'.1 hx'.2
      rw [Bool.and_eq_true, Bool.and_eq_true] at m1
      obtain ⟨m1, m2, m3⟩ := m1
      refine ⟨v, DQ [] (c :: sm) (t + 1) R, ?_, by rw [ev]; exact Int.emod_nonneg _ (by omega), by rw [ev]; exact Int.emod_lt_of_pos _ hm, [], c :: sm, t + 1, rfl, kq⟩
      have ll : ((c :: sm).map PyData.int).length = (c :: sm).length := List.length_map ..
      generalize c :: sm = sm' at ne z0 sn a5 hd ll ⊢
      simp [m__law_draw, b__law_draw, start0, ne, z0, sn, m1, m2, m3, m4, a1, a2, a3, a4, a5, hd, k1, ← ev]
theorem draw_ok {n : Nat} {S : List Ob} (hS : Dq (n + 1) S) {many : Int} (hm : 0 < many) (hm2 : many < 2 ^ 8000) : ∃ v S', m__law_draw [.ref 1, .d (.int many)] S = .ok (.w (.d (.int v))) S' ∧ 0 ≤ v ∧ v < many ∧ Dq n S' := by
  obtain ⟨R, h⟩ := hS
  obtain ⟨v, S', e, a, b, d⟩ := drawR_ok h hm hm2
  exact ⟨v, S', e, a, b, R, d⟩
end L2.Q.P
namespace L2.Q.P
open PySem PySem.Spec PyProof.Rows
/-! drawn cut sums -/
theorem Ty.wide {n : Nat} {V W W' : Int} {T : Prs} (h : Ty n V W T) (hw : W ≤ W') : Ty n V W' T := ⟨h.len, fun t ht => by have := h.lo t ht; omega, h.inc⟩
abbrev rhoC (many f : Int) (T : Prs) (x4 x5 : Sl) : List Sl := [.w (.ref 1), .w (.d (.int many)), .w (.d (.int f)), .own (.lst (pW T)), x4, x5, .un, .un, .un]
/-- at least two of the first variables -/
def Two (i : Nat) (T : Prs) : Prop := i ≤ T.length ∨ 2 ≤ T.length
theorem put_term (many f : Int) (f0 : 0 ≤ f) (f1 : f ≤ 1000) (i : Nat) (hi : i < 1000) {T : Prs} {n : Nat} {S : List Ob} (hS : Dq (n + 3) S) (hT : Ty i (f + i) 4 T) (x5 : Sl) :
    ∃ (T' : Prs) (y5 : Sl) (S' : List Ob), (fSeq (fSet 5 (fIf (fT (fBin (oEqS false) (fCall m__law_draw (fCons (fVar 0) (fCons (fC (.int 2)) fNil))) (fC (.int 0)))) (fC (.int 1)) (fBin oAddA (fC (.int 1)) (fCall m__law_draw (fCons (fVar 0) (fCons (fC (.int 4)) fNil)))))) (fDropX (fApp 3 (fTup (fCons (fBin oAddA (fBin oMulA (fC (.int 2)) (fBin oAddA (fVar 2) (fVar 4))) (fCall m__law_draw (fCons (fVar 0) (fCons (fC (.int 2)) fNil)))) (fCons (fVar 5) fNil)))))) (rhoC many f T (.w (.d (.int i))) x5) S = .nx (rhoC many f T' (.w (.d (.int i))) y5) S' ∧ Ty (i + 1) (f + ((i + 1 : Nat) : Int)) 4 T' ∧ T'.length = T.length + 1 ∧ isOwn (some y5) = false ∧ Dq n S' := by
  have ln : (pW T).length = T.length := pW_len T
  have tl := hT.len
  have sm : T.length < 16777216 := by omega
  obtain ⟨w, S2, e2, w1, w4, d2⟩ : ∃ w S2, (fSet 5 (fIf (fT (fBin (oEqS false) (fCall m__law_draw (fCons (fVar 0) (fCons (fC (.int 2)) fNil))) (fC (.int 0)))) (fC (.int 1)) (fBin oAddA (fC (.int 1)) (fCall m__law_draw (fCons (fVar 0) (fCons (fC (.int 4)) fNil)))))) (rhoC many f T (.w (.d (.int i))) x5) S = .nx (rhoC many f T (.w (.d (.int i))) (.w (.d (.int w)))) S2 ∧ 1 ≤ w ∧ w ≤ 4 ∧ Dq (n + 1) S2 := by
    obtain ⟨v, S1, e1, a1, b1, d1⟩ := draw_ok (n := n + 2) hS (many := 2) (by omega) (by omega)
    by_cases q : v = 0
    · exact ⟨1, S1, by subst q; simp [rhoC, e1], by omega, by omega, d1.le (by omega)⟩
    · obtain ⟨u, S2, e2, a2, b2, d2⟩ := draw_ok (n := n + 1) d1 (many := 4) (by omega) (by omega)
      exact ⟨1 + u, S2, by simp [rhoC, e1, q, e2], by omega, by omega, d2⟩
  obtain ⟨v, S3, e3, a3, b3, d3⟩ := draw_ok (n := n) d2 (many := 2) (by omega) (by omega)
  have km : mulC 2 (f + i) = true := mulC_of 3 12 (by decide) (by omega) (by omega) (by omega) (by omega)
  refine ⟨T ++ [(2 * (f + (i : Int)) + v, w)], .w (.d (.int w)), S3, ?_, hT.snoc (by omega) (by omega) (by omega) (by omega) (by omega) (by omega), by simp, rfl, d3⟩
  rw [e_Seq, e2, e_thenN]
  simp [rhoC, ln, e3, km, sm, pW_app, pd]
theorem cs_turn (many f : Int) (f0 : 0 ≤ f) (f1 : f ≤ 1000) (i : Nat) (hi : i < 1000) {T : Prs} {n : Nat} {S : List Ob} (hS : Dq (n + 4) S) (hT : Ty i (f + i) 4 T) (h2 : Two i T) (x5 : Sl) (h5 : isOwn (some x5) = false) :
    ∃ (T' : Prs) (y5 : Sl) (S' : List Ob), l__law_cut_sum_0 (rhoC many f T (.w (.d (.int i))) x5) S = .nx (rhoC many f T' (.w (.d (.int i))) y5) S' ∧ Ty (i + 1) (f + ((i + 1 : Nat) : Int)) 4 T' ∧ Two (i + 1) T' ∧ isOwn (some y5) = false ∧ Dq n S' := by
  by_cases hv : i < 2
  · obtain ⟨T', y5, S', e, h1, h3, h4, h6⟩ := put_term many f f0 f1 i hi (n := n) (hS.le (by omega)) hT x5
    have hl : i ≤ T.length := by rcases h2 with h2 | h2 <;> omega
    refine ⟨T', y5, S', ?_, h1, .inl (by omega), h4, h6⟩
    have c : (fOr (fT (fBin oLt (fVar 4) (fC (.int 2)))) (fT (fBin oGt (fCall m__law_draw (fCons (fVar 0) (fCons (fC (.int 4)) fNil))) (fC (.int 0))))) (rhoC many f T (.w (.d (.int i))) x5) S = .ok true S := by
      have : (i : Int) < 2 := by omega
      simp [rhoC, this]
    unfold l__law_cut_sum_0
    rw [e_IfS, c]
    exact e
  · obtain ⟨v, S1, e1, a1, b1, d1⟩ := draw_ok (n := n + 3) hS (many := 4) (by omega) (by omega)
    have hl : 2 ≤ T.length := by rcases h2 with h2 | h2 <;> omega
    have nl : ¬ (i : Int) < 2 := by omega
    by_cases q : 0 < v
    · obtain ⟨T', y5, S', e, h1, h3, h4, h6⟩ := put_term many f f0 f1 i hi d1 hT x5
      refine ⟨T', y5, S', ?_, h1, .inr (by omega), h4, h6⟩
      have c : (fOr (fT (fBin oLt (fVar 4) (fC (.int 2)))) (fT (fBin oGt (fCall m__law_draw (fCons (fVar 0) (fCons (fC (.int 4)) fNil))) (fC (.int 0))))) (rhoC many f T (.w (.d (.int i))) x5) S = .ok true S1 := by
        simp [rhoC, nl, e1, q]
      unfold l__law_cut_sum_0
      rw [e_IfS, c]
      exact e
    · refine ⟨T, x5, S1, ?_, hT.mono (by omega) (by omega), .inr hl, h5, d1.le (by omega)⟩
      have c : (fOr (fT (fBin oLt (fVar 4) (fC (.int 2)))) (fT (fBin oGt (fCall m__law_draw (fCons (fVar 0) (fCons (fC (.int 4)) fNil))) (fC (.int 0))))) (rhoC many f T (.w (.d (.int i))) x5) S = .ok false S1 := by
        simp [rhoC, nl, e1, q]
      unfold l__law_cut_sum_0
      rw [e_IfS, c]
      rfl
theorem cs_loop (many f : Int) (f0 : 0 ≤ f) (f1 : f ≤ 1000) : ∀ (m i : Nat) {T : Prs} {n : Nat} {S : List Ob} (x4 x5 : Sl), i + m < 1000 → Dq (n + 4 * m) S → Ty i (f + i) 4 T → Two i T → isOwn (some x5) = false →
    ∃ (T' : Prs) (y4 y5 : Sl) (S' : List Ob), forL (gN 4) l__law_cut_sum_0 (rngL i m) (rhoC many f T x4 x5) S = .nx (rhoC many f T' y4 y5) S' ∧ Ty (i + m) (f + ((i + m : Nat) : Int)) 4 T' ∧ Two (i + m) T' ∧ isOwn (some y5) = false ∧ Dq n S'
  | 0, i, T, n, S, x4, x5, _, hS, hT, h2, h5 => ⟨T, x4, x5, S, rfl, hT, h2, h5, hS⟩
  | m + 1, i, T, n, S, x4, x5, hi, hS, hT, h2, h5 => by
    obtain ⟨T1, y5, S1, e1, k1, k2, k3, d1⟩ := cs_turn many f f0 f1 i (by omega) (n := n + 4 * m) (hS.le (by omega)) hT h2 x5 h5
    obtain ⟨T2, z4, z5, S2, e2, j1, j2, j3, d2⟩ := cs_loop many f f0 f1 m (i + 1) (.w (.d (.int i))) y5 (by omega) d1 k1 k2 k3
    refine ⟨T2, z4, z5, S2, ?_, by rw [show i + (m + 1) = i + 1 + m by omega]; exact j1, by rw [show i + (m + 1) = i + 1 + m by omega]; exact j2, j3, d2⟩
    rw [rngL_cons, for_cons]
    show turnF (l__law_cut_sum_0 (rhoC many f T (.w (.d (.int i))) x5) S) _ = _
    rw [e1, e_turnN]
    exact e2
theorem lin_w {c : Int} : ∀ {T : Prs}, (∀ t ∈ T, 1 ≤ t.2 ∧ t.2 ≤ c) → (T.length : Int) ≤ lin (fun _ => 1) T ∧ lin (fun _ => 1) T ≤ c * T.length
  | [], _ => by simp [lin]
  | t :: r, h => by
    have h1 := h t (List.mem_cons_self ..)
    have ih := lin_w fun x hx => h x (List.mem_cons_of_mem _ hx)
    have e : lin (fun _ => 1) (t :: r) = t.2 * 1 + lin (fun _ => 1) r := by simp [lin, Int.mul_comm]
    have e2 : c * ((t :: r).length : Int) = c * r.length + c := by rw [List.length_cons, show (((r.length + 1 : Nat)) : Int) = r.length + 1 by omega, Int.mul_add, Int.mul_one]
    rw [e, e2, List.length_cons]
    omega
/-- what is known of a drawn cut sum -/
structure Cd (T : Prs) (D : Int) : Prop where
  g : Gd T D
  v0 : ∀ t ∈ T, t.1 < 98
  w : ∀ t ∈ T, t.2 ≤ 120
  d : D ≤ 400
theorem cut_sum_ok {m : Nat} (m2 : 2 ≤ m) (m9 : m ≤ 9) {f : Int} (f0 : 0 ≤ f) (f40 : f ≤ 40) {n : Nat} {S : List Ob} (hS : Dq (n + (4 * m + 1)) S) :
    ∃ (T : Prs) (D : Int) (S' : List Ob), m__law_cut_sum [.ref 1, .d (.int (m : Int)), .d (.int f)] S = .ok (.w (.d (sD T D))) S' ∧ Cd T D ∧ (∀ t ∈ T, t.2 ≤ 4) ∧ Dq n S' := by
  obtain ⟨T, y4, y5, S1, e1, hT, h2, h5, d1⟩ := cs_loop (m : Int) f f0 (by omega) m 0 (T := []) (n := n + 1) (S := S) .un .un (by omega) (hS.le (by omega)) (Ty.nil _ _ _) (.inl (Nat.le_refl _)) rfl
  rw [Nat.zero_add] at hT h2
  have tl := hT.len
  have l2 : 2 ≤ T.length := by rcases h2 with h2 | h2 <;> omega
  obtain ⟨lw1, lw2⟩ := lin_w (c := 4) (T := T) fun t ht => by have := hT.lo t ht; omega
  generalize hL : lin (fun _ => 1) T = L at lw1 lw2
  obtain ⟨v, S2, e2, a2, b2, d2⟩ := draw_ok (n := n) d1 (many := L) (by omega) (p8000 (by omega))
  have st : start0 9 [W.ref 1, .d (.int (m : Int)), .d (.int f)] = [.w (.ref 1), .w (.d (.int (m : Int))), .w (.d (.int f)), .un, .un, .un, .un, .un, .un] := rfl
  have x0 : (fSetO 3 (fNewL fNil)) [.w (.ref 1), .w (.d (.int (m : Int))), .w (.d (.int f)), .un, .un, .un, .un, .un, .un] S = .nx (rhoC m f [] .un .un) S := rfl
  have x1 : (fFor (fRng1 (fVar 1)) (gN 4) l__law_cut_sum_0) (rhoC m f [] .un .un) S = .nx (rhoC m f T y4 y5) S1 := by
    rw [e_For (xs := rngL 0 m) (S' := S) _ (by simp [rhoC]; omega)]
    exact e1
  have fz : frz (.lst (pW T)) = some (.d (.list (T.map pd))) := by rw [e_frz, dats_pW]; rfl
  have src : ∀ (a b : Sl) (S : List Ob), fIt (fVar 3) [.w (.ref 1), .w (.d (.int (m : Int))), .w (.d (.int f)), .w (.d (.list (T.map pd))), y4, y5, a, b, .un] S = .ok ((T.map pd).map .d) S := fun a b S => rfl
  have s1 := sum_over (fIt (fVar 3)) [8, 5] (gT 2 (gsC (gN 8) (gsC (gN 5) gsN))) (fun _ S => .ok true S) e__law_cut_sum_0 [.w (.ref 1), .w (.d (.int (m : Int))), .w (.d (.int f)), .w (.d (.list (T.map pd))), y4, y5, .un, .un, .un] S1 T (fun _ => true) (src _ _ _) (by show (false || (isOwn (some y5) || false)) = false; rw [h5]; rfl) fun q _ => ⟨[.w (.ref 1), .w (.d (.int (m : Int))), .w (.d (.int f)), .w (.d (.list (T.map pd))), y4, .w (.d (.int q.2)), .un, .un, .w (.d (.int q.1))], by simp [pd, unset], rfl, fun _ => by simp [e__law_cut_sum_0]⟩
  simp only [if_true] at s1
  rw [hL] at s1
  have x2 : (fFrz 3 (fSet 6 (fSum (fItO (fLc (fIt (fVar 3)) [8, 5] (gT 2 (gsC (gN 8) (gsC (gN 5) gsN))) (fun _ S => .ok true S) e__law_cut_sum_0))))) (rhoC m f T y4 y5) S1 = .nx [.w (.ref 1), .w (.d (.int (m : Int))), .w (.d (.int f)), .w (.d (.list (T.map pd))), y4, y5, .w (.d (.int L)), .un, .un] S1 := by
    rw [e_Frz]
    show (match frz (.lst (pW T)) with | some x => fSet 6 _ ((rhoC m f T y4 y5).set 3 (.w x)) S1 | none => .bad) = _
    rw [fz]
    show fSet 6 _ [.w (.ref 1), .w (.d (.int (m : Int))), .w (.d (.int f)), .w (.d (.list (T.map pd))), y4, y5, .un, .un, .un] S1 = _
    rw [e_Set, s1]
    rfl
  have x3 : (fSet 7 (fBin oAddA (fC (.int 2)) (fCall m__law_draw (fCons (fVar 0) (fCons (fVar 6) fNil))))) [.w (.ref 1), .w (.d (.int (m : Int))), .w (.d (.int f)), .w (.d (.list (T.map pd))), y4, y5, .w (.d (.int L)), .un, .un] S1 = .nx [.w (.ref 1), .w (.d (.int (m : Int))), .w (.d (.int f)), .w (.d (.list (T.map pd))), y4, y5, .w (.d (.int L)), .w (.d (.int (2 + v))), .un] S2 := by
    generalize T.map pd = Z
    simp [e2]
  have tm := tup_map (fIt (fVar 3)) [8, 5] (gT 2 (gsC (gN 8) (gsC (gN 5) gsN))) e__law_cut_sum_1 [.w (.ref 1), .w (.d (.int (m : Int))), .w (.d (.int f)), .w (.d (.list (T.map pd))), y4, y5, .w (.d (.int L)), .w (.d (.int (2 + v))), .un] S2 T (fun t => (t.1, if 2 + v < t.2 then 2 + v else t.2)) (src _ _ _) (by show (false || (isOwn (some y5) || false)) = false; rw [h5]; rfl) fun q _ => ⟨[.w (.ref 1), .w (.d (.int (m : Int))), .w (.d (.int f)), .w (.d (.list (T.map pd))), y4, .w (.d (.int q.2)), .w (.d (.int L)), .w (.d (.int (2 + v))), .w (.d (.int q.1))], by simp [pd, unset], by simp [e__law_cut_sum_1, pd]⟩
  have x4 : (fFrz 3 (fRet (fTup (fCons (fTupL (fItO (fLc (fIt (fVar 3)) [8, 5] (gT 2 (gsC (gN 8) (gsC (gN 5) gsN))) (fun _ S => .ok true S) e__law_cut_sum_1))) (fCons (fVar 7) fNil))))) [.w (.ref 1), .w (.d (.int (m : Int))), .w (.d (.int f)), .w (.d (.list (T.map pd))), y4, y5, .w (.d (.int L)), .w (.d (.int (2 + v))), .un] S2 = .rt (.w (.d (sD (T.map fun t => (t.1, if 2 + v < t.2 then 2 + v else t.2)) (2 + v)))) S2 := by
    rw [e_Frz]
    show fRet _ [.w (.ref 1), .w (.d (.int (m : Int))), .w (.d (.int f)), .w (.d (.list (T.map pd))), y4, y5, .w (.d (.int L)), .w (.d (.int (2 + v))), .un] S2 = _
    rw [e_Ret, e_Tup, e_Cons, tm]
    simp [sD]
  have ml : ∀ t ∈ (T.map fun t => (t.1, if 2 + v < t.2 then 2 + v else t.2)), 0 ≤ t.1 ∧ t.1 < 98 ∧ 1 ≤ t.2 ∧ t.2 ≤ 4 ∧ t.2 ≤ 2 + v := fun t ht => by
    obtain ⟨q, hq, rfl⟩ := List.mem_map.mp ht
    have := hT.lo q hq
    dsimp only
    split <;> omega
  have hT' : Ty 9 49 4 (T.map fun t => (t.1, if 2 + v < t.2 then 2 + v else t.2)) := ⟨by rw [List.length_map]; omega, fun t ht => by have := ml t ht; omega, by rw [List.map_map]; exact hT.inc⟩
  refine ⟨T.map fun t => (t.1, if 2 + v < t.2 then 2 + v else t.2), 2 + v, S2, ?_, ⟨⟨hT'.rt (by omega) (by omega) (by omega), by rw [List.length_map]; omega, by rw [List.length_map]; omega, by omega, fun t ht => (ml t ht).2.2.2.2⟩, fun t ht => (ml t ht).2.1, fun t ht => by have := ml t ht; omega, by omega⟩, fun t ht => (ml t ht).2.2.2.1, d2⟩
  unfold m__law_cut_sum b__law_cut_sum
  rw [e_runF, st, e_Seq, x0, e_thenN, e_Seq, x1, e_thenN, e_Seq, x2, e_thenN, e_Seq, x3, e_thenN, x4]
  rfl
/-! greater weights -/
theorem gr_lc (a b x y : Sl) (Z : Sl) : ∀ (T : Prs) {n : Nat} {S : List Ob}, Dq (n + T.length) S → ∃ (T' : Prs) (S' : List Ob), lcL (gT 2 (gsC (gN 4) (gsC (gN 5) gsN))) (fun _ S => .ok true S) e__law_greater_0 [.w (.ref 1), Z, a, b, x, y] ((T.map pd).map .d) S = .ok ((T'.map pd).map .d) S' ∧
    T'.map (·.1) = T.map (·.1) ∧ (∀ t ∈ T', ∃ q ∈ T, t.1 = q.1 ∧ q.2 ≤ t.2 ∧ t.2 ≤ q.2 + 116) ∧ Dq n S'
  | [], n, S, hS => ⟨[], S, rfl, rfl, fun t ht => (by cases ht), hS⟩
  | q :: r, n, S, hS => by
    obtain ⟨v, S1, e1, a1, b1, d1⟩ := draw_ok (n := n + r.length) (S := S) (hS.le (by rw [List.length_cons]; omega)) (many := 117) (by omega) (by omega)
    obtain ⟨T', S2, e2, h1, h2, d2⟩ := gr_lc a b x y Z r d1
    refine ⟨(q.1, q.2 + v) :: T', S2, ?_, by rw [List.map_cons, List.map_cons, h1], fun t ht => ?_, d2⟩
    · have g : (gT 2 (gsC (gN 4) (gsC (gN 5) gsN))) (.d (pd q)) [.w (.ref 1), Z, a, b, x, y] = some [.w (.ref 1), Z, a, b, .w (.d (.int q.1)), .w (.d (.int q.2))] := by simp [pd]
      have e : e__law_greater_0 [.w (.ref 1), Z, a, b, .w (.d (.int q.1)), .w (.d (.int q.2))] S = .ok (.d (pd (q.1, q.2 + v))) S1 := by simp [e__law_greater_0, e1, pd]
      rw [List.map_cons, List.map_cons]
      unfold lcL
      rw [g]
      dsimp only
      rw [if_pos rfl, e]
      dsimp only
      rw [e2]
      rfl
    · rcases List.mem_cons.mp ht with rfl | ht
      · exact ⟨q, List.mem_cons_self .., rfl, by dsimp only; omega, by dsimp only; omega⟩
      · obtain ⟨p, hp, k⟩ := h2 t ht
        exact ⟨p, List.mem_cons_of_mem _ hp, k⟩
theorem greater_ok {T : Prs} {D : Int} (c : Cd T D) (w4 : ∀ t ∈ T, t.2 ≤ 4) {n : Nat} {S : List Ob} (hS : Dq (n + 10) S) : ∃ (T' : Prs) (D' : Int) (S' : List Ob), m__law_greater [.ref 1, .d (sD T D)] S = .ok (.w (.d (sD T' D'))) S' ∧ Cd T' D' ∧ Dq n S' := by
  have l9 := c.g.l9
  obtain ⟨T', S1, e1, h1, h2, d1⟩ := gr_lc .un .un .un .un (.w (.d (sD T D))) T (n := n + 1) (S := S) (hS.le (by omega))
  obtain ⟨v, S2, e2, a2, b2, d2⟩ := draw_ok (n := n) d1 (many := 200) (by omega) (by omega)
  have ll : T'.length = T.length := by have := congrArg List.length h1; rwa [List.length_map, List.length_map] at this
  have bd : ∀ t ∈ T', 0 ≤ t.1 ∧ t.1 < 98 ∧ 1 ≤ t.2 ∧ t.2 ≤ 120 := fun t ht => by
    obtain ⟨q, hq, k1, k2, k3⟩ := h2 t ht
    have := c.g.rt.lo q hq
    have := c.v0 q hq
    have := w4 q hq
    omega
  obtain ⟨m1, m2⟩ := foldl_max (T'.map (·.2)) 2
  have mx : maxL (2 :: T'.map (·.2)) = some ((T'.map (·.2)).foldl max 2) := rfl
  generalize hM : (T'.map (·.2)).foldl max 2 = M at m1 m2 mx
  have M2 : 2 ≤ M := m1 2 (List.mem_cons_self ..)
  have M120 : M ≤ 120 := by
    rcases List.mem_cons.mp m2 with e | e
    · omega
    · obtain ⟨t, ht, rfl⟩ := List.mem_map.mp e
      have := bd t ht; omega
  have st : start0 6 [W.ref 1, .d (sD T D)] = [.w (.ref 1), .w (.d (sD T D)), .un, .un, .un, .un] := rfl
  have x0 : (fSet 2 (fTupL (fItO (fLc (fIt (fBin oIx (fVar 1) (fC (.int 0)))) [4, 5] (gT 2 (gsC (gN 4) (gsC (gN 5) gsN))) (fun _ S => .ok true S) e__law_greater_0)))) [.w (.ref 1), .w (.d (sD T D)), .un, .un, .un, .un] S = .nx [.w (.ref 1), .w (.d (sD T D)), .w (.d (pD T')), .un, .un, .un] S1 := by
    rw [e_Set, e_TupL, e_ItO, e_Lc (h := terms_at _ S T D 1 rfl) (ho := rfl)]
    show fl (((((lcL _ _ e__law_greater_0 [.w (.ref 1), .w (.d (sD T D)), .un, .un, .un, .un] _ S).bind fun ys S2 => .ok (Ob.lst ys) S2).bind lstOf)).bind _) _ _ = _
    rw [e1]
    simp [pD]
  have l0 : fLc (fIt (fVar 2)) [4, 5] (gT 2 (gsC (gN 4) (gsC (gN 5) gsN))) (fun _ S => .ok true S) e__law_greater_1 [.w (.ref 1), .w (.d (sD T D)), .w (.d (pD T')), .un, .un, .un] S1 = .ok (.lst ((T'.map (·.2)).map fun i => .d (.int i))) S1 := by
    have src : fIt (fVar 2) [.w (.ref 1), .w (.d (sD T D)), .w (.d (pD T')), .un, .un, .un] S1 = .ok ((T'.map pd).map .d) S1 := rfl
    rw [e_Lc (h := src) (ho := rfl)]
    show (lcL _ (fun _ S => Res.ok true S) e__law_greater_1 [.w (.ref 1), .w (.d (sD T D)), .w (.d (pD T')), .un, .un, .un] _ S1).bind _ = _
    rw [lc_all _ e__law_greater_1 _ S1 (fun t => .d (.int t.2)) T' fun q _ => ⟨[.w (.ref 1), .w (.d (sD T D)), .w (.d (pD T')), .un, .w (.d (.int q.1)), .w (.d (.int q.2))], by simp [pd], by simp [e__law_greater_1]⟩]
    rw [e_ok, List.map_map]; rfl
  have x1 : (fSet 3 (fBin oAddA (fMaxL (fItO (fAddN (fFz (fNewL (fCons (fC (.int 2)) fNil))) (fFz (fLc (fIt (fVar 2)) [4, 5] (gT 2 (gsC (gN 4) (gsC (gN 5) gsN))) (fun _ S => .ok true S) e__law_greater_1))))) (fCall m__law_draw (fCons (fVar 0) (fCons (fC (.int 200)) fNil))))) [.w (.ref 1), .w (.d (sD T D)), .w (.d (pD T')), .un, .un, .un] S1 = .nx [.w (.ref 1), .w (.d (sD T D)), .w (.d (pD T')), .w (.d (.int (M + v))), .un, .un] S2 := by
    have k : fMaxL (fItO (fAddN (fFz (fNewL (fCons (fC (.int 2)) fNil))) (fFz (fLc (fIt (fVar 2)) [4, 5] (gT 2 (gsC (gN 4) (gsC (gN 5) gsN))) (fun _ S => .ok true S) e__law_greater_1)))) [.w (.ref 1), .w (.d (sD T D)), .w (.d (pD T')), .un, .un, .un] S1 = .ok (.d (.int M)) S1 := by
      unfold fMaxL
      rw [e_ItO, e_AddN]
      have f1 : fFz (fNewL (fCons (fC (.int 2)) fNil)) [.w (.ref 1), .w (.d (sD T D)), .w (.d (pD T')), .un, .un, .un] S1 = .ok (.d (.list [.int 2])) S1 := rfl
      have f2 : fFz (fLc (fIt (fVar 2)) [4, 5] (gT 2 (gsC (gN 4) (gsC (gN 5) gsN))) (fun _ S => .ok true S) e__law_greater_1) [.w (.ref 1), .w (.d (sD T D)), .w (.d (pD T')), .un, .un, .un] S1 = .ok (.d (.list ((T'.map (·.2)).map .int))) S1 := by
        rw [e_Fz, l0, e_ok, e_frz, dats_ints]
        rfl
      have l : T'.length + 1 ≤ 16777216 := by omega
      rw [f1, e_ok, f2, e_ok]
      have w : (([PyData.int 2] ++ (T'.map fun t => t.2).map PyData.int).map W.d) = ((2 :: T'.map (·.2)).map fun i => W.d (.int i)) := by simp
      simp only [e_addN, List.length_map, List.length_cons, List.length_nil, Nat.zero_add, show 1 + T'.length ≤ 16777216 by omega, if_true, e_ok, e_lstOf]
      rw [w]
      unfold onIo
      rw [intsW_map]
      simp only [mx]
    rw [e_Set, e_bin, k, e_ok]
    simp [e2]
  refine ⟨T', M + v, S2, ?_, ⟨⟨⟨by omega, fun t ht => by have := bd t ht; omega, ?_⟩, by rw [ll]; exact c.g.l2, by omega, by omega, fun t ht => ?_⟩, fun t ht => (bd t ht).2.1, fun t ht => (bd t ht).2.2.2, by omega⟩, d2⟩
  · unfold m__law_greater b__law_greater
    rw [e_runF, st, e_Seq, x0, e_thenN, e_Seq, x1, e_thenN]
    simp [sD]
  · have : (T'.map fun t => t.1 / 2) = T.map fun t => t.1 / 2 := by
      have := congrArg (List.map fun i : Int => i / 2) h1
      rw [List.map_map, List.map_map] at this
      exact this
    rw [this]
    exact c.g.rt.inc
  · have := m1 t.2 (List.mem_cons_of_mem _ (List.mem_map_of_mem ht))
    omega
end L2.Q.P
namespace L2.Q.P
open PySem PySem.Spec PyProof.Rows
theorem source_ok (ns : List Int) (hl : ns.length ≤ 63) : ∃ g sm, m__law_source [.d (.list (ns.map .int))] [] = .ok (.own (.lst [.ref 0, .d (.list (sm.map .int)), .d (.int 0)])) [.lst (g.map fun i => .d (.int i))] ∧ DqOk g sm 0 (2 ^ 40) := by
  have hc : cut (ns.map PyData.int) none (some 63) = ns.map .int := by
    unfold cut
    have : HT.sIx (ns.map PyData.int).length (ns.map PyData.int).length (some 63) = (ns.map PyData.int).length := by
      have := HT.sIx_nat (ns.map PyData.int).length (ns.map PyData.int).length 63
      rw [show ((63 : Nat) : Int) = 63 from rfl] at this
      rw [this]; simp; omega
    rw [this, HT.sIx_none]
    simp
    exact List.take_of_length_le (by simp)
  let cs := ns.map fun z => z % 10 ^ 60
  have cb : ∀ x ∈ cs, 0 ≤ x ∧ x < 10 ^ 60 := fun x hx => by
    obtain ⟨z, _, rfl⟩ := List.mem_map.mp hx
    exact ⟨Int.emod_nonneg _ (by decide), Int.emod_lt_of_pos _ (by decide)⟩
  have cl : cs.length = ns.length := by simp [cs]
  let W0 : W := .d (.list (ns.map .int))
  have st : start0 5 [W0] = [.w W0, .un, .un, .un, .un] := rfl
  have lc := lc_pure (gN 4) (fun _ S => .ok true S) e__law_source_0 [.w W0, .un, .un, .un, .un] [] (fun _ => true) (fun x => match x with | .d (.int z) => .d (.int (z % 10 ^ 60)) | x => x) ((ns.map PyData.int).map .d) fun x hx => by
    obtain ⟨d, hd, rfl⟩ := List.mem_map.mp hx
    obtain ⟨z, _, rfl⟩ := List.mem_map.mp hd
    have km : modC z 1000000000000000000000000000000000000000000000000000000000000 = true := modC_of (by decide)
    exact ⟨_, rfl, rfl, fun _ => by simp [e__law_source_0, pow60, km]⟩
  rw [List.filter_eq_self.mpr (fun _ _ => rfl), List.map_map, List.map_map] at lc
  have lc : lcL (gN 4) (fun _ S => .ok true S) e__law_source_0 [.w W0, .un, .un, .un, .un] ((ns.map PyData.int).map .d) [] = .ok (cs.map fun i => .d (.int i)) [] := by
    rw [List.map_map]
    refine lc.trans ?_
    show _ = Res.ok ((ns.map fun z => z % 10 ^ 60).map fun i => W.d (.int i)) []
    rw [List.map_map]
    rfl
  have x0 : fSetO 1 (fLc (fIt (fCut (fVar 0) fNoP (fP (fC (.int 63))))) [4] (gN 4) (fun _ S => .ok true S) e__law_source_0) [.w W0, .un, .un, .un, .un] [] = .nx [.w W0, .own (.lst (cs.map fun i => .d (.int i))), .un, .un, .un] [] := by
    have src : fIt (fCut (fVar 0) fNoP (fP (fC (.int 63)))) [.w W0, .un, .un, .un, .un] [] = .ok ((ns.map PyData.int).map .d) [] := by simp [W0, hc]
    rw [e_SetO, e_Lc _ _ _ src rfl, show unset [Sl.w W0, .un, .un, .un, .un] [4] = [.w W0, .un, .un, .un, .un] from rfl, lc]
    rfl
  let C : W := .d (.list (cs.map .int))
  have sel : ∀ (t : FB) (fe : FE) (p : Int → Bool) (g3 : Sl) (g2 : Sl) (S : List Ob), (∀ z : Int, ∀ ρ S, ρ[4]? = some (.w (.d (.int z))) → t ρ S = .ok (p z) S ∧ fe ρ S = .ok (.d (.int z)) S) → lcL (gN 4) t fe [.w W0, .w C, g2, g3, .un] (cs.map fun i => .d (.int i)) S = .ok ((cs.filter p).map fun i => .d (.int i)) S := fun t fe p g3 g2 S h => by
    exact lc_sel (gN 4) t fe [.w W0, .w C, g2, g3, .un] S (fun z : Int => .d (.int z)) p (fun z => .d (.int z)) cs fun z _ => ⟨[.w W0, .w C, g2, g3, .w (.d (.int z))], rfl, (h z _ S rfl).1, fun _ => (h z _ S rfl).2⟩
  have l1 := sel t__law_source_0 e__law_source_1 (fun z => decide (10 ^ 18 ≤ z)) .un .un [] fun z ρ S h => ⟨by simp [t__law_source_0, h, pow18], by simp [e__law_source_1, h]⟩
  have l2 := sel t__law_source_1 e__law_source_2 (fun z => decide (z < 10 ^ 18)) .un (.w (.ref 0)) [.lst ((cs.filter fun z => decide (10 ^ 18 ≤ z)).map fun i => .d (.int i))] fun z ρ S h => ⟨by simp [t__law_source_1, h, pow18], by simp [e__law_source_2, h]⟩
  have src2 : ∀ (g2 g3 : Sl) S, fIt (fVar 1) [.w W0, .w C, g2, g3, .un] S = .ok (cs.map fun i => .d (.int i)) S := fun g2 g3 S => by
    show (Res.ok ((cs.map PyData.int).map W.d) S) = _
    rw [List.map_map]; rfl
  have fz : frz (.lst (cs.map fun i => .d (.int i))) = some C := by
    rw [e_frz, dats_ints]; rfl
  have x1 : fFrz 1 (fSet 2 (fSto (fLc (fIt (fVar 1)) [4] (gN 4) t__law_source_0 e__law_source_1))) [.w W0, .own (.lst (cs.map fun i => .d (.int i))), .un, .un, .un] [] = .nx [.w W0, .w C, .w (.ref 0), .un, .un] [.lst ((cs.filter fun z => decide (10 ^ 18 ≤ z)).map fun i => .d (.int i))] := by
    rw [e_Frz]
    simp only [List.getElem?_cons_succ, List.getElem?_cons_zero, fz, List.set_cons_succ, List.set_cons_zero]
    rw [e_Set, show fSto (fLc (fIt (fVar 1)) [4] (gN 4) t__law_source_0 e__law_source_1) [.w W0, .w C, .un, .un, .un] [] = (fLc (fIt (fVar 1)) [4] (gN 4) t__law_source_0 e__law_source_1 [.w W0, .w C, .un, .un, .un] []).bind fun o S1 => .ok (.ref S1.length) (S1 ++ [o]) from rfl]
    rw [e_Lc _ _ _ (src2 .un .un []) rfl, show unset [Sl.w W0, .w C, .un, .un, .un] [4] = [.w W0, .w C, .un, .un, .un] from rfl, l1]
    rfl
  have x2 : fFrz 1 (fSetO 3 (fLc (fIt (fVar 1)) [4] (gN 4) t__law_source_1 e__law_source_2)) [.w W0, .w C, .w (.ref 0), .un, .un] [.lst ((cs.filter fun z => decide (10 ^ 18 ≤ z)).map fun i => .d (.int i))] = .nx [.w W0, .w C, .w (.ref 0), .own (.lst ((cs.filter fun z => decide (z < 10 ^ 18)).map fun i => .d (.int i))), .un] [.lst ((cs.filter fun z => decide (10 ^ 18 ≤ z)).map fun i => .d (.int i))] := by
    rw [e_Frz]
    simp only [List.getElem?_cons_succ, List.getElem?_cons_zero]
    rw [e_SetO, e_Lc _ _ _ (src2 _ _ _) rfl, show unset [Sl.w W0, .w C, .w (.ref 0), .un, .un] [4] = [.w W0, .w C, .w (.ref 0), .un, .un] from rfl, l2]
    rfl
  refine ⟨cs.filter fun z => decide (10 ^ 18 ≤ z), cs.filter fun z => decide (z < 10 ^ 18), ?_, ⟨?_, fun x hx => cb x (List.mem_filter.mp hx).1, ?_, fun x hx => ⟨(cb x (List.mem_filter.mp hx).1).1, of_decide_eq_true (List.mem_filter.mp hx).2⟩, by omega, by omega⟩⟩
  · unfold m__law_source b__law_source
    rw [e_runF, st, e_Seq, x0, e_thenN, e_Seq, x1, e_thenN, e_Seq, x2, e_thenN]
    have fz2 : frz (.lst ((cs.filter fun z => decide (z < 10 ^ 18)).map fun i => .d (.int i))) = some (.d (.list ((cs.filter fun z => decide (z < 10 ^ 18)).map .int))) := by
      rw [e_frz, dats_ints]; rfl
    rw [e_Frz]
    simp only [List.getElem?_cons_succ, List.getElem?_cons_zero, fz2, List.set_cons_succ, List.set_cons_zero]
    rfl
  · exact Nat.le_trans (List.length_filter_le _ _) (by omega)
  · exact Nat.le_trans (List.length_filter_le _ _) (by omega)
end L2.Q.P
namespace L2.Q.P
open PySem PySem.Spec PyProof.Rows
/-! what is wrong -/
section
variable {S : List Ob} {x : PyData}
theorem nm_any {T : Prs} {D : Int} (hl : T.length ≤ 1000) (h : T.length < 2 ∨ D < 2 ∨ (T.map fun t => (t.1, if D < t.2 then D else t.2)) ≠ T) : m_need_marked [.d (sD T D), .d x] S = .err "BadSum" S := by
  cases hb : sumB (sD T D) with
  | true => exact nm_bad hl hb h
  | false => exact nm_nosum (Rt.sml hl D) hb
theorem inc_two {a b : Int} {r : List Int} (h : ¬ a < b) : incB (a :: b :: r) = false := by
  unfold incB
  show ((a, b) :: _).all _ = false
  rw [List.all_cons, decide_eq_false (p := a < b) h, Bool.false_and]
theorem inc_pair : ∀ {vs : List Int}, incB vs = true → vs.Pairwise (· < ·)
  | [], _ => List.Pairwise.nil
  | [a], _ => List.pairwise_singleton _ _
  | a :: b :: r, h => by
    have h : (decide (a < b) && incB (b :: r)) = true := h
    rw [Bool.and_eq_true, decide_eq_true_eq] at h
    have ih := inc_pair h.2
    refine List.pairwise_cons.mpr ⟨fun z hz => ?_, ih⟩
    rcases List.mem_cons.mp hz with rfl | hz
    · exact h.1
    · have := (List.pairwise_cons.mp ih).1 z hz; omega
theorem rev_bad {T : Prs} {D : Int} (g : Gd T D) : sumB (sD T.reverse D) = false := by
  have inc : (T.map fun t => t.1 / 2).Pairwise (· < ·) := inc_pair g.rt.inc
  have l2 := g.l2
  have hr : (T.map fun t => t.1 / 2).reverse.Pairwise (fun a b => b < a) := List.pairwise_reverse.mpr inc
  rw [← List.map_reverse] at hr
  have hl : 2 ≤ T.reverse.length := by rw [List.length_reverse]; exact l2
  show termsB (pD T.reverse) = false
  have vs : (T.reverse.map pd).map varD = T.reverse.map fun t => t.1 / 2 := by rw [List.map_map]; rfl
  show ((T.reverse.map pd).all termB && incB ((T.reverse.map pd).map varD)) = false
  rw [vs]
  cases hT : T.reverse with
  | nil => rw [hT] at hl; simp at hl
  | cons a r =>
    cases r with
    | nil => rw [hT] at hl; simp at hl
    | cons b r =>
      rw [hT, List.map_cons, List.map_cons] at hr
      have := (List.pairwise_cons.mp hr).1 (b.1 / 2) (List.mem_cons_self ..)
      have e : ((a :: b :: r).map fun t => t.1 / 2) = a.1 / 2 :: b.1 / 2 :: r.map fun t => t.1 / 2 := rfl
      rw [e, inc_two (by omega), Bool.and_false]
def wrongs (T : Prs) (D : Int) (M : Prs) (l : Int) : List PyData :=
  [sD (T.take 1) D, sD [] D, sD T 1, sD (M ++ [(l, D + 1)]) D, sD T 0, sD T.reverse D, .tuple [.list (T.map pd), .int D], .tuple [pD T, .bool true], .none]
theorem wrong_bad {T : Prs} {D : Int} (g : Gd T D) {M : Prs} {l w : Int} (hT : T = M ++ [(l, w)]) : ∀ d ∈ wrongs T D M l, m_need_marked [.d d, .d x] S = .err "BadSum" S := by
  intro d hd
  have l9 := g.l9
  have d2 := g.d2
  simp only [wrongs, List.mem_cons, List.not_mem_nil, or_false] at hd
  rcases hd with rfl | rfl | rfl | rfl | rfl | rfl | rfl | rfl | rfl
  · exact nm_any (by rw [List.length_take]; omega) (.inl (by rw [List.length_take]; omega))
  · exact nm_any (by simp) (.inl (by simp))
  · exact nm_any (by omega) (.inr (.inl (by omega)))
  · refine nm_any (by have : T.length = M.length + 1 := by rw [hT]; simp
                      rw [List.length_append, List.length_singleton]; omega) (.inr (.inr fun z => ?_))
    rw [List.map_append, List.map_singleton] at z
    have z := (List.append_inj z (by simp)).2
    injection z with z
    injection z with _ z
    dsimp only at z
    rw [if_pos (by omega)] at z
    omega
  · exact nm_any (by omega) (.inr (.inl (by omega)))
  · exact nm_nosum (Rt.sml (by rw [List.length_reverse]; omega) D) (rev_bad g)
  · exact nm_nosum (fun ds y e => by injection e with e; injection e with e; cases e) rfl
  · exact nm_nosum (fun ds y e => by
      unfold pD at e
      injection e with e
      injection e with e _
      injection e with e
      rw [← e, List.length_map]; omega) rfl
  · exact nm_nosum (fun ds y e => by cases e) rfl
theorem wrong_told {T : Prs} {D : Int} {M : Prs} {l w : Int} (hl : T.length ≤ 1000) (hT : T = M ++ [(l, w)]) : m__law_wrong_sums [.d (sD T D)] S = .ok (.w (.d (.list (wrongs T D M l)))) S := by
  have al : atI (T.map pd) (-1) = some (pd (l, w)) := by
    rw [at_last _ (by rw [hT]; simp), List.getLast?_map, hT, List.getLast?_concat]; rfl
  have c1 : cut (T.map pd) none (some 1) = (T.take 1).map pd := by
    rw [cutm]
    congr 1
    rw [hT]
    cases M with
    | nil => rfl
    | cons a r => simp [cut, HT.sIx]
  have c2 : cut (T.map pd) none (some (-1)) = M.map pd := by
    rw [cutm]
    congr 1
    rw [hT]
    unfold cut
    have : HT.sIx (M ++ [(l, w)]).length (M ++ [(l, w)]).length (some (-1)) = M.length := by
      simp [HT.sIx]
      omega
    have z : HT.sIx (M ++ [(l, w)]).length 0 none = 0 := rfl
    rw [this, z, List.drop_zero, Nat.sub_zero, List.take_left]
  have ml : (M.map pd).length + 1 ≤ 16777216 := by
    have : T.length = M.length + 1 := by rw [hT]; simp
    rw [List.length_map]; omega
  have rv : (T.map pd).reverse = T.reverse.map pd := (List.map_reverse ..).symm
  have sd : sD T D = .tuple [.tuple (T.map pd), .int D] := rfl
  have r4 : sD (M ++ [(l, D + 1)]) D = .tuple [.tuple (M.map pd ++ [.tuple [.int l, .int (D + 1)]]), .int D] := by simp [sD, pD, pd]
  have st : start0 3 [W.d (sD T D)] = [.w (.d (sD T D)), .un, .un] := rfl
  have x0 : (fAsg (gT 2 (gsC (gN 1) (gsC (gN 2) gsN))) (fVar 0)) [.w (.d (sD T D)), .un, .un] S = .nx [.w (.d (sD T D)), .w (.d (.tuple (T.map pd))), .w (.d (.int D))] S := by
    rw [sd]
    generalize T.map pd = L
    simp
  unfold wrongs
  rw [r4]
  show m__law_wrong_sums [.d (sD T D)] S = .ok (.w (.d (.list [.tuple [.tuple ((T.take 1).map pd), .int D], .tuple [.tuple [], .int D], .tuple [.tuple (T.map pd), .int 1], _, .tuple [.tuple (T.map pd), .int 0], .tuple [.tuple (T.reverse.map pd), .int D], .tuple [.list (T.map pd), .int D], .tuple [.tuple (T.map pd), .bool true], .none]))) S
  unfold m__law_wrong_sums b__law_wrong_sums
  rw [e_runF, st, e_Seq, x0, e_thenN]
  rw [← c1, ← rv]
  generalize hL : T.map pd = L at al c2 ⊢
  generalize M.map pd = N at c2 ml ⊢
  generalize sD T D = Z
  simp [al, c2, pd, ml]
end
/-! the loops -/
theorem sum_ne (S : List Ob) : oEqS true (.d (.str "sum")) (.d (.str "sum")) S = .ok (.d (.bool false)) S := by kernel_rfl
theorem first_ne (S : List Ob) : oEqS true (.d (.str "first")) (.d (.str "first")) S = .ok (.d (.bool false)) S := by kernel_rfl
theorem great_nq (S : List Ob) : oEqS true (.d (.str "great")) (.d (.str "great")) S = .ok (.d (.bool false)) S := by kernel_rfl
theorem no_ne (S : List Ob) : oEqS true (.d (.str "")) (.d (.str "")) S = .ok (.d (.bool false)) S := by kernel_rfl
section
variable {S : List Ob}
theorem wr_loop (a0 a1 a2 a3 a4 a6 : Sl) : ∀ (ds : List PyData) (x : Sl), (∀ d ∈ ds, m__law_word [.d d, .d (.int (-1))] S = .ok (.w (.d (.str "sum"))) S) → ∃ y, forL (gN 5) l_law_0 (ds.map .d) [a0, a1, a2, a3, a4, x, a6] S = .nx [a0, a1, a2, a3, a4, y, a6] S
  | [], x, _ => ⟨x, rfl⟩
  | d :: r, x, h => by
    obtain ⟨y, e⟩ := wr_loop a0 a1 a2 a3 a4 a6 r (.w (.d d)) fun z hz => h z (List.mem_cons_of_mem _ hz)
    refine ⟨y, ?_⟩
    have w := h d (List.mem_cons_self ..)
    have tn : l_law_0 [a0, a1, a2, a3, a4, .w (.d d), a6] S = .nx [a0, a1, a2, a3, a4, .w (.d d), a6] S := by
      have q := sum_ne S
      simp [l_law_0, w, q]
    rw [List.map_cons, for_cons]
    show turnF (l_law_0 [a0, a1, a2, a3, a4, .w (.d d), a6] S) _ = _
    rw [tn, e_turnN, e]
theorem nu_loop (a0 a1 a3 a4 a5 : Sl) (Z : PyData) : ∀ (ds : List PyData) (x : Sl), (∀ d ∈ ds, m__law_word [.d Z, .d d] S = .ok (.w (.d (.str "first"))) S) → ∃ y, forL (gN 6) l_law_1 (ds.map .d) [a0, a1, .w (.d Z), a3, a4, a5, x] S = .nx [a0, a1, .w (.d Z), a3, a4, a5, y] S
  | [], x, _ => ⟨x, rfl⟩
  | d :: r, x, h => by
    obtain ⟨y, e⟩ := nu_loop a0 a1 a3 a4 a5 Z r (.w (.d d)) fun z hz => h z (List.mem_cons_of_mem _ hz)
    refine ⟨y, ?_⟩
    have w := h d (List.mem_cons_self ..)
    have tn : l_law_1 [a0, a1, .w (.d Z), a3, a4, a5, .w (.d d)] S = .nx [a0, a1, .w (.d Z), a3, a4, a5, .w (.d d)] S := by
      have q := first_ne S
      simp [l_law_1, w, q]
    rw [List.map_cons, for_cons]
    show turnF (l_law_1 [a0, a1, .w (.d Z), a3, a4, a5, .w (.d d)] S) _ = _
    rw [tn, e_turnN, e]
end
/-! the caps are no less than 0 -/
theorem mem_cut {α : Type} {xs : List α} {lo hi : Option Int} {a : α} (h : a ∈ cut xs lo hi) : a ∈ xs := by
  unfold cut at h
  exact List.mem_of_mem_drop (List.mem_of_mem_take h)
theorem cap_pos {T : Prs} {D : Int} (g : Gd T D) (w : ∀ t ∈ T, t.2 ≤ 120) (p : Int × Int) : 0 ≤ capP T D p := by
  have := (lin_w (c := 120) (T := cut T (some p.1) (some p.2)) fun t ht => by
    have := g.rt.lo t (mem_cut ht)
    have := w t (mem_cut ht)
    omega).1
  have d2 := g.d2
  unfold capP totP
  split <;> omega
theorem last_lt {T : Prs} {D : Int} (c : Cd T D) : 1 ≤ lastV T ∧ lastV T ≤ 48 ∧ ∃ M l w, T = M ++ [(l, w)] := by
  have l2 := c.g.l2
  obtain ⟨M, ⟨l, w⟩, hT⟩ : ∃ M t, T = M ++ [t] := ⟨T.dropLast, T.getLast (by intro z; rw [z] at l2; simp at l2), (List.dropLast_concat_getLast _).symm⟩
  have lv : lastV T = l / 2 := by unfold lastV; rw [hT, List.getLast?_concat]
  have m : (l, w) ∈ T := by rw [hT]; simp
  have v := c.v0 _ m
  dsimp only at v
  obtain ⟨a, ha⟩ : ∃ a, a ∈ M := by
    cases M with
    | nil => rw [hT] at l2; simp at l2
    | cons a r => exact ⟨a, List.mem_cons_self ..⟩
  have inc : (T.map fun t => t.1 / 2).Pairwise (· < ·) := inc_pair c.g.rt.inc
  rw [hT, List.map_append, List.pairwise_append] at inc
  have q := inc.2.2 (a.1 / 2) (List.mem_map_of_mem ha) (l / 2) (by simp)
  have a0 := c.g.rt.lo a (by rw [hT]; exact List.mem_append_left _ ha)
  exact ⟨by omega, by omega, M, l, w, hT⟩
theorem shp_rows (f : Int) : ∀ ks : List Ky, ∀ d ∈ rowsM f ks, shp 40 d := fun ks => by
  induction ks generalizing f with
  | nil => intro d hd; cases hd
  | cons k r ih =>
    intro d hd
    rcases List.mem_cons.mp hd with rfl | hd
    · refine shp_mono (k := 2) (shp_tup (k := 1) fun e he => ?_) (by omega)
      simp only [List.mem_cons, List.not_mem_nil, or_false] at he
      rcases he with rfl | rfl | rfl
      · exact shp_pd _
      · exact shp_int _ _
      · exact shp_int _ _
    · exact ih _ d hd
/-- the last sum of the law -/
theorem two_told (S : List Ob) : ∃ S', m_mark_rows [.d (.tuple [.tuple [.tuple [.int 0, .int 1], .tuple [.int 2, .int 1]], .int 2]), .d (.int 2)] S = .ok (.w (.d (.tuple []))) S' := by
  have g : Gd [(0, 1), (2, 1)] 2 := ⟨⟨by decide, by decide +kernel, by decide +kernel⟩, by decide, by decide, by decide, by decide⟩
  have i2 : ipS 2 = [] := by unfold ipS; show ([] : Prs).mergeSort lexB = []; simp
  obtain ⟨S', e⟩ := mark_rows_ok (S := S) (f := 2) g (by decide) (fun p _ => cap_pos g (by decide) p) (by show cntM _ _ (ipS 2) ≤ 200; rw [i2]; decide)
  refine ⟨S ++ S', ?_⟩
  have k : keysM [(0, 1), (2, 1)] 2 (ipS ([(0, 1), (2, 1)] : Prs).length) = [] := by show keysM _ _ (ipS 2) = []; rw [i2]; rfl
  rw [k] at e
  exact e
end L2.Q.P
namespace L2.Q.P
open PySem PySem.Spec PyProof.Rows
/-! the law -/
theorem pc6 : powC 10 6 = true := by decide +kernel
section
variable {n : Nat} {S : List Ob} {a0 : Sl}
theorem lw_sum (hS : Dq (n + 60) S) : ∃ (T : Prs) (D : Int) (S' : List Ob), (fSeq (fSet 2 (fCall m__law_cut_sum (fCons (fVar 1) (fCons (fBin oAddA (fC (.int 2)) (fCall m__law_draw (fCons (fVar 1) (fCons (fC (.int 8)) fNil)))) (fCons (fCall m__law_draw (fCons (fVar 1) (fCons (fC (.int 41)) fNil))) fNil))))) (fIfS (fT (fBin (oEqS false) (fCall m__law_draw (fCons (fVar 1) (fCons (fC (.int 3)) fNil))) (fC (.int 0)))) (fSet 2 (fCall m__law_greater (fCons (fVar 1) (fCons (fVar 2) fNil)))) fNx)) [a0, .w (.ref 1), .un, .un, .un, .un, .un] S = .nx [a0, .w (.ref 1), .w (.d (sD T D)), .un, .un, .un, .un] S' ∧ Cd T D ∧ Dq n S' := by
  obtain ⟨v, S1, e1, a1, b1, d1⟩ := draw_ok (n := n + 59) hS (many := 8) (by omega) (by omega)
  obtain ⟨f, S2, e2, a2, b2, d2⟩ := draw_ok (n := n + 58) d1 (many := 41) (by omega) (by omega)
  obtain ⟨T, D, S3, e3, c, w4, d3⟩ := cut_sum_ok (m := (2 + v).toNat) (by omega) (by omega) (f := f) (by omega) (by omega) (n := n + 20) (S := S2) (d2.le (by omega))
  rw [show (((2 + v).toNat : Nat) : Int) = 2 + v by omega] at e3
  have x1 : (fSet 2 (fCall m__law_cut_sum (fCons (fVar 1) (fCons (fBin oAddA (fC (.int 2)) (fCall m__law_draw (fCons (fVar 1) (fCons (fC (.int 8)) fNil)))) (fCons (fCall m__law_draw (fCons (fVar 1) (fCons (fC (.int 41)) fNil))) fNil))))) [a0, .w (.ref 1), .un, .un, .un, .un, .un] S = .nx [a0, .w (.ref 1), .w (.d (sD T D)), .un, .un, .un, .un] S3 := by
    generalize sD T D = Z at e3 ⊢
    simp [e1, e2, e3]
  obtain ⟨k, S4, e4, a4, b4, d4⟩ := draw_ok (n := n + 19) d3 (many := 3) (by omega) (by omega)
  rw [e_Seq, x1, e_thenN]
  by_cases q : k = 0
  · obtain ⟨T', D', S5, e5, c', d5⟩ := greater_ok c w4 (n := n) (S := S4) (d4.le (by omega))
    subst q
    refine ⟨T', D', S5, ?_, c', d5⟩
    generalize sD T D = Z at e5 ⊢
    generalize sD T' D' = Z' at e5 ⊢
    simp [e4, e5]
  · refine ⟨T, D, S4, ?_, c, d4.le (by omega)⟩
    generalize sD T D = Z
    simp [e4, q]
theorem lw_first {T : Prs} {D : Int} (c : Cd T D) (hS : Dq (n + 2) S) : ∃ (f : Int) (S' : List Ob), (fSeq (fSet 3 (fBin oDiv (fBin oIx (fBin oIx (fBin oIx (fVar 2) (fC (.int 0))) (fUn oNeg (fC (.int 1)))) (fC (.int 0))) (fC (.int 2)))) (fSeq (fSet 4 (fBin oAddA (fBin oAddA (fVar 3) (fC (.int 1))) (fCall m__law_draw (fCons (fVar 1) (fCons (fC (.int 50)) fNil))))) (fIfS (fT (fBin (oEqS false) (fCall m__law_draw (fCons (fVar 1) (fCons (fC (.int 9)) fNil))) (fC (.int 0)))) (fSet 4 (fBin oPow (fC (.int 10)) (fC (.int 6)))) fNx))) [a0, .w (.ref 1), .w (.d (sD T D)), .un, .un, .un, .un] S = .nx [a0, .w (.ref 1), .w (.d (sD T D)), .w (.d (.int (lastV T))), .w (.d (.int f)), .un, .un] S' ∧ lastV T + 1 ≤ f ∧ f ≤ 1000000 ∧ Dq n S' := by
  obtain ⟨l1, l48, _⟩ := last_lt c
  have x3 : (fSet 3 (fBin oDiv (fBin oIx (fBin oIx (fBin oIx (fVar 2) (fC (.int 0))) (fUn oNeg (fC (.int 1)))) (fC (.int 0))) (fC (.int 2)))) [a0, .w (.ref 1), .w (.d (sD T D)), .un, .un, .un, .un] S = .nx [a0, .w (.ref 1), .w (.d (sD T D)), .w (.d (.int (lastV T))), .un, .un, .un] S := by
    rw [e_Set, last_ok (S := S) (D := D) c.g.l2 2 [a0, .w (.ref 1), .w (.d (sD T D)), .un, .un, .un, .un] rfl]
    rfl
  generalize hL : lastV T = L at l1 l48 x3 ⊢
  obtain ⟨u, S1, e1, a1, b1, d1⟩ := draw_ok (n := n + 1) hS (many := 50) (by omega) (by omega)
  obtain ⟨k, S2, e2, a2, b2, d2⟩ := draw_ok (n := n) d1 (many := 9) (by omega) (by omega)
  have x4 : (fSet 4 (fBin oAddA (fBin oAddA (fVar 3) (fC (.int 1))) (fCall m__law_draw (fCons (fVar 1) (fCons (fC (.int 50)) fNil))))) [a0, .w (.ref 1), .w (.d (sD T D)), .w (.d (.int L)), .un, .un, .un] S = .nx [a0, .w (.ref 1), .w (.d (sD T D)), .w (.d (.int L)), .w (.d (.int (L + 1 + u))), .un, .un] S1 := by
    generalize sD T D = Z
    simp [e1]
  rw [e_Seq, x3, e_thenN, e_Seq, x4, e_thenN]
  by_cases q : k = 0
  · subst q
    refine ⟨1000000, S2, ?_, by omega, by omega, d2⟩
    generalize sD T D = Z
    simp [e2, pc6]
  · refine ⟨L + 1 + u, S2, ?_, by omega, by omega, d2⟩
    generalize sD T D = Z
    simp [e2, q]
theorem lw_marks {T : Prs} {D f : Int} (c : Cd T D) (h : lastV T + 1 ≤ f ∧ f ≤ 1000000) : ∃ S', (fIfS (fT (fBin oGt (fCall m__law_mark_count (fCons (fVar 2) fNil)) (fC (.int 200)))) (fIfS (fT (fBin (oEqS true) (fCall m__law_word (fCons (fVar 2) (fCons (fVar 4) fNil))) (fC (.str "great")))) (fRet (fC (.bool false))) fNx) (fIfS (fOr (fT (fBin (oEqS true) (fCall m_mark_rows (fCons (fVar 2) (fCons (fVar 4) fNil))) (fTupL (fLv (fCall m__law_marks (fCons (fVar 2) (fCons (fVar 4) fNil))))))) (fT (fBin (oEqS true) (fCall m__law_word (fCons (fVar 2) (fCons (fBin oAddA (fVar 3) (fC (.int 1))) fNil))) (fC (.str ""))))) (fRet (fC (.bool false))) fNx)) [a0, .w (.ref 1), .w (.d (sD T D)), .w (.d (.int (lastV T))), .w (.d (.int f)), .un, .un] S = .nx [a0, .w (.ref 1), .w (.d (sD T D)), .w (.d (.int (lastV T))), .w (.d (.int f)), .un, .un] S' := by
  have hT := ip_ok c.g.l2 c.g.l9
  have cp : ∀ p ∈ ipS T.length, 0 ≤ capP T D p := fun p _ => cap_pos c.g c.w p
  have lc := law_count_marks (D := D) (S := S) hT
  obtain ⟨l1, l48, _⟩ := last_lt c
  by_cases hn : 200 < cntM T D (ipS T.length)
  · refine ⟨S, ?_⟩
    have nm := nm_count (S := S) (x := .int f) c.g (by
      show (decide (lastV T + 1 ≤ f) && decide (f ≤ 1000000)) = true
      rw [decide_eq_true h.1, decide_eq_true h.2]; rfl)
    rw [if_pos hn] at nm
    have wg := word_great (mr_err nm)
    have q := great_nq S
    generalize cntM T D (ipS T.length) = C at hn lc
    generalize sD T D = Z at lc wg ⊢
    simp [lc, hn, wg, q]
  · obtain ⟨R1, e1⟩ := mark_rows_ok (S := S) (f := f) c.g h cp (by omega)
    obtain ⟨R2, e2⟩ := mark_rows_ok (S := S ++ R1) (f := lastV T + 1) c.g (by omega) cp (by omega)
    have kl := keysM_len T D (ipS T.length) cp
    have lm := law_marks_ok (f := f) (S := S ++ R1) hT cp (by omega)
    have w2 := word_none e2
    have q := no_ne (S ++ R1 ++ R2)
    have sh : shp 60 (.tuple (rowsM f (keysM T D (ipS T.length)))) := shp_mono (k := 41) (shp_tup (shp_rows f _)) (by omega)
    have eq := eq_self sh true (S ++ R1)
    refine ⟨S ++ R1 ++ R2, ?_⟩
    have hn' : ¬ 200 < cntM T D (ipS T.length) := hn
    generalize hR : rowsM f (keysM T D (ipS T.length)) = R at e1 lm eq
    generalize cntM T D (ipS T.length) = C at hn' lc
    generalize lastV T = L at w2 ⊢
    generalize S ++ R1 ++ R2 = S3 at w2 q ⊢
    generalize S ++ R1 = S2 at e1 lm eq w2
    generalize sD T D = Z at lc e1 lm w2 ⊢
    simp [lc, hn', e1, lm, eq, w2, q]
end
theorem law_ok (ns : List Int) (hl : ns.length ≤ 63) (_ : ∀ z ∈ ns, Builtin.Int.intBits z ≤ 1048576) : ∃ S, m_law [.d (.list (ns.map .int))] [] = .ok (.w (.d (.bool true))) S := by
  obtain ⟨g, sm, es, hd⟩ := source_ok ns hl
  have d0 : Dq 5000 (DQ g sm 0 []) := ⟨[], g, sm, 0, rfl, hd.gl, hd.gb, hd.sl, hd.sb, by omega, by omega⟩
  have st : start0 7 [W.d (.list (ns.map .int))] = [.w (.d (.list (ns.map .int))), .un, .un, .un, .un, .un, .un] := rfl
  have x0 : (fSet 1 (fSto (fCallO m__law_source (fCons (fVar 0) fNil)))) [.w (.d (.list (ns.map .int))), .un, .un, .un, .un, .un, .un] [] = .nx [.w (.d (.list (ns.map .int))), .w (.ref 1), .un, .un, .un, .un, .un] (DQ g sm 0 []) := by
    simp [es, DQ]
  obtain ⟨T, D, S1, e1, c, d1⟩ := lw_sum (n := 100) (a0 := .w (.d (.list (ns.map .int)))) (d0.le (by omega))
  obtain ⟨f, S2, e2, f1, f2, d2⟩ := lw_first (n := 50) (a0 := .w (.d (.list (ns.map .int)))) c (S := S1) (d1.le (by omega))
  obtain ⟨S3, e3⟩ := lw_marks (S := S2) (a0 := .w (.d (.list (ns.map .int)))) c ⟨f1, f2⟩
  obtain ⟨l1, l48, M, l, w, hT⟩ := last_lt c
  have wt := wrong_told (S := S3) (D := D) (by have := c.g.l9; omega) hT
  obtain ⟨y5, e4⟩ := wr_loop (S := S3) (.w (.d (.list (ns.map .int)))) (.w (.ref 1)) (.w (.d (sD T D))) (.w (.d (.int (lastV T)))) (.w (.d (.int f))) .un (wrongs T D M l) .un fun d hd => word_sum (mr_err (wrong_bad c.g hT d hd))
  have nb : ∀ d ∈ [PyData.int (lastV T), .int 0, .int (-1), .int 1000001, .bool true, .none], m__law_word [.d (sD T D), .d d] S3 = .ok (.w (.d (.str "first"))) S3 := fun d hd => by
    refine word_first (mr_err (nm_first c.g ?_))
    simp only [List.mem_cons, List.not_mem_nil, or_false] at hd
    rcases hd with rfl | rfl | rfl | rfl | rfl | rfl
    · show (decide (lastV T + 1 ≤ lastV T) && _) = false
      rw [decide_eq_false (by omega), Bool.false_and]
    · show (decide (lastV T + 1 ≤ 0) && _) = false
      rw [decide_eq_false (by omega), Bool.false_and]
    · show (decide (lastV T + 1 ≤ -1) && _) = false
      rw [decide_eq_false (by omega), Bool.false_and]
    · show (decide (lastV T + 1 ≤ 1000001) && decide ((1000001 : Int) ≤ 1000000)) = false
      rw [decide_eq_false (p := (1000001 : Int) ≤ 1000000) (by omega), Bool.and_false]
    · rfl
    · rfl
  obtain ⟨y6, e5⟩ := nu_loop (S := S3) (.w (.d (.list (ns.map .int)))) (.w (.ref 1)) (.w (.d (.int (lastV T)))) (.w (.d (.int f))) y5 (sD T D) [PyData.int (lastV T), .int 0, .int (-1), .int 1000001, .bool true, .none] .un nb
  obtain ⟨S4, e6⟩ := two_told S3
  have seq : ∀ (a b c : FT) (ρ : List Sl) (S : List Ob), fSeq a (fSeq b c) ρ S = thenF (fSeq a b ρ S) c := fun a b c ρ S => by
    show thenF (a ρ S) (fun ρ S => thenF (b ρ S) c) = thenF (thenF (a ρ S) b) c
    cases a ρ S <;> rfl
  have seq3 : ∀ (a b c d : FT) (ρ : List Sl) (S : List Ob), fSeq a (fSeq b (fSeq c d)) ρ S = thenF (fSeq a (fSeq b c) ρ S) d := fun a b c d ρ S => by
    rw [seq, seq a b c]
    show thenF (fSeq a b ρ S) (fun ρ S => thenF (c ρ S) d) = thenF (thenF (fSeq a b ρ S) c) d
    cases fSeq a b ρ S <;> rfl
  have sr1 : fIt (fCall m__law_wrong_sums (fCons (fVar 2) fNil)) [.w (.d (.list (ns.map .int))), .w (.ref 1), .w (.d (sD T D)), .w (.d (.int (lastV T))), .w (.d (.int f)), .un, .un] S3 = .ok ((wrongs T D M l).map .d) S3 := by
    generalize wrongs T D M l = ws at wt ⊢
    generalize sD T D = Z at wt ⊢
    generalize ns.map PyData.int = nl
    simp [wt]
  have sr2 : (fIt (fTup (fCons (fVar 3) (fCons (fC (.int 0)) (fCons (fUn oNeg (fC (.int 1))) (fCons (fBin oAddA (fBin oPow (fC (.int 10)) (fC (.int 6))) (fC (.int 1))) (fCons (fC (.bool true)) (fCons (fC .none) fNil)))))))) [.w (.d (.list (ns.map .int))), .w (.ref 1), .w (.d (sD T D)), .w (.d (.int (lastV T))), .w (.d (.int f)), y5, .un] S3 = .ok ([PyData.int (lastV T), .int 0, .int (-1), .int 1000001, .bool true, .none].map .d) S3 := by
    generalize lastV T = L
    generalize sD T D = Z
    generalize ns.map PyData.int = nl
    simp [pc6]
  have x9 : (fRet (fBin (oEqS false) (fCall m_mark_rows (fCons (fTup (fCons (fTup (fCons (fTup (fCons (fC (.int 0)) (fCons (fC (.int 1)) fNil))) (fCons (fTup (fCons (fC (.int 2)) (fCons (fC (.int 1)) fNil))) fNil))) (fCons (fC (.int 2)) fNil))) (fCons (fC (.int 2)) fNil))) (fTup fNil))) [.w (.d (.list (ns.map .int))), .w (.ref 1), .w (.d (sD T D)), .w (.d (.int (lastV T))), .w (.d (.int f)), y5, y6] S3 = .rt (.w (.d (.bool true))) S4 := by
    have q : oEqS false (.d (.tuple [])) (.d (.tuple [])) S4 = .ok (.d (.bool true)) S4 := by kernel_rfl
    simp [e6, q]
  refine ⟨S4, ?_⟩
  unfold m_law b_law
  rw [e_runF, st, e_Seq, x0, e_thenN, seq, e1, e_thenN, seq3, e2, e_thenN, e_Seq, e3, e_thenN, e_Seq, e_For (h := sr1), e4, e_thenN, e_Seq, e_For (h := sr2), e5, e_thenN, x9]
  rfl
end L2.Q.P
theorem PySem.Challenge.cw_sumsworn_k43_marks_of_sums_holds : PySem.Challenge.rw_sumsworn_k43_marks_of_sums.Holds := by
  exact L2.Q.P.holds_of L2.Q.P.law_ok
