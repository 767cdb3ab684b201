import PyProof.Rows.All
import HandS.ForMost
import HandS.Exc
import HandS.ExcOwn
import HandS.TryMany
import HandS.Walk
import HandS.WordsExc
import HandS.TupAny
import HandS.TupMul
import HandS.Style
import HandS.IsInst
import HandS.Wide
import HandS.Zip
import HandS.Rev
import KE.SortData
import HandS.SortKw
import HandS.ExcIs
import HandS.Defaults
import HandS.More
import HandS.HeadHook2
import HandS.HeadEnd
import HandS.EndBits
import HandS.Head2
import KE.GoesMore
import HandS.SetFor
import HandS.Strs
import HandS.SortOrd
import PySem.Challenge.RW_sumsworn_k56_truth_claims_and_prices_of
set_option Elab.async false
set_option linter.all false
set_option maxRecDepth 100000
set_option autoImplicit false
set_option maxHeartbeats 0
set_option exponentiation.threshold 9000
/-! Layer Q, part A: deep values, slots that may own an object, a store of shared objects, how all this lies in the abstract heap. -/
namespace L2.Q
open PySem PySem.Spec PyProof.Rows

/-- a value: data, or a shared object by its number -/
inductive W where
  | d (x : PyData)
  | ref (n : Nat)
/-- an object that may change -/
inductive Ob where
  | lst (xs : List W)
  | dct (kvs : List (Key × W))
  /-- a dict that no longer changes (the kit's lock is on it) -/
  | fdc (kvs : List (Key × W))
/-- a name's slot: nothing, a value, an object that this slot alone holds -/
inductive Sl where
  | un
  | w (x : W)
  | own (o : Ob)
/-- what a call hands back -/
inductive Rv where
  | w (x : W)
  | own (o : Ob)
inductive Res (α : Type) where
  | ok (a : α) (S : List Ob)
  | err (c : Str) (S : List Ob)
  | bad
inductive Fl where
  | nx (ρ : List Sl) (S : List Ob)
  | rt (r : Rv) (S : List Ob)
  | bk (ρ : List Sl) (S : List Ob)
  | ct (ρ : List Sl) (S : List Ob)
  | ex (c : Str) (ρ : List Sl) (S : List Ob)
  | bad
abbrev FE := List Sl → List Ob → Res W
abbrev FA := List Sl → List Ob → Res (List W)
abbrev FB := List Sl → List Ob → Res Bool
abbrev FO := List Sl → List Ob → Res Ob
abbrev FT := List Sl → List Ob → Fl
def Res.bind {α β : Type} (r : Res α) (k : α → List Ob → Res β) : Res β :=
  match r with
  | .ok a S => k a S
  | .err c S => .err c S
  | .bad => .bad
theorem bind_ok {α β : Type} (a : α) (S : List Ob) (k : α → List Ob → Res β) : (Res.ok a S).bind k = k a S := rfl
theorem bind_err {α β : Type} (c : Str) (S : List Ob) (k : α → List Ob → Res β) : (Res.err c S).bind k = .err c S := rfl
theorem bind_bad {α β : Type} (k : α → List Ob → Res β) : (Res.bad).bind k = .bad := rfl

/-! ### frozen objects -/
/-- a part of a heap -/
def Le (F G : Hp) : Prop := ∀ a o, F a = some o → G a = some o
theorem Le.refl {F : Hp} : Le F F := fun _ _ h => h
theorem Le.trans {F G J : Hp} (h : Le F G) (k : Le G J) : Le F J := fun a o e => k a o (h a o e)
theorem Le.upd {F : Hp} {p : Addr} {o : HO} (h : F p = none) : Le F (upd F p o) := fun a u e => by
  rw [upd_ne (ne_of_none e h)]; exact e
theorem Le.rd {F G : Hp} (h : Le F G) {a : Addr} {u : HO} (r : Rd F a u) : Rd G a u := by
  rcases r with r | ⟨o, r⟩
  · exact .inl (h a _ r)
  · exact .inr ⟨o, h a _ r⟩
theorem Le.sqL {K : PySem.W.Frag} {F G : Hp} (h : Le F G) {a : Addr} {xs : List V} (r : SqL K F a xs) : SqL K G a xs := r.imp h.rd id
theorem Le.sqT {K : PySem.W.Frag} {F G : Hp} (h : Le F G) {a : Addr} {xs : List V} (r : SqT K F a xs) : SqT K G a xs := r.imp h.rd id
mutual
theorem Le.dp {K : PySem.W.Frag} {F G : Hp} (h : Le F G) : ∀ (d : PyData) (v : V), Dp K F v d → Dp K G v d
  | .none, _, r => by cases r; exact .non
  | .bool b, _, r => by cases r; exact .bl b
  | .int i, _, r => by cases r; exact .int i
  | .str x, _, r => by cases r; exact .str x
  | .list ds, _, r => by
    cases r with
    | lst hs ha => exact .lst (h.sqL hs) (Le.dps h ds _ ha)
  | .tuple ds, _, r => by
    cases r with
    | tup hs ha => exact .tup (h.sqT hs) (Le.dps h ds _ ha)
theorem Le.dps {K : PySem.W.Frag} {F G : Hp} (h : Le F G) : ∀ (ds : List PyData) (vs : List V), DpAll K F vs ds → DpAll K G vs ds
  | [], _, r => by cases r; exact .nil
  | d :: ds, _, r => by
    cases r with
    | cons h1 h2 => exact .cons (Le.dp h d _ h1) (Le.dps h ds _ h2)
end

/-! ### values, objects -/
def RepW (K : PySem.W.Frag) (Fr : Hp) (μ : List Addr) : W → V → Prop
  | .d x, v => Dp K Fr v x
  | .ref n, v => ∃ a, μ[n]? = some a ∧ v = .ref a
abbrev RepWs (K : PySem.W.Frag) (Fr : Hp) (μ : List Addr) : List W → List V → Prop := Paired (RepW K Fr μ)
def RepKV (K : PySem.W.Frag) (Fr : Hp) (μ : List Addr) : List (Key × W) → List (Key × V) → Prop := Paired fun p q => p.1 = q.1 ∧ RepW K Fr μ p.2 q.2
def RepO (K : PySem.W.Frag) (Fr : Hp) (μ : List Addr) : Ob → HO → Prop
  | .lst xs, o => ∃ vs, o = .lst vs ∧ RepWs K Fr μ xs vs
  | .dct kvs, o => ∃ vs, o = .dK vs ∧ RepKV K Fr μ kvs vs
  | .fdc _, _ => False
/-- .. of an object of the store; what of it is frozen -/
def RepT (K : PySem.W.Frag) (Fr : Hp) (μ : List Addr) : Ob → HO → Prop
  | .lst xs, o => ∃ vs, o = .lst vs ∧ RepWs K Fr μ xs vs
  | .dct kvs, o => ∃ vs, o = .dK vs ∧ RepKV K Fr μ kvs vs
  | .fdc kvs, o => ∃ od vs, o = .frz od (.dK vs) ∧ RepKV K Fr μ kvs vs
def frO : Ob → HO → Option HO
  | .lst _, _ => none
  | .dct _, _ => none
  | .fdc _, o => some o
theorem RepO.toT {K : PySem.W.Frag} {Fr : Hp} {μ : List Addr} {o : Ob} {ho : HO} (h : RepO K Fr μ o ho) : RepT K Fr μ o ho ∧ frO o ho = none := by
  cases o with
  | lst xs => exact ⟨h, rfl⟩
  | dct kvs => exact ⟨h, rfl⟩
  | fdc kvs => exact h.elim
theorem pre_get {α : Type} {l m : List α} (h : l <+: m) {i : Nat} {x : α} (e : l[i]? = some x) : m[i]? = some x := by
  obtain ⟨t, rfl⟩ := h
  rw [List.getElem?_append_left (List.getElem?_eq_some_iff.mp e).1]
  exact e
section
variable {K : PySem.W.Frag} {Fr Fr' : Hp} {μ μ' : List Addr}
theorem RepW.mono {x : W} {v : V} (h : Le Fr Fr') (m : μ <+: μ') (r : RepW K Fr μ x v) : RepW K Fr' μ' x v := by
  cases x with
  | d x => exact Le.dp h _ _ r
  | ref n =>
    obtain ⟨a, e, rfl⟩ := r
    exact ⟨a, pre_get m e, rfl⟩
theorem RepWs.mono (h : Le Fr Fr') (m : μ <+: μ') : ∀ {xs : List W} {vs : List V}, RepWs K Fr μ xs vs → RepWs K Fr' μ' xs vs
  | _, _, .nil => .nil
  | _, _, .cons r t => .cons (r.mono h m) (RepWs.mono h m t)
theorem RepKV.mono (h : Le Fr Fr') (m : μ <+: μ') : ∀ {xs : List (Key × W)} {vs : List (Key × V)}, RepKV K Fr μ xs vs → RepKV K Fr' μ' xs vs
  | _, _, .nil => .nil
  | _, _, .cons r t => .cons ⟨r.1, r.2.mono h m⟩ (RepKV.mono h m t)
theorem RepO.mono {x : Ob} {o : HO} (h : Le Fr Fr') (m : μ <+: μ') (r : RepO K Fr μ x o) : RepO K Fr' μ' x o := by
  cases x with
  | lst xs => obtain ⟨vs, e, r⟩ := r; exact ⟨vs, e, r.mono h m⟩
  | dct kvs => obtain ⟨vs, e, r⟩ := r; exact ⟨vs, e, r.mono h m⟩
  | fdc kvs => exact r.elim
theorem RepT.mono {x : Ob} {o : HO} (h : Le Fr Fr') (m : μ <+: μ') (r : RepT K Fr μ x o) : RepT K Fr' μ' x o := by
  cases x with
  | lst xs => obtain ⟨vs, e, r⟩ := r; exact ⟨vs, e, r.mono h m⟩
  | dct kvs => obtain ⟨vs, e, r⟩ := r; exact ⟨vs, e, r.mono h m⟩
  | fdc kvs => obtain ⟨od, vs, e, r⟩ := r; exact ⟨od, vs, e, r.mono h m⟩
end

/-! ### how slots, store and heap belong together -/
/-- slot i owns the object at a -/
def Owns (ρ : List Sl) (σ : St) (i : Nat) (a : Addr) : Prop := (∃ o, ρ[i]? = some (.own o)) ∧ σ[i]? = some (some (.ref a))
def SlOk (K : PySem.W.Frag) (Fr Hd : Hp) (μ : List Addr) (H : Hp) (v : Option (Option V)) : Sl → Prop
  | .un => True
  | .w x => ∃ u, v = some (some u) ∧ RepW K Fr μ x u
  | .own o => ∃ a ho, v = some (some (.ref a)) ∧ H a = some ho ∧ RepO K Fr μ o ho ∧ Fr a = none ∧ Hd a = none ∧ a ∉ μ
/-- frozen objects Fr, hidden ones Hd, the store S at the addresses μ -/
structure RB (K : PySem.W.Frag) (Fr Hd : Hp) (μ : List Addr) (S : List Ob) (H : Hp) : Prop where
  fr : Le Fr H
  hd : ∀ a o, Hd a = some o → H a = some o ∧ Fr a = none
  len : μ.length = S.length
  st : ∀ (n : Nat) (a : Addr) (o : Ob), μ[n]? = some a → S[n]? = some o → ∃ ho, H a = some ho ∧ RepT K Fr μ o ho ∧ Fr a = frO o ho ∧ Hd a = none
  nd : μ.Nodup
structure RS (K : PySem.W.Frag) (Fr Hd : Hp) (μ : List Addr) (ρ : List Sl) (σ : St) (H : Hp) : Prop where
  len : ρ.length = σ.length
  sl : ∀ (i : Nat) (x : Sl), ρ[i]? = some x → SlOk K Fr Hd μ H σ[i]? x
  inj : ∀ i j a, Owns ρ σ i a → Owns ρ σ j a → i = j
structure R (K : PySem.W.Frag) (Fr Hd : Hp) (μ : List Addr) (ρ : List Sl) (S : List Ob) (σ : St) (H : Hp) : Prop where
  b : RB K Fr Hd μ S H
  s : RS K Fr Hd μ ρ σ H
/-- an object of the heap that nothing here knows of -/
structure Free (Fr Hd : Hp) (μ : List Addr) (ρ : List Sl) (σ : St) (p : Addr) : Prop where
  fr : Fr p = none
  hd : Hd p = none
  mu : p ∉ μ
  ow : ∀ i, ¬ Owns ρ σ i p
section
variable {K : PySem.W.Frag} {Fr Hd : Hp} {μ : List Addr} {ρ : List Sl} {S : List Ob} {σ : St} {H : Hp} {p : Addr} {o : HO}
theorem R.owns (r : R K Fr Hd μ ρ S σ H) {i : Nat} {a : Addr} (h : Owns ρ σ i a) : ∃ ho, H a = some ho ∧ Fr a = none ∧ Hd a = none ∧ a ∉ μ ∧ True := by
  obtain ⟨⟨o, e⟩, e2⟩ := h
  obtain ⟨b, ho, e3, h1, h2, h3, h4, h5⟩ := r.s.sl i _ e
  rw [e2] at e3
  cases e3
  exact ⟨ho, h1, h3, h4, h5, trivial⟩
theorem RB.muH (r : RB K Fr Hd μ S H) {a : Addr} (h : a ∈ μ) : ∃ ho, H a = some ho ∧ True ∧ Hd a = none ∧ True := by
  obtain ⟨n, hn, e⟩ := List.getElem_of_mem h
  have hs : n < S.length := by rw [← r.len]; exact hn
  obtain ⟨ho, h1, h2, h3, h4⟩ := r.st n a S[n] (by rw [List.getElem?_eq_getElem hn, e]) (List.getElem?_eq_getElem hs)
  exact ⟨ho, h1, trivial, h4, trivial⟩
theorem R.new (r : R K Fr Hd μ ρ S σ H) (h : H p = none) : Free Fr Hd μ ρ σ p := by
  refine ⟨?_, ?_, fun m => ?_, fun i w => ?_⟩
  · cases e : Fr p with
    | none => rfl
    | some o => rw [r.b.fr p o e] at h; cases h
  · cases e : Hd p with
    | none => rfl
    | some o => rw [(r.b.hd p o e).1] at h; cases h
  · obtain ⟨ho, e, _⟩ := r.b.muH m
    rw [e] at h; cases h
  · obtain ⟨ho, e, _⟩ := r.owns w
    rw [e] at h; cases h
/-- an object that is free is written, or laid anew -/
theorem RB.upd (r : RB K Fr Hd μ S H) (h1 : Fr p = none) (h2 : Hd p = none) (h3 : p ∉ μ) : RB K Fr Hd μ S (upd H p o) := by
  refine ⟨fun a u e => ?_, fun a u e => ⟨?_, (r.hd a u e).2⟩, r.len, fun n a x e1 e2 => ?_, r.nd⟩
  · rw [upd_ne (ne_of_none e h1)]; exact r.fr a u e
  · rw [upd_ne (ne_of_none e h2)]; exact (r.hd a u e).1
  · obtain ⟨ho, q1, q2⟩ := r.st n a x e1 e2
    refine ⟨ho, ?_, q2⟩
    rw [upd_ne]
    · exact q1
    · rintro rfl; exact h3 (List.mem_of_getElem? e1)
theorem R.upd (r : R K Fr Hd μ ρ S σ H) (f : Free Fr Hd μ ρ σ p) : R K Fr Hd μ ρ S σ (upd H p o) := by
  refine ⟨r.b.upd f.fr f.hd f.mu, r.s.len, fun i x e => ?_, r.s.inj⟩
  have q := r.s.sl i x e
  cases x with
  | un => trivial
  | w x => exact q
  | own x =>
    obtain ⟨a, ho, e1, e2, rest⟩ := q
    refine ⟨a, ho, e1, ?_, rest⟩
    rw [upd_ne]
    · exact e2
    · rintro rfl; exact f.ow i ⟨⟨x, e⟩, e1⟩
/-- a free object is frozen -/
theorem RB.freeze (r : RB K Fr Hd μ S H) (h : H p = some o) (h1 : Fr p = none) (h2 : Hd p = none) (h3 : p ∉ μ) : RB K (L2.upd Fr p o) Hd μ S H := by
  have le : Le Fr (L2.upd Fr p o) := Le.upd h1
  refine ⟨fun a u e => ?_, fun a u e => ⟨(r.hd a u e).1, ?_⟩, r.len, fun n a x e1 e2 => ?_, r.nd⟩
  · by_cases q : a = p
    · subst q; rw [upd_same] at e; cases e; exact h
    · rw [upd_ne q] at e; exact r.fr a u e
  · rw [upd_ne (ne_of_none e h2)]; exact (r.hd a u e).2
  · obtain ⟨ho, q1, q2, q3, q4⟩ := r.st n a x e1 e2
    refine ⟨ho, q1, q2.mono le (List.prefix_refl μ), ?_, q4⟩
    rw [upd_ne]
    · exact q3
    · rintro rfl; exact h3 (List.mem_of_getElem? e1)
theorem R.freeze (r : R K Fr Hd μ ρ S σ H) (h : H p = some o) (f : Free Fr Hd μ ρ σ p) : R K (L2.upd Fr p o) Hd μ ρ S σ H := by
  have le : Le Fr (L2.upd Fr p o) := Le.upd f.fr
  refine ⟨r.b.freeze h f.fr f.hd f.mu, r.s.len, fun i x e => ?_, r.s.inj⟩
  have q := r.s.sl i x e
  cases x with
  | un => trivial
  | w x => obtain ⟨u, e1, e2⟩ := q; exact ⟨u, e1, e2.mono le (List.prefix_refl μ)⟩
  | own x =>
    obtain ⟨a, ho, e1, e2, e3, e4, e5, e6⟩ := q
    refine ⟨a, ho, e1, e2, e3.mono le (List.prefix_refl μ), ?_, e5, e6⟩
    rw [upd_ne]
    · exact e4
    · rintro rfl; exact f.ow i ⟨⟨x, e⟩, e1⟩
/-- a free object is hidden; less is hidden -/
theorem RB.hide (r : RB K Fr Hd μ S H) (h : H p = some o) (h1 : Fr p = none) (h3 : p ∉ μ) : RB K Fr (L2.upd Hd p o) μ S H := by
  refine ⟨r.fr, fun a u e => ?_, r.len, fun n a x e1 e2 => ?_, r.nd⟩
  · by_cases q : a = p
    · subst q; rw [upd_same] at e; cases e; exact ⟨h, h1⟩
    · rw [upd_ne q] at e; exact r.hd a u e
  · obtain ⟨ho, q1, q2, q3, q4⟩ := r.st n a x e1 e2
    refine ⟨ho, q1, q2, q3, ?_⟩
    rw [upd_ne]
    · exact q4
    · rintro rfl; exact h3 (List.mem_of_getElem? e1)
theorem R.hide (r : R K Fr Hd μ ρ S σ H) (h : H p = some o) (f : Free Fr Hd μ ρ σ p) : R K Fr (L2.upd Hd p o) μ ρ S σ H := by
  refine ⟨r.b.hide h f.fr f.mu, r.s.len, fun i x e => ?_, r.s.inj⟩
  have q := r.s.sl i x e
  cases x with
  | un => trivial
  | w x => exact q
  | own x =>
    obtain ⟨a, ho, e1, e2, e3, e4, e5, e6⟩ := q
    refine ⟨a, ho, e1, e2, e3, e4, ?_, e6⟩
    rw [upd_ne]
    · exact e5
    · rintro rfl; exact f.ow i ⟨⟨x, e⟩, e1⟩
theorem RB.unhide {Hd' : Hp} (r : RB K Fr Hd μ S H) (h : Le Hd' Hd) : RB K Fr Hd' μ S H := by
  refine ⟨r.fr, fun a u e => r.hd a u (h a u e), r.len, fun n a x e1 e2 => ?_, r.nd⟩
  obtain ⟨ho, q1, q2, q3, q4⟩ := r.st n a x e1 e2
  refine ⟨ho, q1, q2, q3, ?_⟩
  cases e : Hd' a with
  | none => rfl
  | some u => rw [h a u e] at q4; cases q4
theorem none_le {F G : Hp} (h : Le F G) {a : Addr} (e : G a = none) : F a = none := by
  cases q : F a with
  | none => rfl
  | some u => rw [h a u q] at e; cases e
theorem R.unhide {Hd' : Hp} (r : R K Fr Hd μ ρ S σ H) (h : Le Hd' Hd) : R K Fr Hd' μ ρ S σ H := by
  refine ⟨r.b.unhide h, r.s.len, fun i x e => ?_, r.s.inj⟩
  have q := r.s.sl i x e
  cases x with
  | un => trivial
  | w x => exact q
  | own x =>
    obtain ⟨a, ho, e1, e2, e3, e4, e5, e6⟩ := q
    exact ⟨a, ho, e1, e2, e3, e4, none_le h e5, e6⟩
/-- a slot takes a value -/
theorem R.setW (r : R K Fr Hd μ ρ S σ H) {i : Nat} {x : W} {v : V} (e : RepW K Fr μ x v) : R K Fr Hd μ (ρ.set i (.w x)) S (σ.set i (some v)) H := by
  refine ⟨r.b, by simp [r.s.len], fun j y ej => ?_, fun j k a h1 h2 => ?_⟩
  · by_cases q : i = j
    · subst q
      by_cases hi : i < ρ.length
      · rw [List.getElem?_set_self hi] at ej
        cases ej
        exact ⟨v, by rw [List.getElem?_set_self (by rw [← r.s.len]; exact hi)], e⟩
      · rw [List.getElem?_eq_none (by simpa using hi)] at ej; cases ej
    · rw [List.getElem?_set_ne q] at ej ⊢
      exact r.s.sl j y ej
  · have one : ∀ j a, Owns (ρ.set i (.w x)) (σ.set i (some v)) j a → Owns ρ σ j a := fun j a ⟨⟨o, h1⟩, h2⟩ => by
      by_cases q : i = j
      · subst q
        by_cases hi : i < ρ.length
        · rw [List.getElem?_set_self hi] at h1; cases h1
        · rw [List.getElem?_eq_none (by simpa using hi)] at h1; cases h1
      · rw [List.getElem?_set_ne q] at h1 h2
        exact ⟨⟨o, h1⟩, h2⟩
    exact r.s.inj j k a (one j a h1) (one k a h2)
/-- a slot takes a free object as its own -/
theorem R.setOwn (r : R K Fr Hd μ ρ S σ H) {i : Nat} {x : Ob} (h : H p = some o) (f : Free Fr Hd μ ρ σ p) (e : RepO K Fr μ x o) : R K Fr Hd μ (ρ.set i (.own x)) S (σ.set i (some (.ref p))) H := by
  refine ⟨r.b, by simp [r.s.len], fun j y ej => ?_, fun j k a h1 h2 => ?_⟩
  · by_cases q : i = j
    · subst q
      by_cases hi : i < ρ.length
      · rw [List.getElem?_set_self hi] at ej
        cases ej
        exact ⟨p, o, by rw [List.getElem?_set_self (by rw [← r.s.len]; exact hi)], h, e, f.fr, f.hd, f.mu⟩
      · rw [List.getElem?_eq_none (by simpa using hi)] at ej; cases ej
    · rw [List.getElem?_set_ne q] at ej ⊢
      exact r.s.sl j y ej
  · have one : ∀ j a, Owns (ρ.set i (.own x)) (σ.set i (some (.ref p))) j a → (j = i ∧ a = p) ∨ (j ≠ i ∧ Owns ρ σ j a) := fun j a ⟨⟨u, h1⟩, h2⟩ => by
      by_cases q : i = j
      · subst q
        by_cases hi : i < σ.length
        · rw [List.getElem?_set_self hi] at h2; cases h2; exact .inl ⟨rfl, rfl⟩
        · rw [List.getElem?_eq_none (by simpa using hi)] at h2; cases h2
      · rw [List.getElem?_set_ne q] at h1 h2
        exact .inr ⟨fun z => q z.symm, ⟨u, h1⟩, h2⟩
    rcases one j a h1 with ⟨e1, e2⟩ | ⟨e1, e2⟩
    · rcases one k a h2 with ⟨e3, e4⟩ | ⟨e3, e4⟩
      · rw [e1, e3]
      · rw [e2] at e4; exact absurd e4 (f.ow k)
    · rcases one k a h2 with ⟨e3, e4⟩ | ⟨e3, e4⟩
      · rw [e4] at e2; exact absurd e2 (f.ow j)
      · exact r.s.inj j k a e2 e4
/-- a slot is forgotten (whatever lies there); its object is then free -/
theorem owns_un {i : Nat} {v : Option V} {j : Nat} {a : Addr} (h : Owns (ρ.set i .un) (σ.set i v) j a) : j ≠ i ∧ Owns ρ σ j a := by
  obtain ⟨⟨u, h1⟩, h2⟩ := h
  by_cases q : i = j
  · subst q
    by_cases hi : i < ρ.length
    · rw [List.getElem?_set_self hi] at h1; cases h1
    · rw [List.getElem?_eq_none (by simpa using hi)] at h1; cases h1
  · rw [List.getElem?_set_ne q] at h1 h2
    exact ⟨fun z => q z.symm, ⟨u, h1⟩, h2⟩
theorem R.setUn (r : R K Fr Hd μ ρ S σ H) {i : Nat} {v : Option V} : R K Fr Hd μ (ρ.set i .un) S (σ.set i v) H := by
  refine ⟨r.b, by simp [r.s.len], fun j y ej => ?_, fun j k a h1 h2 => r.s.inj j k a (owns_un h1).2 (owns_un h2).2⟩
  by_cases q : i = j
  · subst q
    by_cases hi : i < ρ.length
    · rw [List.getElem?_set_self hi] at ej; cases ej; trivial
    · rw [List.getElem?_eq_none (by simpa using hi)] at ej; cases ej
  · rw [List.getElem?_set_ne q] at ej ⊢
    exact r.s.sl j y ej
theorem set_at {α : Type} {l : List α} {i : Nat} {x : α} (h : l[i]? = some x) : l.set i x = l := by
  apply List.ext_getElem?
  intro j
  by_cases q : i = j
  · subst q
    have hi : i < l.length := (List.getElem?_eq_some_iff.mp h).1
    rw [List.getElem?_set_self hi, h]
  · rw [List.getElem?_set_ne q]
/-- the slot alone forgets -/
theorem R.un (r : R K Fr Hd μ ρ S σ H) (i : Nat) : R K Fr Hd μ (ρ.set i .un) S σ H := by
  by_cases hi : i < σ.length
  · have e : σ.set i σ[i] = σ := set_at (List.getElem?_eq_getElem hi)
    have q := r.setUn (i := i) (v := σ[i])
    rw [e] at q
    exact q
  · have e : ρ.set i .un = ρ := List.set_eq_of_length_le (by have := r.s.len; omega)
    rw [e]; exact r
/-- what a slot owned is free when it is forgotten -/
theorem R.free_un (r : R K Fr Hd μ ρ S σ H) {i : Nat} (h : Owns ρ σ i p) : Free Fr Hd μ (ρ.set i .un) σ p := by
  obtain ⟨ho, h1, h2, h3, h4, _⟩ := r.owns h
  refine ⟨h2, h3, h4, fun j w => ?_⟩
  have e : σ.set i (some (.ref p)) = σ := set_at h.2
  rw [← e] at w
  obtain ⟨n, w⟩ := owns_un w
  exact n (r.s.inj j i p w h)
end
end L2.Q
/-! Layer Q, part B: readings by functions; the step lemma; names, operators, tests, displays, plain statements. -/
namespace L2.Q
open PySem PySem.Spec PyProof.Rows

/-- how a result lies in the heap: frozen, hidden, store's addresses, slots, their values, heap, the result, its value -/
abbrev Rep (α β : Type) := Hp → Hp → List Addr → List Sl → St → Hp → α → β → Prop
def cont (K : PySem.W.Frag) (mg : Str → Option Value) (Wc : WX) {α β : Type} (rep : Rep α β) (Fr Hd : Hp) (μ : List Addr) (ρ : List Sl) (σ : St) (Q : β → Hp → Prop) : Res α → Prop
  | .ok a S' => ∀ Fr' μ' b H', Le Fr Fr' → μ <+: μ' → R K Fr' Hd μ' ρ S' σ H' → rep Fr' Hd μ' ρ σ H' a b → Q b H'
  | .err c S' => ∀ Fr' μ' C H', Le Fr Fr' → μ <+: μ' → R K Fr' Hd μ' ρ S' σ H' → mg c = some (.ref C) → Wc (.ref C) none σ H'
  | .bad => False
def lift (K : PySem.W.Frag) (mg : Str → Option Value) (Wc : WX) {α β : Type} (rep : Rep α β) (f : List Sl → List Ob → Res α) : St → Hp → (β → Hp → Prop) → Prop := fun σ H Q =>
  ∃ Fr Hd μ ρ S, R K Fr Hd μ ρ S σ H ∧ cont K mg Wc rep Fr Hd μ ρ σ Q (f ρ S)
def contS (K : PySem.W.Frag) (mg : Str → Option Value) (Wc : WX) (Fr Hd : Hp) (μ : List Addr) (D : Ends) : Fl → Prop
  | .nx ρ' S' => ∀ Fr' μ' σ' H', Le Fr Fr' → μ <+: μ' → R K Fr' Hd μ' ρ' S' σ' H' → D.nx σ' H'
  | .bk ρ' S' => ∀ Fr' μ' σ' H', Le Fr Fr' → μ <+: μ' → R K Fr' Hd μ' ρ' S' σ' H' → D.bk σ' H'
  | .ct ρ' S' => ∀ Fr' μ' σ' H', Le Fr Fr' → μ <+: μ' → R K Fr' Hd μ' ρ' S' σ' H' → D.ct σ' H'
  | .rt (.w x) S' => ∀ Fr' μ' v H', Le Fr Fr' → μ <+: μ' → RB K Fr' Hd μ' S' H' → RepW K Fr' μ' x v → D.rt v H'
  | .rt (.own o) S' => ∀ Fr' μ' p ho H', Le Fr Fr' → μ <+: μ' → RB K Fr' Hd μ' S' H' → H' p = some ho → RepO K Fr' μ' o ho → Fr' p = none → Hd p = none → p ∉ μ' → D.rt (.ref p) H'
  | .ex c ρ' S' => ∀ Fr' μ' σ' C H', Le Fr Fr' → μ <+: μ' → R K Fr' Hd μ' ρ' S' σ' H' → mg c = some (.ref C) → Wc (.ref C) none σ' H'
  | .bad => False
def liftS (K : PySem.W.Frag) (mg : Str → Option Value) (Wc : WX) (f : FT) : TS := fun D σ H =>
  ∃ Fr Hd μ ρ S, R K Fr Hd μ ρ S σ H ∧ contS K mg Wc Fr Hd μ D (f ρ S)
def repE (K : PySem.W.Frag) : Rep W V := fun Fr _ μ _ _ _ x v => RepW K Fr μ x v
def repA (K : PySem.W.Frag) : Rep (List W) (List V) := fun Fr _ μ _ _ _ xs vs => RepWs K Fr μ xs vs
def repB : Rep Bool Bool := fun _ _ _ _ _ _ a b => a = b
def repO (K : PySem.W.Frag) : Rep Ob V := fun Fr Hd μ ρ σ H o v => ∃ p ho, v = .ref p ∧ H p = some ho ∧ RepO K Fr μ o ho ∧ Free Fr Hd μ ρ σ p
/-- a list or tuple as it stands now -/
def repQ (K : PySem.W.Frag) : Rep (List W) V := fun Fr _ μ _ _ H xs v => ∃ a vs, v = .ref a ∧ (SqL K H a vs ∨ SqT K H a vs) ∧ RepWs K Fr μ xs vs
/-- a slice's part -/
def repP : Rep (Option Int) (Option Int) := fun _ _ _ _ _ _ a b => a = b
abbrev LE (X : Cx) (Wc : WX) (f : FE) : TE := lift X.K X.mg Wc (repE X.K) f
abbrev LA (X : Cx) (Wc : WX) (f : FA) : TA := lift X.K X.mg Wc (repA X.K) f
abbrev LB (X : Cx) (Wc : WX) (f : FB) : TT := lift X.K X.mg Wc repB f
abbrev LO (X : Cx) (Wc : WX) (f : FO) : TE := lift X.K X.mg Wc (repO X.K) f
abbrev LQ (X : Cx) (Wc : WX) (f : FA) : TE := lift X.K X.mg Wc (repQ X.K) f
abbrev LS (X : Cx) (Wc : WX) (f : FT) : TS := liftS X.K X.mg Wc f

section
variable {K : PySem.W.Frag} {mg : Str → Option Value} {Wc : WX} {α β γ δ : Type} {rep : Rep α β} {rep2 : Rep γ δ} {Fr Fr' Hd : Hp} {μ μ' : List Addr} {ρ : List Sl} {S : List Ob} {σ : St} {H : Hp} {Q Q' : β → Hp → Prop} {Q2 : δ → Hp → Prop}
theorem cont.mono {r : Res α} (h1 : Le Fr Fr') (h2 : μ <+: μ') (hq : ∀ b H, Q b H → Q' b H) (c : cont K mg Wc rep Fr Hd μ ρ σ Q r) : cont K mg Wc rep Fr' Hd μ' ρ σ Q' r := by
  cases r with
  | ok a S => exact fun F m b H' l p r e => hq b H' (c F m b H' (h1.trans l) (List.IsPrefix.trans h2 p) r e)
  | err x S => exact fun F m C H' l p r e => c F m C H' (h1.trans l) (List.IsPrefix.trans h2 p) r e
  | bad => exact c
theorem contS.mono {f : Fl} {D : Ends} (h1 : Le Fr Fr') (h2 : μ <+: μ') (c : contS K mg Wc Fr Hd μ D f) : contS K mg Wc Fr' Hd μ' D f := by
  cases f with
  | nx ρ S => exact fun F m s H' l p r => c F m s H' (h1.trans l) (List.IsPrefix.trans h2 p) r
  | bk ρ S => exact fun F m s H' l p r => c F m s H' (h1.trans l) (List.IsPrefix.trans h2 p) r
  | ct ρ S => exact fun F m s H' l p r => c F m s H' (h1.trans l) (List.IsPrefix.trans h2 p) r
  | rt r S =>
    cases r with
    | w x => exact fun F m s H' l p r => c F m s H' (h1.trans l) (List.IsPrefix.trans h2 p) r
    | own o => exact fun F m q ho H' l p r => c F m q ho H' (h1.trans l) (List.IsPrefix.trans h2 p) r
  | ex x ρ S => exact fun F m s C H' l p r => c F m s C H' (h1.trans l) (List.IsPrefix.trans h2 p) r
  | bad => exact c
theorem lift.imp {f : List Sl → List Ob → Res α} (hq : ∀ b H, Q b H → Q' b H) (h : lift K mg Wc rep f σ H Q) : lift K mg Wc rep f σ H Q' := by
  obtain ⟨F, D, m, ρ, S, r, c⟩ := h
  exact ⟨F, D, m, ρ, S, r, c.mono Le.refl (List.prefix_refl m) hq⟩
/-- THE STEP: the first part of a reading -/
theorem step {f : List Sl → List Ob → Res α} {k : α → List Ob → Res γ} (r : R K Fr Hd μ ρ S σ H) (c : cont K mg Wc rep2 Fr Hd μ ρ σ Q2 ((f ρ S).bind k))
    (hk : ∀ Fr' μ' a b S1 H1, Le Fr Fr' → μ <+: μ' → R K Fr' Hd μ' ρ S1 σ H1 → rep Fr' Hd μ' ρ σ H1 a b → cont K mg Wc rep2 Fr' Hd μ' ρ σ Q2 (k a S1) → Q b H1) : lift K mg Wc rep f σ H Q := by
  refine ⟨Fr, Hd, μ, ρ, S, r, ?_⟩
  cases e : f ρ S with
  | ok a S1 =>
    rw [e] at c
    exact fun F m b H' l p r' q => hk F m a b S1 H' l p r' q (cont.mono l p (fun _ _ z => z) c)
  | err x S1 => rw [e] at c; exact c
  | bad => rw [e] at c; exact c
def fl {α : Type} (r : Res α) (ρ : List Sl) (k : α → List Ob → Fl) : Fl :=
  match r with
  | .ok a S => k a S
  | .err c S => .ex c ρ S
  | .bad => .bad
theorem stepS {f : List Sl → List Ob → Res α} {k : α → List Ob → Fl} {D : Ends} (r : R K Fr Hd μ ρ S σ H) (c : contS K mg Wc Fr Hd μ D (fl (f ρ S) ρ k))
    (hk : ∀ Fr' μ' a b S1 H1, Le Fr Fr' → μ <+: μ' → R K Fr' Hd μ' ρ S1 σ H1 → rep Fr' Hd μ' ρ σ H1 a b → contS K mg Wc Fr' Hd μ' D (k a S1) → Q b H1) : lift K mg Wc rep f σ H Q := by
  refine ⟨Fr, Hd, μ, ρ, S, r, ?_⟩
  cases e : f ρ S with
  | ok a S1 =>
    rw [e] at c
    exact fun F m b H' l p r' q => hk F m a b S1 H' l p r' q (contS.mono l p c)
  | err x S1 => rw [e] at c; exact fun F m C H' l p r' q => c F m σ C H' l p r' q
  | bad => rw [e] at c; exact c
end

/-! ### weaker readings -/
theorem PE.imp {X : Cx} {e : Expr} {t t' : TE} (h : PE X e t) (i : ∀ σ H Q, t' σ H Q → t σ H Q) : PE X e t' := ⟨fun pins s σ H Q I q => h.run pins s σ H Q I (i σ H Q q)⟩
theorem PT.imp {X : Cx} {e : Expr} {t t' : TT} (h : PT X e t) (i : ∀ σ H Q, t' σ H Q → t σ H Q) : PT X e t' := ⟨fun pins s σ H Q I q => h.run pins s σ H Q I (i σ H Q q)⟩
theorem PW.imp {X : Cx} {e : Expr} {t t' : TT} (h : PW X e t) (i : ∀ σ H Q, t' σ H Q → t σ H Q) : PW X e t' := ⟨fun w pins s σ H Q I q => h.run w pins s σ H Q I (i σ H Q q)⟩
theorem PA.imp {X : Cx} {e : List Expr} {t t' : TA} (h : PA X e t) (i : ∀ σ H Q, t' σ H Q → t σ H Q) : PA X e t' := ⟨fun p pins s σ H Q I q => h.run p pins s σ H Q I (i σ H Q q)⟩
theorem PS.imp {X : Cx} {e : Stmt} {t t' : TS} (h : PS X e t) (i : ∀ D σ H, t' D σ H → t D σ H) : PS X e t' := ⟨fun pins s σ H D I q => h.run pins s σ H D I (i D σ H q)⟩
theorem PSs.imp {X : Cx} {e : List Stmt} {t t' : TS} (h : PSs X e t) (i : ∀ D σ H, t' D σ H → t D σ H) : PSs X e t' := ⟨fun pins s σ H D I q => h.run pins s σ H D I (i D σ H q)⟩
theorem PO.imp {X : Cx} {e : Option Expr} {t t' : TO} (h : PO X e t) (i : ∀ σ H Q, t' σ H Q → t σ H Q) : PO X e t' := ⟨fun pins s σ H Q I q => h.run pins s σ H Q I (i σ H Q q)⟩

/-! ### names and constants -/
def fVar (i : Nat) : FE := fun ρ S => match ρ[i]? with
  | some (.w x) => .ok x S
  | _ => .bad
def fC (x : PyData) : FE := fun _ S => .ok (.d x) S
section
variable {X : Cx} {Wc : WX} {a b : Expr} {es : List Expr} {pos : Pos} {fa fb : FE}
theorem q_var {i : Nat} {x : Str} (hN : X.N[i]? = some x) (hv : Vis X.env.scope x) (hd : (x == ("__debug__" : Str)) = false := by decide) (hcd : (x == ("__classdict__" : Str)) = false := by decide) : PE X (.Name x pos) (LE X Wc (fVar i)) := by
  refine PE.imp (pe_var hN hv hd hcd) fun σ H Q h => ?_
  obtain ⟨F, D, m, ρ, S, r, c⟩ := h
  unfold fVar at c
  cases e : ρ[i]? with
  | none => rw [e] at c; exact c.elim
  | some y =>
    rw [e] at c
    cases y with
    | un => exact c.elim
    | own o => exact c.elim
    | w x =>
      obtain ⟨u, e1, e2⟩ := r.s.sl i _ e
      exact ⟨u, e1, c F m u H Le.refl (List.prefix_refl m) r e2⟩
theorem q_c {v : V} {d : PyData} {e : Expr} (h : PE X e (tC v)) (hd : ∀ F : Hp, Dp X.K F v d) : PE X e (LE X Wc (fC d)) := by
  refine PE.imp h fun σ H Q h => ?_
  obtain ⟨F, D, m, ρ, S, r, c⟩ := h
  exact c F m v H Le.refl (List.prefix_refl m) r (hd F)
theorem q_int {i j} : PE X (.Constant (.int i) j pos) (LE X Wc (fC (.int i))) := q_c pe_int fun _ => .int i
theorem q_bl {b j} : PE X (.Constant (.bool b) j pos) (LE X Wc (fC (.bool b))) := q_c pe_bl fun _ => .bl b
theorem q_non {j} : PE X (.Constant .none j pos) (LE X Wc (fC .none)) := q_c pe_non fun _ => .non
theorem q_str {x j} : PE X (.Constant (.str x) j pos) (LE X Wc (fC (.str x))) := q_c pe_str fun _ => .str x
/-- a module's constant -/
theorem q_glob {x : Str} {v : V} {u : Value} {d : PyData} (hg : Gl X x) (hm : X.mg x = some u) (r : RelV v u) (hd : ∀ F : Hp, Dp X.K F v d) (hdb : (x == ("__debug__" : Str)) = false := by decide) : PE X (.Name x pos) (LE X Wc (fC d)) :=
  q_c (pe_glob hg hm r hdb) hd

/-! ### operators -/
def fBin (op : W → W → List Ob → Res W) (fa fb : FE) : FE := fun ρ S => (fa ρ S).bind fun x S1 => (fb ρ S1).bind fun y S2 => op x y S2
def fUn (op : W → List Ob → Res W) (fa : FE) : FE := fun ρ S => (fa ρ S).bind fun x S1 => op x S1
/-- an operator's function tells what the operator's rule asks -/
def OpF (X : Cx) (Wc : WX) (r : R2) (op : W → W → List Ob → Res W) : Prop := ∀ (Fr Hd : Hp) (μ : List Addr) (ρ : List Sl) (S : List Ob) (σ : St) (H : Hp) (x y : W) (v u : V) (Q : VK),
  R X.K Fr Hd μ ρ S σ H → RepW X.K Fr μ x v → RepW X.K Fr μ y u → cont X.K X.mg Wc (repE X.K) Fr Hd μ ρ σ Q (op x y S) → r v u H Q
def UnF (X : Cx) (Wc : WX) (r : V → Hp → VK → Prop) (op : W → List Ob → Res W) : Prop := ∀ (Fr Hd : Hp) (μ : List Addr) (ρ : List Sl) (S : List Ob) (σ : St) (H : Hp) (x : W) (v : V) (Q : VK),
  R X.K Fr Hd μ ρ S σ H → RepW X.K Fr μ x v → cont X.K X.mg Wc (repE X.K) Fr Hd μ ρ σ Q (op x S) → r v H Q
theorem bin_imp {r : R2} {op : W → W → List Ob → Res W} (hr : OpF X Wc r op) {σ : St} {H : Hp} {Q : VK} (h : LE X Wc (fBin op fa fb) σ H Q) : tOp r (LE X Wc fa) (LE X Wc fb) σ H Q := by
  obtain ⟨F, D, m, ρ, S, r0, c⟩ := h
  refine step r0 c fun F1 m1 x v S1 H1 l1 p1 r1 e1 c1 => ?_
  refine step r1 c1 fun F2 m2 y u S2 H2 l2 p2 r2 e2 c2 => ?_
  exact hr F2 D m2 ρ S2 σ H2 x y v u Q r2 (RepW.mono l2 p2 e1) e2 c2
theorem q_op {op : Operator} {r : R2} {fop : W → W → List Ob → Res W} (ho : OpR X (binaryOp op) r) (hr : OpF X Wc r fop) (ha : PE X a (LE X Wc fa)) (hb : PE X b (LE X Wc fb)) : PE X (.BinOp a op b pos) (LE X Wc (fBin fop fa fb)) :=
  PE.imp (pe_op ho ha hb) fun _ _ _ h => bin_imp hr h
theorem q_cmp {op : CmpOp} {r : R2} {fop : W → W → List Ob → Res W} (ho : OpR X (compareOp op) r) (hr : OpF X Wc r fop) (ha : PE X a (LE X Wc fa)) (hb : PE X b (LE X Wc fb)) (hm : behindInMarks op b = false) : PE X (.Compare a [op] [b] pos) (LE X Wc (fBin fop fa fb)) :=
  PE.imp (pe_cmpR ho ha hb hm) fun _ _ _ h => bin_imp hr h
theorem un_imp {r : V → Hp → VK → Prop} {op : W → List Ob → Res W} (hr : UnF X Wc r op) {σ : St} {H : Hp} {Q : VK} (h : LE X Wc (fUn op fa) σ H Q) : tUn r (LE X Wc fa) σ H Q := by
  obtain ⟨F, D, m, ρ, S, r0, c⟩ := h
  refine step r0 c fun F1 m1 x v S1 H1 l1 p1 r1 e1 c1 => ?_
  exact hr F1 D m1 ρ S1 σ H1 x v Q r1 e1 c1
theorem q_un {op : UnaryOp} {r : V → Hp → VK → Prop} {fop : W → List Ob → Res W} (ho : UnR X (unaryOp op) r) (hr : UnF X Wc r fop) (ha : PE X a (LE X Wc fa)) : PE X (.UnaryOp op a pos) (LE X Wc (fUn fop fa)) :=
  PE.imp (pe_un ho ha) fun _ _ _ h => un_imp hr h

/-! ### tests -/
def toB : W → List Ob → Res Bool
  | .d (.bool c), S => .ok c S
  | _, _ => .bad
/-- an expression whose value is a bool, as a test -/
def fT (fa : FE) : FB := fun ρ S => (fa ρ S).bind toB
theorem t_imp {σ : St} {H : Hp} {Q : Bool → Hp → Prop} (h : LB X Wc (fT fa) σ H Q) : tB (LE X Wc fa) σ H Q := by
  obtain ⟨F, D, m, ρ, S, r0, c⟩ := h
  refine step r0 c fun F1 m1 x v S1 H1 l1 p1 r1 e1 c1 => ?_
  cases x with
  | ref n => exact c1.elim
  | d x =>
    cases x with
    | bool b => cases e1; exact ⟨b, rfl, c1 F1 m1 b H1 Le.refl (List.prefix_refl m1) r1 rfl⟩
    | none => exact c1.elim
    | int i => exact c1.elim
    | str z => exact c1.elim
    | list z => exact c1.elim
    | tuple z => exact c1.elim
    | dict z => exact c1.elim
theorem q_tv (h : PE X a (LE X Wc fa)) (he : ∀ whole, isTrue a X.env whole = (do let v ← whole; standAt a.pos; holding [v] (truthy v)) := by intro _; rfl) : PT X a (LB X Wc (fT fa)) :=
  PT.imp (pt_val h he) fun _ _ _ h => t_imp h
theorem q_tc {op : CmpOp} {r : R2} {fop : W → W → List Ob → Res W} (ho : OpR X (compareOp op) r) (hr : OpF X Wc r fop) (ha : PE X a (LE X Wc fa)) (hb : PE X b (LE X Wc fb)) (hm : behindInMarks op b = false) : PT X (.Compare a [op] [b] pos) (LB X Wc (fT (fBin fop fa fb))) := by
  refine PT.imp (pt_cmpR ho ha hb hm) fun σ H Q h => ?_
  obtain ⟨F, D, m, ρ, S, r0, c⟩ := h
  unfold fT at c
  have q : tB (LE X Wc (fBin fop fa fb)) σ H Q := t_imp ⟨F, D, m, ρ, S, r0, c⟩
  exact bin_imp hr q
def fAnd (ta tb : FB) : FB := fun ρ S => (ta ρ S).bind fun c S1 => if c = true then tb ρ S1 else .ok false S1
def fOr (ta tb : FB) : FB := fun ρ S => (ta ρ S).bind fun c S1 => if c = true then .ok true S1 else tb ρ S1
def fNot (ta : FB) : FB := fun ρ S => (ta ρ S).bind fun c S1 => .ok (!c) S1
variable {ta tb : FB} {rest : List Expr}
theorem q_and1 (ha : PT X a (LB X Wc ta)) : PW X (.BoolOp .And [a] pos) (LB X Wc ta) := pw_and1 ha
theorem q_or1 (ha : PT X a (LB X Wc ta)) : PW X (.BoolOp .Or [a] pos) (LB X Wc ta) := pw_or1 ha
theorem q_and (ha : PT X a (LB X Wc ta)) (hb : PW X (.BoolOp .And (b :: rest) pos) (LB X Wc tb)) : PW X (.BoolOp .And (a :: b :: rest) pos) (LB X Wc (fAnd ta tb)) := by
  refine PW.imp (pw_and ha hb) fun σ H Q h => ?_
  obtain ⟨F, D, m, ρ, S, r0, c⟩ := h
  refine step r0 c fun F1 m1 x v S1 H1 l1 p1 r1 e1 c1 => ?_
  cases e1
  cases x with
  | true => exact ⟨F1, D, m1, ρ, S1, r1, c1⟩
  | false => exact c1 F1 m1 false H1 Le.refl (List.prefix_refl m1) r1 rfl
theorem q_or (ha : PT X a (LB X Wc ta)) (hb : PW X (.BoolOp .Or (b :: rest) pos) (LB X Wc tb)) : PW X (.BoolOp .Or (a :: b :: rest) pos) (LB X Wc (fOr ta tb)) := by
  refine PW.imp (pw_or ha hb) fun σ H Q h => ?_
  obtain ⟨F, D, m, ρ, S, r0, c⟩ := h
  refine step r0 c fun F1 m1 x v S1 H1 l1 p1 r1 e1 c1 => ?_
  cases e1
  cases x with
  | false => exact ⟨F1, D, m1, ρ, S1, r1, c1⟩
  | true => exact c1 F1 m1 true H1 Le.refl (List.prefix_refl m1) r1 rfl
theorem q_not (ha : PT X a (LB X Wc ta)) : PT X (.UnaryOp .Not a pos) (LB X Wc (fNot ta)) := by
  refine PT.imp (pt_not ha) fun σ H Q h => ?_
  obtain ⟨F, D, m, ρ, S, r0, c⟩ := h
  refine step r0 c fun F1 m1 x v S1 H1 l1 p1 r1 e1 c1 => ?_
  cases e1
  exact c1 F1 m1 _ H1 Le.refl (List.prefix_refl m1) r1 rfl
/-- as values -/
def fAndV (fa fb : FE) : FE := fun ρ S => ((fa ρ S).bind toB).bind fun c S1 => if c = true then fb ρ S1 else .ok (.d (.bool false)) S1
def fOrV (fa fb : FE) : FE := fun ρ S => ((fa ρ S).bind toB).bind fun c S1 => if c = true then .ok (.d (.bool true)) S1 else fb ρ S1
def fNotV (fa : FE) : FE := fun ρ S => ((fa ρ S).bind toB).bind fun c S1 => .ok (.d (.bool (!c))) S1
theorem q_one {op} (h : PE X a (LE X Wc fa)) : PE X (.BoolOp op [a] pos) (LE X Wc fa) := pe_one h
theorem toB_step {K : PySem.W.Frag} {mg : Str → Option Value} {Fr Hd : Hp} {μ : List Addr} {ρ : List Sl} {S : List Ob} {σ : St} {Q : VK} {x : W} {v : V} {k : Bool → List Ob → Res W} (e : RepW K Fr μ x v)
    (c : cont K mg Wc (repE K) Fr Hd μ ρ σ Q ((toB x S).bind k)) : ∃ b, v = .bl b ∧ cont K mg Wc (repE K) Fr Hd μ ρ σ Q (k b S) := by
  cases x with
  | ref n => exact c.elim
  | d x =>
    cases x with
    | bool b => cases e; exact ⟨b, rfl, c⟩
    | none => exact c.elim
    | int i => exact c.elim
    | str z => exact c.elim
    | list z => exact c.elim
    | tuple z => exact c.elim
    | dict z => exact c.elim
theorem bind_assoc {α β γ : Type} (r : Res α) (k : α → List Ob → Res β) (l : β → List Ob → Res γ) : (r.bind k).bind l = r.bind fun a S => (k a S).bind l := by cases r <;> rfl
theorem q_andV (ha : PE X a (LE X Wc fa)) (hb : PE X (.BoolOp .And (b :: rest) pos) (LE X Wc fb)) : PE X (.BoolOp .And (a :: b :: rest) pos) (LE X Wc (fAndV fa fb)) := by
  refine PE.imp (pe_and ha hb) fun σ H Q h => ?_
  obtain ⟨F, D, m, ρ, S, r0, c⟩ := h
  unfold fAndV at c
  rw [bind_assoc] at c
  refine step r0 c fun F1 m1 x v S1 H1 l1 p1 r1 e1 c1 => ?_
  obtain ⟨k, rfl, c2⟩ := toB_step e1 c1
  refine ⟨k, rfl, ?_⟩
  cases k with
  | true => exact ⟨F1, D, m1, ρ, S1, r1, c2⟩
  | false => exact c2 F1 m1 (.bl false) H1 Le.refl (List.prefix_refl m1) r1 (Dp.bl false)
theorem q_orV (ha : PE X a (LE X Wc fa)) (hb : PE X (.BoolOp .Or (b :: rest) pos) (LE X Wc fb)) : PE X (.BoolOp .Or (a :: b :: rest) pos) (LE X Wc (fOrV fa fb)) := by
  refine PE.imp (pe_or ha hb) fun σ H Q h => ?_
  obtain ⟨F, D, m, ρ, S, r0, c⟩ := h
  unfold fOrV at c
  rw [bind_assoc] at c
  refine step r0 c fun F1 m1 x v S1 H1 l1 p1 r1 e1 c1 => ?_
  obtain ⟨k, rfl, c2⟩ := toB_step e1 c1
  refine ⟨k, rfl, ?_⟩
  cases k with
  | false => exact ⟨F1, D, m1, ρ, S1, r1, c2⟩
  | true => exact c2 F1 m1 (.bl true) H1 Le.refl (List.prefix_refl m1) r1 (Dp.bl true)
theorem q_notV (ha : PE X a (LE X Wc fa)) : PE X (.UnaryOp .Not a pos) (LE X Wc (fNotV fa)) := by
  refine PE.imp (pe_not ha) fun σ H Q h => ?_
  obtain ⟨F, D, m, ρ, S, r0, c⟩ := h
  unfold fNotV at c
  rw [bind_assoc] at c
  refine step r0 c fun F1 m1 x v S1 H1 l1 p1 r1 e1 c1 => ?_
  obtain ⟨k, rfl, c2⟩ := toB_step e1 c1
  exact ⟨k, rfl, c2 F1 m1 _ H1 Le.refl (List.prefix_refl m1) r1 (Dp.bl _)⟩
def fIf (t : FB) (fa fb : FE) : FE := fun ρ S => (t ρ S).bind fun c S1 => if c = true then fa ρ S1 else fb ρ S1
theorem q_if {c : Expr} {t : FB} (hc : PT X c (LB X Wc t)) (ha : PE X a (LE X Wc fa)) (hb : PE X b (LE X Wc fb)) : PE X (.IfExp c a b pos) (LE X Wc (fIf t fa fb)) := by
  refine PE.imp (pe_ifExp hc ha hb) fun σ H Q h => ?_
  obtain ⟨F, D, m, ρ, S, r0, c⟩ := h
  refine step r0 c fun F1 m1 x v S1 H1 l1 p1 r1 e1 c1 => ?_
  cases e1
  cases x with
  | true => exact ⟨F1, D, m1, ρ, S1, r1, c1⟩
  | false => exact ⟨F1, D, m1, ρ, S1, r1, c1⟩

/-! ### argument lists, tuples -/
def fNil : FA := fun _ S => .ok [] S
def fCons (fa : FE) (fr : FA) : FA := fun ρ S => (fa ρ S).bind fun x S1 => (fr ρ S1).bind fun xs S2 => .ok (x :: xs) S2
variable {fr : FA} {e : Expr}
theorem q_anil : PA X [] (LA X Wc fNil) := by
  refine PA.imp pa_nil fun σ H Q h => ?_
  obtain ⟨F, D, m, ρ, S, r0, c⟩ := h
  exact c F m [] H Le.refl (List.prefix_refl m) r0 .nil
theorem q_acons (ha : PE X e (LE X Wc fa)) (hr : PA X es (LA X Wc fr)) (hs : starEach (e :: es) X.env = (false, eval e X.env) :: starEach es X.env := by rfl) : PA X (e :: es) (LA X Wc (fCons fa fr)) := by
  refine PA.imp (pa_cons ha hr hs) fun σ H Q h => ?_
  obtain ⟨F, D, m, ρ, S, r0, c⟩ := h
  refine step r0 c fun F1 m1 x v S1 H1 l1 p1 r1 e1 c1 => ?_
  refine step r1 c1 fun F2 m2 xs vs S2 H2 l2 p2 r2 e2 c2 => ?_
  exact c2 F2 m2 _ H2 Le.refl (List.prefix_refl m2) r2 (.cons (RepW.mono l2 p2 e1) e2)
/-- data alone -/
def dats : List W → Option (List PyData)
  | [] => some []
  | .d x :: r => (dats r).map (x :: ·)
  | .ref _ :: _ => none
theorem dats_rep {K : PySem.W.Frag} {Fr : Hp} {μ : List Addr} : ∀ {xs : List W} {vs : List V} {ds : List PyData}, dats xs = some ds → RepWs K Fr μ xs vs → DpAll K Fr vs ds
  | [], _, _, e, .nil => by cases e; exact .nil
  | .d x :: r, _, ds, e, .cons h t => by
    unfold dats at e
    cases q : dats r with
    | none => rw [q] at e; cases e
    | some es => rw [q] at e; cases e; exact .cons h (dats_rep q t)
  | .ref _ :: _, _, _, e, _ => by cases e
theorem rep_dats {K : PySem.W.Frag} {Fr : Hp} {μ : List Addr} : ∀ {ds : List PyData} {vs : List V}, DpAll K Fr vs ds → RepWs K Fr μ (ds.map .d) vs
  | [], _, h => by cases h; exact .nil
  | d :: ds, _, h => by
    cases h with
    | cons h1 h2 => exact .cons h1 (rep_dats h2)
theorem DpAll.len {K : PySem.W.Frag} {Fr : Hp} : ∀ {ds : List PyData} {vs : List V}, DpAll K Fr vs ds → vs.length = ds.length
  | [], _, h => by cases h; rfl
  | d :: ds, _, h => by
    cases h with
    | cons h1 h2 => simp [DpAll.len h2]
def mkTup (xs : List W) (S : List Ob) : Res W := match dats xs with
  | some ds => .ok (.d (.tuple ds)) S
  | none => .bad
def fTup (fr : FA) : FE := fun ρ S => (fr ρ S).bind mkTup
/-- a new tuple of data is laid -/
theorem new_tup {K : PySem.W.Frag} {mg : Str → Option Value} {Fr Hd : Hp} {μ : List Addr} {ρ : List Sl} {S : List Ob} {σ : St} {H : Hp} {Q : VK} {ds : List PyData} {vs : List V} {p : Addr} (r : R K Fr Hd μ ρ S σ H) (e : DpAll K Fr vs ds) (hp : H p = none)
    (c : cont K mg Wc (repE K) Fr Hd μ ρ σ Q (.ok (.d (.tuple ds)) S)) : Q (.ref p) (upd H p (.tup vs)) := by
  have f := r.new hp
  have le : Le Fr (upd Fr p (.tup vs)) := Le.upd f.fr
  have r2 := (r.upd (o := .tup vs) f).freeze upd_same f
  exact c _ μ (.ref p) _ le (List.prefix_refl μ) r2 (Dp.tup (.inl (.inl upd_same)) (Le.dps le _ _ e))
/-- how many values an argument list has -/
def LenN (fr : FA) (n : Nat) : Prop := ∀ ρ S xs S', fr ρ S = .ok xs S' → xs.length = n
theorem ln_nil : LenN fNil 0 := fun ρ S xs S' e => by cases e; rfl
theorem ln_cons {n : Nat} (h : LenN fr n) : LenN (fCons fa fr) (n + 1) := fun ρ S xs S' e => by
  unfold fCons at e
  cases q : fa ρ S with
  | err c S1 => rw [q] at e; cases e
  | bad => rw [q] at e; cases e
  | ok x S1 =>
    rw [q] at e
    have e : (fr ρ S1).bind (fun ys S2 => Res.ok (x :: ys) S2) = .ok xs S' := e
    cases q2 : fr ρ S1 with
    | err c S2 => rw [q2] at e; cases e
    | bad => rw [q2] at e; cases e
    | ok ys S2 =>
      rw [q2] at e
      cases e
      simp [h _ _ _ _ q2]
theorem q_tup {x1} {n : Nat} (h : PA X es (LA X Wc fr)) (hl : LenN fr n) (hn : n ≤ sizeLine := by decide) : PE X (.Tuple es x1 pos) (LE X Wc (fTup fr)) := by
  refine PE.imp (pe_tup h) fun σ H Q h => ?_
  obtain ⟨F, D, m, ρ, S, r0, c⟩ := h
  refine ⟨F, D, m, ρ, S, r0, ?_⟩
  unfold fTup at c
  cases e : fr ρ S with
  | err x S1 => rw [e] at c; exact c
  | bad => rw [e] at c; exact c
  | ok xs S1 =>
    rw [e] at c
    intro F1 m1 vs H1 l1 p1 r1 e1
    refine ⟨?_, fun p hp => ?_⟩
    · have := Paired.length e1
      have := hl ρ S xs S1 e
      omega
    · have c : cont X.K X.mg Wc (repE X.K) F D m ρ σ Q (mkTup xs S1) := c
      unfold mkTup at c
      cases q : dats xs with
      | none => rw [q] at c; exact c.elim
      | some ds =>
        rw [q] at c
        exact new_tup r1 (dats_rep q e1) hp (cont.mono l1 p1 (fun _ _ z => z) c)
end
end L2.Q
/-! Layer Q, part C: statements, defs, calls. -/
namespace L2.Q
open PySem PySem.Spec PyProof.Rows

section
variable {K : PySem.W.Frag} {mg : Str → Option Value} {Wc : WX} {Fr Hd : Hp} {μ : List Addr} {ρ : List Sl} {S : List Ob} {σ : St} {H : Hp}
/-! ### blocks -/
def fNx : FT := fun ρ S => .nx ρ S
def thenF (x : Fl) (g : FT) : Fl := match x with
  | .nx ρ S => g ρ S
  | .bk ρ S => .bk ρ S
  | .ct ρ S => .ct ρ S
  | .rt r S => .rt r S
  | .ex c ρ S => .ex c ρ S
  | .bad => .bad
def fSeq (f g : FT) : FT := fun ρ S => thenF (f ρ S) g
end
section
variable {X : Cx} {Wc : WX} {st : Stmt} {rest : List Stmt} {f g : FT} {fa : FE} {fo : FO} {e : Expr} {pos : Pos} {tb : FB}
theorem s_nil : PSs X [] (LS X Wc fNx) := PSs.imp pss_nil fun D σ H h => by
  obtain ⟨F, Hd, m, ρ, S, r, c⟩ := h
  exact c F m σ H Le.refl (List.prefix_refl m) r
/-- a statement's reading goes on as the next ones want -/
theorem seq_imp {D : Ends} {σ : St} {H : Hp} (h : LS X Wc (fSeq f g) D σ H) : LS X Wc f { D with nx := LS X Wc g D } σ H := by
  obtain ⟨F, Hd, m, ρ, S, r, c⟩ := h
  refine ⟨F, Hd, m, ρ, S, r, ?_⟩
  unfold fSeq at c
  cases q : f ρ S with
  | nx ρ1 S1 =>
    rw [q] at c
    exact fun F1 m1 σ1 H1 l p r1 => ⟨F1, Hd, m1, ρ1, S1, r1, contS.mono l p c⟩
  | bk ρ1 S1 => rw [q] at c; exact c
  | ct ρ1 S1 => rw [q] at c; exact c
  | rt x S1 => rw [q] at c; cases x <;> exact c
  | ex x ρ1 S1 => rw [q] at c; exact c
  | bad => rw [q] at c; exact c
theorem s_cons (h1 : PS X st (LS X Wc f)) (h2 : PSs X rest (LS X Wc g)) : PSs X (st :: rest) (LS X Wc (fSeq f g)) := PSs.imp (pss_cons h1 h2) fun _ _ _ h => seq_imp h
theorem s_one (h1 : PS X st (LS X Wc f)) : PSs X [st] (LS X Wc f) := pss_one h1
theorem s_pass : PS X (.Pass pos) (LS X Wc fNx) := PS.imp ps_pass fun D σ H h => by
  obtain ⟨F, Hd, m, ρ, S, r, c⟩ := h
  exact c F m σ H Le.refl (List.prefix_refl m) r
theorem s_doc {x j pos'} : PS X (.Expr (.Constant (.str x) j pos) pos') (LS X Wc fNx) := PS.imp ps_doc fun D σ H h => by
  obtain ⟨F, Hd, m, ρ, S, r, c⟩ := h
  exact c F m σ H Le.refl (List.prefix_refl m) r
def fBk : FT := fun ρ S => .bk ρ S
def fCt : FT := fun ρ S => .ct ρ S
theorem s_break : PS X (.Break pos) (LS X Wc fBk) := PS.imp ps_break fun D σ H h => by
  obtain ⟨F, Hd, m, ρ, S, r, c⟩ := h
  exact c F m σ H Le.refl (List.prefix_refl m) r
theorem s_cont : PS X (.Continue pos) (LS X Wc fCt) := PS.imp ps_continue fun D σ H h => by
  obtain ⟨F, Hd, m, ρ, S, r, c⟩ := h
  exact c F m σ H Le.refl (List.prefix_refl m) r
/-- code that is never come to -/
def fNever : FT := fun _ _ => .bad
theorem s_never : PS X st (LS X Wc fNever) := PS.imp ps_never fun D σ H h => by
  obtain ⟨F, Hd, m, ρ, S, r, c⟩ := h
  exact c
/-- name = value -/
def fSet (i : Nat) (fa : FE) : FT := fun ρ S => fl (fa ρ S) ρ fun x S1 => .nx (ρ.set i (.w x)) S1
theorem s_set {i : Nat} {x : Str} {pos' : Pos} (hN : X.N.Nodup) (hi : X.N[i]? = some x) (hx : Loc X.env.scope x) (he : PE X e (LE X Wc fa)) (hs : swapsWith e (some (.Name x pos')) pos.line X.env = pure false := by rfl) (hf : X.fn x = true ∨ X.env.scope.names.lookup x = some .local := by first | exact .inl rfl | exact .inr rfl | assumption) :
    PS X (.Assign [.Name x pos'] e pos) (LS X Wc (fSet i fa)) := PS.imp (ps_set hN hi hx he hs hf) fun D σ H h => by
  obtain ⟨F, Hd, m, ρ, S, r, c⟩ := h
  exact stepS r c fun F1 m1 x v S1 H1 l1 p1 r1 e1 c1 => c1 F1 m1 _ H1 Le.refl (List.prefix_refl m1) (r1.setW e1)
/-- name = a new object, held by this name alone -/
def fSetO (i : Nat) (fo : FO) : FT := fun ρ S => fl (fo ρ S) ρ fun o S1 => .nx (ρ.set i (.own o)) S1
theorem setO_imp {i : Nat} {D : Ends} {σ : St} {H : Hp} (h : LS X Wc (fSetO i fo) D σ H) : tAsg (LO X Wc fo) (gName i) D σ H := by
  obtain ⟨F, Hd, m, ρ, S, r, c⟩ := h
  refine stepS r c fun F1 m1 x v S1 H1 l1 p1 r1 e1 c1 => ?_
  obtain ⟨p, ho, rfl, h1, h2, h3⟩ := e1
  exact c1 F1 m1 _ H1 Le.refl (List.prefix_refl m1) (r1.setOwn h1 h3 h2)
theorem s_setO {i : Nat} {x : Str} {pos' : Pos} (hN : X.N.Nodup) (hi : X.N[i]? = some x) (hx : Loc X.env.scope x) (he : PE X e (LO X Wc fo)) (hs : swapsWith e (some (.Name x pos')) pos.line X.env = pure false := by rfl) (hf : X.fn x = true ∨ X.env.scope.names.lookup x = some .local := by first | exact .inl rfl | exact .inr rfl | assumption) :
    PS X (.Assign [.Name x pos'] e pos) (LS X Wc (fSetO i fo)) := PS.imp (ps_set hN hi hx he hs hf) fun _ _ _ h => setO_imp h
def fDrop (fa : FE) : FT := fun ρ S => fl (fa ρ S) ρ fun _ S1 => .nx ρ S1
theorem s_expr (he : PE X e (LE X Wc fa)) (hs : swapsWith e none pos.line X.env = pure false := by rfl) : PS X (.Expr e pos) (LS X Wc (fDrop fa)) := PS.imp (ps_expr he hs) fun D σ H h => by
  obtain ⟨F, Hd, m, ρ, S, r, c⟩ := h
  exact stepS r c fun F1 m1 x v S1 H1 l1 p1 r1 e1 c1 => c1 F1 m1 _ H1 Le.refl (List.prefix_refl m1) r1
def fRet (fa : FE) : FT := fun ρ S => fl (fa ρ S) ρ fun x S1 => .rt (.w x) S1
theorem s_ret (he : PE X e (LE X Wc fa)) : PS X (.Return (some e) pos) (LS X Wc (fRet fa)) := PS.imp (ps_ret he) fun D σ H h => by
  obtain ⟨F, Hd, m, ρ, S, r, c⟩ := h
  exact stepS r c fun F1 m1 x v S1 H1 l1 p1 r1 e1 c1 => c1 F1 m1 v H1 Le.refl (List.prefix_refl m1) r1.b e1
def fRetO (fo : FO) : FT := fun ρ S => fl (fo ρ S) ρ fun x S1 => .rt (.own x) S1
theorem s_retO (he : PE X e (LO X Wc fo)) : PS X (.Return (some e) pos) (LS X Wc (fRetO fo)) := PS.imp (ps_ret he) fun D σ H h => by
  obtain ⟨F, Hd, m, ρ, S, r, c⟩ := h
  refine stepS r c fun F1 m1 x v S1 H1 l1 p1 r1 e1 c1 => ?_
  obtain ⟨p, ho, rfl, h1, h2, h3⟩ := e1
  exact c1 F1 m1 p ho H1 Le.refl (List.prefix_refl m1) r1.b h1 h2 h3.fr h3.hd h3.mu
def fRetN : FT := fun _ S => .rt (.w (.d .none)) S
theorem s_retN : PS X (.Return none pos) (LS X Wc fRetN) := PS.imp ps_retN fun D σ H h => by
  obtain ⟨F, Hd, m, ρ, S, r, c⟩ := h
  exact c F m .non H Le.refl (List.prefix_refl m) r.b Dp.non
def fIfS (t : FB) (f g : FT) : FT := fun ρ S => fl (t ρ S) ρ fun c S1 => if c = true then f ρ S1 else g ρ S1
theorem s_if {c : Expr} {a b : List Stmt} (hc : PT X c (LB X Wc tb)) (ha : PSs X a (LS X Wc f)) (hb : PSs X b (LS X Wc g)) : PS X (.If c a b pos) (LS X Wc (fIfS tb f g)) := PS.imp (ps_if hc ha hb) fun D σ H h => by
  obtain ⟨F, Hd, m, ρ, S, r, c⟩ := h
  refine stepS r c fun F1 m1 x v S1 H1 l1 p1 r1 e1 c1 => ?_
  cases e1
  cases x with
  | true => exact ⟨F1, Hd, m1, ρ, S1, r1, c1⟩
  | false => exact ⟨F1, Hd, m1, ρ, S1, r1, c1⟩
/-- raise X('..') -/
def fRaise (c : Str) : FT := fun ρ S => .ex c ρ S
theorem s_raise {x : Str} {C : Addr} (hc : X.calm = true) (tk : Takes X Wc) (hm : X.mg x = some (.ref C)) (he : PMk X e (fun _ H Q => Q (.ref C) none H)) : PS X (.Raise (some e) none pos) (LS X Wc (fRaise x)) :=
  PS.imp (ps_raise hc tk he) fun D σ H h => by
  obtain ⟨F, Hd, m, ρ, S, r, c⟩ := h
  exact c F m σ C H Le.refl (List.prefix_refl m) r hm
/-- a slot gives up its object: it is a value from now on -/
def frz (o : Ob) : Option W := match o with
  | .lst xs => (dats xs).map fun ds => .d (.list ds)
  | _ => none
def fFrz (i : Nat) (f : FT) : FT := fun ρ S => match ρ[i]? with
  | some (.own o) => (match frz o with
    | some x => f (ρ.set i (.w x)) S
    | none => .bad)
  | _ => f ρ S
theorem frz_rep {K : PySem.W.Frag} {Fr : Hp} {μ : List Addr} {o : Ob} {ho : HO} {p : Addr} {x : W} (e : frz o = some x) (h : RepO K Fr μ o ho) (hp : Fr p = none) : RepW K (upd Fr p ho) μ x (.ref p) := by
  cases o with
  | dct kvs => cases e
  | fdc kvs => cases e
  | lst xs =>
    obtain ⟨vs, rfl, r⟩ := h
    have e : (dats xs).map (fun ds => W.d (.list ds)) = some x := e
    cases q : dats xs with
    | none => rw [q] at e; cases e
    | some ds =>
      rw [q] at e
      cases e
      exact Dp.lst (.inl (.inl upd_same)) (Le.dps (Le.upd hp) _ _ (dats_rep q r))
theorem R.give {K : PySem.W.Frag} {Fr Hd : Hp} {μ : List Addr} {ρ : List Sl} {S : List Ob} {σ : St} {H : Hp} (r : R K Fr Hd μ ρ S σ H) {i : Nat} {o : Ob} {x : W} (e : ρ[i]? = some (.own o)) (q : frz o = some x) :
    ∃ Fr', Le Fr Fr' ∧ R K Fr' Hd μ (ρ.set i (.w x)) S σ H := by
  obtain ⟨a, ho, e1, h1, h2, h3, h4, h5⟩ := r.s.sl i _ e
  have ow : Owns ρ σ i a := ⟨⟨o, e⟩, e1⟩
  have f := r.free_un ow
  have r1 := (r.un i).freeze h1 f
  have r2 := r1.setW (i := i) (frz_rep q h2 h3)
  rw [set_at e1, List.set_set] at r2
  exact ⟨_, Le.upd h3, r2⟩
theorem s_frz (i : Nat) (h : PS X st (LS X Wc f)) : PS X st (LS X Wc (fFrz i f)) := PS.imp h fun D σ H h => by
  obtain ⟨F, Hd, m, ρ, S, r, c⟩ := h
  unfold fFrz at c
  cases e : ρ[i]? with
  | none => rw [e] at c; exact ⟨F, Hd, m, ρ, S, r, c⟩
  | some y =>
    rw [e] at c
    cases y with
    | un => exact ⟨F, Hd, m, ρ, S, r, c⟩
    | w x => exact ⟨F, Hd, m, ρ, S, r, c⟩
    | own o =>
      cases q : frz o with
      | none => simp only [q] at c; exact c.elim
      | some x =>
        simp only [q] at c
        obtain ⟨F', l, r'⟩ := r.give e q
        exact ⟨F', Hd, m, _, S, r', contS.mono l (List.prefix_refl m) c⟩
end

/-! ### defs -/
def start0 (n : Nat) (ws : List W) : List Sl := ws.map .w ++ List.replicate (n - ws.length) .un
def outF (x : Fl) : Res Rv := match x with
  | .rt r S => .ok r S
  | .nx _ S => .ok (.w (.d .none)) S
  | .ex c _ S => .err c S
  | _ => .bad
def runF (n : Nat) (f : FT) : List W → List Ob → Res Rv := fun ws S => outF (f (start0 n ws) S)
abbrev FM := List W → List Ob → Res Rv
def contR (K : PySem.W.Frag) (mg : Str → Option Value) (Fr Hd : Hp) (μ : List Addr) (Q : VK) (E : XK) : Res Rv → Prop
  | .ok (.w x) S' => ∀ Fr' μ' v H', Le Fr Fr' → μ <+: μ' → RB K Fr' Hd μ' S' H' → RepW K Fr' μ' x v → Q v H'
  | .ok (.own o) S' => ∀ Fr' μ' p ho H', Le Fr Fr' → μ <+: μ' → RB K Fr' Hd μ' S' H' → H' p = some ho → RepO K Fr' μ' o ho → Fr' p = none → Hd p = none → p ∉ μ' → Q (.ref p) H'
  | .err c S' => ∀ Fr' μ' C H', Le Fr Fr' → μ <+: μ' → RB K Fr' Hd μ' S' H' → mg c = some (.ref C) → E (.ref C) none H'
  | .bad => False
/-- a def's promise by its function -/
def spOf (K : PySem.W.Frag) (mg : Str → Option Value) (m : FM) (n : Nat) : Sp := fun vs H Q E => vs.length = n ∧
  ∃ Fr Hd μ ws S, RB K Fr Hd μ S H ∧ RepWs K Fr μ ws vs ∧ contR K mg Fr Hd μ Q E (m ws S)
theorem paired_get {α β : Type} {F : α → β → Prop} : ∀ {l₁ : List α} {l₂ : List β} {i : Nat} {a : α}, Paired F l₁ l₂ → l₁[i]? = some a → ∃ b, l₂[i]? = some b ∧ F a b
  | _, _, _, _, .nil, e => by simp at e
  | _, _, 0, _, .cons r _, e => by simp at e; subst e; exact ⟨_, rfl, r⟩
  | _, _, i + 1, x, .cons _ t, e => by
    obtain ⟨u, h1, h2⟩ := paired_get (i := i) (a := x) t (by simpa using e)
    exact ⟨u, by simpa using h1, h2⟩
theorem start_ok {K : PySem.W.Frag} {Fr Hd : Hp} {μ : List Addr} {ws : List W} {vs : List V} {S : List Ob} {H : Hp} {N : List Str} (b : RB K Fr Hd μ S H) (e : RepWs K Fr μ ws vs) : R K Fr Hd μ (start0 N.length ws) S (start N vs) H := by
  have hl := Paired.length e
  have notOwn : ∀ (i : Nat) (o : Ob), (start0 N.length ws)[i]? ≠ some (.own o) := fun i o q => by
    unfold start0 at q
    by_cases hi : i < ws.length
    · rw [List.getElem?_append_left (by simpa using hi), List.getElem?_map, List.getElem?_eq_getElem hi] at q
      cases q
    · rw [List.getElem?_append_right (by simpa using hi), List.getElem?_replicate] at q
      split at q <;> cases q
  refine ⟨b, ?_, fun i x q => ?_, fun i j a h => ?_⟩
  · unfold start0 start
    simp [hl]
  · unfold start0 at q
    by_cases hi : i < ws.length
    · rw [List.getElem?_append_left (by simpa using hi), List.getElem?_map, List.getElem?_eq_getElem hi] at q
      cases q
      obtain ⟨v, h1, h2⟩ := paired_get e (List.getElem?_eq_getElem hi)
      refine ⟨v, ?_, h2⟩
      unfold start
      rw [List.getElem?_append_left (by simp; omega), List.getElem?_map, h1]
      rfl
    · rw [List.getElem?_append_right (by simpa using hi), List.getElem?_replicate] at q
      split at q
      · cases q; trivial
      · cases q
  · obtain ⟨⟨o, q⟩, _⟩ := h
    exact absurd q (notOwn i o)
section
variable {P : Program} {w : World} {K : PySem.W.Frag} {mg : Str → Option Value} {base : Heap}
abbrev FnQ (P : Program) (w : World) (K : PySem.W.Frag) (mg : Str → Option Value) (base : Heap) (k : Nat) (f : Addr) (fd : FuncData) (ps : List Str) (m : FM) : Prop := FnOk P w K mg base (L2.CX P w) k f fd ps (spOf K mg m ps.length)
/-- THE RULE for a def -/
theorem q_fn {x qual : Str} {st : Stmt} {f : Addr} {fd : FuncData} {N ps : List Str} {k : Nat} {fb : FT} {m : FM} (F : Fun K x qual st f fd) (S : FnScope N ps (defScope st)) (hm : m = runF N.length fb)
    (hbody : ∀ (cdv : Value) (A : Around) (outer : List Env) (s : Shared) (H : Hp) (E : XK), Room k (A.deeper (envOfC qual (defScope st) s.heap.objs.size f cdv)) →
      PSs (cxOf (L2.CX P w) P w K mg base N qual (defScope st) f cdv A outer s H E) (defBody st) (LS (cxOf (L2.CX P w) P w K mg base N qual (defScope st) f cdv A outer s H E) (fun cls d _ H' => E cls d H') fb)) : FnQ P w K mg base (k + 1) f fd ps m := by
  refine F.okX S (fun vs H Q E h => h.1) fun cdv A outer s H vs Q E hr h => ⟨_, hbody cdv A outer s H E hr, ?_⟩
  obtain ⟨_, Fr, Hd, μ, ws, St, b, e, c⟩ := h
  refine ⟨Fr, Hd, μ, start0 N.length ws, St, start_ok b e, ?_⟩
  subst hm
  unfold runF at c
  cases q : fb (start0 N.length ws) St with
  | nx ρ1 S1 => rw [q] at c; exact fun F1 m1 σ1 H1 l p r1 => c F1 m1 .non H1 l p r1.b Dp.non
  | bk ρ1 S1 => rw [q] at c; exact c.elim
  | ct ρ1 S1 => rw [q] at c; exact c.elim
  | rt x S1 => rw [q] at c; cases x <;> exact c
  | ex x ρ1 S1 => rw [q] at c; exact fun F1 m1 σ1 C H1 l p r1 hc => c F1 m1 C H1 l p r1.b hc
  | bad => rw [q] at c; exact c
end

/-! ### calls -/
noncomputable def hide1 (Hd H : Hp) (ρ : List Sl) (σ : St) : Hp := fun a => open Classical in if ∃ i, Owns ρ σ i a then H a else Hd a
section
variable {K : PySem.W.Frag} {mg : Str → Option Value} {Fr Hd : Hp} {μ : List Addr} {ρ : List Sl} {S : List Ob} {σ : St} {H : Hp}
/-- what the slots own is hidden from a callee -/
theorem R.hideOwn (r : R K Fr Hd μ ρ S σ H) : RB K Fr (hide1 Hd H ρ σ) μ S H := by
  refine ⟨r.b.fr, fun a o e => ?_, r.b.len, fun n a o e1 e2 => ?_, r.b.nd⟩
  · unfold hide1 at e
    split at e
    · rename_i h
      obtain ⟨i, h⟩ := h
      obtain ⟨_, _, h2, _⟩ := r.owns h
      exact ⟨e, h2⟩
    · exact r.b.hd a o e
  · obtain ⟨ho, h1, h2, h3, h4⟩ := r.b.st n a o e1 e2
    refine ⟨ho, h1, h2, h3, ?_⟩
    unfold hide1
    rw [if_neg]
    · exact h4
    · rintro ⟨i, h⟩
      obtain ⟨_, _, _, _, h5, _⟩ := r.owns h
      exact h5 (List.mem_of_getElem? e1)
/-- behind the callee they are as they were -/
theorem R.unhideOwn (r : R K Fr Hd μ ρ S σ H) {Fr' : Hp} {μ' : List Addr} {S' : List Ob} {H' : Hp} (l : Le Fr Fr') (p : μ <+: μ') (b : RB K Fr' (hide1 Hd H ρ σ) μ' S' H') : R K Fr' Hd μ' ρ S' σ H' := by
  have le : Le Hd (hide1 Hd H ρ σ) := fun a o e => by
    unfold hide1
    rw [if_neg]
    · exact e
    · rintro ⟨i, h⟩
      obtain ⟨_, _, _, h4, _⟩ := r.owns h
      rw [e] at h4; cases h4
  refine ⟨b.unhide le, r.s.len, fun i x e => ?_, r.s.inj⟩
  have q := r.s.sl i x e
  cases x with
  | un => trivial
  | w x => obtain ⟨u, e1, e2⟩ := q; exact ⟨u, e1, e2.mono l p⟩
  | own x =>
    obtain ⟨a, ho, e1, h1, h2, h3, h4, h5⟩ := q
    have ow : Owns ρ σ i a := ⟨⟨x, e⟩, e1⟩
    have hh : hide1 Hd H ρ σ a = some ho := by
      unfold hide1
      rw [if_pos ⟨i, ow⟩, h1]
    obtain ⟨k1, k2⟩ := b.hd a ho hh
    refine ⟨a, ho, e1, k1, h2.mono l p, k2, h4, fun hm => ?_⟩
    obtain ⟨n, hn, en⟩ := List.getElem_of_mem hm
    have hs : n < S'.length := by rw [← b.len]; exact hn
    obtain ⟨_, _, _, _, h9⟩ := b.st n a S'[n] (by rw [List.getElem?_eq_getElem hn, en]) (List.getElem?_eq_getElem hs)
    rw [hh] at h9; cases h9
theorem hide1_none (h : hide1 Hd H ρ σ = hide1 Hd H ρ σ) {a : Addr} {ho : HO} (r : R K Fr Hd μ ρ S σ H) (e : hide1 Hd H ρ σ a = none) : Hd a = none ∧ ∀ i, ¬ Owns ρ σ i a := by
  unfold hide1 at e
  split at e
  · rename_i h
    obtain ⟨i, h⟩ := h
    obtain ⟨ho, h1, _⟩ := r.owns h
    rw [e] at h1; cases h1
  · rename_i h
    exact ⟨e, fun i q => h ⟨i, q⟩⟩
end
/-- what is handed back, as a value -/
def rvW (x : Rv) (S : List Ob) : Res W := match x with
  | .w x => .ok x S
  | .own o => (match frz o with
    | some x => .ok x S
    | none => .bad)
def rvO (x : Rv) (S : List Ob) : Res Ob := match x with
  | .own o => .ok o S
  | .w _ => .bad
def fCall (m : FM) (fr : FA) : FE := fun ρ S => (fr ρ S).bind fun ws S1 => (m ws S1).bind rvW
def fCallO (m : FM) (fr : FA) : FO := fun ρ S => (fr ρ S).bind fun ws S1 => (m ws S1).bind rvO
section
variable {X : Cx} {Wc : WX} {k : Nat} {f : Addr} {fd : FuncData} {ps : List Str} {m : FM} {x : Str} {p pos : Pos} {e : Expr} {es : List Expr} {fr : FA}
theorem sp_call {Fr Hd : Hp} {μ : List Addr} {ρ : List Sl} {S : List Ob} {σ : St} {H : Hp} {Q : VK} {ws : List W} {vs : List V} {n : Nat} (hn : vs.length = n) (r : R X.K Fr Hd μ ρ S σ H) (e : RepWs X.K Fr μ ws vs)
    (c : cont X.K X.mg Wc (repE X.K) Fr Hd μ ρ σ Q ((m ws S).bind rvW)) : spOf X.K X.mg m n vs H Q (WE Wc σ) := by
  refine ⟨hn, Fr, hide1 Hd H ρ σ, μ, ws, S, r.hideOwn, e, ?_⟩
  cases q : m ws S with
  | bad => rw [q] at c; exact c
  | err z S1 => rw [q] at c; exact fun F1 m1 C H1 l p b hc => c F1 m1 C H1 l p (r.unhideOwn l p b) hc
  | ok y S1 =>
    rw [q] at c
    cases y with
    | w y => exact fun F1 m1 v H1 l p b ev => c F1 m1 v H1 l p (r.unhideOwn l p b) ev
    | own o =>
      intro F1 m1 a ho H1 l p b h1 h2 h3 h4 h5
      have c : cont X.K X.mg Wc (repE X.K) Fr Hd μ ρ σ Q (rvW (.own o) S1) := c
      unfold rvW at c
      cases q2 : frz o with
      | none => simp only [q2] at c; exact c.elim
      | some y =>
        simp only [q2] at c
        have r1 := r.unhideOwn l p b
        obtain ⟨k1, k2⟩ := hide1_none (ho := ho) rfl r h4
        have f : Free F1 Hd m1 ρ σ a := ⟨h3, k1, h5, k2⟩
        exact c _ m1 (.ref a) H1 (l.trans (Le.upd h3)) p (r1.freeze h1 f) (frz_rep q2 h2 h3)
theorem sp_callO {Fr Hd : Hp} {μ : List Addr} {ρ : List Sl} {S : List Ob} {σ : St} {H : Hp} {Q : VK} {ws : List W} {vs : List V} {n : Nat} (hn : vs.length = n) (r : R X.K Fr Hd μ ρ S σ H) (e : RepWs X.K Fr μ ws vs)
    (c : cont X.K X.mg Wc (repO X.K) Fr Hd μ ρ σ Q ((m ws S).bind rvO)) : spOf X.K X.mg m n vs H Q (WE Wc σ) := by
  refine ⟨hn, Fr, hide1 Hd H ρ σ, μ, ws, S, r.hideOwn, e, ?_⟩
  cases q : m ws S with
  | bad => rw [q] at c; exact c
  | err z S1 => rw [q] at c; exact fun F1 m1 C H1 l p b hc => c F1 m1 C H1 l p (r.unhideOwn l p b) hc
  | ok y S1 =>
    rw [q] at c
    cases y with
    | w y => exact c.elim
    | own o =>
      intro F1 m1 a ho H1 l p b h1 h2 h3 h4 h5
      have r1 := r.unhideOwn l p b
      obtain ⟨k1, k2⟩ := hide1_none (ho := ho) rfl r h4
      exact c F1 m1 (.ref a) H1 l p r1 ⟨a, ho, rfl, h1, h2, h3, k1, h5, k2⟩
/-- f(e, ..) -/
theorem q_call (F : FnQ X.prog X.w X.K X.mg X.base k f fd ps m) (hr : Room k X.A) (hg : Gl X x) (hm : X.mg x = some (.ref f)) (hk : PySem.W.keepIn X.K (.ref f) = true) (hb : Binds X.K fd ps []) (tk : Takes X Wc)
    (hl : LenN fr ps.length) (ha : PA X (e :: es) (LA X Wc fr)) (hdb : (x == ("__debug__" : Str)) = false := by decide) (he : starEach (e :: es) X.env = (false, eval e X.env) :: starEach es X.env := by rfl) (hpl : (backTo pos (starEach es X.env)).any (·.1) = false := by rfl) :
    PE X (.Call (.Name x p) (e :: es) [] pos) (LE X Wc (fCall m fr)) := by
  refine PE.imp (pe_callS F hr hg hm hk hb (fun σ => passAt tk σ) ha hdb he hpl) fun σ H Q h => ?_
  obtain ⟨F0, Hd, μ, ρ, S, r, c⟩ := h
  cases q : fr ρ S with
  | bad => unfold fCall at c; rw [q] at c; exact c.elim
  | err z S1 => unfold fCall at c; rw [q] at c; exact ⟨F0, Hd, μ, ρ, S, r, by rw [q]; exact c⟩
  | ok ws S1 =>
    refine ⟨F0, Hd, μ, ρ, S, r, ?_⟩
    unfold fCall at c
    rw [q] at c ⊢
    intro F1 m1 vs H1 l1 p1 r1 e1
    refine sp_call ?_ r1 e1 (cont.mono l1 p1 (fun _ _ z => z) c)
    rw [← Paired.length e1]
    exact hl _ _ _ _ q
theorem q_callO (F : FnQ X.prog X.w X.K X.mg X.base k f fd ps m) (hr : Room k X.A) (hg : Gl X x) (hm : X.mg x = some (.ref f)) (hk : PySem.W.keepIn X.K (.ref f) = true) (hb : Binds X.K fd ps []) (tk : Takes X Wc)
    (hl : LenN fr ps.length) (ha : PA X (e :: es) (LA X Wc fr)) (hdb : (x == ("__debug__" : Str)) = false := by decide) (he : starEach (e :: es) X.env = (false, eval e X.env) :: starEach es X.env := by rfl) (hpl : (backTo pos (starEach es X.env)).any (·.1) = false := by rfl) :
    PE X (.Call (.Name x p) (e :: es) [] pos) (LO X Wc (fCallO m fr)) := by
  refine PE.imp (pe_callS F hr hg hm hk hb (fun σ => passAt tk σ) ha hdb he hpl) fun σ H Q h => ?_
  obtain ⟨F0, Hd, μ, ρ, S, r, c⟩ := h
  cases q : fr ρ S with
  | bad => unfold fCallO at c; rw [q] at c; exact c.elim
  | err z S1 => unfold fCallO at c; rw [q] at c; exact ⟨F0, Hd, μ, ρ, S, r, by rw [q]; exact c⟩
  | ok ws S1 =>
    refine ⟨F0, Hd, μ, ρ, S, r, ?_⟩
    unfold fCallO at c
    rw [q] at c ⊢
    intro F1 m1 vs H1 l1 p1 r1 e1
    refine sp_callO ?_ r1 e1 (cont.mono l1 p1 (fun _ _ z => z) c)
    rw [← Paired.length e1]
    exact hl _ _ _ _ q
end
end L2.Q
/-! Layer Q, part D: targets, sources, for, while, list comprehensions. -/
namespace L2.Q
open PySem PySem.Spec PyProof.Rows

/-! ### targets -/
abbrev FG := W → List Sl → Option (List Sl)
abbrev FGs := List PyData → List Sl → Option (List Sl)
def gN (i : Nat) : FG := fun x ρ => some (ρ.set i (.w x))
def gsN : FGs := fun xs ρ => match xs with
  | [] => some ρ
  | _ :: _ => none
def gsC (g : FG) (gs : FGs) : FGs := fun xs ρ => match xs with
  | [] => none
  | x :: r => (g (.d x) ρ).bind (gs r)
def gT (n : Nat) (gs : FGs) : FG := fun x ρ => match x with
  | .d (.tuple xs) => if xs.length = n then gs xs ρ else none
  | _ => none
/-- own: the slots that the target stores -/
def liftG (K : PySem.W.Frag) (own : List Nat) (g : FG) : TG := fun v σ H Q => ∃ Fr Hd μ ρ S x, R K Fr Hd μ ρ S σ H ∧ RepW K Fr μ x v ∧ ∃ ρ', g x ρ = some ρ' ∧ ∀ σ', wipe σ' own = wipe σ own → R K Fr Hd μ ρ' S σ' H → Q σ' H
def liftGs (K : PySem.W.Frag) (own : List Nat) (g : FGs) : TGs := fun vs σ H Q => ∃ Fr Hd μ ρ S xs, R K Fr Hd μ ρ S σ H ∧ DpAll K Fr vs xs ∧ ∃ ρ', g xs ρ = some ρ' ∧ ∀ σ', wipe σ' own = wipe σ own → R K Fr Hd μ ρ' S σ' H → Q σ' H
theorem wipe_get {σ : St} {own : List Nat} {j : Nat} : (wipe σ own)[j]? = if j ∈ own then (if j < σ.length then some none else none) else σ[j]? := by
  induction own with
  | nil => simp [wipe]
  | cons v vs ih =>
    unfold wipe
    by_cases q : v = j
    · subst q
      simp only [List.mem_cons, true_or, if_true]
      by_cases hl : v < σ.length
      · rw [List.getElem?_set_self (by rw [wipe_length]; exact hl), if_pos hl]
      · rw [List.getElem?_eq_none (by simp [wipe_length]; omega), if_neg hl]
    · rw [List.getElem?_set_ne q, ih]
      have e : (j ∈ v :: vs) = (j ∈ vs) := by simp [Ne.symm q]
      simp only [e]
theorem wipe_set {σ : St} {own : List Nat} {i : Nat} {v : Option V} (h : i ∈ own) : wipe (σ.set i v) own = wipe σ own := by
  apply List.ext_getElem?
  intro j
  rw [wipe_get, wipe_get]
  by_cases q : j ∈ own
  · simp [q]
  · have n : i ≠ j := fun e => q (e ▸ h)
    simp [q, List.getElem?_set_ne n]
theorem PG.imp {X : Cx} {e : Expr} {t t' : TG} (h : PG X e t) (i : ∀ v σ H Q, t' v σ H Q → t v σ H Q) : PG X e t' := ⟨fun pins s σ H v u Q I r q => h.run pins s σ H v u Q I r (i v σ H Q q)⟩
theorem PGs.imp {X : Cx} {e : List Expr} {t t' : TGs} (h : PGs X e t) (i : ∀ v σ H Q, t' v σ H Q → t v σ H Q) : PGs X e t' := ⟨fun pins s σ H v u Q I r q => h.run pins s σ H v u Q I r (i v σ H Q q)⟩
theorem PI.imp {X : Cx} {tg e : Expr} {t t' : TI} (h : PI X tg e t) (i : ∀ σ H Q, t' σ H Q → t σ H Q) : PI X tg e t' := ⟨fun pins s σ H R I q => h.run pins s σ H R I (i σ H R q)⟩
def unset (ρ : List Sl) : List Nat → List Sl
  | [] => ρ
  | v :: vs => (unset ρ vs).set v .un
theorem unset_len (ρ : List Sl) : ∀ own : List Nat, (unset ρ own).length = ρ.length
  | [] => rfl
  | v :: vs => by unfold unset; rw [List.length_set, unset_len ρ vs]
theorem unset_get (ρ : List Sl) (own : List Nat) (j : Nat) : (unset ρ own)[j]? = if j ∈ own then (if j < ρ.length then some .un else none) else ρ[j]? := by
  induction own with
  | nil => simp [unset]
  | cons v vs ih =>
    unfold unset
    by_cases q : v = j
    · subst q
      simp only [List.mem_cons, true_or, if_true]
      by_cases hl : v < ρ.length
      · rw [List.getElem?_set_self (by rw [unset_len]; exact hl), if_pos hl]
      · rw [List.getElem?_eq_none (by simp [unset_len]; omega), if_neg hl]
    · rw [List.getElem?_set_ne q, ih]
      have e : (j ∈ v :: vs) = (j ∈ vs) := by simp [Ne.symm q]
      simp only [e]
/-- a target stores at own alone -/
def GO (own : List Nat) (g : FG) : Prop := ∀ x ρ ρ', g x ρ = some ρ' → unset ρ' own = unset ρ own
def GOs (own : List Nat) (g : FGs) : Prop := ∀ x ρ ρ', g x ρ = some ρ' → unset ρ' own = unset ρ own
theorem go_n {own : List Nat} {i : Nat} (h : i ∈ own) : GO own (gN i) := fun x ρ ρ' e => by
  cases e
  apply List.ext_getElem?
  intro j
  rw [unset_get, unset_get]
  by_cases q : j ∈ own
  · simp [q]
  · have n : i ≠ j := fun e => q (e ▸ h)
    simp [q, List.getElem?_set_ne n]
theorem go_nil {own : List Nat} : GOs own gsN := fun x ρ ρ' e => by
  cases x with
  | nil => cases e; rfl
  | cons a b => cases e
theorem go_c {own : List Nat} {g : FG} {gs : FGs} (h : GO own g) (k : GOs own gs) : GOs own (gsC g gs) := fun x ρ ρ' e => by
  cases x with
  | nil => cases e
  | cons a b =>
    have e : (g (.d a) ρ).bind (gs b) = some ρ' := e
    cases q : g (.d a) ρ with
    | none => rw [q] at e; cases e
    | some ρ1 => rw [q] at e; exact (k _ _ _ e).trans (h _ _ _ q)
theorem go_t {own : List Nat} {n : Nat} {gs : FGs} (k : GOs own gs) : GO own (gT n gs) := fun x ρ ρ' e => by
  unfold gT at e
  split at e
  · split at e
    · exact k _ _ _ e
    · cases e
  · cases e
section
variable {X : Cx} {e : Expr} {es : List Expr} {g : FG} {gs : FGs} {pos : Pos} {own : List Nat}
theorem g_name {i : Nat} {x : Str} (ho : i ∈ own) (hN : X.N.Nodup) (hi : X.N[i]? = some x) (hx : Loc X.env.scope x) (hf : X.fn x = true ∨ X.env.scope.names.lookup x = some .local := by first | exact .inl rfl | exact .inr rfl | assumption) : PG X (.Name x pos) (liftG X.K own (gN i)) :=
  PG.imp (pg_name hN hi hx hf) fun v σ H Q h => by
  obtain ⟨F, Hd, m, ρ, S, x, r, e, ρ', e1, q⟩ := h
  cases e1
  exact q _ (wipe_set ho) (r.setW e)
theorem gs_nil : PGs X [] (liftGs X.K own gsN) := PGs.imp pgs_nil fun v σ H Q h => by
  obtain ⟨F, Hd, m, ρ, S, xs, r, e, ρ', e1, q⟩ := h
  cases xs with
  | nil => cases e1; cases e; exact ⟨rfl, q _ rfl r⟩
  | cons x xs => cases e1
theorem gs_cons (h1 : PG X e (liftG X.K own g)) (h2 : PGs X es (liftGs X.K own gs)) (hs : (assignEach (e :: es) X.env).map (·.2) = assign e X.env :: (assignEach es X.env).map (·.2) := by rfl) : PGs X (e :: es) (liftGs X.K own (gsC g gs)) :=
  PGs.imp (pgs_cons h1 h2 hs) fun v σ H Q h => by
  obtain ⟨F, Hd, m, ρ, S, xs, r, e, ρ', e1, q⟩ := h
  cases xs with
  | nil => cases e1
  | cons x xs =>
    cases e with
    | @cons v vs _ _ a b =>
      have e1 : (g (.d x) ρ).bind (gs xs) = some ρ' := e1
      cases q1 : g (.d x) ρ with
      | none => rw [q1] at e1; cases e1
      | some ρ1 =>
        rw [q1] at e1
        exact ⟨v, vs, rfl, F, Hd, m, ρ, S, .d x, r, a, ρ1, q1, fun σ1 w1 r1 => ⟨F, Hd, m, ρ1, S, xs, r1, b, ρ', e1, fun σ2 w2 => q σ2 (w2.trans w1)⟩⟩
theorem g_tup {k n : Nat} (hc : X.calm = true) (h : PGs X es (liftGs X.K own gs)) (hn : (assignEach es X.env).length = n := by rfl) (hst : (assignEach es X.env).findIdx? (·.1) = none := by rfl) : PG X (.Tuple es k pos) (liftG X.K own (gT n gs)) :=
  PG.imp (pg_tup hc h hn hst) fun v σ H Q h => by
  obtain ⟨F, Hd, m, ρ, S, x, r, e, ρ', e1, q⟩ := h
  cases x with
  | ref n => cases e1
  | d x =>
    cases x with
    | tuple xs =>
      unfold gT at e1
      cases e with
      | @tup a vs _ hs ha =>
        dsimp only at e1
        split at e1
        · rename_i hl
          exact ⟨a, vs, rfl, Le.sqT r.b.fr hs, (DpAll.len ha).trans hl, F, Hd, m, ρ, S, xs, r, ha, ρ', e1, q⟩
        · cases e1
    | none => cases e1
    | bool b => cases e1
    | int i => cases e1
    | str z => cases e1
    | list z => cases e1
    | dict z => cases e1
end

/-! ### sources of a loop -/
/-- what a walk gives at turn i: the i-th of xs, or a new tuple that is it -/
def Yq (K : PySem.W.Frag) (Fr : Hp) (μ : List Addr) (xs : List W) : Nat → Hp → V → Hp → Prop := fun i H v H' =>
  ∃ x, xs[i]? = some x ∧ ((H' = H ∧ RepW K Fr μ x v) ∨ ∃ T vs ds, v = .ref T ∧ H T = none ∧ H' = upd H T (.tup vs) ∧ x = .d (.tuple ds) ∧ DpAll K Fr vs ds)
def contI (K : PySem.W.Frag) (mg : Str → Option Value) (Wc : WX) (Fr Hd : Hp) (μ : List Addr) (ρ : List Sl) (σ : St) (Q : It → Hp → Prop) : Res (List W) → Prop
  | .ok xs S' => ∀ Fr' Hd' μ' H' J, Le Fr Fr' → Le Hd Hd' → μ <+: μ' → R K Fr' Hd' μ' ρ S' σ H' → Walk J xs.length (fun H => Le Fr' H ∧ Le Hd' H) (Yq K Fr' μ' xs) → xs.length ≤ sizeLine → Q J H'
  | .err c S' => ∀ Fr' μ' C H', Le Fr Fr' → μ <+: μ' → R K Fr' Hd μ' ρ S' σ H' → mg c = some (.ref C) → Wc (.ref C) none σ H'
  | .bad => False
def liftI (K : PySem.W.Frag) (mg : Str → Option Value) (Wc : WX) (f : FA) : TI := fun σ H Q => ∃ Fr Hd μ ρ S, R K Fr Hd μ ρ S σ H ∧ contI K mg Wc Fr Hd μ ρ σ Q (f ρ S)
abbrev LI (X : Cx) (Wc : WX) (f : FA) : TI := liftI X.K X.mg Wc f
section
variable {K : PySem.W.Frag} {mg : Str → Option Value} {Wc : WX} {α β : Type} {rep : Rep α β} {Fr Fr' Hd : Hp} {μ μ' : List Addr} {ρ : List Sl} {S : List Ob} {σ : St} {H : Hp} {Q : It → Hp → Prop} {Q1 : β → Hp → Prop}
theorem contI.mono {r : Res (List W)} (h1 : Le Fr Fr') (h2 : μ <+: μ') (c : contI K mg Wc Fr Hd μ ρ σ Q r) : contI K mg Wc Fr' Hd μ' ρ σ Q r := by
  cases r with
  | ok a S => exact fun F D m H' J l d p r e => c F D m H' J (h1.trans l) d (List.IsPrefix.trans h2 p) r e
  | err x S => exact fun F m C H' l p r e => c F m C H' (h1.trans l) (List.IsPrefix.trans h2 p) r e
  | bad => exact c
theorem stepI {f : List Sl → List Ob → Res α} {k : α → List Ob → Res (List W)} (r : R K Fr Hd μ ρ S σ H) (c : contI K mg Wc Fr Hd μ ρ σ Q ((f ρ S).bind k))
    (hk : ∀ Fr' μ' a b S1 H1, Le Fr Fr' → μ <+: μ' → R K Fr' Hd μ' ρ S1 σ H1 → rep Fr' Hd μ' ρ σ H1 a b → contI K mg Wc Fr' Hd μ' ρ σ Q (k a S1) → Q1 b H1) : lift K mg Wc rep f σ H Q1 := by
  refine ⟨Fr, Hd, μ, ρ, S, r, ?_⟩
  cases e : f ρ S with
  | ok a S1 =>
    rw [e] at c
    exact fun F m b H' l p r' q => hk F m a b S1 H' l p r' q (contI.mono l p c)
  | err x S1 => rw [e] at c; exact c
  | bad => rw [e] at c; exact c
end
section
variable {X : Cx} {Wc : WX} {tg l e e2 : Expr} {pos p : Pos} {fa fb : FE} {fo fo2 : FO} {fr : FA}
/-- a list or a tuple that is walked -/
def iSeq (K : PySem.W.Frag) (tl : TE) : TI := fun σ H R => tl σ H fun x H1 => ∃ a, x = .ref a ∧ ((∃ xs, SqL K H1 a xs ∧ (xs.length ≤ sizeLine → R (Itl K a) H1)) ∨ (∃ xs, SqT K H1 a xs ∧ (xs.length ≤ sizeLine → R (Itt K a) H1)))
theorem pi_seq {tl : TE} (hl : PE X l tl) : PI X tg l (iSeq X.K tl) := by
  refine ⟨fun pins s σ H R I h => ?_⟩
  refine thn (hl.run pins s σ H _ I h) fun v s1 ⟨x, H1, I1, r1, q1⟩ => ?_
  obtain ⟨a, e, q1⟩ := q1
  subst e
  cases r1
  rcases q1 with ⟨xs, hq, q⟩ | ⟨xs, hq, q⟩
  · obtain ⟨its, rv, p, hz⟩ := I1.list hq
    refine wpAny_pyIter_list p.isList ?_
    refine ⟨s1.heap.objs.size, [s1.heap.objs.size], _, _, H1, rfl, I1.kept (t' := s1.toks) fun b o e => Heap.get?_push_of_some _ e, turn_list a _, ⟨_, Heap.get?_push_size _ rfl, rfl, rfl⟩, fun b hb => ?_, q hz⟩
    have e : b = s1.heap.objs.size := by simpa using hb
    subst e
    exact I1.fpOk (Nat.le_refl _) (I1.hok.fresh (Nat.le_refl _))
  · obtain ⟨its, rv, p, hz⟩ := I1.tuple hq
    refine wpAny_pyIter_tuple (show s1.heap.IsTuple a its.toArray from p) ?_
    refine ⟨s1.heap.objs.size, [s1.heap.objs.size], _, _, H1, rfl, I1.kept (t' := s1.toks) fun b o e => Heap.get?_push_of_some _ e, turn_tuple a _, ⟨_, Heap.get?_push_size _ rfl, rfl, rfl⟩, fun b hb => ?_, q hz⟩
    have e : b = s1.heap.objs.size := by simpa using hb
    subst e
    exact I1.fpOk (Nat.le_refl _) (I1.hok.fresh (Nat.le_refl _))
def seqOf (x : W) (S : List Ob) : Res (List W) := match x with
  | .d (.tuple xs) => .ok (xs.map .d) S
  | .d (.list xs) => .ok (xs.map .d) S
  | _ => .bad
def fIt (fa : FE) : FA := fun ρ S => (fa ρ S).bind seqOf
theorem yq_at {K : PySem.W.Frag} {Fr : Hp} {μ : List Addr} {xs : List W} {vs : List V} (r : RepWs K Fr μ xs vs) {i : Nat} {H : Hp} {v : V} {H' : Hp} (hi : i < xs.length) (y : YAt vs i H v H') : Yq K Fr μ xs i H v H' := by
  obtain ⟨v', e, q⟩ := paired_get r (List.getElem?_eq_getElem hi)
  obtain ⟨e1, e2⟩ := y
  rw [e] at e2
  cases e2
  exact ⟨_, List.getElem?_eq_getElem hi, .inl ⟨e1, q⟩⟩
/-- over a value -/
theorem i_val (h : PE X l (LE X Wc fa)) : PI X tg l (LI X Wc (fIt fa)) := PI.imp (pi_seq h) fun σ H Q h => by
  obtain ⟨F, Hd, m, ρ, S, r, c⟩ := h
  refine stepI r c fun F1 m1 x v S1 H1 l1 p1 r1 e1 c1 => ?_
  cases x with
  | ref n => exact c1.elim
  | d x =>
    cases x with
    | tuple xs =>
      cases e1 with
      | @tup a vs _ hs ha =>
        have hw := walk_tup (K := X.K) (a := a) (xs := vs)
        rw [show vs.length = (xs.map W.d).length by simp [DpAll.len ha]] at hw
        refine ⟨a, rfl, .inr ⟨vs, Le.sqT r1.b.fr hs, fun hz => c1 F1 Hd m1 H1 _ Le.refl Le.refl (List.prefix_refl m1) r1 (hw.mono (fun H h => Le.sqT h.1 hs) fun i H v H' hi _ y => yq_at (rep_dats ha) hi y) (by simpa [DpAll.len ha] using hz)⟩⟩
    | list xs =>
      cases e1 with
      | @lst a vs _ hs ha =>
        have hw := walk_list (K := X.K) (a := a) (xs := vs)
        rw [show vs.length = (xs.map W.d).length by simp [DpAll.len ha]] at hw
        refine ⟨a, rfl, .inl ⟨vs, Le.sqL r1.b.fr hs, fun hz => c1 F1 Hd m1 H1 _ Le.refl Le.refl (List.prefix_refl m1) r1 (hw.mono (fun H h => Le.sqL h.1 hs) fun i H v H' hi _ y => yq_at (rep_dats ha) hi y) (by simpa [DpAll.len ha] using hz)⟩⟩
    | none => exact c1.elim
    | bool b => exact c1.elim
    | int i => exact c1.elim
    | str z => exact c1.elim
    | dict z => exact c1.elim
/-- over a new list -/
def lstOf (o : Ob) (S : List Ob) : Res (List W) := match o with
  | .lst xs => .ok xs S
  | _ => .bad
def fItO (fo : FO) : FA := fun ρ S => (fo ρ S).bind lstOf
theorem i_new (h : PE X l (LO X Wc fo)) : PI X tg l (LI X Wc (fItO fo)) := PI.imp (pi_seq h) fun σ H Q h => by
  obtain ⟨F, Hd, m, ρ, S, r, c⟩ := h
  refine stepI r c fun F1 m1 x v S1 H1 l1 p1 r1 e1 c1 => ?_
  obtain ⟨p, ho, rfl, h1, h2, h3⟩ := e1
  cases x with
  | dct kvs => exact c1.elim
  | fdc kvs => exact c1.elim
  | lst xs =>
    obtain ⟨vs, rfl, q⟩ := h2
    have hw := walk_list (K := X.K) (a := p) (xs := vs)
    rw [← Paired.length q] at hw
    refine ⟨p, rfl, .inl ⟨vs, .inl (.inl h1), fun hz => c1 F1 (upd Hd p (.lst vs)) m1 H1 _ Le.refl (Le.upd h3.hd) (List.prefix_refl m1) (r1.hide h1 h3) (hw.mono (fun H h => .inl (.inl (h.2 p _ upd_same))) fun i H v H' hi _ y => yq_at q hi y) (by rw [Paired.length q]; exact hz)⟩⟩
/-- range -/
def rngL (lo : Int) (n : Nat) : List W := (List.range n).map fun (i : Nat) => W.d (.int (lo + (i : Int)))
theorem rngL_len (lo : Int) (n : Nat) : (rngL lo n).length = n := by simp [rngL]
theorem rngL_get {lo : Int} {n i : Nat} (h : i < n) : (rngL lo n)[i]? = some (.d (.int (lo + (i : Int)))) := by simp [rngL, h]
theorem walk_rng {K : PySem.W.Frag} {Fr : Hp} {μ : List Addr} {lo : Int} {n : Nat} {G : Hp → Prop} : Walk (Itr lo n) (rngL lo n).length G (Yq K Fr μ (rngL lo n)) := by
  rw [rngL_len]
  refine Walk.mono walk_range (fun _ _ => trivial) fun i H v H' hi _ y => ?_
  obtain ⟨e1, e2⟩ := y
  subst e2
  exact ⟨_, rngL_get hi, .inl ⟨e1, Dp.int _⟩⟩
def rng1 (x : W) (S : List Ob) : Res (List W) := match x with
  | .d (.int j) => if -(2 ^ 62) ≤ j ∧ j ≤ 16777216 then .ok (rngL 0 j.toNat) S else .bad
  | _ => .bad
def fRng1 (fa : FE) : FA := fun ρ S => (fa ρ S).bind rng1
def tOne (t : TE) : TA := tCons t tNil
theorem i_rng1 (hg : Gl X "range") (hm : X.mg "range" = none) (h : PE X e (LE X Wc fa)) (hs1 : starEach [e] X.env = (false, eval e X.env) :: starEach [] X.env := by rfl) (hs : starEach [e] X.env = [(false, eval e X.env)] := by rfl) : PI X tg (.Call (.Name "range" p) [e] [] pos) (LI X Wc (fRng1 fa)) :=
  PI.imp (pi_range1 hg hm (pa_cons h pa_nil hs1) hs) fun σ H Q h => by
  obtain ⟨F, Hd, m, ρ, S, r, c⟩ := h
  refine stepI r c fun F1 m1 x v S1 H1 l1 p1 r1 e1 c1 => ?_
  show ∃ j : Int, [v] = [V.int j] ∧ _
  cases x with
  | ref n => exact c1.elim
  | d x =>
    cases x with
    | int i =>
      cases e1
      unfold rng1 at c1
      dsimp only at c1
      split at c1
      · rename_i hi
        exact ⟨i, rfl, hi.1, by omega, c1 F1 Hd m1 H1 _ Le.refl Le.refl (List.prefix_refl m1) r1 walk_rng (by rw [rngL_len, sizeLine_eq]; omega)⟩
      · exact c1.elim
    | none => exact c1.elim
    | bool b => exact c1.elim
    | tuple i => exact c1.elim
    | list z => exact c1.elim
    | str z => exact c1.elim
    | dict z => exact c1.elim
def rng2 (x y : W) (S : List Ob) : Res (List W) := match x, y with
  | .d (.int i), .d (.int j) => if -(2 ^ 62) ≤ i ∧ i < 2 ^ 62 ∧ -(2 ^ 62) ≤ j ∧ j < 2 ^ 62 ∧ j - i ≤ 16777216 then .ok (rngL i (j - i).toNat) S else .bad
  | _, _ => .bad
def fRng2 (fa fb : FE) : FA := fun ρ S => (fa ρ S).bind fun x S1 => (fb ρ S1).bind fun y S2 => rng2 x y S2
def intOf : W → Option Int
  | .d (.int i) => some i
  | _ => none
theorem rep_int {K : PySem.W.Frag} {Fr : Hp} {μ : List Addr} {x : W} {v : V} (r : RepW K Fr μ x v) : (∃ i, x = .d (.int i) ∧ v = .int i) ∨ (∀ i, x ≠ .d (.int i)) := by
  cases x with
  | ref n => exact .inr fun i h => by cases h
  | d x =>
    cases x with
    | int i => cases r; exact .inl ⟨i, rfl, rfl⟩
    | none => exact .inr fun i h => by cases h
    | bool b => exact .inr fun i h => by cases h
    | tuple i => exact .inr fun i h => by cases h
    | list z => exact .inr fun i h => by cases h
    | str z => exact .inr fun i h => by cases h
    | dict z => exact .inr fun i h => by cases h
theorem rng2_bad {x y : W} {S : List Ob} (h : (∀ i, x ≠ .d (.int i)) ∨ ∀ i, y ≠ .d (.int i)) : rng2 x y S = .bad := by
  unfold rng2
  split
  · rcases h with h | h
    · exact absurd rfl (h _)
    · exact absurd rfl (h _)
  · rfl
theorem i_rng2 (hg : Gl X "range") (hm : X.mg "range" = none) (h : PE X e (LE X Wc fa)) (h2 : PE X e2 (LE X Wc fb)) (hs1 : starEach [e, e2] X.env = (false, eval e X.env) :: starEach [e2] X.env := by rfl) (hs2 : starEach [e2] X.env = (false, eval e2 X.env) :: starEach [] X.env := by rfl)
    (hs : starEach [e, e2] X.env = [(false, eval e X.env), (false, eval e2 X.env)] := by rfl) (hs3 : starEach [e2] X.env = [(false, eval e2 X.env)] := by rfl) : PI X tg (.Call (.Name "range" p) [e, e2] [] pos) (LI X Wc (fRng2 fa fb)) :=
  PI.imp (pi_range2 hg hm (pa_cons h (pa_cons h2 pa_nil hs2) hs1) hs hs3) fun σ H Q h => by
  obtain ⟨F, Hd, m, ρ, S, r, c⟩ := h
  refine stepI r c fun F1 m1 x v S1 H1 l1 p1 r1 e1 c1 => ?_
  refine stepI r1 c1 fun F2 m2 y u S2 H2 l2 p2 r2 e2 c2 => ?_
  show ∃ i j : Int, [v, u] = [V.int i, V.int j] ∧ _
  rcases rep_int e1 with ⟨i, rfl, rfl⟩ | n
  · rcases rep_int e2 with ⟨j, rfl, rfl⟩ | n
    · unfold rng2 at c2
      dsimp only at c2
      split at c2
      · rename_i hi
        exact ⟨i, j, rfl, ⟨hi.1, hi.2.1, hi.2.2.1, hi.2.2.2.1⟩, c2 F2 Hd m2 H2 _ Le.refl Le.refl (List.prefix_refl m2) r2 walk_rng (by rw [rngL_len, sizeLine_eq]; omega)⟩
      · exact c2.elim
    · rw [rng2_bad (.inr n)] at c2; exact c2.elim
  · rw [rng2_bad (.inl n)] at c2; exact c2.elim
end

/-! ### for -/
def setG (o : Option (List Sl)) (S : List Ob) (k : List Sl → List Ob → Fl) : Fl := match o with
  | some ρ => k ρ S
  | none => .bad
/-- behind a turn's body: go on, or what leaves the loop -/
def turnF (x : Fl) (k : List Sl → List Ob → Fl) : Fl := match x with
  | .nx ρ S => k ρ S
  | .ct ρ S => k ρ S
  | .bk ρ S => .nx ρ S
  | .rt r S => .rt r S
  | .ex c ρ S => .ex c ρ S
  | .bad => .bad
def forL (g : FG) (fb : FT) : List W → FT
  | [] => fun ρ S => .nx ρ S
  | x :: r => fun ρ S => setG (g x ρ) S fun ρ1 S1 => turnF (fb ρ1 S1) (forL g fb r)
def fFor (fi : FA) (g : FG) (fb : FT) : FT := fun ρ S => fl (fi ρ S) ρ fun xs S1 => forL g fb xs ρ S1
theorem yield_ok {K : PySem.W.Frag} {Fr Hd : Hp} {μ : List Addr} {ρ : List Sl} {S : List Ob} {σ : St} {H H' : Hp} {xs : List W} {i : Nat} {v : V} {F1 : Hp} {m1 : List Addr} (r : R K Fr Hd μ ρ S σ H) (l : Le F1 Fr) (p : m1 <+: μ) (y : Yq K F1 m1 xs i H v H') :
    ∃ Fr' x, xs[i]? = some x ∧ Le Fr Fr' ∧ R K Fr' Hd μ ρ S σ H' ∧ RepW K Fr' μ x v := by
  obtain ⟨x, e, h⟩ := y
  rcases h with ⟨rfl, q⟩ | ⟨T, vs, ds, rfl, hT, rfl, rfl, q⟩
  · exact ⟨Fr, x, e, Le.refl, r, q.mono l p⟩
  · have f := r.new hT
    have le : Le Fr (upd Fr T (.tup vs)) := Le.upd f.fr
    exact ⟨_, _, e, le, (r.upd (o := .tup vs) f).freeze upd_same f, Dp.tup (.inl (.inl upd_same)) (Le.dps (l.trans le) _ _ q)⟩
theorem contS.less {K : PySem.W.Frag} {mg : Str → Option Value} {Wc : WX} {Fr Hd Hd' : Hp} {μ : List Addr} {D : Ends} {f : Fl} (h : Le Hd Hd') (c : contS K mg Wc Fr Hd μ D f) : contS K mg Wc Fr Hd' μ D f := by
  cases f with
  | nx ρ S => exact fun F m s H' l p r => c F m s H' l p (r.unhide h)
  | bk ρ S => exact fun F m s H' l p r => c F m s H' l p (r.unhide h)
  | ct ρ S => exact fun F m s H' l p r => c F m s H' l p (r.unhide h)
  | rt r S =>
    cases r with
    | w x => exact fun F m s H' l p r => c F m s H' l p (r.unhide h)
    | own o => exact fun F m q ho H' l p r e1 e2 e3 e4 e5 => c F m q ho H' l p (r.unhide h) e1 e2 e3 (none_le h e4) e5
  | ex x ρ S => exact fun F m s C H' l p r => c F m s C H' l p (r.unhide h)
  | bad => exact c
section
variable {X : Cx} {Wc : WX} {tg iter : Expr} {pos : Pos} {fi : FA} {g : FG} {fb : FT} {body : List Stmt} {own : List Nat}
theorem s_for (hp : PassesOwn (model X.prog X.w) X.A X.env X.xe) (hc : X.calm = true) (hi : PI X tg iter (LI X Wc fi)) (hg : PG X tg (liftG X.K own g)) (hb : PSs X body (LS X Wc fb))
    (hs : ∀ x, foldedSetIterable iter X.env x = pure x := by intro _; rfl) : PS X (.For tg iter body [] pos) (LS X Wc (fFor fi g fb)) := PS.imp (ps_for hp hc hi hg hb hs) fun D σ H h => by
  obtain ⟨F, Hd, m, ρ, S, r, c⟩ := h
  show liftI X.K X.mg Wc fi σ H _
  refine ⟨F, Hd, m, ρ, S, r, ?_⟩
  unfold fFor at c
  cases e : fi ρ S with
  | bad => rw [e] at c; exact c.elim
  | err z S1 => rw [e] at c; exact fun F1 m1 C H1 l p r1 hz => c F1 m1 σ C H1 l p r1 hz
  | ok xs S1 =>
    rw [e] at c
    intro F1 Hd1 m1 H1 J l1 d1 p1 r1 wk hz
    have c : contS X.K X.mg Wc F Hd m D (forL g fb xs ρ S1) := c
    refine for_it wk (fun i σ H => ∃ F2 m2 ρ2 S2, Le F1 F2 ∧ m1 <+: m2 ∧ R X.K F2 Hd1 m2 ρ2 S2 σ H ∧ contS X.K X.mg Wc F2 Hd1 m2 D (forL g fb (xs.drop i) ρ2 S2)) ?_ ?_ ?_ ?_
    · exact ⟨F1, m1, ρ, S1, Le.refl, List.prefix_refl m1, r1, contS.less d1 (contS.mono l1 p1 c)⟩
    · rintro i σ2 H2 hi ⟨F2, m2, ρ2, S2, l2, p2, r2, c2⟩
      exact ⟨l2.trans r2.b.fr, fun a o q => (r2.b.hd a o q).1⟩
    · rintro i v σ2 H2 H3 hi ⟨F2, m2, ρ2, S2, l2, p2, r2, c2⟩ y
      obtain ⟨F3, x, ex, l3, r3, e3⟩ := yield_ok r2 l2 p2 y
      rw [List.drop_eq_getElem_cons hi] at c2
      have ex' : xs[i] = x := by rw [List.getElem?_eq_getElem hi] at ex; exact Option.some.inj ex
      rw [ex'] at c2
      have c2 : contS X.K X.mg Wc F2 Hd1 m2 D (setG (g x ρ2) S2 fun ρ1 S1 => turnF (fb ρ1 S1) (forL g fb (xs.drop (i + 1)))) := c2
      cases q : g x ρ2 with
      | none => rw [q] at c2; exact c2.elim
      | some ρ3 =>
        rw [q] at c2
        have c2 : contS X.K X.mg Wc F2 Hd1 m2 D (turnF (fb ρ3 S2) (forL g fb (xs.drop (i + 1)))) := c2
        refine ⟨F3, Hd1, m2, ρ2, S2, x, r3, e3, ρ3, q, fun σ3 _ r4 => ⟨F3, Hd1, m2, ρ3, S2, r4, ?_⟩⟩
        cases q2 : fb ρ3 S2 with
        | nx ρ4 S4 =>
          rw [q2] at c2
          exact fun F4 m4 σ4 H4 l4 p4 r5 => ⟨F4, m4, ρ4, S4, l2.trans (l3.trans l4), p2.trans p4, r5, contS.mono (l3.trans l4) p4 c2⟩
        | ct ρ4 S4 =>
          rw [q2] at c2
          exact fun F4 m4 σ4 H4 l4 p4 r5 => ⟨F4, m4, ρ4, S4, l2.trans (l3.trans l4), p2.trans p4, r5, contS.mono (l3.trans l4) p4 c2⟩
        | bk ρ4 S4 => rw [q2] at c2; exact contS.mono (f := .nx ρ4 S4) l3 (List.prefix_refl m2) c2
        | rt y S4 => rw [q2] at c2; cases y <;> exact contS.mono (D := D) l3 (List.prefix_refl m2) c2
        | ex z ρ4 S4 => rw [q2] at c2; exact contS.mono (D := D) l3 (List.prefix_refl m2) c2
        | bad => rw [q2] at c2; exact c2
    · rintro σ2 H2 ⟨F2, m2, ρ2, S2, l2, p2, r2, c2⟩
      rw [List.drop_length] at c2
      exact c2 F2 m2 σ2 H2 Le.refl (List.prefix_refl m2) r2

/-! ### while -/
def whileN (t : FB) (fb : FT) : Nat → FT
  | 0 => fun _ _ => .bad
  | n + 1 => fun ρ S => fl (t ρ S) ρ fun c S1 => if c = true then turnF (fb ρ S1) (whileN t fb n) else .nx ρ S1
def fWhile (n : Nat) (t : FB) (fb : FT) : FT := whileN t fb n
theorem s_while {c : Expr} {t : FB} (n : Nat) (hp : PassesOwn (model X.prog X.w) X.A X.env X.xe) (hc : PT X c (LB X Wc t)) (hb : PSs X body (LS X Wc fb)) : PS X (.While c body [] pos) (LS X Wc (fWhile n t fb)) := PS.imp (ps_while hp hc hb) fun D σ H h => by
  obtain ⟨F, Hd, m, ρ, S, r, c0⟩ := h
  refine ⟨fun k σ H => ∃ F2 m2 ρ2 S2, R X.K F2 Hd m2 ρ2 S2 σ H ∧ contS X.K X.mg Wc F2 Hd m2 D (whileN t fb k ρ2 S2), ⟨n, F, m, ρ, S, r, c0⟩, ?_⟩
  rintro k σ2 H2 ⟨F2, m2, ρ2, S2, r2, c2⟩
  cases k with
  | zero => exact c2.elim
  | succ k =>
    refine stepS r2 c2 fun F3 m3 b v S3 H3 l3 p3 r3 e3 c3 => ?_
    cases e3
    cases b with
    | false => exact c3 F3 m3 σ2 H3 Le.refl (List.prefix_refl m3) r3
    | true =>
      refine ⟨fun σ H => ∃ F4 m4 ρ4 S4, R X.K F4 Hd m4 ρ4 S4 σ H ∧ contS X.K X.mg Wc F4 Hd m4 D (whileN t fb k ρ4 S4), fun σ' H' h => ⟨k, Nat.lt_succ_self k, h⟩, F3, Hd, m3, ρ2, S3, r3, ?_⟩
      have c3 : contS X.K X.mg Wc F3 Hd m3 D (turnF (fb ρ2 S3) (whileN t fb k)) := c3
      cases q2 : fb ρ2 S3 with
      | nx ρ4 S4 =>
        rw [q2] at c3
        exact fun F4 m4 σ4 H4 l4 p4 r5 => ⟨F4, m4, ρ4, S4, r5, contS.mono l4 p4 c3⟩
      | ct ρ4 S4 =>
        rw [q2] at c3
        exact fun F4 m4 σ4 H4 l4 p4 r5 => ⟨F4, m4, ρ4, S4, r5, contS.mono l4 p4 c3⟩
      | bk ρ4 S4 => rw [q2] at c3; exact c3
      | rt y S4 => rw [q2] at c3; cases y <;> exact c3
      | ex z ρ4 S4 => rw [q2] at c3; exact c3
      | bad => rw [q2] at c3; exact c3
end
end L2.Q
/-! Layer Q, part E: list comprehensions. -/
namespace L2.Q
open PySem PySem.Spec PyProof.Rows

/-- no exception is let out of a comprehension -/
abbrev W0 : WX := fun _ _ _ _ => False
theorem tk0 {X : Cx} : Takes X W0 := takes0
def isOwn : Option Sl → Bool
  | some (.own _) => true
  | _ => false
def lcL (g : FG) (t : FB) (fe : FE) (ρ : List Sl) : List W → List Ob → Res (List W)
  | [], S => .ok [] S
  | x :: r, S => match g x ρ with
    | none => .bad
    | some ρ1 => match t ρ1 S with
      | .ok c S1 => if c = true then (match fe ρ1 S1 with
          | .ok y S2 => (lcL g t fe ρ r S2).bind fun ys S3 => .ok (y :: ys) S3
          | _ => .bad) else lcL g t fe ρ r S1
      | _ => .bad
def fLc (fi : FA) (own : List Nat) (g : FG) (t : FB) (fe : FE) : FO := fun ρ S => (fi ρ S).bind fun xs S1 =>
  if own.any (fun i => isOwn ρ[i]?) = true then .bad else (lcL g t fe (unset ρ own) xs S1).bind fun ys S2 => .ok (.lst ys) S2
section
variable {K : PySem.W.Frag} {Fr Fr' Hd : Hp} {μ μ' : List Addr} {ρ : List Sl} {S S' : List Ob} {σ : St} {H H' : Hp}
theorem unset_out {own : List Nat} {j : Nat} (h : j ∉ own) : (unset ρ own)[j]? = ρ[j]? := by rw [unset_get, if_neg h]
theorem R.wiped (r : R K Fr Hd μ ρ S σ H) : ∀ own : List Nat, R K Fr Hd μ (unset ρ own) S (wipe σ own) H
  | [] => r
  | v :: vs => (R.wiped r vs).setUn
/-- back from a block -/
theorem R.unwipe {own : List Nat} (r : R K Fr Hd μ ρ S σ H) (h : own.any (fun i => isOwn ρ[i]?) = false) (l : Le Fr Fr') (p : μ <+: μ') (r' : R K Fr' Hd μ' (unset ρ own) S' (wipe σ own) H') : R K Fr' Hd μ' ρ S' σ H' := by
  have no : ∀ (i : Nat) (o : Ob), i ∈ own → ρ[i]? ≠ some (.own o) := fun i o hi e => by
    have := List.any_eq_false.mp h i hi
    rw [e] at this
    exact this rfl
  have out : ∀ i, i ∉ own → (wipe σ own)[i]? = σ[i]? := fun i hi => by rw [wipe_get, if_neg hi]
  refine ⟨r'.b, r.s.len, fun i x e => ?_, fun i j a h1 h2 => ?_⟩
  · by_cases hi : i ∈ own
    · cases x with
      | un => trivial
      | w x => obtain ⟨u, e1, e2⟩ := r.s.sl i _ e; exact ⟨u, e1, e2.mono l p⟩
      | own o => exact absurd e (no i o hi)
    · have q := r'.s.sl i x (by rw [unset_out hi]; exact e)
      rw [out i hi] at q
      exact q
  · have one : ∀ i a, Owns ρ σ i a → Owns (unset ρ own) (wipe σ own) i a := fun i a ⟨⟨o, e1⟩, e2⟩ => by
      have hi : i ∉ own := fun hi => no i o hi e1
      exact ⟨⟨o, by rw [unset_out hi]; exact e1⟩, by rw [out i hi]; exact e2⟩
    exact r'.s.inj i j a (one i a h1) (one j a h2)
end
section
variable {X : Cx} {Wc : WX} {elt tg iter : Expr} {ifs : List Expr} {scope : Scope} {own : List (Str × Nat)} {pos : Pos} {fi : FA} {g : FG} {t : FB} {fe : FE}
/-- the tests of a clause -/
theorem ts_nil : PTs X [] (LB X Wc fun _ S => .ok true S) := ⟨fun pins s σ H Q I h => pts_nil.run pins s σ H Q I (by
  obtain ⟨F, Hd, m, ρ, S, r, c⟩ := h
  exact c F m true H Le.refl (List.prefix_refl m) r rfl)⟩
theorem ts_one {c : Expr} (h : PT X c (LB X Wc t)) : PTs X [c] (LB X Wc t) := pts_one h
theorem hide_upd {K : PySem.W.Frag} {Fr Hd : Hp} {μ : List Addr} {ρ : List Sl} {S : List Ob} {σ : St} {H : Hp} {D : Addr} {o o' : HO} (r : R K Fr (upd Hd D o) μ ρ S σ H) (hD : Hd D = none) : R K Fr (upd Hd D o') μ ρ S σ (upd H D o') := by
  obtain ⟨h1, h2⟩ := r.b.hd D o upd_same
  have r0 : R K Fr Hd μ ρ S σ H := r.unhide (Le.upd hD)
  have hm : D ∉ μ := fun hm => by
    obtain ⟨_, _, _, h4, _⟩ := r.b.muH hm
    rw [upd_same] at h4; cases h4
  have ho : ∀ i, ¬ Owns ρ σ i D := fun i q => by
    obtain ⟨_, _, _, h4, _⟩ := r.owns q
    rw [upd_same] at h4; cases h4
  have f : Free Fr Hd μ ρ σ D := ⟨h2, hD, hm, ho⟩
  exact (r0.upd f).hide upd_same f
theorem lc_imp {σ : St} {H : Hp} {Q : VK} (hgo : GO (own.map (·.2)) g) (h : LO X Wc (fLc fi (own.map (·.2)) g t fe) σ H Q) :
    tLc (LI X Wc fi) (liftG X.K (own.map (·.2)) g) (LB X W0 t) (LE X W0 fe) (own.map (·.2)) σ H Q := by
  obtain ⟨F, Hd, m, ρ, S, r, c⟩ := h
  refine ⟨F, Hd, m, ρ, S, r, ?_⟩
  unfold fLc at c
  cases e : fi ρ S with
  | bad => rw [e] at c; exact c.elim
  | err z S1 => rw [e] at c; exact c
  | ok xs S1 =>
    rw [e] at c
    intro F1 Hd1 m1 H1 J l1 d1 p1 r1 wk hxs D nD
    have c : cont X.K X.mg Wc (repO X.K) F Hd m ρ σ Q (if (own.map (·.2)).any (fun i => isOwn ρ[i]?) = true then .bad else (lcL g t fe (unset ρ (own.map (·.2))) xs S1).bind fun ys S2 => .ok (.lst ys) S2) := c
    cases hno : (own.map (·.2)).any (fun i => isOwn ρ[i]?) with
    | true => rw [if_pos hno] at c; exact c.elim
    | false =>
      rw [if_neg (by rw [hno]; exact Bool.false_ne_true)] at c
      have fD := r1.new nD
      refine lc_it wk (fun i H => ∃ F2 m2 S2 ys vs, Le F1 F2 ∧ m1 <+: m2 ∧ R X.K F2 (upd Hd1 D (.lst vs)) m2 (unset ρ (own.map (·.2))) S2 (wipe σ (own.map (·.2))) H ∧ RepWs X.K F2 m2 ys vs ∧ ys.length ≤ i ∧
        cont X.K X.mg Wc (repO X.K) F2 Hd m2 ρ σ Q ((lcL g t fe (unset ρ (own.map (·.2))) (xs.drop i) S2).bind fun zs S3 => .ok (.lst (ys ++ zs)) S3)) ?_ ?_ ?_ ?_
      · refine ⟨F1, m1, S1, [], [], Le.refl, List.prefix_refl m1, ?_, .nil, Nat.zero_le _, ?_⟩
        · exact ((r1.upd fD).hide upd_same fD).wiped _
        · exact cont.mono l1 p1 (fun _ _ z => z) c
      · rintro i H2 hi ⟨F2, m2, S2, ys, vs, l2, p2, r2, e2, n2, c2⟩
        refine ⟨l2.trans r2.b.fr, fun a o q => (r2.b.hd a o ?_).1⟩
        rw [upd_ne (ne_of_none q fD.hd)]
        exact q
      · rintro i v H2 H3 hi ⟨F2, m2, S2, ys, vs, l2, p2, r2, e2, n2, c2⟩ y
        obtain ⟨F3, x, ex, l3, r3, e3⟩ := yield_ok r2 l2 p2 y
        rw [List.drop_eq_getElem_cons hi] at c2
        have ex' : xs[i] = x := by rw [List.getElem?_eq_getElem hi] at ex; exact Option.some.inj ex
        rw [ex'] at c2
        unfold lcL at c2
        cases q : g x (unset ρ (own.map (·.2))) with
        | none => simp only [q] at c2; exact c2.elim
        | some ρ3 =>
          simp only [q] at c2
          refine ⟨F3, upd Hd1 D (.lst vs), m2, unset ρ (own.map (·.2)), S2, x, r3, e3, ρ3, q, fun σ3 w3 r4 => ⟨?_, F3, upd Hd1 D (.lst vs), m2, ρ3, S2, r4, ?_⟩⟩
          · rw [w3]
            apply List.ext_getElem?
            intro j
            rw [wipe_get, wipe_length, wipe_get]
            split <;> rfl
          have hw : ∀ {F4 : Hp} {m4 : List Addr} {S4 : List Ob} {H4 : Hp}, R X.K F4 (upd Hd1 D (.lst vs)) m4 ρ3 S4 σ3 H4 → R X.K F4 (upd Hd1 D (.lst vs)) m4 (unset ρ (own.map (·.2))) S4 (wipe σ (own.map (·.2))) H4 := fun {F4 m4 S4 H4} r5 => by
            have r6 := r5.wiped (own.map (·.2))
            have e1 : unset ρ3 (own.map (·.2)) = unset ρ (own.map (·.2)) := by
              rw [hgo _ _ _ q]
              apply List.ext_getElem?
              intro j
              rw [unset_get, unset_len, unset_get]
              split <;> rfl
            have e2 : wipe σ3 (own.map (·.2)) = wipe σ (own.map (·.2)) := by
              rw [w3]
              apply List.ext_getElem?
              intro j
              rw [wipe_get, wipe_length, wipe_get]
              split <;> rfl
            rw [e1, e2] at r6
            exact r6
          cases q2 : t ρ3 S2 with
          | bad => simp only [q2] at c2; exact c2.elim
          | err z S4 => simp only [q2] at c2; exact c2.elim
          | ok b S4 =>
            simp only [q2] at c2
            rintro F4 m4 b' H4 l4 p4 r5 rfl
            cases b with
            | false =>
              rw [if_neg Bool.false_ne_true] at c2 ⊢
              exact ⟨F4, m4, S4, ys, vs, l2.trans (l3.trans l4), p2.trans p4, hw r5, e2.mono (l3.trans l4) p4, by omega, cont.mono (l3.trans l4) p4 (fun _ _ z => z) c2⟩
            | true =>
              rw [if_pos rfl] at c2 ⊢
              refine ⟨F4, upd Hd1 D (.lst vs), m4, ρ3, S4, r5, ?_⟩
              cases q3 : fe ρ3 S4 with
              | bad => simp only [q3] at c2; exact c2.elim
              | err z S5 => simp only [q3] at c2; exact c2.elim
              | ok w S5 =>
                simp only [q3, bind_assoc, bind_ok] at c2
                intro F5 m5 v5 H5 l5 p5 r6 e6
                have hlv := Paired.length e2
                refine ⟨vs, (r6.b.hd D _ upd_same).1, by omega, F5, m5, S5, ys ++ [w], vs ++ [v5], l2.trans (l3.trans (l4.trans l5)), p2.trans (p4.trans p5), hide_upd (hw r6) fD.hd, ?_, by simp; omega, ?_⟩
                · exact Paired.snoc (e2.mono (l3.trans (l4.trans l5)) (p4.trans p5)) e6
                · have c3 := cont.mono (l3.trans (l4.trans l5)) (p4.trans p5) (fun _ _ z => z) c2
                  simpa using c3
      · rintro H2 ⟨F2, m2, S2, ys, vs, l2, p2, r2, e2, n2, c2⟩
        rw [List.drop_length] at c2
        have c2 : cont X.K X.mg Wc (repO X.K) F2 Hd m2 ρ σ Q (.ok (.lst (ys ++ [])) S2) := c2
        rw [List.append_nil] at c2
        obtain ⟨h1, h2⟩ := r2.b.hd D _ upd_same
        have r3 : R X.K F2 Hd1 m2 (unset ρ (own.map (·.2))) S2 (wipe σ (own.map (·.2))) H2 := r2.unhide (Le.upd fD.hd)
        have r4 := R.unwipe r1 hno l2 p2 r3
        have r5 := r4.unhide d1
        have hm : D ∉ m2 := fun hm => by
          obtain ⟨_, _, _, h4, _⟩ := r2.b.muH hm
          rw [upd_same] at h4; cases h4
        have ho : ∀ i, ¬ Owns ρ σ i D := fun i q => by
          obtain ⟨_, h3, _⟩ := r1.owns q
          rw [nD] at h3; cases h3
        exact c2 F2 m2 (.ref D) H2 Le.refl (List.prefix_refl m2) r5 ⟨D, .lst vs, rfl, h1, ⟨vs, rfl, e2⟩, h2, none_le d1 fD.hd, hm, ho⟩
/-- [elt for tg in iter if ..], a new list -/
theorem q_lc (hc : X.calm = true) (hN : X.N.Nodup) (hgo : GO (own.map (·.2)) g) (hi : PI X tg iter (LI X Wc fi)) (ok : BlkOk X.N X.env.scope scope own)
    (hg : ∀ (s : Shared) (H : Hp) (C : Addr) (cl : List (Str × Addr)) (fp : List Addr), PG (X.blk s H scope (compEnvC scope cl C X.env) fp) tg (liftG X.K (own.map (·.2)) g))
    (ht : ∀ (s : Shared) (H : Hp) (C : Addr) (cl : List (Str × Addr)) (fp : List Addr), PTs (X.blk s H scope (compEnvC scope cl C X.env) fp) ifs (LB X W0 t))
    (he : ∀ (s : Shared) (H : Hp) (C : Addr) (cl : List (Str × Addr)) (fp : List Addr), PE (X.blk s H scope (compEnvC scope cl C X.env) fp) elt (LE X W0 fe)) (hs : ∀ x, foldedSetIterable iter X.env x = pure x := by intro _; rfl) :
    PE X (.ListComp elt [⟨tg, iter, ifs, 0⟩] scope pos) (LO X Wc (fLc fi (own.map (·.2)) g t fe)) := PE.imp (pe_lc hc hN hi ok hg ht he hs) fun _ _ _ h => lc_imp hgo h
/-- name = [..] on one line -/
theorem s_setLc {i : Nat} {y : Str} {py spos : Pos} (hc : X.calm = true) (hN : X.N.Nodup) (hy : X.N[i]? = some y) (hyl : X.env.scope.names.lookup y = some .local)
    (hsw : swapsWith (.ListComp elt [⟨tg, iter, ifs, 0⟩] scope pos) (some (.Name y py)) spos.line X.env = pure true) (hgo : GO (own.map (·.2)) g) (hi : PI X tg iter (LI X Wc fi)) (ok : BlkOk X.N X.env.scope scope own)
    (hg : ∀ (s : Shared) (H : Hp) (C : Addr) (cl : List (Str × Addr)) (fp : List Addr), PG (X.blk s H scope (compEnvC scope cl C X.env) fp) tg (liftG X.K (own.map (·.2)) g))
    (ht : ∀ (s : Shared) (H : Hp) (C : Addr) (cl : List (Str × Addr)) (fp : List Addr), PTs (X.blk s H scope (compEnvC scope cl C X.env) fp) ifs (LB X W0 t))
    (he : ∀ (s : Shared) (H : Hp) (C : Addr) (cl : List (Str × Addr)) (fp : List Addr), PE (X.blk s H scope (compEnvC scope cl C X.env) fp) elt (LE X W0 fe)) (hs : ∀ x, foldedSetIterable iter X.env x = pure x := by intro _; rfl) :
    PS X (.Assign [.Name y py] (.ListComp elt [⟨tg, iter, ifs, 0⟩] scope pos) spos) (LS X Wc (fSetO i (fLc fi (own.map (·.2)) g t fe))) := PS.imp (ps_setLc hc hN hy hyl hsw hi ok hg ht he hs) fun D σ H h => by
  have q := setO_imp h
  exact lc_imp hgo q
end
end L2.Q
/-! Layer Q, part F: the operators' functions. -/
namespace L2.Q
open PySem PySem.Spec PyProof.Rows

/-- what a value's kind is, for the heap's rules -/
theorem rep_cases {K : PySem.W.Frag} {Fr : Hp} {μ : List Addr} {x : PyData} {v : V} (r : Dp K Fr v x) :
    (x = .none ∧ v = .non) ∨ (∃ b, x = .bool b ∧ v = .bl b) ∨ (∃ i, x = .int i ∧ v = .int i) ∨ (∃ z, x = .str z ∧ v = .str z) ∨
    (∃ a vs ds, x = .list ds ∧ v = .ref a ∧ SqL K Fr a vs ∧ DpAll K Fr vs ds) ∨ (∃ a vs ds, x = .tuple ds ∧ v = .ref a ∧ SqT K Fr a vs ∧ DpAll K Fr vs ds) := by
  cases x with
  | none => cases r; exact .inl ⟨rfl, rfl⟩
  | bool b => cases r; exact .inr (.inl ⟨b, rfl, rfl⟩)
  | int i => cases r; exact .inr (.inr (.inl ⟨i, rfl, rfl⟩))
  | str z => cases r; exact .inr (.inr (.inr (.inl ⟨z, rfl, rfl⟩)))
  | list ds => cases r with | @lst a vs _ h1 h2 => exact .inr (.inr (.inr (.inr (.inl ⟨a, vs, ds, rfl, rfl, h1, h2⟩))))
  | tuple ds => cases r with | @tup a vs _ h1 h2 => exact .inr (.inr (.inr (.inr (.inr ⟨a, vs, ds, rfl, rfl, h1, h2⟩))))
  | dict kvs => cases r

section
variable {X : Cx} {Wc : WX} {Fr Hd : Hp} {μ : List Addr} {ρ : List Sl} {S : List Ob} {σ : St} {H : Hp}
theorem rt {Q : VK} {x : W} {v : V} (r : R X.K Fr Hd μ ρ S σ H) (c : cont X.K X.mg Wc (repE X.K) Fr Hd μ ρ σ Q (.ok x S)) (e : RepW X.K Fr μ x v) : Q v H := c Fr μ v H Le.refl (List.prefix_refl μ) r e
end
/-- two ints -/
def oI (C : Int → Int → Bool) (g : Int → Int → PyData) : W → W → List Ob → Res W := fun x y S => match x, y with
  | .d (.int i), .d (.int j) => if C i j = true then .ok (.d (g i j)) S else .bad
  | _, _ => .bad
theorem oI_bad {C : Int → Int → Bool} {g : Int → Int → PyData} {x y : W} {S : List Ob} (h : (∀ i, x ≠ .d (.int i)) ∨ ∀ i, y ≠ .d (.int i)) : oI C g x y S = .bad := by
  unfold oI
  split
  · rcases h with h | h
    · exact absurd rfl (h _)
    · exact absurd rfl (h _)
  · rfl
section
variable {X : Cx} {Wc : WX}
theorem f_int {C : Int → Int → Bool} {C' : Int → Int → Prop} {g : Int → Int → PyData} {g' : Int → Int → V} (hC : ∀ i j, C i j = true → C' i j) (hg : ∀ (F : Hp) i j, Dp X.K F (g' i j) (g i j)) : OpF X Wc (rI C' g') (oI C g) := by
  intro Fr Hd μ ρ S σ H x y v u Q r ex ey c
  rcases rep_int ex with ⟨i, rfl, rfl⟩ | n
  · rcases rep_int ey with ⟨j, rfl, rfl⟩ | n
    · unfold oI at c
      dsimp only at c
      split at c
      · rename_i h
        exact ⟨i, j, rfl, rfl, hC i j h, rt r c (hg Fr i j)⟩
      · exact c.elim
    · rw [oI_bad (.inr n)] at c; exact c.elim
  · rw [oI_bad (.inl n)] at c; exact c.elim
theorem f_int0 {C : Int → Int → Bool} {g : Int → Int → PyData} {g' : Int → Int → V} (hg : ∀ (F : Hp) i j, Dp X.K F (g' i j) (g i j)) : OpF X Wc (rI0 g') (oI C g) := by
  intro Fr Hd μ ρ S σ H x y v u Q r ex ey c
  have q := f_int (X := X) (Wc := Wc) (C := C) (C' := fun _ _ => True) (g := g) (g' := g') (fun _ _ _ => trivial) hg Fr Hd μ ρ S σ H x y v u Q r ex ey c
  obtain ⟨i, j, e1, e2, _, q⟩ := q
  exact ⟨i, j, e1, e2, q⟩
def yes : Int → Int → Bool := fun _ _ => true
/-- a product that Python's ints can hold here -/
def mulC (i j : Int) : Bool := decide (i.natAbs.log2 + j.natAbs.log2 < 100000000)
def CMulX (i j : Int) : Prop := i.natAbs.log2 + j.natAbs.log2 < 100000000
theorem CMulX.ok {i j : Int} (h : CMulX i j) : IntMulOk i j := by
  have b : ∀ x : Int, Builtin.Int.intBits x ≤ x.natAbs.log2 + 1 := fun x => by
    unfold Builtin.Int.intBits
    split <;> omega
  have h1 := b i
  have h2 := b j
  have h3 : i.natAbs.log2 + j.natAbs.log2 < 100000000 := h
  have e : bitsLine = 134217728 := by decide
  intro z
  have z2 := (Bool.and_eq_true_iff.mp z).2
  unfold Builtin.Int.intTooBig at z2
  have z3 := of_decide_eq_true z2
  rw [e] at z3
  omega
theorem op_mulX {X : Cx} : OpR X (binaryOp .Mult) (rI CMulX fun i j => .int (i * j)) := opI fun _ _ _ _ _ _ _ hc q => mul_int q hc.ok
def divC (_ j : Int) : Bool := decide (0 < j) && decide (j.natAbs.log2 < 9000)
def modC (_ j : Int) : Bool := decide (0 < j)
def powC (i j : Int) : Bool := decide (0 ≤ j) && decide (j ≤ 1000000) && decide (i.natAbs < 2 ^ 64)
abbrev oSub := oI yes fun i j => .int (i - j)
abbrev oMul := oI mulC fun i j => .int (i * j)
abbrev oDiv := oI divC fun i j => .int (i / j)
abbrev oMod := oI modC fun i j => .int (i % j)
abbrev oPow := oI powC fun i j => .int (i ^ j.toNat)
abbrev oBAnd := oI yes fun i j => .int (Builtin.bitAnd i j)
abbrev oBXor := oI yes fun i j => .int (Builtin.bitXor i j)
abbrev oBOr := oI yes fun i j => .int (Builtin.bitOr i j)
abbrev oLt := oI yes fun i j => .bool (decide (i < j))
abbrev oLe := oI yes fun i j => .bool (decide (i ≤ j))
abbrev oGt := oI yes fun i j => .bool (decide (j < i))
abbrev oGe := oI yes fun i j => .bool (decide (j ≤ i))
theorem f_sub : OpF X Wc (rI0 fun i j => .int (i - j)) oSub := f_int0 fun _ _ _ => .int _
theorem f_mul : OpF X Wc (rI CMulX fun i j => .int (i * j)) oMul := f_int (fun i j h => show _ < _ from of_decide_eq_true h) fun _ _ _ => .int _
theorem f_div : OpF X Wc (rI CDivW fun i j => .int (i / j)) oDiv := f_int (fun i j h => by
  unfold divC at h
  rw [Bool.and_eq_true] at h
  exact ⟨of_decide_eq_true h.1, of_decide_eq_true h.2⟩) fun _ _ _ => .int _
theorem f_mod : OpF X Wc (rI (fun _ j => 0 < j) fun i j => .int (i % j)) oMod := f_int (fun i j h => of_decide_eq_true h) fun _ _ _ => .int _
theorem f_pow : OpF X Wc (rI CPow fun i j => .int (i ^ j.toNat)) oPow := f_int (fun i j h => by
  unfold powC at h
  rw [Bool.and_eq_true, Bool.and_eq_true] at h
  exact ⟨of_decide_eq_true h.1.1, of_decide_eq_true h.1.2, of_decide_eq_true h.2⟩) fun _ _ _ => .int _
theorem f_band : OpF X Wc (rI0 fun i j => .int (Builtin.bitAnd i j)) oBAnd := f_int0 fun _ _ _ => .int _
theorem f_bxor : OpF X Wc (rI0 fun i j => .int (Builtin.bitXor i j)) oBXor := f_int0 fun _ _ _ => .int _
theorem f_lt : OpF X Wc (rI0 fun i j => .bl (decide (i < j))) oLt := f_int0 fun _ _ _ => .bl _
theorem f_le : OpF X Wc (rI0 fun i j => .bl (decide (i ≤ j))) oLe := f_int0 fun _ _ _ => .bl _
theorem f_gt : OpF X Wc (rI0 fun i j => .bl (decide (j < i))) oGt := f_int0 fun _ _ _ => .bl _
theorem f_ge : OpF X Wc (rI0 fun i j => .bl (decide (j ≤ i))) oGe := f_int0 fun _ _ _ => .bl _
/-- + of ints and of tuples -/
def oAdd : W → W → List Ob → Res W := fun x y S => match x, y with
  | .d (.int i), .d (.int j) => .ok (.d (.int (i + j))) S
  | .d (.tuple xs), .d (.tuple ys) => if xs.length + ys.length ≤ 16777216 then .ok (.d (.tuple (xs ++ ys))) S else .bad
  | _, _ => .bad
theorem dps_app {K : PySem.W.Frag} {F : Hp} : ∀ {ds es : List PyData} {vs us : List V}, DpAll K F vs ds → DpAll K F us es → DpAll K F (vs ++ us) (ds ++ es)
  | [], _, _, _, h, k => by cases h; exact k
  | d :: ds, _, _, _, h, k => by
    cases h with
    | cons h1 h2 => exact .cons h1 (dps_app h2 k)
theorem f_add : OpF X Wc (fun x y H Q => rI0 (fun i j => .int (i + j)) x y H Q ∨ rCatA X.K x y H Q) oAdd := by
  intro Fr Hd μ ρ S σ H x y v u Q r ex ey c
  cases x with
  | ref n => exact c.elim
  | d x =>
    cases y with
    | ref n => cases x <;> exact c.elim
    | d y =>
      rcases rep_cases (μ := μ) ex with ⟨rfl, rfl⟩ | ⟨b, rfl, rfl⟩ | ⟨i, rfl, rfl⟩ | ⟨z, rfl, rfl⟩ | ⟨a, vs, ds, rfl, rfl, h1, h2⟩ | ⟨a, vs, ds, rfl, rfl, h1, h2⟩
      · exact c.elim
      · exact c.elim
      · cases y with
        | int j => cases ey; exact .inl ⟨i, j, rfl, rfl, rt r c (Dp.int _)⟩
        | none => exact c.elim
        | bool b => exact c.elim
        | str z => exact c.elim
        | list z => exact c.elim
        | tuple z => exact c.elim
        | dict z => exact c.elim
      · exact c.elim
      · exact c.elim
      · cases y with
        | tuple es =>
          cases ey with
          | @tup b us _ k1 k2 =>
            have c : cont X.K X.mg Wc (repE X.K) Fr Hd μ ρ σ Q (if ds.length + es.length ≤ 16777216 then .ok (.d (.tuple (ds ++ es))) S else .bad) := c
            split at c
            · rename_i hl
              have e1 := DpAll.len h2
              have e2 := DpAll.len k2
              have all : DpAll X.K Fr (vs ++ us) (ds ++ es) := dps_app h2 k2
              refine .inr ⟨a, b, vs, us, rfl, rfl, Le.sqT r.b.fr h1, Le.sqT r.b.fr k1, by rw [sizeLine_eq]; omega, fun q => ?_, fun q1 q2 => ?_, fun _ _ p hp => new_tup r all hp c⟩
              · subst q
                have : ds = [] := by cases ds with | nil => rfl | cons a b => simp at e1
                subst this
                exact rt r c (Dp.tup k1 k2)
              · subst q2
                have : es = [] := by cases es with | nil => rfl | cons a b => simp at e2
                subst this
                rw [List.append_nil] at c
                exact rt r c (Dp.tup h1 h2)
            · exact c.elim
        | none => exact c.elim
        | bool b => exact c.elim
        | str z => exact c.elim
        | list z => exact c.elim
        | int z => exact c.elim
        | dict z => exact c.elim
theorem op_addQ : OpR X (binaryOp .Add) (fun x y H Q => rI0 (fun i j => .int (i + j)) x y H Q ∨ rCatA X.K x y H Q) := OpR.or op_add op_catA
/-- == and != of data -/
def oEq : W → W → List Ob → Res W := fun x y S => match x, y with
  | .d x, .d y => if SeqAt.shaped x && SeqAt.shaped y then .ok (.d (.bool (PyData.eqv x y))) S else .bad
  | _, _ => .bad
def oNe : W → W → List Ob → Res W := fun x y S => match x, y with
  | .d x, .d y => if SeqAt.shaped x && SeqAt.shaped y then .ok (.d (.bool (!PyData.eqv x y))) S else .bad
  | _, _ => .bad
theorem f_eq : OpF X Wc (rEqD X.K) oEq := by
  intro Fr Hd μ ρ S σ H x y v u Q r ex ey c
  cases x with
  | ref n => exact c.elim
  | d x =>
    cases y with
    | ref n => exact c.elim
    | d y =>
      unfold oEq at c
      dsimp only at c
      split at c
      · rename_i h
        rw [Bool.and_eq_true] at h
        exact ⟨x, y, Le.dp r.b.fr _ _ ex, Le.dp r.b.fr _ _ ey, h.1, h.2, rt r c (Dp.bl _)⟩
      · exact c.elim
theorem f_ne : OpF X Wc (rNeD X.K) oNe := by
  intro Fr Hd μ ρ S σ H x y v u Q r ex ey c
  cases x with
  | ref n => exact c.elim
  | d x =>
    cases y with
    | ref n => exact c.elim
    | d y =>
      unfold oNe at c
      dsimp only at c
      split at c
      · rename_i h
        rw [Bool.and_eq_true] at h
        exact ⟨x, y, Le.dp r.b.fr _ _ ex, Le.dp r.b.fr _ _ ey, h.1, h.2, rt r c (Dp.bl _)⟩
      · exact c.elim
/-- is None, is not None -/
def isNon : W → Bool
  | .d .none => true
  | _ => false
theorem isNon_rep {K : PySem.W.Frag} {μ : List Addr} {Fr : Hp} {x : W} {v : V} (e : RepW K Fr μ x v) : decide (v = .non) = isNon x := by
  cases x with
  | ref n => obtain ⟨a, _, rfl⟩ := e; rfl
  | d x =>
    rcases rep_cases (μ := μ) e with ⟨rfl, rfl⟩ | ⟨b, rfl, rfl⟩ | ⟨i, rfl, rfl⟩ | ⟨z, rfl, rfl⟩ | ⟨a, vs, ds, rfl, rfl, h1, h2⟩ | ⟨a, vs, ds, rfl, rfl, h1, h2⟩ <;> rfl
def oIsN : W → List Ob → Res W := fun x S => .ok (.d (.bool (isNon x))) S
def oNotN : W → List Ob → Res W := fun x S => .ok (.d (.bool (!isNon x))) S
variable {a b : Expr} {fa fb : FE} {pos : Pos}
theorem q_isN {j p'} (ha : PE X a (LE X Wc fa)) : PE X (.Compare a [.Is] [.Constant .none j p'] pos) (LE X Wc (fUn oIsN fa)) := PE.imp (pe_cmp (pc_isN ha) rfl) fun σ H Q h => by
  obtain ⟨F, D, m, ρ, S, r0, c⟩ := h
  refine step r0 c fun F1 m1 x v S1 H1 l1 p1 r1 e1 c1 => ?_
  show Q (.bl (decide (v = .non))) H1
  rw [isNon_rep e1]
  exact rt r1 c1 (Dp.bl _)
theorem q_notN {j p'} (ha : PE X a (LE X Wc fa)) : PE X (.Compare a [.IsNot] [.Constant .none j p'] pos) (LE X Wc (fUn oNotN fa)) := PE.imp (pe_cmp (pc_notN ha) rfl) fun σ H Q h => by
  obtain ⟨F, D, m, ρ, S, r0, c⟩ := h
  refine step r0 c fun F1 m1 x v S1 H1 l1 p1 r1 e1 c1 => ?_
  show Q (.bl (!decide (v = .non))) H1
  rw [isNon_rep e1]
  exact rt r1 c1 (Dp.bl _)
theorem t_isN {j p'} (ha : PE X a (LE X Wc fa)) : PT X (.Compare a [.Is] [.Constant .none j p'] pos) (LB X Wc (fT (fUn oIsN fa))) := PT.imp (pt_cmp (pc_isN ha) rfl) fun σ H Q h => by
  have q := t_imp h
  obtain ⟨F, D, m, ρ, S, r0, c⟩ := q
  refine step r0 c fun F1 m1 x v S1 H1 l1 p1 r1 e1 c1 => ?_
  have q := rt r1 c1 (Dp.bl _)
  rw [← isNon_rep e1] at q
  exact q
theorem t_notN {j p'} (ha : PE X a (LE X Wc fa)) : PT X (.Compare a [.IsNot] [.Constant .none j p'] pos) (LB X Wc (fT (fUn oNotN fa))) := PT.imp (pt_cmp (pc_notN ha) rfl) fun σ H Q h => by
  have q := t_imp h
  obtain ⟨F, D, m, ρ, S, r0, c⟩ := q
  refine step r0 c fun F1 m1 x v S1 H1 l1 p1 r1 e1 c1 => ?_
  have q := rt r1 c1 (Dp.bl _)
  rw [← isNon_rep e1] at q
  exact q
/-- - of an int -/
def oNeg : W → List Ob → Res W := fun x S => match x with
  | .d (.int i) => .ok (.d (.int (-i))) S
  | _ => .bad
theorem f_neg : UnF X Wc (rU fun i => .int (-i)) oNeg := by
  intro Fr Hd μ ρ S σ H x v Q r ex c
  rcases rep_int ex with ⟨i, rfl, rfl⟩ | n
  · exact ⟨i, rfl, rt r c (Dp.int _)⟩
  · unfold oNeg at c
    split at c
    · exact absurd rfl (n _)
    · exact c.elim
/-- a < b < c, the middle asked once -/
def fChain (op op' : W → W → List Ob → Res W) (fa fb fc : FE) : FE := fun ρ S => (fa ρ S).bind fun x S1 => (fb ρ S1).bind fun y S2 => ((op x y S2).bind toB).bind fun c S3 => if c = true then (fc ρ S3).bind fun z S4 => op' y z S4 else .ok (.d (.bool false)) S3
theorem q_chainI {op op' : CmpOp} {C C' : Int → Int → Bool} {g g' : Int → Int → Bool} {c : Expr} {fc : FE} (ho : OpR X (compareOp op) (rI0 fun i j => .bl (g i j))) (ho' : OpR X (compareOp op') (rI0 fun i j => .bl (g' i j)))
    (ha : PE X a (LE X Wc fa)) (hb : PE X b (LE X Wc fb)) (hc : PE X c (LE X Wc fc)) (hm : lastMarks [op, op'] [b, c] = false := by rfl) :
    PE X (.Compare a [op, op'] [b, c] pos) (LE X Wc (fChain (oI C fun i j => .bool (g i j)) (oI C' fun i j => .bool (g' i j)) fa fb fc)) := PE.imp (pe_chain ho ho' ha hb hc hm) fun σ H Q h => by
  obtain ⟨F, D, m, ρ, S, r0, c⟩ := h
  refine step r0 c fun F1 m1 x v S1 H1 l1 p1 r1 e1 c1 => ?_
  refine step r1 c1 fun F2 m2 y u S2 H2 l2 p2 r2 e2 c2 => ?_
  have e1' := RepW.mono l2 p2 e1
  rcases rep_int e1' with ⟨i, rfl, rfl⟩ | n
  · rcases rep_int e2 with ⟨j, rfl, rfl⟩ | n
    · unfold oI at c2
      dsimp only at c2
      split at c2
      · refine ⟨i, j, rfl, rfl, g i j, rfl, ?_⟩
        have c2 : cont X.K X.mg Wc (repE X.K) F2 D m2 ρ σ Q (if g i j = true then (fc ρ S2).bind fun z S4 => oI C' (fun i j => .bool (g' i j)) (.d (.int j)) z S4 else .ok (.d (.bool false)) S2) := c2
        split at c2
        · rename_i hg
          rw [if_pos hg]
          refine step r2 c2 fun F3 m3 z w S3 H3 l3 p3 r3 e3 c3 => ?_
          exact f_int0 (X := X) (Wc := Wc) (g := fun i j => .bool (g' i j)) (g' := fun i j => .bl (g' i j)) (fun _ _ _ => .bl _) F3 D m3 ρ S3 σ H3 (.d (.int j)) z (.int j) w Q r3 (Dp.int _) e3 c3
        · rename_i hg
          rw [if_neg hg]
          exact rt r2 c2 (Dp.bl _)
      · exact c2.elim
    · rw [oI_bad (.inr n)] at c2; exact c2.elim
  · rw [oI_bad (.inl n)] at c2; exact c2.elim
end
end L2.Q
/-! Layer Q, part G: subscripts, slices, built-in calls, lists. -/
namespace L2.Q
open PySem PySem.Spec PyProof.Rows

/-- a list as it stands now -/
def repL (K : PySem.W.Frag) : Rep (List W) V := fun Fr _ μ _ _ H xs v => ∃ a vs, v = .ref a ∧ SqL K H a vs ∧ RepWs K Fr μ xs vs
abbrev LL (X : Cx) (Wc : WX) (f : FA) : TE := lift X.K X.mg Wc (repL X.K) f
def lstV (x : W) (S : List Ob) : Res (List W) := match x with
  | .d (.list xs) => .ok (xs.map .d) S
  | _ => .bad
def fLv (fa : FE) : FA := fun ρ S => (fa ρ S).bind lstV
def fOwn (i : Nat) : FA := fun ρ S => match ρ[i]? with
  | some (.own (.lst xs)) => .ok xs S
  | some (.w (.d (.list ds))) => .ok (ds.map .d) S
  | _ => .bad
section
variable {X : Cx} {Wc : WX} {a b e e2 : Expr} {es : List Expr} {pos p : Pos} {fa fb : FE} {fo fo2 : FO} {fl1 : FA} {fr : FA}
theorem l_new (h : PE X e (LO X Wc fo)) : PE X e (LL X Wc (fItO fo)) := PE.imp h fun σ H Q h => by
  obtain ⟨F, D, m, ρ, S, r0, c⟩ := h
  refine step r0 c fun F1 m1 x v S1 H1 l1 p1 r1 e1 c1 => ?_
  obtain ⟨p, ho, rfl, h1, h2, h3⟩ := e1
  cases x with
  | dct kvs => exact c1.elim
  | fdc kvs => exact c1.elim
  | lst xs =>
    obtain ⟨vs, rfl, q⟩ := h2
    exact c1 F1 m1 _ H1 Le.refl (List.prefix_refl m1) r1 ⟨p, vs, rfl, .inl (.inl h1), q⟩
theorem l_val (h : PE X e (LE X Wc fa)) : PE X e (LL X Wc (fLv fa)) := PE.imp h fun σ H Q h => by
  obtain ⟨F, D, m, ρ, S, r0, c⟩ := h
  refine step r0 c fun F1 m1 x v S1 H1 l1 p1 r1 e1 c1 => ?_
  cases x with
  | ref n => exact c1.elim
  | d x =>
    cases x with
    | list xs =>
      cases e1 with
      | @lst a vs _ hs ha => exact c1 F1 m1 _ H1 Le.refl (List.prefix_refl m1) r1 ⟨a, vs, rfl, Le.sqL r1.b.fr hs, rep_dats ha⟩
    | none => exact c1.elim
    | bool b => exact c1.elim
    | int i => exact c1.elim
    | str z => exact c1.elim
    | tuple z => exact c1.elim
    | dict z => exact c1.elim
theorem own_lst {Fr Hd : Hp} {μ : List Addr} {ρ : List Sl} {S : List Ob} {σ : St} {H : Hp} (r : R X.K Fr Hd μ ρ S σ H) {i : Nat} {xs : List W} (e : ρ[i]? = some (.own (.lst xs))) :
    ∃ a vs, σ[i]? = some (some (.ref a)) ∧ H a = some (.lst vs) ∧ RepWs X.K Fr μ xs vs := by
  obtain ⟨a, ho, e1, h1, ⟨vs, rfl, q⟩, _⟩ := r.s.sl i _ e
  exact ⟨a, vs, e1, h1, q⟩
theorem l_own {i : Nat} {x : Str} (hN : X.N[i]? = some x) (hv : Vis X.env.scope x) (hd : (x == ("__debug__" : Str)) = false := by decide) (hcd : (x == ("__classdict__" : Str)) = false := by decide) : PE X (.Name x pos) (LL X Wc (fOwn i)) :=
  PE.imp (pe_var hN hv hd hcd) fun σ H Q h => by
  obtain ⟨F, D, m, ρ, S, r, c⟩ := h
  unfold fOwn at c
  split at c
  · rename_i xs e
    obtain ⟨a, vs, e1, h1, q⟩ := own_lst r e
    exact ⟨_, e1, c F m _ H Le.refl (List.prefix_refl m) r ⟨a, vs, rfl, .inl (.inl h1), q⟩⟩
  · rename_i ds e
    obtain ⟨u, e1, ru⟩ := r.s.sl i _ e
    cases ru with
    | @lst a vs _ hs ha => exact ⟨_, e1, c F m _ H Le.refl (List.prefix_refl m) r ⟨a, vs, rfl, Le.sqL r.b.fr hs, rep_dats ha⟩⟩
  · exact c.elim
/-- a list or a tuple now -/
theorem qs_l (h : PE X e (LL X Wc fl1)) : PE X e (LQ X Wc fl1) := PE.imp h fun σ H Q h => by
  obtain ⟨F, D, m, ρ, S, r0, c⟩ := h
  refine ⟨F, D, m, ρ, S, r0, ?_⟩
  cases q : fl1 ρ S with
  | bad => rw [q] at c; exact c
  | err z S1 => rw [q] at c; exact c
  | ok xs S1 =>
    rw [q] at c
    intro F1 m1 v H1 l1 p1 r1 ⟨a, vs, e1, e2, e3⟩
    exact c F1 m1 v H1 l1 p1 r1 ⟨a, vs, e1, .inl e2, e3⟩
theorem qs_v (h : PE X e (LE X Wc fa)) : PE X e (LQ X Wc (fIt fa)) := PE.imp h fun σ H Q h => by
  obtain ⟨F, D, m, ρ, S, r0, c⟩ := h
  refine step r0 c fun F1 m1 x v S1 H1 l1 p1 r1 e1 c1 => ?_
  cases x with
  | ref n => exact c1.elim
  | d x =>
    cases x with
    | tuple xs =>
      cases e1 with
      | @tup a vs _ hs ha => exact c1 F1 m1 _ H1 Le.refl (List.prefix_refl m1) r1 ⟨a, vs, rfl, .inr (Le.sqT r1.b.fr hs), rep_dats ha⟩
    | list xs =>
      cases e1 with
      | @lst a vs _ hs ha => exact c1 F1 m1 _ H1 Le.refl (List.prefix_refl m1) r1 ⟨a, vs, rfl, .inl (Le.sqL r1.b.fr hs), rep_dats ha⟩
    | none => exact c1.elim
    | bool b => exact c1.elim
    | int i => exact c1.elim
    | str z => exact c1.elim
    | dict z => exact c1.elim
/-- len -/
def fLen (f : FA) : FE := fun ρ S => (f ρ S).bind fun xs S1 => .ok (.d (.int xs.length)) S1
theorem q_len (hg : Gl X "len") (hm : X.mg "len" = none) (h : PE X e (LQ X Wc fl1)) (hs : starEach [e] X.env = (false, eval e X.env) :: starEach [] X.env := by rfl) (hpl : (backTo pos (starEach [] X.env)).any (·.1) = false := by rfl) : PE X (.Call (.Name "len" p) [e] [] pos) (LE X Wc (fLen fl1)) :=
  PE.imp (pe_callB call_len_seq hg hm PySem.boot_len (pa_cons h pa_nil hs) (he := hs) (hpl := hpl)) fun σ H Q h => by
  obtain ⟨F, D, m, ρ, S, r0, c⟩ := h
  refine step r0 c fun F1 m1 xs v S1 H1 l1 p1 r1 e1 c1 => ?_
  obtain ⟨a, vs, rfl, e2, e3⟩ := e1
  refine ⟨a, vs, rfl, e2, ?_⟩
  rw [← Paired.length e3]
  exact rt r1 c1 (Dp.int _)
/-- len of a text -/
def fLenS (fa : FE) : FE := fun ρ S => (fa ρ S).bind fun x S1 => match x with
  | .d (.str z) => if z.length ≤ 16777216 then .ok (.d (.int z.length)) S1 else .bad
  | _ => .bad
/-- tuple(..) of a list -/
def fTupL (f : FA) : FE := fun ρ S => (f ρ S).bind mkTup
theorem q_tupL (hg : Gl X "tuple") (hm : X.mg "tuple" = none) (h : PE X e (LL X Wc fl1)) (hs : starEach [e] X.env = (false, eval e X.env) :: starEach [] X.env := by rfl) (hpl : (backTo pos (starEach [] X.env)).any (·.1) = false := by rfl) : PE X (.Call (.Name "tuple" p) [e] [] pos) (LE X Wc (fTupL fl1)) :=
  PE.imp (pe_callTy call_tuple_of hg hm (by decide +kernel) (pa_cons h pa_nil hs) (he := hs) (hpl := hpl)) fun σ H Q h => by
  obtain ⟨F, D, m, ρ, S, r0, c⟩ := h
  refine step r0 c fun F1 m1 xs v S1 H1 l1 p1 r1 e1 c1 => ?_
  obtain ⟨a, vs, rfl, e2, e3⟩ := e1
  refine ⟨a, vs, rfl, .inl ⟨e2, fun q hq => ?_⟩⟩
  unfold mkTup at c1
  cases z : dats xs with
  | none => rw [z] at c1; exact c1.elim
  | some ds => rw [z] at c1; exact new_tup r1 (dats_rep z e3) hq c1
/-- list(..), a new list -/
def fNewL (f : FA) : FO := fun ρ S => (f ρ S).bind fun xs S1 => .ok (.lst xs) S1
theorem new_lst {Fr Hd : Hp} {μ : List Addr} {ρ : List Sl} {S : List Ob} {σ : St} {H : Hp} {Q : VK} {xs : List W} {vs : List V} {q : Addr} (r : R X.K Fr Hd μ ρ S σ H) (e : RepWs X.K Fr μ xs vs) (hq : H q = none)
    (c : cont X.K X.mg Wc (repO X.K) Fr Hd μ ρ σ Q (.ok (.lst xs) S)) : Q (.ref q) (upd H q (.lst vs)) := by
  have f := r.new hq
  exact c Fr μ (.ref q) _ Le.refl (List.prefix_refl μ) (r.upd (o := .lst vs) f) ⟨q, .lst vs, rfl, upd_same, ⟨vs, rfl, e⟩, f⟩
theorem q_listOf (hg : Gl X "list") (hm : X.mg "list" = none) (h : PE X e (LQ X Wc fl1)) (hs : starEach [e] X.env = (false, eval e X.env) :: starEach [] X.env := by rfl) (hpl : (backTo pos (starEach [] X.env)).any (·.1) = false := by rfl) : PE X (.Call (.Name "list" p) [e] [] pos) (LO X Wc (fNewL fl1)) :=
  PE.imp (pe_callTy call_list_of hg hm (by decide +kernel) (pa_cons h pa_nil hs) (he := hs) (hpl := hpl)) fun σ H Q h => by
  obtain ⟨F, D, m, ρ, S, r0, c⟩ := h
  refine step r0 c fun F1 m1 xs v S1 H1 l1 p1 r1 e1 c1 => ?_
  obtain ⟨a, vs, rfl, e2, e3⟩ := e1
  exact ⟨a, vs, rfl, e2, fun q hq => new_lst r1 e3 hq c1⟩
/-- [a, b, ..], a new list -/
theorem q_lst {n : Nat} (h : PA X es (LA X Wc fr)) (hl : LenN fr n) (hn : n ≤ sizeLine := by decide) : PE X (.List es pos) (LO X Wc (fNewL fr)) := PE.imp (pe_lst h) fun σ H Q h => by
  obtain ⟨F, D, m, ρ, S, r0, c⟩ := h
  refine ⟨F, D, m, ρ, S, r0, ?_⟩
  unfold fNewL at c
  cases e : fr ρ S with
  | err x S1 => rw [e] at c; exact c
  | bad => rw [e] at c; exact c
  | ok xs S1 =>
    rw [e] at c
    intro F1 m1 vs H1 l1 p1 r1 e1
    refine ⟨?_, fun q hq => new_lst r1 e1 hq (cont.mono l1 p1 (fun _ _ z => z) c)⟩
    have := Paired.length e1
    have := hl ρ S xs S1 e
    omega
/-- a new list as a value: nobody may change it from now on -/
def fFz (fo : FO) : FE := fun ρ S => (fo ρ S).bind fun o S1 => match frz o with
  | some x => .ok x S1
  | none => .bad
theorem q_fz (h : PE X e (LO X Wc fo)) : PE X e (LE X Wc (fFz fo)) := PE.imp h fun σ H Q h => by
  obtain ⟨F, D, m, ρ, S, r0, c⟩ := h
  refine step r0 c fun F1 m1 x v S1 H1 l1 p1 r1 e1 c1 => ?_
  obtain ⟨p, ho, rfl, h1, h2, h3⟩ := e1
  cases z : frz x with
  | none => simp only [z] at c1; exact c1.elim
  | some y =>
    simp only [z] at c1
    exact c1 _ m1 _ H1 (Le.upd h3.fr) (List.prefix_refl m1) (r1.freeze h1 h3) (frz_rep z h2 h3.fr)
/-- + of two new lists -/
def bools : List W → Option (List Bool)
  | [] => some []
  | .d (.bool b) :: r => (bools r).map (b :: ·)
  | _ :: _ => none
def intsW : List W → Option (List Int)
  | [] => some []
  | .d (.int b) :: r => (intsW r).map (b :: ·)
  | _ :: _ => none
theorem bools_rep {K : PySem.W.Frag} {Fr : Hp} {μ : List Addr} : ∀ {xs : List W} {vs : List V} {bs : List Bool}, bools xs = some bs → RepWs K Fr μ xs vs → vs = bs.map V.bl
  | [], _, _, e, .nil => by cases e; rfl
  | x :: r, _, bs, e, .cons h t => by
    unfold bools at e
    split at e
    · rename_i e1; cases e1
    · rename_i b r' e1
      injection e1 with e1 e2
      subst e1 e2
      cases q : bools r with
      | none => rw [q] at e; cases e
      | some es =>
        rw [q] at e
        cases e
        cases h
        rw [bools_rep q t]
        rfl
    · cases e
theorem intsW_rep {K : PySem.W.Frag} {Fr : Hp} {μ : List Addr} : ∀ {xs : List W} {vs : List V} {bs : List Int}, intsW xs = some bs → RepWs K Fr μ xs vs → vs = bs.map V.int
  | [], _, _, e, .nil => by cases e; rfl
  | x :: r, _, bs, e, .cons h t => by
    unfold intsW at e
    split at e
    · rename_i e1; cases e1
    · rename_i b r' e1
      injection e1 with e1 e2
      subst e1 e2
      cases q : intsW r with
      | none => rw [q] at e; cases e
      | some es =>
        rw [q] at e
        cases e
        cases h
        rw [intsW_rep q t]
        rfl
    · cases e
def onB (f : List Bool → Bool) (xs : List W) (S : List Ob) : Res W := match bools xs with
  | some bs => .ok (.d (.bool (f bs))) S
  | none => .bad
def onI (f : List Int → Int) (xs : List W) (S : List Ob) : Res W := match intsW xs with
  | some ns => .ok (.d (.int (f ns))) S
  | none => .bad
def fAll (f : FA) : FE := fun ρ S => (f ρ S).bind (onB fun bs => bs.all id)
def fAny (f : FA) : FE := fun ρ S => (f ρ S).bind (onB fun bs => bs.any id)
def fSum (f : FA) : FE := fun ρ S => (f ρ S).bind (onI List.sum)
theorem q_all (hc : X.calm = true) (hg : Gl X "all") (hm : X.mg "all" = none) (h : PE X e (LL X Wc fl1)) (hs : starEach [e] X.env = (false, eval e X.env) :: starEach [] X.env := by rfl) (hpl : (backTo pos (starEach [] X.env)).any (·.1) = false := by rfl) : PE X (.Call (.Name "all" p) [e] [] pos) (LE X Wc (fAll fl1)) :=
  PE.imp (pe_callB (cr_all hc) hg hm (by decide +kernel) (pa_cons h pa_nil hs) (he := hs) (hpl := hpl)) fun σ H Q h => by
  obtain ⟨F, D, m, ρ, S, r0, c⟩ := h
  refine step r0 c fun F1 m1 xs v S1 H1 l1 p1 r1 e1 c1 => ?_
  obtain ⟨a, vs, rfl, e2, e3⟩ := e1
  unfold onB at c1
  cases z : bools xs with
  | none => rw [z] at c1; exact c1.elim
  | some bs =>
    rw [z] at c1
    rw [bools_rep z e3] at e2
    exact ⟨a, bs, rfl, e2, rt r1 c1 (Dp.bl _)⟩
theorem q_any (hc : X.calm = true) (hg : Gl X "any") (hm : X.mg "any" = none) (h : PE X e (LL X Wc fl1)) (hs : starEach [e] X.env = (false, eval e X.env) :: starEach [] X.env := by rfl) (hpl : (backTo pos (starEach [] X.env)).any (·.1) = false := by rfl) : PE X (.Call (.Name "any" p) [e] [] pos) (LE X Wc (fAny fl1)) :=
  PE.imp (pe_callB (cr_any hc) hg hm (by decide +kernel) (pa_cons h pa_nil hs) (he := hs) (hpl := hpl)) fun σ H Q h => by
  obtain ⟨F, D, m, ρ, S, r0, c⟩ := h
  refine step r0 c fun F1 m1 xs v S1 H1 l1 p1 r1 e1 c1 => ?_
  obtain ⟨a, vs, rfl, e2, e3⟩ := e1
  unfold onB at c1
  cases z : bools xs with
  | none => rw [z] at c1; exact c1.elim
  | some bs =>
    rw [z] at c1
    rw [bools_rep z e3] at e2
    exact ⟨a, bs, rfl, e2, rt r1 c1 (Dp.bl _)⟩
theorem q_sum (hc : X.calm = true) (hg : Gl X "sum") (hm : X.mg "sum" = none) (h : PE X e (LL X Wc fl1)) (hs : starEach [e] X.env = (false, eval e X.env) :: starEach [] X.env := by rfl) (hpl : (backTo pos (starEach [] X.env)).any (·.1) = false := by rfl) : PE X (.Call (.Name "sum" p) [e] [] pos) (LE X Wc (fSum fl1)) :=
  PE.imp (pe_callB (cr_sum hc) hg hm (by decide +kernel) (pa_cons h pa_nil hs) (he := hs) (hpl := hpl)) fun σ H Q h => by
  obtain ⟨F, D, m, ρ, S, r0, c⟩ := h
  refine step r0 c fun F1 m1 xs v S1 H1 l1 p1 r1 e1 c1 => ?_
  obtain ⟨a, vs, rfl, e2, e3⟩ := e1
  unfold onI at c1
  cases z : intsW xs with
  | none => rw [z] at c1; exact c1.elim
  | some bs =>
    rw [z] at c1
    rw [intsW_rep z e3] at e2
    exact ⟨a, bs, rfl, e2, rt r1 c1 (Dp.int _)⟩
/-- x[i] of a value -/
def oIx : W → W → List Ob → Res W := fun x y S => match x, y with
  | .d (.tuple xs), .d (.int i) => (match atI xs i with
    | some z => .ok (.d z) S
    | none => .bad)
  | .d (.list xs), .d (.int i) => (match atI xs i with
    | some z => .ok (.d z) S
    | none => .bad)
  | .ref n, .d (.int i) => (match S[n]? with
    | some (.lst xs) => (match atI xs i with
      | some z => .ok z S
      | none => .bad)
    | _ => .bad)
  | _, _ => .bad
theorem paired_at {α β : Type} {F : α → β → Prop} {l₁ : List α} {l₂ : List β} {i : Int} {a : α} (h : Paired F l₁ l₂) (e : atI l₁ i = some a) : ∃ b, atI l₂ i = some b ∧ F a b := by
  unfold atI at e ⊢
  rw [← Paired.length h]
  cases q : ixN l₁.length i with
  | none => rw [q] at e; cases e
  | some j =>
    rw [q] at e
    exact paired_get h e
theorem dps_at {K : PySem.W.Frag} {F : Hp} {ds : List PyData} {vs : List V} {i : Int} {d : PyData} (h : DpAll K F vs ds) (e : atI ds i = some d) : ∃ v, atI vs i = some v ∧ Dp K F v d := by
  have q : atI (ds.map W.d) i = some (.d d) := by
    unfold atI at e ⊢
    rw [List.length_map]
    cases z : ixN ds.length i with
    | none => rw [z] at e; cases e
    | some j =>
      rw [z] at e
      show (ds.map W.d)[j]? = _
      rw [List.getElem?_map]
      have e : ds[j]? = some d := e
      rw [e]; rfl
  exact paired_at (rep_dats (μ := []) h) q
theorem f_ix : OpF X Wc (rIx X.K) oIx := by
  intro Fr Hd μ ρ S σ H x y v u Q r ex ey c
  rcases rep_int ey with ⟨i, rfl, rfl⟩ | n
  · cases x with
    | ref n =>
      obtain ⟨a, ea, rfl⟩ := ex
      unfold oIx at c
      dsimp only at c
      split at c
      · rename_i xs es
        split at c
        · rename_i z ez
          obtain ⟨ho, h1, ⟨vs, rfl, q⟩, _⟩ := r.b.st n a _ ea es
          obtain ⟨w, e1, e2⟩ := paired_at q ez
          exact .inl ⟨a, vs, i, w, rfl, rfl, .inl (.inl h1), e1, rt r c e2⟩
        · exact c.elim
      · exact c.elim
    | d x =>
      rcases rep_cases (μ := μ) ex with ⟨rfl, rfl⟩ | ⟨b, rfl, rfl⟩ | ⟨i', rfl, rfl⟩ | ⟨z, rfl, rfl⟩ | ⟨a, vs, ds, rfl, rfl, h1, h2⟩ | ⟨a, vs, ds, rfl, rfl, h1, h2⟩
      · exact c.elim
      · exact c.elim
      · exact c.elim
      · exact c.elim
      · unfold oIx at c
        dsimp only at c
        split at c
        · rename_i z ez
          obtain ⟨w, e1, e2⟩ := dps_at h2 ez
          exact .inl ⟨a, vs, i, w, rfl, rfl, Le.sqL r.b.fr h1, e1, rt r c e2⟩
        · exact c.elim
      · unfold oIx at c
        dsimp only at c
        split at c
        · rename_i z ez
          obtain ⟨w, e1, e2⟩ := dps_at h2 ez
          exact .inr (.inl ⟨a, vs, i, w, rfl, rfl, Le.sqT r.b.fr h1, e1, rt r c e2⟩)
        · exact c.elim
  · unfold oIx at c
    split at c
    · exact absurd rfl (n _)
    · exact absurd rfl (n _)
    · exact absurd rfl (n _)
    · exact c.elim
theorem q_ix (ha : PE X a (LE X Wc fa)) (hb : PE X b (LE X Wc fb)) (hs : PlainIx b := by exact fun _ _ => rfl) : PE X (.Subscript a b pos) (LE X Wc (fBin oIx fa fb)) := PE.imp (pe_ix ix_seq ha hb hs) fun _ _ _ h => bin_imp f_ix h
/-- x[i] of a list that x alone holds -/
def ixO (xs : List W) (y : W) (S : List Ob) : Res W := match y with
  | .d (.int k) => (match atI xs k with
    | some z => .ok z S
    | none => .bad)
  | _ => .bad
def fIxO (i : Nat) (fb : FE) : FE := fun ρ S => match ρ[i]? with
  | some (.own (.lst xs)) => (fb ρ S).bind (ixO xs)
  | some (.w x) => (fb ρ S).bind fun y S1 => oIx x y S1
  | _ => .bad
theorem q_ixO {i : Nat} {x : Str} {p' : Pos} (hN : X.N[i]? = some x) (hv : Vis X.env.scope x) (hb : PE X b (LE X Wc fb)) (hs : PlainIx b := by exact fun _ _ => rfl) (hd : (x == ("__debug__" : Str)) = false := by decide) (hcd : (x == ("__classdict__" : Str)) = false := by decide) :
    PE X (.Subscript (.Name x p') b pos) (LE X Wc (fIxO i fb)) := PE.imp (pe_ix ix_seq (pe_var hN hv hd hcd) hb hs) fun σ H Q h => by
  obtain ⟨F, D, m, ρ, S, r, c⟩ := h
  unfold fIxO at c
  split at c
  · rename_i xs e
    obtain ⟨a, vs, e1, _, _⟩ := own_lst r e
    refine ⟨_, e1, ?_⟩
    refine step r c fun F1 m1 y v S1 H1 l1 p1 r1 ey c1 => ?_
    obtain ⟨a', vs', e1', h1, q⟩ := own_lst r1 e
    rw [e1] at e1'
    cases e1'
    rcases rep_int ey with ⟨k, rfl, rfl⟩ | n
    · unfold ixO at c1
      dsimp only at c1
      split at c1
      · rename_i z ez
        obtain ⟨w, k1, k2⟩ := paired_at q ez
        exact .inl ⟨a, vs', k, w, rfl, rfl, .inl (.inl h1), k1, rt r1 c1 k2⟩
      · exact c1.elim
    · unfold ixO at c1
      split at c1
      · exact absurd rfl (n _)
      · exact c1.elim
  · rename_i x e
    obtain ⟨u, e1, ru⟩ := r.s.sl i _ e
    refine ⟨u, e1, ?_⟩
    refine step r c fun F1 m1 y v S1 H1 l1 p1 r1 ey c1 => ?_
    exact f_ix F1 D m1 ρ S1 σ H1 x y u v Q r1 (RepW.mono l1 p1 ru) ey c1
  · exact c.elim
/-- == and != of a list that x alone holds -/
def cmpO (neg : Bool) (xs : List W) (y : W) (S : List Ob) : Res W := match dats xs, y with
  | some ds, .d y => if SeqAt.shaped (.list ds) && SeqAt.shaped y then .ok (.d (.bool (neg ^^ PyData.eqv (.list ds) y))) S else .bad
  | _, _ => .bad
def fCmpO (neg : Bool) (i : Nat) (fb : FE) : FE := fun ρ S => match ρ[i]? with
  | some (.own (.lst xs)) => (fb ρ S).bind (cmpO neg xs)
  | some (.w (.d (.list ds))) => (fb ρ S).bind (cmpO neg (ds.map .d))
  | _ => .bad
theorem dats_same : ∀ ds : List PyData, dats (ds.map .d) = some ds
  | [] => rfl
  | d :: r => by show (dats (r.map .d)).map (d :: ·) = _; rw [dats_same r]; rfl
theorem cmpO_imp {i : Nat} {neg : Bool} {σ : St} {H : Hp} {Q : VK} (h : LE X Wc (fCmpO neg i fb) σ H Q) : tOp (fun x y H Q => ∃ d e, Dp X.K H x d ∧ Dp X.K H y e ∧ SeqAt.shaped d = true ∧ SeqAt.shaped e = true ∧ Q (.bl (neg ^^ PyData.eqv d e)) H) (tVar i) (LE X Wc fb) σ H Q := by
  obtain ⟨F, D, m, ρ, S, r, c⟩ := h
  unfold fCmpO at c
  split at c
  · rename_i xs e
    obtain ⟨a, vs, e1, _, _⟩ := own_lst r e
    refine ⟨_, e1, ?_⟩
    refine step r c fun F1 m1 y v S1 H1 l1 p1 r1 ey c1 => ?_
    obtain ⟨a', vs', e1', h1, q⟩ := own_lst r1 e
    rw [e1] at e1'
    cases e1'
    cases y with
    | ref n =>
      unfold cmpO at c1
      cases z : dats xs with
      | none => rw [z] at c1; exact c1.elim
      | some ds => rw [z] at c1; exact c1.elim
    | d y =>
      unfold cmpO at c1
      cases z : dats xs with
      | none => rw [z] at c1; exact c1.elim
      | some ds =>
        rw [z] at c1
        dsimp only at c1
        split at c1
        · rename_i hh
          rw [Bool.and_eq_true] at hh
          exact ⟨.list ds, y, Dp.lst (.inl (.inl h1)) (Le.dps r1.b.fr _ _ (dats_rep z q)), Le.dp r1.b.fr _ _ ey, hh.1, hh.2, rt r1 c1 (Dp.bl _)⟩
        · exact c1.elim
  · rename_i ds e
    obtain ⟨w, e1, rw'⟩ := r.s.sl i _ e
    refine ⟨w, e1, ?_⟩
    refine step r c fun F1 m1 y v S1 H1 l1 p1 r1 ey c1 => ?_
    unfold cmpO at c1
    rw [dats_same] at c1
    cases y with
    | ref n => exact c1.elim
    | d y =>
      dsimp only at c1
      split at c1
      · rename_i hh
        rw [Bool.and_eq_true] at hh
        exact ⟨.list ds, y, Le.dp (l1.trans r1.b.fr) _ _ rw', Le.dp r1.b.fr _ _ ey, hh.1, hh.2, rt r1 c1 (Dp.bl _)⟩
      · exact c1.elim
  · exact c.elim
theorem op_eqX (hu : X.A.units + 64 < cLine) : OpR X (compareOp .Eq) (fun x y H Q => ∃ d e, Dp X.K H x d ∧ Dp X.K H y e ∧ SeqAt.shaped d = true ∧ SeqAt.shaped e = true ∧ Q (.bl (false ^^ PyData.eqv d e)) H) := fun pins s σ H x y v u Q I r1 r2 ⟨d, e, h1, h2, h3, h4, q⟩ =>
  op_eqD hu pins s σ H x y v u Q I r1 r2 ⟨d, e, h1, h2, h3, h4, by rw [Bool.false_xor] at q; exact q⟩
theorem op_neX (hu : X.A.units + 64 < cLine) : OpR X (compareOp .NotEq) (fun x y H Q => ∃ d e, Dp X.K H x d ∧ Dp X.K H y e ∧ SeqAt.shaped d = true ∧ SeqAt.shaped e = true ∧ Q (.bl (true ^^ PyData.eqv d e)) H) := fun pins s σ H x y v u Q I r1 r2 ⟨d, e, h1, h2, h3, h4, q⟩ =>
  op_neD hu pins s σ H x y v u Q I r1 r2 ⟨d, e, h1, h2, h3, h4, by rw [Bool.true_xor] at q; exact q⟩
theorem q_eqO {i : Nat} {x : Str} {p' : Pos} (hu : X.A.units + 64 < cLine) (hN : X.N[i]? = some x) (hv : Vis X.env.scope x) (hb : PE X b (LE X Wc fb)) (hd : (x == ("__debug__" : Str)) = false := by decide) (hcd : (x == ("__classdict__" : Str)) = false := by decide) :
    PE X (.Compare (.Name x p') [.Eq] [b] pos) (LE X Wc (fCmpO false i fb)) := PE.imp (pe_cmpR (op_eqX hu) (pe_var hN hv hd hcd) hb (nomark _)) fun _ _ _ h => cmpO_imp h
theorem q_neO {i : Nat} {x : Str} {p' : Pos} (hu : X.A.units + 64 < cLine) (hN : X.N[i]? = some x) (hv : Vis X.env.scope x) (hb : PE X b (LE X Wc fb)) (hd : (x == ("__debug__" : Str)) = false := by decide) (hcd : (x == ("__classdict__" : Str)) = false := by decide) :
    PE X (.Compare (.Name x p') [.NotEq] [b] pos) (LE X Wc (fCmpO true i fb)) := PE.imp (pe_cmpR (op_neX hu) (pe_var hN hv hd hcd) hb (nomark _)) fun _ _ _ h => cmpO_imp h
theorem t_eqO {i : Nat} {x : Str} {p' : Pos} (hu : X.A.units + 64 < cLine) (hN : X.N[i]? = some x) (hv : Vis X.env.scope x) (hb : PE X b (LE X Wc fb)) (hd : (x == ("__debug__" : Str)) = false := by decide) (hcd : (x == ("__classdict__" : Str)) = false := by decide) :
    PT X (.Compare (.Name x p') [.Eq] [b] pos) (LB X Wc (fT (fCmpO false i fb))) := PT.imp (pt_cmpR (op_eqX hu) (pe_var hN hv hd hcd) hb (nomark _)) fun _ _ _ h => cmpO_imp (t_imp h)
theorem t_neO {i : Nat} {x : Str} {p' : Pos} (hu : X.A.units + 64 < cLine) (hN : X.N[i]? = some x) (hv : Vis X.env.scope x) (hb : PE X b (LE X Wc fb)) (hd : (x == ("__debug__" : Str)) = false := by decide) (hcd : (x == ("__classdict__" : Str)) = false := by decide) :
    PT X (.Compare (.Name x p') [.NotEq] [b] pos) (LB X Wc (fT (fCmpO true i fb))) := PT.imp (pt_cmpR (op_neX hu) (pe_var hN hv hd hcd) hb (nomark _)) fun _ _ _ h => cmpO_imp (t_imp h)
/-- a comparison as a test, by its value's rule -/
theorem t_of {op : CmpOp} {t : TE} {f : FE} (h : PT X (.Compare a [op] [b] pos) (tTest t)) (i : ∀ σ H Q, LE X Wc f σ H Q → t σ H Q) : PT X (.Compare a [op] [b] pos) (LB X Wc (fT f)) := PT.imp h fun _ _ _ h => i _ _ _ (t_imp h)
end
end L2.Q
/-! Layer Q, part H: == over the store, lists as values, slices, isinstance, small built-ins, the store's objects. -/
namespace L2.Q
open PySem PySem.Spec PyProof.Rows

/-- a value as data, the store's lists read -/
def asD : W → List Ob → Option PyData
  | .d x, _ => some x
  | .ref n, S => match S[n]? with
    | some (.lst xs) => (dats xs).map .list
    | _ => none
section
variable {X : Cx} {Wc : WX} {a b e e2 : Expr} {es : List Expr} {pos p : Pos} {fa fb : FE} {fo fo2 : FO} {fl1 : FA} {fr : FA}
theorem asD_rep {Fr Hd : Hp} {μ : List Addr} {ρ : List Sl} {S : List Ob} {σ : St} {H : Hp} (r : R X.K Fr Hd μ ρ S σ H) {x : W} {v : V} {d : PyData} (e : asD x S = some d) (h : RepW X.K Fr μ x v) : Dp X.K H v d := by
  cases x with
  | d x => cases e; exact Le.dp r.b.fr _ _ h
  | ref n =>
    obtain ⟨a, ea, rfl⟩ := h
    have e : (match S[n]? with | some (.lst xs) => (dats xs).map PyData.list | _ => none) = some d := e
    split at e
    · rename_i xs es
      obtain ⟨ho, h1, ⟨vs, rfl, q⟩, _⟩ := r.b.st n a _ ea es
      cases z : dats xs with
      | none => rw [z] at e; cases e
      | some ds =>
        rw [z] at e
        cases e
        exact Dp.lst (.inl (.inl h1)) (Le.dps r.b.fr _ _ (dats_rep z q))
    · cases e
def oEqS (neg : Bool) : W → W → List Ob → Res W := fun x y S => match asD x S, asD y S with
  | some x, some y => if SeqAt.shaped x && SeqAt.shaped y then .ok (.d (.bool (neg ^^ PyData.eqv x y))) S else .bad
  | _, _ => .bad
abbrev rEqX (K : PySem.W.Frag) (neg : Bool) : R2 := fun x y H Q => ∃ d e, Dp K H x d ∧ Dp K H y e ∧ SeqAt.shaped d = true ∧ SeqAt.shaped e = true ∧ Q (.bl (neg ^^ PyData.eqv d e)) H
theorem f_eqS (neg : Bool) : OpF X Wc (rEqX X.K neg) (oEqS neg) := by
  intro Fr Hd μ ρ S σ H x y v u Q r ex ey c
  unfold oEqS at c
  split at c
  · rename_i d1 d2 h1 h2
    split at c
    · rename_i h
      rw [Bool.and_eq_true] at h
      exact ⟨d1, d2, asD_rep r h1 ex, asD_rep r h2 ey, h.1, h.2, rt r c (Dp.bl _)⟩
    · exact c.elim
  · exact c.elim
theorem q_eq (hu : X.A.units + 64 < cLine) (ha : PE X a (LE X Wc fa)) (hb : PE X b (LE X Wc fb)) : PE X (.Compare a [.Eq] [b] pos) (LE X Wc (fBin (oEqS false) fa fb)) := q_cmp (op_eqX hu) (f_eqS false) ha hb (nomark _)
theorem q_ne (hu : X.A.units + 64 < cLine) (ha : PE X a (LE X Wc fa)) (hb : PE X b (LE X Wc fb)) : PE X (.Compare a [.NotEq] [b] pos) (LE X Wc (fBin (oEqS true) fa fb)) := q_cmp (op_neX hu) (f_eqS true) ha hb (nomark _)
theorem t_eq (hu : X.A.units + 64 < cLine) (ha : PE X a (LE X Wc fa)) (hb : PE X b (LE X Wc fb)) : PT X (.Compare a [.Eq] [b] pos) (LB X Wc (fT (fBin (oEqS false) fa fb))) := q_tc (op_eqX hu) (f_eqS false) ha hb (nomark _)
theorem t_ne (hu : X.A.units + 64 < cLine) (ha : PE X a (LE X Wc fa)) (hb : PE X b (LE X Wc fb)) : PT X (.Compare a [.NotEq] [b] pos) (LB X Wc (fT (fBin (oEqS true) fa fb))) := q_tc (op_neX hu) (f_eqS true) ha hb (nomark _)
/-- is, is not of bools -/
def oIsB (neg : Bool) : W → W → List Ob → Res W := fun x y S => match x, y with
  | .d (.bool i), .d (.bool j) => .ok (.d (.bool (neg ^^ decide (i = j)))) S
  | _, _ => .bad
theorem rep_bool {K : PySem.W.Frag} {Fr : Hp} {μ : List Addr} {x : W} {v : V} (r : RepW K Fr μ x v) : (∃ i, x = .d (.bool i) ∧ v = .bl i) ∨ (∀ i, x ≠ .d (.bool i)) := by
  cases x with
  | ref n => exact .inr fun i h => by cases h
  | d x =>
    rcases rep_cases (μ := μ) r with ⟨rfl, rfl⟩ | ⟨b, rfl, rfl⟩ | ⟨i, rfl, rfl⟩ | ⟨z, rfl, rfl⟩ | ⟨a, vs, ds, rfl, rfl, h1, h2⟩ | ⟨a, vs, ds, rfl, rfl, h1, h2⟩
    · exact .inr fun i h => by cases h
    · exact .inl ⟨b, rfl, rfl⟩
    · exact .inr fun i h => by cases h
    · exact .inr fun i h => by cases h
    · exact .inr fun i h => by cases h
    · exact .inr fun i h => by cases h
theorem f_isB (neg : Bool) : OpF X Wc (fun x y H Q => ∃ a b : Bool, x = .bl a ∧ y = .bl b ∧ Q (.bl (neg ^^ decide (a = b))) H) (oIsB neg) := by
  intro Fr Hd μ ρ S σ H x y v u Q r ex ey c
  rcases rep_bool ex with ⟨i, rfl, rfl⟩ | n
  · rcases rep_bool ey with ⟨j, rfl, rfl⟩ | n
    · exact ⟨i, j, rfl, rfl, rt r c (Dp.bl _)⟩
    · unfold oIsB at c
      split at c
      · exact absurd rfl (n _)
      · exact c.elim
  · unfold oIsB at c
    split at c
    · exact absurd rfl (n _)
    · exact c.elim
theorem op_isX : OpR X (compareOp .Is) (fun x y H Q => ∃ a b : Bool, x = .bl a ∧ y = .bl b ∧ Q (.bl (false ^^ decide (a = b))) H) := fun pins s σ H x y v u Q I r1 r2 ⟨a, b, h1, h2, q⟩ => op_isBl pins s σ H x y v u Q I r1 r2 ⟨a, b, h1, h2, by rw [Bool.false_xor] at q; exact q⟩
theorem op_notX : OpR X (compareOp .IsNot) (fun x y H Q => ∃ a b : Bool, x = .bl a ∧ y = .bl b ∧ Q (.bl (true ^^ decide (a = b))) H) := fun pins s σ H x y v u Q I r1 r2 ⟨a, b, h1, h2, q⟩ => op_notBl pins s σ H x y v u Q I r1 r2 ⟨a, b, h1, h2, by rw [Bool.true_xor] at q; exact q⟩
theorem q_isB (ha : PE X a (LE X Wc fa)) (hb : PE X b (LE X Wc fb)) : PE X (.Compare a [.Is] [b] pos) (LE X Wc (fBin (oIsB false) fa fb)) := q_cmp op_isX (f_isB false) ha hb (nomark _)
theorem q_notB (ha : PE X a (LE X Wc fa)) (hb : PE X b (LE X Wc fb)) : PE X (.Compare a [.IsNot] [b] pos) (LE X Wc (fBin (oIsB true) fa fb)) := q_cmp op_notX (f_isB true) ha hb (nomark _)
theorem t_isB (ha : PE X a (LE X Wc fa)) (hb : PE X b (LE X Wc fb)) : PT X (.Compare a [.Is] [b] pos) (LB X Wc (fT (fBin (oIsB false) fa fb))) := q_tc op_isX (f_isB false) ha hb (nomark _)
theorem t_notB (ha : PE X a (LE X Wc fa)) (hb : PE X b (LE X Wc fb)) : PT X (.Compare a [.IsNot] [b] pos) (LB X Wc (fT (fBin (oIsB true) fa fb))) := q_tc op_notX (f_isB true) ha hb (nomark _)

/-! ### + of lists -/
def oCat : W → W → List Ob → Res W := fun x y S => match x, y with
  | .d (.list xs), .d (.list ys) => if xs.length + ys.length ≤ 16777216 then .ok (.d (.list (xs ++ ys))) S else .bad
  | _, _ => .bad
/-- a list that stands in the heap itself, no constant of the module's, no script -/
def LstAt (Fr : Hp) (v : V) : Prop := ∃ a vs, v = .ref a ∧ Fr a = some (.lst vs)
/-- list + list where the right one is new -/
def fCatO (fa : FE) (fo : FO) : FE := fun ρ S => (fa ρ S).bind fun x S1 => (fo ρ S1).bind fun o S2 => match x, o with
  | .d (.list xs), .lst ys => (match dats ys with
    | some ds => if xs.length + ds.length ≤ 16777216 then .ok (.d (.list (xs ++ ds))) S2 else .bad
    | none => .bad)
  | _, _ => .bad
/-! ### slices -/
abbrev FP := List Sl → List Ob → Res (Option Int)
abbrev LP (X : Cx) (Wc : WX) (f : FP) : TO := lift X.K X.mg Wc repP f
def fNoP : FP := fun _ S => .ok none S
def fP (fa : FE) : FP := fun ρ S => (fa ρ S).bind fun x S1 => match x with
  | .d (.int i) => .ok (some i) S1
  | _ => .bad
theorem p_none : PO X none (LP X Wc fNoP) := PO.imp po_none fun σ H Q h => by
  obtain ⟨F, D, m, ρ, S, r, c⟩ := h
  exact c F m none H Le.refl (List.prefix_refl m) r rfl
theorem p_some (h : PE X e (LE X Wc fa)) : PO X (some e) (LP X Wc (fP fa)) := PO.imp (po_some h) fun σ H Q h => by
  obtain ⟨F, D, m, ρ, S, r0, c⟩ := h
  refine step r0 c fun F1 m1 x v S1 H1 l1 p1 r1 e1 c1 => ?_
  rcases rep_int e1 with ⟨i, rfl, rfl⟩ | n
  · exact ⟨i, rfl, c1 F1 m1 _ H1 Le.refl (List.prefix_refl m1) r1 rfl⟩
  · split at c1
    · exact absurd rfl (n _)
    · exact c1.elim
/-- a cut of a list -/
def cut {α : Type} (xs : List α) (lo hi : Option Int) : List α := (xs.drop (HT.sIx xs.length 0 lo)).take (HT.sIx xs.length xs.length hi - HT.sIx xs.length 0 lo)
theorem paired_drop {α β : Type} {F : α → β → Prop} : ∀ {l₁ : List α} {l₂ : List β} (n : Nat), Paired F l₁ l₂ → Paired F (l₁.drop n) (l₂.drop n)
  | _, _, 0, h => h
  | _, _, _ + 1, .nil => .nil
  | _, _, n + 1, .cons _ t => paired_drop n t
theorem paired_take {α β : Type} {F : α → β → Prop} : ∀ {l₁ : List α} {l₂ : List β} (n : Nat), Paired F l₁ l₂ → Paired F (l₁.take n) (l₂.take n)
  | _, _, 0, _ => .nil
  | _, _, _ + 1, .nil => .nil
  | _, _, n + 1, .cons r t => .cons r (paired_take n t)
theorem dps_drop {K : PySem.W.Frag} {F : Hp} : ∀ {ds : List PyData} {vs : List V} (n : Nat), DpAll K F vs ds → DpAll K F (vs.drop n) (ds.drop n)
  | _, _, 0, h => h
  | [], _, _ + 1, h => by cases h; exact .nil
  | _ :: _, _, n + 1, h => by cases h with | cons _ t => exact dps_drop n t
theorem dps_take {K : PySem.W.Frag} {F : Hp} : ∀ {ds : List PyData} {vs : List V} (n : Nat), DpAll K F vs ds → DpAll K F (vs.take n) (ds.take n)
  | _, _, 0, h => .nil
  | [], _, _ + 1, h => by cases h; exact .nil
  | _ :: _, _, n + 1, h => by cases h with | cons r t => exact .cons r (dps_take n t)
theorem dps_cut {K : PySem.W.Frag} {F : Hp} {ds : List PyData} {vs : List V} (lo hi : Option Int) (h : DpAll K F vs ds) : DpAll K F (cutV vs lo hi) (cut ds lo hi) := by
  unfold cutV cut
  rw [DpAll.len h]
  exact dps_take _ (dps_drop _ h)
theorem cut_whole {α : Type} {xs : List α} {lo hi : Option Int} (h : HT.sIx xs.length 0 lo = 0 ∧ HT.sIx xs.length xs.length hi = xs.length) : cut xs lo hi = xs := by
  unfold cut
  rw [h.1, h.2]
  simp
def cutOf (x : W) (lo hi : Option Int) (S : List Ob) : Res W := match x with
  | .d (.tuple xs) => .ok (.d (.tuple (cut xs lo hi))) S
  | .d (.list xs) => .ok (.d (.list (cut xs lo hi))) S
  | .d (.str z) => if z.length ≤ 16777216 then .ok (.d (.str (cutS z lo hi))) S else .bad
  | _ => .bad
def fCut (fa : FE) (fl fh : FP) : FE := fun ρ S => (fa ρ S).bind fun x S1 => (fl ρ S1).bind fun lo S2 => (fh ρ S2).bind fun hi S3 => cutOf x lo hi S3
theorem new_lstV {Fr Hd : Hp} {μ : List Addr} {ρ : List Sl} {S : List Ob} {σ : St} {H : Hp} {Q : VK} {ds : List PyData} {vs : List V} {q : Addr} (r : R X.K Fr Hd μ ρ S σ H) (e : DpAll X.K Fr vs ds) (hq : H q = none)
    (c : cont X.K X.mg Wc (repE X.K) Fr Hd μ ρ σ Q (.ok (.d (.list ds)) S)) : Q (.ref q) (upd H q (.lst vs)) := by
  have f := r.new hq
  have le : Le Fr (upd Fr q (.lst vs)) := Le.upd f.fr
  exact c _ μ (.ref q) _ le (List.prefix_refl μ) ((r.upd (o := .lst vs) f).freeze upd_same f) (Dp.lst (.inl (.inl upd_same)) (Le.dps le _ _ e))
variable {p2 : Pos} {lo hi : Option Expr} {flo fh : FP}
theorem q_cut (ha : PE X a (LE X Wc fa)) (hl : PO X lo (LP X Wc flo)) (hh : PO X hi (LP X Wc fh)) : PE X (.Subscript a (.Slice lo hi none p2) pos) (LE X Wc (fCut fa flo fh)) :=
  PE.imp (pe_slice (SlR.or sl_tupA (SlR.or sl_list sl_str)) ha hl hh) fun σ H Q h => by
  obtain ⟨F, D, m, ρ, S, r0, c⟩ := h
  refine step r0 c fun F1 m1 x v S1 H1 l1 p1 r1 e1 c1 => ?_
  refine step r1 c1 fun F2 m2 lo u S2 H2 l2 p2 r2 e2 c2 => ?_
  cases e2
  refine step r2 c2 fun F3 m3 hi u S3 H3 l3 p3 r3 e3 c3 => ?_
  cases e3
  have e1 := RepW.mono (l2.trans l3) (p2.trans p3) e1
  cases x with
  | ref n => exact c3.elim
  | d x =>
    rcases rep_cases (μ := m3) e1 with ⟨rfl, rfl⟩ | ⟨b, rfl, rfl⟩ | ⟨i, rfl, rfl⟩ | ⟨z, rfl, rfl⟩ | ⟨a, vs, ds, rfl, rfl, h1, h2⟩ | ⟨a, vs, ds, rfl, rfl, h1, h2⟩
    · exact c3.elim
    · exact c3.elim
    · exact c3.elim
    · unfold cutOf at c3
      dsimp only at c3
      split at c3
      · rename_i hz
        exact .inr (.inr ⟨z, rfl, by rw [sizeLine_eq]; exact hz, rt r3 c3 (Dp.str _)⟩)
      · exact c3.elim
    · exact .inr (.inl ⟨a, vs, rfl, Le.sqL r3.b.fr h1, fun q hq => new_lstV r3 (dps_cut lo hi h2) hq c3⟩)
    · refine .inl ⟨a, vs, rfl, Le.sqT r3.b.fr h1, fun hw => ?_, fun hw q hq => new_tup r3 (dps_cut lo hi h2) hq c3⟩
      have hw' := hw
      rw [DpAll.len h2] at hw'
      unfold cutOf at c3
      dsimp only at c3
      rw [cut_whole hw'] at c3
      exact rt r3 c3 (Dp.tup h1 h2)

/-! ### isinstance -/
def tyName : PyData → String
  | .none => "NoneType"
  | .bool _ => "bool"
  | .int _ => "int"
  | .str _ => "str"
  | .list _ => "list"
  | .tuple _ => "tuple"
  | .dict _ => "dict"
def wTy (x : W) (S : List Ob) : Option String := match x with
  | .d x => some (tyName x)
  | .ref n => match S[n]? with
    | some (.lst _) => some "list"
    | some (.dct _) => some "dict"
    | some (.fdc _) => none
    | none => none
def fIsi (T : String) (fa : FE) : FE := fun ρ S => (fa ρ S).bind fun x S1 => match (wTy x S1).bind fun t => kitB t T with
  | some b => .ok (.d (.bool b)) S1
  | none => .bad
theorem wTy_rep {Fr Hd : Hp} {μ : List Addr} {ρ : List Sl} {S : List Ob} {σ : St} {H : Hp} (r : R X.K Fr Hd μ ρ S σ H) {x : W} {v : V} {t : String} (e : wTy x S = some t) (h : RepW X.K Fr μ x v) : TyX X.K H v (.type t) := by
  have seqT : ∀ {a : Addr} {vs : List V}, SqT X.K H a vs → TyX X.K H (.ref a) (.type "tuple") := fun {a vs} h => by
    rcases h with (h | ⟨o, h⟩) | ⟨o, its, n, h1, h2, _⟩
    · exact .base (.tup h)
    · exact .fTuple h
    · exact .kTuple h1 h2
  have seqL : ∀ {a : Addr} {vs : List V}, SqL X.K H a vs → TyX X.K H (.ref a) (.type "list") := fun {a vs} h => by
    rcases h with (h | ⟨o, h⟩) | ⟨o, its, n, h1, h2, _⟩
    · exact .base (.lst h)
    · exact .base (.frz h)
    · exact .kList h1 h2
  cases x with
  | d x =>
    cases e
    rcases rep_cases (μ := μ) h with ⟨rfl, rfl⟩ | ⟨b, rfl, rfl⟩ | ⟨i, rfl, rfl⟩ | ⟨z, rfl, rfl⟩ | ⟨a, vs, ds, rfl, rfl, h1, h2⟩ | ⟨a, vs, ds, rfl, rfl, h1, h2⟩
    · exact .base .non
    · exact .base (.bl _)
    · exact .base (.int _)
    · exact .base (.str _)
    · exact seqL (Le.sqL r.b.fr h1)
    · exact seqT (Le.sqT r.b.fr h1)
  | ref n =>
    obtain ⟨a, ea, rfl⟩ := h
    unfold wTy at e
    dsimp only at e
    split at e
    · rename_i xs es
      cases e
      obtain ⟨ho, h1, ⟨vs, rfl, q⟩, _⟩ := r.b.st n a _ ea es
      exact .base (.lst h1)
    · rename_i kvs es
      cases e
      obtain ⟨ho, h1, ⟨vs, rfl, q⟩, _⟩ := r.b.st n a _ ea es
      exact .base (.dK h1)
    · cases e
    · cases e
theorem q_isi {T : Str} {n : String} {pt : Pos} (hg : Gl X "isinstance") (hm : X.mg "isinstance" = none) (hgT : Gl X T) (hmT : X.mg T = none) (hvT : bootBuiltins T = some (.type n)) (h : PE X e (LE X Wc fa))
    (hnT : T ≠ "__name__" := by decide) (hdT : (T == ("__debug__" : Str)) = false := by decide) (hs : starEach [e, .Name T pt] X.env = (false, eval e X.env) :: starEach [.Name T pt] X.env := by rfl) (hs2 : starEach [.Name T pt] X.env = (false, eval (.Name T pt) X.env) :: starEach [] X.env := by rfl) (hpl : (backTo pos (starEach [.Name T pt] X.env)).any (·.1) = false := by rfl) :
    PE X (.Call (.Name "isinstance" p) [e, .Name T pt] [] pos) (LE X Wc (fIsi n fa)) :=
  PE.imp (pe_callB call_isi hg hm (by decide +kernel) (pa_cons h (pa_cons (pe_bltn (v := .ty n) hgT hmT hvT rfl hnT hdT) pa_nil hs2) hs) (he := hs) (hpl := hpl)) fun σ H Q h => by
  obtain ⟨F, D, m, ρ, S, r0, c⟩ := h
  refine step r0 c fun F1 m1 x v S1 H1 l1 p1 r1 e1 c1 => ?_
  show rIsi X.K [v, .ty n] H1 Q
  split at c1
  · rename_i b hb
    cases ht : wTy x S1 with
    | none => rw [ht] at hb; cases hb
    | some t =>
      rw [ht] at hb
      exact ⟨v, .ty n, .type t, .type n, b, rfl, .ty n, wTy_rep r1 ht e1, kit_ty hb, rt r1 c1 (Dp.bl _)⟩
  · exact c1.elim
/-- int(..) of an int or a bool, abs, min, max of two ints -/
def toI (x : W) (S : List Ob) : Res W := match x with
  | .d (.int i) => .ok (.d (.int i)) S
  | .d (.bool k) => .ok (.d (.int (if k then 1 else 0))) S
  | _ => .bad
def fInt (fa : FE) : FE := fun ρ S => (fa ρ S).bind toI
theorem q_toI (hg : Gl X "int") (hm : X.mg "int" = none) (h : PE X e (LE X Wc fa)) (hs : starEach [e] X.env = (false, eval e X.env) :: starEach [] X.env := by rfl) (hpl : (backTo pos (starEach [] X.env)).any (·.1) = false := by rfl) : PE X (.Call (.Name "int" p) [e] [] pos) (LE X Wc (fInt fa)) :=
  PE.imp (pe_callTy call_int1 hg hm (by decide +kernel) (pa_cons h pa_nil hs) (he := hs) (hpl := hpl)) fun σ H Q h => by
  obtain ⟨F, D, m, ρ, S, r0, c⟩ := h
  refine step r0 c fun F1 m1 x v S1 H1 l1 p1 r1 e1 c1 => ?_
  rcases rep_int e1 with ⟨i, rfl, rfl⟩ | n
  · exact .inl ⟨i, rfl, rt r1 c1 (Dp.int _)⟩
  · rcases rep_bool e1 with ⟨i, rfl, rfl⟩ | n2
    · exact .inr ⟨i, rfl, rt r1 c1 (Dp.int _)⟩
    · unfold toI at c1
      split at c1
      · exact absurd rfl (n _)
      · exact absurd rfl (n2 _)
      · exact c1.elim
def oAbs (x : W) (S : List Ob) : Res W := match x with
  | .d (.int i) => .ok (.d (.int (if i < 0 then -i else i))) S
  | _ => .bad
theorem q_abs (hg : Gl X "abs") (hm : X.mg "abs" = none) (h : PE X e (LE X Wc fa)) (hs : starEach [e] X.env = (false, eval e X.env) :: starEach [] X.env := by rfl) (hpl : (backTo pos (starEach [] X.env)).any (·.1) = false := by rfl) : PE X (.Call (.Name "abs" p) [e] [] pos) (LE X Wc (fUn oAbs fa)) :=
  PE.imp (pe_callB call_abs hg hm (by decide +kernel) (pa_cons h pa_nil hs) (he := hs) (hpl := hpl)) fun σ H Q h => by
  obtain ⟨F, D, m, ρ, S, r0, c⟩ := h
  refine step r0 c fun F1 m1 x v S1 H1 l1 p1 r1 e1 c1 => ?_
  rcases rep_int e1 with ⟨i, rfl, rfl⟩ | n
  · exact ⟨i, rfl, rt r1 c1 (Dp.int _)⟩
  · unfold oAbs at c1
    split at c1
    · exact absurd rfl (n _)
    · exact c1.elim
abbrev oMin := oI yes fun i j => .int (if j < i then j else i)
abbrev oMax := oI yes fun i j => .int (if j > i then j else i)
theorem bin_call {C : Int → Int → Bool} {g : Int → Int → PyData} {g' : Int → Int → V} (hg : ∀ (F : Hp) i j, Dp X.K F (g' i j) (g i j)) {σ : St} {H : Hp} {Q : VK} (h : LE X Wc (fBin (oI C g) fa fb) σ H Q) :
    tCB (fun xs H Q => ∃ i j, xs = [.int i, .int j] ∧ Q (g' i j) H) (tCons (LE X Wc fa) (tCons (LE X Wc fb) tNil)) σ H Q := by
  obtain ⟨F, D, m, ρ, S, r0, c⟩ := h
  refine step r0 c fun F1 m1 x v S1 H1 l1 p1 r1 e1 c1 => ?_
  refine step r1 c1 fun F2 m2 y u S2 H2 l2 p2 r2 e2 c2 => ?_
  obtain ⟨i, j, k1, k2, q⟩ := f_int0 hg F2 D m2 ρ S2 σ H2 x y v u Q r2 (RepW.mono l2 p2 e1) e2 c2
  exact ⟨i, j, by rw [k1, k2], q⟩
theorem q_min2 (hc : X.calm = true) (hg : Gl X "min") (hm : X.mg "min" = none) (h : PE X e (LE X Wc fa)) (h2 : PE X e2 (LE X Wc fb)) (hs : starEach [e, e2] X.env = (false, eval e X.env) :: starEach [e2] X.env := by rfl) (hs2 : starEach [e2] X.env = (false, eval e2 X.env) :: starEach [] X.env := by rfl) (hpl : (backTo pos (starEach [e2] X.env)).any (·.1) = false := by rfl) :
    PE X (.Call (.Name "min" p) [e, e2] [] pos) (LE X Wc (fBin oMin fa fb)) := PE.imp (pe_callB (call_min2 hc) hg hm (by decide +kernel) (pa_cons h (pa_cons h2 pa_nil hs2) hs) (he := hs) (hpl := hpl)) fun σ H Q h => bin_call (g' := fun i j => .int (if j < i then j else i)) (fun _ _ _ => .int _) h
theorem q_max2 (hc : X.calm = true) (hg : Gl X "max") (hm : X.mg "max" = none) (h : PE X e (LE X Wc fa)) (h2 : PE X e2 (LE X Wc fb)) (hs : starEach [e, e2] X.env = (false, eval e X.env) :: starEach [e2] X.env := by rfl) (hs2 : starEach [e2] X.env = (false, eval e2 X.env) :: starEach [] X.env := by rfl) (hpl : (backTo pos (starEach [e2] X.env)).any (·.1) = false := by rfl) :
    PE X (.Call (.Name "max" p) [e, e2] [] pos) (LE X Wc (fBin oMax fa fb)) := PE.imp (pe_callB (call_max2 hc) hg hm (by decide +kernel) (pa_cons h (pa_cons h2 pa_nil hs2) hs) (he := hs) (hpl := hpl)) fun σ H Q h => bin_call (g' := fun i j => .int (if j > i then j else i)) (fun _ _ _ => .int _) h

/-! ### objects of the store -/
/-- a new object goes to the store -/
def fSto (fo : FO) : FE := fun ρ S => (fo ρ S).bind fun o S1 => .ok (.ref S1.length) (S1 ++ [o])
theorem R.sto {Fr Hd : Hp} {μ : List Addr} {ρ : List Sl} {S : List Ob} {σ : St} {H : Hp} {q : Addr} {o : Ob} {ho : HO} (r : R X.K Fr Hd μ ρ S σ H) (h : H q = some ho) (e : RepO X.K Fr μ o ho) (f : Free Fr Hd μ ρ σ q) : R X.K Fr Hd (μ ++ [q]) ρ (S ++ [o]) σ H := by
  obtain ⟨eT, eN⟩ := e.toT
  have pre : μ <+: μ ++ [q] := List.prefix_append μ [q]
  have hl := r.b.len
  refine ⟨⟨r.b.fr, r.b.hd, by simp [hl], fun n a x e1 e2 => ?_, ?_⟩, r.s.len, fun i x ei => ?_, r.s.inj⟩
  · by_cases hn : n < μ.length
    · rw [List.getElem?_append_left hn] at e1
      rw [List.getElem?_append_left (by omega)] at e2
      obtain ⟨h1, k1, k2, k3⟩ := r.b.st n a x e1 e2
      exact ⟨h1, k1, k2.mono Le.refl pre, k3⟩
    · rw [List.getElem?_append_right (by omega)] at e1
      rw [List.getElem?_append_right (by omega)] at e2
      have hz : n - μ.length = 0 := by
        cases z : n - μ.length with
        | zero => rfl
        | succ k => rw [z] at e1; simp at e1
      rw [hz] at e1
      rw [← hl, hz] at e2
      cases e1
      cases e2
      exact ⟨ho, h, eT.mono Le.refl pre, f.fr.trans eN.symm, f.hd⟩
  · refine List.nodup_append.mpr ⟨r.b.nd, by simp, fun a ha b hb => ?_⟩
    simp at hb
    subst hb
    exact fun z => f.mu (z ▸ ha)
  · have k := r.s.sl i x ei
    cases x with
    | un => trivial
    | w x => obtain ⟨u, e1, e2⟩ := k; exact ⟨u, e1, e2.mono Le.refl pre⟩
    | own x =>
      obtain ⟨a, h1, e1, e2, e3, e4, e5, e6⟩ := k
      refine ⟨a, h1, e1, e2, e3.mono Le.refl pre, e4, e5, fun hm => ?_⟩
      rcases List.mem_append.mp hm with hm | hm
      · exact e6 hm
      · simp at hm
        subst hm
        exact f.ow i ⟨⟨x, ei⟩, e1⟩
theorem q_sto (h : PE X e (LO X Wc fo)) : PE X e (LE X Wc (fSto fo)) := PE.imp h fun σ H Q h => by
  obtain ⟨F, D, m, ρ, S, r0, c⟩ := h
  refine step r0 c fun F1 m1 x v S1 H1 l1 p1 r1 e1 c1 => ?_
  obtain ⟨q, ho, rfl, h1, h2, h3⟩ := e1
  refine c1 F1 (m1 ++ [q]) (.ref q) H1 Le.refl (List.prefix_append m1 [q]) (r1.sto h1 h2 h3) ⟨q, ?_, rfl⟩
  rw [← r1.b.len]
  simp
/-- the n-th object of the store is written -/
theorem R.put {Fr Hd : Hp} {μ : List Addr} {ρ : List Sl} {S : List Ob} {σ : St} {H : Hp} {n : Nat} {a : Addr} {o : Ob} {ho : HO} (r : R X.K Fr Hd μ ρ S σ H) (ea : μ[n]? = some a) (hf : Fr a = none) (e : RepO X.K Fr μ o ho) : R X.K Fr Hd μ ρ (S.set n o) σ (L2.upd H a ho) := by
  obtain ⟨eT, eN⟩ := e.toT
  have ha : a ∈ μ := List.mem_of_getElem? ea
  obtain ⟨_, _, _, hh, _⟩ := r.b.muH ha
  refine ⟨⟨fun b u q => ?_, fun b u q => ⟨?_, (r.b.hd b u q).2⟩, by simp [r.b.len], fun k b x e1 e2 => ?_, r.b.nd⟩, r.s.len, fun i x ei => ?_, r.s.inj⟩
  · rw [upd_ne (ne_of_none q hf)]; exact r.b.fr b u q
  · rw [upd_ne (ne_of_none q hh)]; exact (r.b.hd b u q).1
  · by_cases q : n = k
    · subst q
      rw [ea] at e1
      cases e1
      have hn : n < S.length := by rw [← r.b.len]; exact (List.getElem?_eq_some_iff.mp ea).1
      rw [List.getElem?_set_self hn] at e2
      cases e2
      exact ⟨ho, upd_same, eT, hf.trans eN.symm, hh⟩
    · rw [List.getElem?_set_ne q] at e2
      obtain ⟨h1, k1, k2⟩ := r.b.st k b x e1 e2
      refine ⟨h1, ?_, k2⟩
      rw [upd_ne]
      · exact k1
      · rintro rfl
        obtain ⟨hn, en⟩ := List.getElem?_eq_some_iff.mp ea
        obtain ⟨hk, ek⟩ := List.getElem?_eq_some_iff.mp e1
        exact q ((List.getElem_inj r.b.nd).mp (en.trans ek.symm))
  · have k := r.s.sl i x ei
    cases x with
    | un => trivial
    | w x => exact k
    | own x =>
      obtain ⟨b, h1, e1, e2, rest⟩ := k
      refine ⟨b, h1, e1, ?_, rest⟩
      rw [upd_ne]
      · exact e2
      · rintro rfl; exact rest.2.2.2 ha
/-- x[i] = v of a list of the store -/
def setIxS (v x y : W) (ρ : List Sl) (S : List Ob) : Fl := match x, y with
  | .ref n, .d (.int k) => (match S[n]? with
    | some (.lst xs) => (match ixN xs.length k with
      | some j => .nx ρ (S.set n (.lst (xs.set j v)))
      | none => .bad)
    | _ => .bad)
  | _, _ => .bad
def fSetIx (fv fx fy : FE) : FT := fun ρ S => fl (fv ρ S) ρ fun v S1 => fl (fx ρ S1) ρ fun x S2 => fl (fy ρ S2) ρ fun y S3 => setIxS v x y ρ S3
theorem paired_set {α β : Type} {F : α → β → Prop} {a : α} {b : β} (r : F a b) : ∀ {l₁ : List α} {l₂ : List β} (i : Nat), Paired F l₁ l₂ → Paired F (l₁.set i a) (l₂.set i b)
  | _, _, _, .nil => .nil
  | _, _, 0, .cons _ t => .cons r t
  | _, _, i + 1, .cons q t => .cons q (paired_set r i t)
theorem s_setIx {o i v : Expr} {fv fx fy : FE} {tpos : Pos} (hv : PE X v (LE X Wc fv)) (ho : PE X o (LE X Wc fx)) (hi : PE X i (LE X Wc fy)) (hs : swapsWithSole [.Subscript o i tpos] v pos.line X.env = pure false := by rfl) (hw : swappedStores [.Subscript o i tpos] v X.env = pure none := by rfl)
    (h1 : (assignEach [.Subscript o i tpos] X.env).map (·.2) = [assign (.Subscript o i tpos) X.env] := by rfl) (ha : ∀ v, assign (.Subscript o i tpos) X.env v = (do
      let ov ← holding [v] (eval o X.env)
      let iv ← holding [v, ov] (eval i X.env)
      standAt tpos
      holding [v, ov, iv] (setItem ov iv v)
      release [v, ov, iv] []) := by intro _; rfl) : PS X (.Assign [.Subscript o i tpos] v pos) (LS X Wc (fSetIx fv fx fy)) :=
  PS.imp (ps_asg hv (pg_sub ho hi set_list ha) hs hw h1) fun D σ H h => by
  obtain ⟨F, Hd, m, ρ, S, r, c⟩ := h
  refine stepS r c fun F1 m1 v vv S1 H1 l1 p1 r1 e1 c1 => ?_
  show LE X Wc fx σ H1 _
  refine stepS r1 c1 fun F2 m2 x vx S2 H2 l2 p2 r2 e2 c2 => ?_
  refine stepS r2 c2 fun F3 m3 y vy S3 H3 l3 p3 r3 e3 c3 => ?_
  rcases rep_int e3 with ⟨k, rfl, rfl⟩ | n
  · cases x with
    | d x => exact c3.elim
    | ref n =>
      obtain ⟨a, ea, rfl⟩ := e2
      have ea := pre_get p3 ea
      unfold setIxS at c3
      dsimp only at c3
      split at c3
      · rename_i xs es
        split at c3
        · rename_i j ej
          obtain ⟨ho, h1, ⟨vs, rfl, q⟩, hfr, _⟩ := r3.b.st n a _ ea es
          have ev : RepW X.K F3 m3 v vv := RepW.mono (l2.trans l3) (p2.trans p3) e1
          refine ⟨a, vs, k, j, rfl, rfl, h1, by rw [← Paired.length q]; exact ej, ?_⟩
          exact c3 F3 m3 σ _ Le.refl (List.prefix_refl m3) (r3.put ea hfr ⟨_, rfl, paired_set ev j q⟩)
        · exact c3.elim
      · exact c3.elim
  · unfold setIxS at c3
    split at c3
    · exact absurd rfl (n _)
    · exact c3.elim
end
end L2.Q
/-! Layer Q, part I: + of lists, repetition, sorted, append, pop, extend, zip, several targets at once. -/
namespace L2.Q
open PySem PySem.Spec PyProof.Rows

section
variable {X : Cx} {Wc : WX} {a b e e2 : Expr} {es : List Expr} {pos p : Pos} {fa fb : FE} {fo fo2 : FO} {fl1 : FA} {fr : FA}
/-- list + list -/
def rCatS (K : PySem.W.Frag) : R2 := fun x y H Q => ∃ l b xs zs, x = .ref l ∧ y = .ref b ∧ SqL K H l xs ∧ SqL K H b zs ∧ xs.length + zs.length ≤ sizeLine ∧ ∀ p, H p = none → Q (.ref p) (upd H p (.lst (xs ++ zs)))
theorem op_catS : OpR X (binaryOp .Add) (rCatS X.K) := by
  intro pins s σ H x y v u Q I rx ry h
  obtain ⟨l, b, xs, zs, rfl, rfl, hH, hB, hz, q⟩ := h
  cases rx
  cases ry
  obtain ⟨its, r, p1, z⟩ := I.list hH
  obtain ⟨its2, r2, p2, z2⟩ := I.list hB
  have e1 := r.length
  have e2 := r2.length
  obtain ⟨⟨cls, dd, data, sl⟩, n, ho, hc, hdd, hd⟩ := p1
  obtain ⟨⟨cls2, dd2, data2, sl2⟩, n2, ho2, hc2, hdd2, hd2⟩ := p2
  simp only at hc hd hc2 hd2
  subst hc hd hc2 hd2
  refine concat_meets ⟨_, ho, rfl⟩ ⟨_, ho2, rfl⟩ noFill_list_add seq_list_add PySem.F.slot_list_add PySem.F.entry_list_add (PySem.F.args_list_add_2 _ _) (list_addW l b its.toArray its2.toArray n n2 dd dd2 sl sl2 (by simp; omega)) ⟨ho, ho2, ?_⟩
  have ea : its.toArray ++ its2.toArray = (its ++ its2).toArray := by simp
  rw [ea]
  exact ⟨.ref _, _, I.lnew (t' := s.toks) (r.append r2) (by rw [List.length_append]; omega), rfl, q _ I.fresh⟩
/-- + of ints, tuples, lists -/
def oAddA : W → W → List Ob → Res W := fun x y S => match x, y with
  | .d (.list xs), .d (.list ys) => if xs.length + ys.length ≤ 16777216 then .ok (.d (.list (xs ++ ys))) S else .bad
  | x, y => oAdd x y S
theorem f_addA : OpF X Wc (fun x y H Q => rCatS X.K x y H Q ∨ (rI0 (fun i j => .int (i + j)) x y H Q ∨ rCatA X.K x y H Q)) oAddA := by
  intro Fr Hd μ ρ S σ H x y v u Q r ex ey c
  unfold oAddA at c
  split at c
  · rename_i xs ys
    split at c
    · rename_i hl
      cases ex with
      | @lst a vs _ h1 h2 =>
        cases ey with
        | @lst b us _ k1 k2 =>
          have e1 := DpAll.len h2
          have e2 := DpAll.len k2
          exact .inl ⟨a, b, vs, us, rfl, rfl, Le.sqL r.b.fr h1, Le.sqL r.b.fr k1, by rw [sizeLine_eq]; omega, fun q hq => new_lstV r (dps_app h2 k2) hq c⟩
    · exact c.elim
  · exact .inr (f_add Fr Hd μ ρ S σ H _ _ v u Q r ex ey c)
theorem q_add (ha : PE X a (LE X Wc fa)) (hb : PE X b (LE X Wc fb)) : PE X (.BinOp a .Add b pos) (LE X Wc (fBin oAddA fa fb)) := q_op (OpR.or op_catS op_addQ) f_addA ha hb
/-- a new list times an int -/
def oRep (o : Ob) (y : W) (S : List Ob) : Res Ob := match o, y with
  | .lst xs, .d (.int k) => if -(2 ^ 63) ≤ k ∧ k < 2 ^ 63 ∧ xs.length * k.toNat ≤ 16777216 then .ok (.lst (List.replicate k.toNat xs).flatten) S else .bad
  | _, _ => .bad
def fRep (fo : FO) (fb : FE) : FO := fun ρ S => (fo ρ S).bind fun o S1 => (fb ρ S1).bind fun y S2 => oRep o y S2
theorem paired_app {α β : Type} {F : α → β → Prop} : ∀ {l₁ m₁ : List α} {l₂ m₂ : List β}, Paired F l₁ l₂ → Paired F m₁ m₂ → Paired F (l₁ ++ m₁) (l₂ ++ m₂)
  | _, _, _, _, .nil, k => k
  | _, _, _, _, .cons r t, k => .cons r (paired_app t k)
theorem paired_rep {α β : Type} {F : α → β → Prop} {l₁ : List α} {l₂ : List β} (h : Paired F l₁ l₂) : ∀ n : Nat, Paired F (List.replicate n l₁).flatten (List.replicate n l₂).flatten
  | 0 => .nil
  | n + 1 => by
    rw [List.replicate_succ, List.replicate_succ, List.flatten_cons, List.flatten_cons]
    exact paired_app h (paired_rep h n)
theorem q_rep (ha : PE X a (LO X Wc fo)) (hb : PE X b (LE X Wc fb)) : PE X (.BinOp a .Mult b pos) (LO X Wc (fRep fo fb)) := PE.imp (pe_op op_rep ha hb) fun σ H Q h => by
  obtain ⟨F, D, m, ρ, S, r0, c⟩ := h
  refine step r0 c fun F1 m1 o v S1 H1 l1 p1 r1 e1 c1 => ?_
  obtain ⟨q, ho, rfl, h1, h2, h3⟩ := e1
  have r1' := r1.hide h1 h3
  have go : lift X.K X.mg Wc (repE X.K) fb σ H1 fun y H2 => rRep (.ref q) y H2 Q := by
    refine ⟨F1, upd D q ho, m1, ρ, S1, r1', ?_⟩
    cases z : fb ρ S1 with
    | bad => rw [z] at c1; exact c1.elim
    | err w S2 => rw [z] at c1; exact fun F2 m2 C H2 l2 p2 r2 hc => c1 F2 m2 C H2 l2 p2 (r2.unhide (Le.upd h3.hd)) hc
    | ok y S2 =>
      rw [z] at c1
      intro F2 m2 v2 H2 l2 p2 r2 e2
      have c1 : cont X.K X.mg Wc (repO X.K) F1 D m1 ρ σ Q (oRep o y S2) := c1
      have hH := r2.b.hd q ho upd_same
      have r3 := r2.unhide (Le.upd (o := ho) h3.hd)
      rcases rep_int e2 with ⟨k, rfl, rfl⟩ | n
      · cases o with
        | dct kvs => exact c1.elim
        | fdc kvs => exact c1.elim
        | lst xs =>
          obtain ⟨vs, rfl, k2⟩ := h2
          unfold oRep at c1
          dsimp only at c1
          split at c1
          · rename_i hk
            have el := Paired.length k2
            refine ⟨q, k, vs, rfl, rfl, hH.1, hk.1, hk.2.1, by rw [sizeLine_eq, ← el]; exact hk.2.2, fun z hz => ?_⟩
            have c2 := cont.mono (Wc := Wc) l2 p2 (fun _ _ z => z) c1
            exact new_lst r3 (paired_rep (RepWs.mono l2 p2 k2) k.toNat) hz c2
          · exact c1.elim
      · unfold oRep at c1
        split at c1
        · exact absurd rfl (n _)
        · exact c1.elim
  exact go
/-! ### sorted -/
def alikes : List PyData → Bool
  | [] => true
  | x :: r => PySem.W.alike x x && r.all (fun y => PySem.W.alike x y && PySem.W.alike y x) && alikes r
theorem alikes_ok : ∀ {ds : List PyData}, alikes ds = true → PySem.W.AllAlike ds
  | [], _ => fun d h => by cases h
  | x :: r, h => fun d hd d' hd' => by
    unfold alikes at h
    rw [Bool.and_eq_true, Bool.and_eq_true, List.all_eq_true] at h
    obtain ⟨⟨h0, h1⟩, h2⟩ := h
    have rest := alikes_ok h2
    rcases List.mem_cons.mp hd with e | k
    · subst e
      rcases List.mem_cons.mp hd' with e | k'
      · subst e; exact h0
      · have := h1 d' k'; rw [Bool.and_eq_true] at this; exact this.1
    · rcases List.mem_cons.mp hd' with e | k'
      · subst e; have := h1 d k; rw [Bool.and_eq_true] at this; exact this.2
      · exact rest d k d' k'
def isTupD : PyData → Bool
  | .tuple (_ :: _) => true
  | _ => false
def noTupD : PyData → Bool
  | .none => false
  | .tuple _ => false
  | _ => true
def sortableD (ds : List PyData) : Bool := ds.all isTupD || ds.all noTupD
theorem sortable_ok {ds : List PyData} (h : sortableD ds = true) : PySem.W.Sortable ds := by
  unfold sortableD at h
  rw [Bool.or_eq_true, List.all_eq_true, List.all_eq_true] at h
  rcases h with h | h
  · refine .inl fun d hd => ?_
    have := h d hd
    unfold isTupD at this
    split at this
    · exact ⟨_, _, rfl⟩
    · cases this
  · refine .inr fun d hd => ?_
    have := h d hd
    constructor
    · intro e
      subst e
      simp [noTupD] at this
    · intro xs e
      subst e
      simp [noTupD] at this
def sortD (ds : List PyData) : List PyData := ds.mergeSort (PySem.W.dataLe false id)
def srt (xs : List W) (S : List Ob) : Res W := match dats xs with
  | some ds => if alikes ds = true ∧ sortableD ds = true ∧ ds.all (fun d => decide (d.depth ≤ 64)) = true then .ok (.d (.list (sortD ds))) S else .bad
  | none => .bad
def fSrt (f : FA) : FE := fun ρ S => (f ρ S).bind srt
def rSrt (K : PySem.W.Frag) : List V → Hp → VK → Prop := fun vs H Q => ∃ (a : Addr) (xs : List V) (ds : List PyData) (F : Hp), vs = [V.ref a] ∧ SqL K H a xs ∧ Le F H ∧ DpAll K F xs ds ∧ PySem.W.AllAlike ds ∧ PySem.W.Sortable ds ∧ (∀ d ∈ ds, d.depth ≤ 64) ∧
  ∀ (ys : List V) (p : Addr), DpAll K F ys (sortD ds) → H p = none → Q (.ref p) (upd H p (.lst ys))
theorem each_of {K : PySem.W.Frag} {H : Hp} : ∀ {ds : List PyData} {xs : List V} {us : List Value}, DpAll K H xs ds → Vals xs us → PySem.W.EachIs (fun (u : Value) (d : PyData) => ∃ x, RelV x u ∧ Dp K H x d) us ds
  | [], _, _, h, r => by cases h; cases r; exact .nil
  | d :: ds, _, _, h, r => by
    cases h with
    | cons h1 h2 =>
      cases r with
      | cons r1 r2 => exact .cons ⟨_, r1, h1⟩ (each_of h2 r2)
theorem of_each {K : PySem.W.Frag} {H : Hp} : ∀ {ds : List PyData} {us : List Value}, PySem.W.EachIs (fun (u : Value) (d : PyData) => ∃ x, RelV x u ∧ Dp K H x d) us ds → ∃ xs, Vals xs us ∧ DpAll K H xs ds
  | [], _, h => by cases h; exact ⟨[], .nil, .nil⟩
  | d :: ds, _, h => by
    cases h with
    | cons h1 h2 =>
      obtain ⟨x, r, k⟩ := h1
      obtain ⟨xs, r2, k2⟩ := of_each h2
      exact ⟨x :: xs, .cons r r2, .cons k k2⟩
theorem cr_srt (hu : X.A.units + 200 < cLine) : CallR X (.builtin "sorted") (rSrt X.K) := by
  intro pins s σ H vs us Q I r h
  obtain ⟨a, xs, ds, F, rfl, hs, le, hd, ha, hk, hdep, q⟩ := h
  obtain ⟨its, rv, hl, hz⟩ := I.list hs
  rw [Vals.ref1 r]
  have e := each_of hd rv
  have el := DpAll.len hd
  have er : PySem.W.EachIs (fun v b => ∃ as, Reads s.heap v (id b) as) its ds := e.mono fun u d ⟨x, r1, h1⟩ => Dp.reads I d x u (Le.dp le _ _ h1) r1
  refine PySem.W.sorted_data (enc := id) hl.isList e er (by rw [List.map_id]; exact ha) (by rw [List.map_id]; exact hk) (by omega) (fun d hd => ?_) fun out ho eo => ?_
  · have := hdep d hd
    show X.A.units + 2 + d.depth < cLine
    omega
  · obtain ⟨ys, ry, ky⟩ := of_each eo
    obtain ⟨ep, he'⟩ := PyProof.Rows.sortedAll_at s.heap its out.toArray
    have h1 := ry.length
    have hlen : ys.length ≤ sizeLine := by omega
    exact ⟨.ref _, upd H (s.heap.objs.size + 1) (.lst ys), I.laid (t' := s.toks) (fun _ _ => PyProof.Rows.sortedAll_old) (Nat.le_succ _) ⟨hlen, out, ep, ry, he'⟩, rfl, q ys _ ky (I.hok.fresh (Nat.le_succ _))⟩
theorem q_srt (hu : X.A.units + 200 < cLine) (hg : Gl X "sorted") (hm : X.mg "sorted" = none) (h : PE X e (LL X Wc fl1)) (hs : starEach [e] X.env = (false, eval e X.env) :: starEach [] X.env := by rfl) (hpl : (backTo pos (starEach [] X.env)).any (·.1) = false := by rfl) : PE X (.Call (.Name "sorted" p) [e] [] pos) (LE X Wc (fSrt fl1)) :=
  PE.imp (pe_callB (cr_srt hu) hg hm (by decide +kernel) (pa_cons h pa_nil hs) (he := hs) (hpl := hpl)) fun σ H Q h => by
  obtain ⟨F, D, m, ρ, S, r0, c⟩ := h
  refine step r0 c fun F1 m1 xs v S1 H1 l1 p1 r1 e1 c1 => ?_
  obtain ⟨a, vs, rfl, e2, e3⟩ := e1
  unfold srt at c1
  cases z : dats xs with
  | none => rw [z] at c1; exact c1.elim
  | some ds =>
    rw [z] at c1
    dsimp only at c1
    split at c1
    · rename_i hh
      have hd := dats_rep z e3
      refine ⟨a, vs, ds, F1, rfl, e2, r1.b.fr, hd, alikes_ok hh.1, sortable_ok hh.2.1, fun d hd => of_decide_eq_true (List.all_eq_true.mp hh.2.2 d hd), fun ys q hys hq => ?_⟩
      exact new_lstV r1 hys hq c1
    · exact c1.elim
end
end L2.Q
/-! Layer Q, part J: try with several clauses, named or not; isinstance of the caught error. -/
namespace L2.Q
open PySem PySem.Spec PyProof.Rows

/-- a clause: its class, the slot of its name, its suite -/
structure Cl where
  c : Value
  slot : Option Nat
  ts : Addr → Value → Option Addr → TS
def endsAt (o : Option Nat) (D : Ends) : Ends := match o with
  | none => D
  | some i => { nx := fun s h => D.nx (s.set i none) h, rt := D.rt, bk := fun s h => D.bk (s.set i none) h, ct := fun s h => D.ct (s.set i none) h }
def slotAt (o : Option Nat) (s : St) (a : Addr) : St := match o with
  | none => s
  | some i => s.set i (some (.ref a))
/-- what the clauses want of an error -/
def wCl (K : PySem.W.Frag) (Wout : WX) (D : Ends) : List Cl → WX
  | [] => Wout
  | k :: r => fun cls d s h => ∃ b, PySem.W.exmOne K cls k.c = some b ∧ (b = true → ∀ a, h a = none → k.ts a cls d (endsAt k.slot D) (slotAt k.slot s a) h) ∧ (b = false → wCl K Wout D r cls d s h)
/-- a clause of the text -/
inductive ClOk (X : Cx) : ExceptHandler → Cl → Prop
  | plain {x : Str} {c : Value} {ts : Addr → Value → Option Addr → TS} {b : Stmt} {bs : List Stmt} {q q' : Pos} (hc : Names X x c)
      (hb : ∀ (a : Addr) (o : Obj) (cls : Value) (d : Option Addr) (pn : List (Addr × Obj)), Zc cls d o → (∃ vs, o.data = .fields vs) → PSs (X.suite a ((a, o) :: pn)) (b :: bs) (ts a cls d)) :
      ClOk X (.ExceptHandler (some (.Name x q)) none (b :: bs) q') ⟨c, none, ts⟩
  | named {x n : Str} {i : Nat} {c : Value} {ts : Addr → Value → Option Addr → TS} {b : Stmt} {bs : List Stmt} {q q' : Pos} (hc : Names X x c) (hi : X.N[i]? = some n) (hn : X.env.kindOf n = some .local)
      (hb : ∀ (a : Addr) (o : Obj) (cls : Value) (d : Option Addr) (pn : List (Addr × Obj)), Zc cls d o → (∃ vs, o.data = .fields vs) → PSs (X.suite a ((a, o) :: pn)) (b :: bs) (ts a cls d)) :
      ClOk X (.ExceptHandler (some (.Name x q)) (some n) (b :: bs) q') ⟨c, some i, ts⟩
inductive ClsOk (X : Cx) : List ExceptHandler → List Cl → Prop
  | nil : ClsOk X [] []
  | cons {e : ExceptHandler} {k : Cl} {es : List ExceptHandler} {ks : List Cl} : ClOk X e k → ClsOk X es ks → ClsOk X (e :: es) (k :: ks)
section
variable {X : Cx} {Wout : WX}
/-- back from a suite: the end, with the clause's name forgotten -/
theorem sp_back {a : Addr} {q : Addr × Obj} {pins : List (Addr × Obj)} {D : Ends} {f : Flow} {s : Shared} (ok : X.Ok) (h : SP (X.suite a (q :: (X.pn ++ pins))) [] D f s) : SP X pins D f s := by
  cases f with
  | next => exact let ⟨s1, h1, I, z⟩ := h; ⟨s1, h1, I.unsuite ok, z⟩
  | brk => exact let ⟨s1, h1, I, z⟩ := h; ⟨s1, h1, I.unsuite ok, z⟩
  | cont => exact let ⟨s1, h1, I, z⟩ := h; ⟨s1, h1, I.unsuite ok, z⟩
  | ret u => exact let ⟨v, s1, h1, I, e, z⟩ := h; ⟨v, s1, h1, I.unsuite ok, e, z⟩
theorem sp_tried {xe : Value → Shared → Prop} {pins : List (Addr × Obj)} {D : Ends} {f : Flow} {s : Shared} (ok : X.Ok) (h : SP (X.tr (X.pn ++ pins) xe) [] D f s) : SP X pins D f s := by
  cases f with
  | next => exact let ⟨s1, h1, I, z⟩ := h; ⟨s1, h1, I.ofTry ok, z⟩
  | brk => exact let ⟨s1, h1, I, z⟩ := h; ⟨s1, h1, I.ofTry ok, z⟩
  | cont => exact let ⟨s1, h1, I, z⟩ := h; ⟨s1, h1, I.ofTry ok, z⟩
  | ret u => exact let ⟨v, s1, h1, I, e, z⟩ := h; ⟨v, s1, h1, I.ofTry ok, e, z⟩
theorem ps_try_cl {body : List Stmt} {e₀ : ExceptHandler} {es : List ExceptHandler} {ks : List Cl} {pos : Pos} {tb : WX → TS} (hs : X.stack = X.env :: X.outer) (hf : X.env.frame = some X.env.locals) (hN : X.N.Nodup) (tk : Takes X Wout)
    (hb : ∀ (W : WX) (pn : List (Addr × Obj)) (xe : Value → Shared → Prop), Takes (X.tr pn xe) W → PassesOwn (model X.prog X.w) X.A X.env xe → PSs (X.tr pn xe) body (tb W))
    (hk : ClsOk X (e₀ :: es) ks) : PS X (.Try body (e₀ :: es) [] [] pos) (fun D s h => tb (wCl X.K Wout D ks) D s h) := by
  refine ⟨fun pins s σ H D I start => ?_⟩
  have ok := I.ok
  have frames : X.A.frames = some (X.env :: X.outer) := ok.frames.trans (by rw [hs])
  refine wpAny_Try_except (wpAny_mono ((hb (wCl X.K Wout D ks) (X.pn ++ pins) _ (fun u t air => ?_) PassesOwn.looking).run [] s σ H D (I.toTry _) start) (fun f t z => ?_) fun _ _ z => z)
  -- first: the body's own ends
  rotate_left
  · have z' := sp_tried ok z
    cases f with
    | next => exact wpAny_execs_nil z'
    | brk => exact z'
    | cont => exact z'
    | ret u => exact z'
  -- then: an error of the body is in the air
  obtain ⟨a, B, t0, pins0, s0, h0, cls, d, rfl, J0, ground, slots, sky, free, os, bare, wish⟩ := air
  have J : Inv X pins s0 h0 t0 := J0.ofTry ok
  refine Sky.land Zc.steady frames hf (show Sky B (X.env :: X.outer) a (Zc cls d) X.env.locals t.heap from hs ▸ sky) fun hp fly more => ?_
  have K1 : Inv X pins s0 h0 { t with heap := hp } := J.landed ground fly.1 (slots.trans more) os bare
  obtain ⟨ob, fs, e1, z1, d1⟩ := fly.there
  have away : a ∉ frs (X.env :: X.outer) := fun m => by
    obtain ⟨_, o2, e2, nf⟩ := fly.2.2.1.mem m
    cases e1.symm.trans e2
    exact nf _ d1
  have aL : a ≠ X.env.locals := fun q => away (List.mem_filterMap.mpr ⟨X.env, List.mem_cons_self, by rw [hf, q]⟩)
  have aF : a ∉ X.fs := fun m => by
    obtain ⟨v, hv, q⟩ := List.mem_filterMap.mp m
    exact away (List.mem_filterMap.mpr ⟨v, List.mem_cons_of_mem _ hv, q⟩)
  have S1 := K1.suite e1 d1 free aL aF
  have clauses : ∀ {hs' : List ExceptHandler} {ks' : List Cl}, ClsOk X hs' ks' → wCl X.K Wout D ks' cls d s0 h0 → wpAny (model X.prog X.w) X.A (handleBy (.ref a) X.env hs') (SP X pins D) X.xe { t with heap := hp } := by
    intro hs' ks' ck
    induction ck with
    | nil =>
      intro out
      refine wpAny_handleBy_nil ?_
      obtain ⟨_, _, _, oe, vs, T, _, _, he, _, hd, hv, _⟩ := id fly
      unfold PySem.passOn
      refine wpAny_bind (wpAny_field he hd hv ?_)
      rw [if_neg (show ¬ (Value.ref T == Value.none) = true by simp)]
      have up : wpAny (model X.prog X.w) X.A (setFlight (.ref a) X.env.frame) (fun _ t4 => wpAny (model X.prog X.w) X.A (throw (.ref a) : Sem Flow) (SP X pins D) X.xe t4) X.xe { t with heap := hp } := by
        rw [hf]
        refine HandSPX.setFlight_upZ fly fun h4 held on => wpAny_throw (tk _ _ ⟨a, B, t0, pins, s0, h0, cls, d, rfl, J, ground, (slots.trans more).trans on, .inr (.inr (by rw [hs]; exact held)), free, os, bare, out⟩)
      first
        | exact wpAny_bind (wpAny_pure (wpAny_bind up))
        | exact wpAny_bind up
    | @cons e k es ks one rest ih =>
      intro out
      obtain ⟨b, ask, yes, no⟩ := out
      have LT : PySem.W.Looks (model X.prog X.w) hp (typeOf (.ref a)) cls := fun _ _ _ _ kp q => wpAny_typeOf_ref (kp _ _ e1) (by rw [z1.1]; exact q)
      have look := PySem.W.exm_one (M := model X.prog X.w) K1.kIn LT ask
      have test : ∀ {x : Str} {np : Pos} {c : Value} {Q E : Value → Shared → Prop}, Names X x c → Q c { t with heap := hp } → wpAny (model X.prog X.w) (X.A.mark (some (.ref a))) (eval (.Name x np) X.env) Q E { t with heap := hp } := fun {x np c Q E} nm q => by
        obtain ⟨g, db, m | ⟨m, v, nn⟩⟩ := nm
        · exact ld_glob (X := X.suite a ((a, ob) :: (X.pn ++ pins))) S1 g m q db
        · exact ld_blt (X := X.suite a ((a, ob) :: (X.pn ++ pins))) S1 g m v q nn db
      cases one with
      | plain hc hbd =>
        refine wpAny_handleBy_cons (codeAny_handlers_test (test hc (look.here ?_))) (fun q => nomatch q)
        cases b with
        | false => exact ih (no rfl)
        | true =>
          refine codeAny_handlers_suite (HandSPX.lands_againZ fly fun h4 f4 on => ?_)
          have J4 : Inv X pins s0 h0 { t with heap := h4 } := J.landed ground f4.1 ((slots.trans more).trans on) os bare
          obtain ⟨o4, v4, e4, z4, d4⟩ := f4.there
          have S4 := J4.suite e4 d4 free aL aF
          refine wpAny_mono ((hbd a o4 cls d (X.pn ++ pins) z4 ⟨_, d4⟩).run [] _ _ h0 _ S4 (yes rfl a free)) (fun f t6 z => ?_) (fun _ _ z => z.elim)
          have z' := sp_back ok z
          cases f with
          | next => exact z'
          | brk => exact z'
          | cont => exact z'
          | ret u => exact z'
      | @named _ n i _ _ _ _ _ qe hc hi hn hbd =>
        refine wpAny_handleBy_cons (codeAny_handlers_test (test hc (look.here ?_))) (fun q => nomatch q)
        cases b with
        | false => exact ih (no rfl)
        | true =>
          refine codeAny_handlers_suite_as (HandSPX.lands_againZ fly fun h4 f4 on => ?_)
          have J4 : Inv X pins s0 h0 { t with heap := h4 } := J.landed ground f4.1 ((slots.trans more).trans on) os bare
          obtain ⟨o4, v4, e4, z4, d4⟩ := f4.there
          have S4 := J4.suite e4 d4 free aL aF
          refine store_ok (X := X.suite a ((a, o4) :: (X.pn ++ pins))) (v := .ref a) S4 hN hi (.inl hn) rfl (fun t5 S5 => ?_) (.inr hn)
          refine wpAny_mono ((hbd a o4 cls d (X.pn ++ pins) z4 ⟨_, d4⟩).run [] t5 _ h0 _ S5 (yes rfl a free)) (fun f t6 z => ?_) (fun _ _ z => z.elim)
          have name_gone : ∀ {s6 : St} {h6 : Hp} {Q : Shared → Prop}, Inv (X.suite a ((a, o4) :: (X.pn ++ pins))) [] s6 h6 t6 → (∀ t7, Inv X pins (s6.set i none) h6 t7 → Q t7) → wpAny (model X.prog X.w) X.A (do bindName X.env n .none; unbindBehindTheSuite X.env n qe) (fun _ t7 => Q t7) X.xe t6 :=
            fun {s6 h6 Q} S6 go => gone_ok (S6.unsuite ok) hN hi hn go
          cases f with
          | next => exact let ⟨_, _, S6, z6⟩ := z; name_gone S6 fun _ J7 => ⟨_, _, J7, z6⟩
          | brk => exact let ⟨_, _, S6, z6⟩ := z; name_gone S6 fun _ J7 => ⟨_, _, J7, z6⟩
          | cont => exact let ⟨_, _, S6, z6⟩ := z; name_gone S6 fun _ J7 => ⟨_, _, J7, z6⟩
          | ret u => exact let ⟨_, _, _, S6, e6, z6⟩ := z; name_gone S6 fun _ J7 => ⟨_, _, _, J7, e6, z6⟩
  exact clauses hk wish
end

/-! ### by functions -/
/-- a clause's function: its class's name, the slot of its name, the suite by the class's name of the error -/
structure CF where
  c : Str
  slot : Option Nat
  f : Str → FT
/-- no error leaves a suite -/
def quiet (x : Fl) : Fl := match x with
  | .ex _ _ _ => .bad
  | .nx ρ S => .nx ρ S
  | .bk ρ S => .bk ρ S
  | .ct ρ S => .ct ρ S
  | .rt r S => .rt r S
  | .bad => .bad
def unSlot (o : Option Nat) (ρ : List Sl) : List Sl := match o with
  | none => ρ
  | some i => ρ.set i .un
def endSlot (o : Option Nat) (x : Fl) : Fl := match x with
  | .ex c ρ S => .ex c ρ S
  | .nx ρ S => .nx (unSlot o ρ) S
  | .bk ρ S => .bk (unSlot o ρ) S
  | .ct ρ S => .ct (unSlot o ρ) S
  | .rt r S => .rt r S
  | .bad => .bad
def handle (sub : Str → Str → Bool) (c : Str) (ρ : List Sl) (S : List Ob) : List CF → Fl
  | [] => .ex c ρ S
  | k :: r => if sub c k.c = true then endSlot k.slot (quiet (k.f c (unSlot k.slot ρ) S)) else handle sub c ρ S r
def fTry (sub : Str → Str → Bool) (ds : List Str) (fb : FT) (ks : List CF) : FT := fun ρ S => match fb ρ S with
  | .ex c ρ' S' => if c ∈ ds then handle sub c ρ' S' ks else .bad
  | x => x
/-- which class lies under which -/
def Subs (K : PySem.W.Frag) (mg : Str → Option Value) (sub : Str → Str → Bool) (ds cs : List Str) : Prop :=
  ∀ d ∈ ds, ∀ c ∈ cs, ∀ (C D : Addr), mg d = some (.ref D) → mg c = some (.ref C) → PySem.W.exmOne K (.ref D) (.ref C) = some (sub d c)
/-- the suite's reading, by the class's name -/
def tCl (K : PySem.W.Frag) (mg : Str → Option Value) (o : Option Nat) (f : Str → FT) : Addr → Value → Option Addr → TS := fun a cls d D s h => d = none ∧ ∃ c C, cls = .ref C ∧ mg c = some (.ref C) ∧ (∀ i, o = some i → i < s.length → s[i]? = some (some (.ref a))) ∧ liftS K mg W0 (f c) D s h
def clOf (K : PySem.W.Frag) (mg : Str → Option Value) (k : CF) (C : Addr) : Cl := ⟨.ref C, k.slot, tCl K mg k.slot k.f⟩
inductive ClF (K : PySem.W.Frag) (mg : Str → Option Value) : List CF → List Cl → Prop
  | nil : ClF K mg [] []
  | cons {k : CF} {ks : List CF} {l : List Cl} {C : Addr} : mg k.c = some (.ref C) → ClF K mg ks l → ClF K mg (k :: ks) (clOf K mg k C :: l)
section
variable {K : PySem.W.Frag} {mg : Str → Option Value} {Wc : WX} {sub : Str → Str → Bool}
theorem contS.quiet {Fr Hd : Hp} {μ : List Addr} {D : Ends} {x : Fl} {o : Option Nat} (c : contS K mg Wc Fr Hd μ D (endSlot o (quiet x))) : contS K mg W0 Fr Hd μ (endsAt o D) x := by
  cases x with
  | ex c ρ S => exact c.elim
  | bad => exact c.elim
  | rt r S =>
    cases o with
    | none => cases r <;> exact c
    | some i => cases r <;> exact c
  | nx ρ S =>
    cases o with
    | none => exact c
    | some i => exact fun F m s H l p r => c F m _ H l p r.setUn
  | bk ρ S =>
    cases o with
    | none => exact c
    | some i => exact fun F m s H l p r => c F m _ H l p r.setUn
  | ct ρ S =>
    cases o with
    | none => exact c
    | some i => exact fun F m s H l p r => c F m _ H l p r.setUn
theorem handle_ok {Hd : Hp} {D : Ends} {ds cs : List Str} (hs : Subs K mg sub ds cs) {c : Str} {C : Addr} (hd : c ∈ ds) (hC : mg c = some (.ref C)) : ∀ {ks : List CF} {l : List Cl}, ClF K mg ks l → (∀ k ∈ ks, k.c ∈ cs) → ∀ {Fr : Hp} {μ : List Addr} {ρ : List Sl} {S : List Ob} {σ : St} {H : Hp},
    R K Fr Hd μ ρ S σ H → contS K mg Wc Fr Hd μ D (handle sub c ρ S ks) → wCl K Wc D l (.ref C) none σ H
  | _, _, .nil, _, F, m, ρ, S, σ, H, r, q => q F m σ C H Le.refl (List.prefix_refl m) r hC
  | _, _, .cons (k := k) (C := C') hk t, hcs, F, m, ρ, S, σ, H, r, q => by
    refine ⟨sub c k.c, hs c hd k.c (hcs k List.mem_cons_self) C' C hC hk, fun e a ha => ?_, fun e => ?_⟩
    · unfold handle at q
      rw [if_pos e] at q
      refine ⟨rfl, c, C, rfl, hC, fun i ei hi => ?_, F, Hd, m, unSlot k.slot ρ, S, ?_, contS.quiet q⟩
      · have hi : i < (slotAt k.slot σ a).length := hi
        show (slotAt k.slot σ a)[i]? = some (some (.ref a))
        have ei : k.slot = some i := ei
        rw [ei] at hi ⊢
        exact List.getElem?_set_self (by simpa [slotAt] using hi)
      show R K F Hd m (unSlot k.slot ρ) S (slotAt k.slot σ a) H
      cases k.slot with
      | none => exact r
      | some i => exact r.setUn
    · unfold handle at q
      rw [if_neg (by rw [e]; exact Bool.false_ne_true)] at q
      exact handle_ok hs hd hC t (fun k hk => hcs k (List.mem_cons_of_mem _ hk)) r q
theorem try_imp {fb : FT} {ks : List CF} {l : List Cl} {ds cs : List Str} (hs : Subs K mg sub ds cs) (hc : ∀ k ∈ ks, k.c ∈ cs) (hl : ClF K mg ks l) {D : Ends} {σ : St} {H : Hp} (h : liftS K mg Wc (fTry sub ds fb ks) D σ H) : liftS K mg (wCl K Wc D l) fb D σ H := by
  obtain ⟨F, Hd, m, ρ, S, r, c⟩ := h
  refine ⟨F, Hd, m, ρ, S, r, ?_⟩
  unfold fTry at c
  cases q : fb ρ S with
  | nx ρ1 S1 => rw [q] at c; exact c
  | bk ρ1 S1 => rw [q] at c; exact c
  | ct ρ1 S1 => rw [q] at c; exact c
  | rt x S1 => rw [q] at c; cases x <;> exact c
  | bad => rw [q] at c; exact c
  | ex x ρ1 S1 =>
    rw [q] at c
    have c : contS K mg Wc F Hd m D (if x ∈ ds then handle sub x ρ1 S1 ks else .bad) := c
    split at c
    · rename_i hd
      exact fun F1 m1 σ1 C H1 l1 p1 r1 hC => handle_ok (Hd := Hd) hs hd hC hl hc r1 (contS.mono l1 p1 c)
    · exact c.elim
end
/-! ### suites that look at the caught error -/
def putV (l : List (Nat × V)) (s : St) : St := l.foldl (fun s p => s.set p.1 (some p.2)) s
def putD (l : List (Nat × PyData)) (ρ : List Sl) : List Sl := l.foldl (fun ρ p => ρ.set p.1 (.w (.d p.2))) ρ
/-- an expression that is v whatever the rest, the caught error at a in slot i -/
def EE (X : Cx) (i : Nat) (a : Addr) (e : Expr) (v : V) : Prop := PE X e fun s h Q => s[i]? = some (some (.ref a)) ∧ Q v h
def ET (X : Cx) (i : Nat) (a : Addr) (e : Expr) (b : Bool) : Prop := PT X e fun s h Q => s[i]? = some (some (.ref a)) ∧ Q b h
def EW (X : Cx) (i : Nat) (a : Addr) (e : Expr) (b : Bool) : Prop := PW X e fun s h Q => s[i]? = some (some (.ref a)) ∧ Q b h
def ES (X : Cx) (i : Nat) (a : Addr) (st : Stmt) (l : List (Nat × V)) : Prop := (∀ p ∈ l, p.1 ≠ i) ∧ PS X st fun D s h => s[i]? = some (some (.ref a)) ∧ D.nx (putV l s) h
def ESs (X : Cx) (i : Nat) (a : Addr) (st : List Stmt) (l : List (Nat × V)) : Prop := (∀ p ∈ l, p.1 ≠ i) ∧ PSs X st fun D s h => s[i]? = some (some (.ref a)) ∧ D.nx (putV l s) h
theorem putV_get {i : Nat} : ∀ {l : List (Nat × V)} {s : St}, (∀ p ∈ l, p.1 ≠ i) → (putV l s)[i]? = s[i]?
  | [], _, _ => rfl
  | p :: r, s, h => by
    show (putV r (s.set p.1 (some p.2)))[i]? = _
    rw [putV_get fun q hq => h q (List.mem_cons_of_mem _ hq), List.getElem?_set_ne (h p List.mem_cons_self)]
theorem putV_app (l m : List (Nat × V)) (s : St) : putV (l ++ m) s = putV m (putV l s) := by unfold putV; rw [List.foldl_append]
section
variable {X : Cx} {i : Nat} {a : Addr} {e e2 : Expr} {es : List Expr} {pos p : Pos} {v : V} {b b2 : Bool} {st : Stmt} {sts : List Stmt} {l m : List (Nat × V)}
theorem ee_c (h : PE X e (tC v)) : EE X i a e v := PE.imp h fun _ _ _ q => q.2
theorem ee_isi {x n : Str} {D E : Addr} {oe : Obj} {pn : List (Addr × Obj)} {p1 p2 : Pos} (C : ExcC X.K D) (hz : Zc (.ref D) none oe) (hf : ∃ vs, oe.data = .fields vs) (hN : X.N[i]? = some n) (hv : Vis X.env.scope n) (hk : PySem.W.kitOne X.K (.ref D) (.ref E) = some b)
    (hg : Gl X "isinstance") (hm : X.mg "isinstance" = none) (hgx : Gl X x) (hmx : X.mg x = some (.ref E)) (hdb : (x == ("__debug__" : Str)) = false := by decide) (hdn : (n == ("__debug__" : Str)) = false := by decide) (hcd : (n == ("__classdict__" : Str)) = false := by decide)
    (hs : starEach [.Name n p1, .Name x p2] (X.suite a ((a, oe) :: pn)).env = (false, eval (.Name n p1) (X.suite a ((a, oe) :: pn)).env) :: starEach [.Name x p2] (X.suite a ((a, oe) :: pn)).env := by rfl)
    (hs2 : starEach [.Name x p2] (X.suite a ((a, oe) :: pn)).env = (false, eval (.Name x p2) (X.suite a ((a, oe) :: pn)).env) :: starEach [] (X.suite a ((a, oe) :: pn)).env := by rfl) (hpl : (backTo pos (starEach [.Name x p2] (X.suite a ((a, oe) :: pn)).env)).any (·.1) = false := by rfl) :
    EE (X.suite a ((a, oe) :: pn)) i a (.Call (.Name "isinstance" p) [.Name n p1, .Name x p2] [] pos) (.bl b) :=
  PE.imp (pe_callB (X := X.suite a ((a, oe) :: pn)) (call_isE C hz hf) hg hm (by decide +kernel) (pa_cons (pe_var hN hv hdn hcd) (pa_cons (pe_glob (v := .ref E) hgx hmx rfl hdb) pa_nil hs2) hs) (he := hs) (hpl := hpl)) fun s h Q q =>
    ⟨_, q.1, .ref E, .ref E, b, rfl, fun u hu => hu, hk, q.2⟩
theorem ee_isiT {T n : Str} {t : String} {D : Addr} {oe : Obj} {pn : List (Addr × Obj)} {p1 p2 : Pos} (C : ExcC X.K D) (hz : Zc (.ref D) none oe) (hf : ∃ vs, oe.data = .fields vs) (hN : X.N[i]? = some n) (hv : Vis X.env.scope n) (hk : PySem.W.kitOne X.K (.ref D) (.type t) = some b)
    (hg : Gl X "isinstance") (hm : X.mg "isinstance" = none) (hgT : Gl X T) (hmT : X.mg T = none) (hvT : bootBuiltins T = some (.type t)) (hnT : T ≠ "__name__" := by decide) (hdT : (T == ("__debug__" : Str)) = false := by decide) (hdn : (n == ("__debug__" : Str)) = false := by decide) (hcd : (n == ("__classdict__" : Str)) = false := by decide)
    (hs : starEach [.Name n p1, .Name T p2] (X.suite a ((a, oe) :: pn)).env = (false, eval (.Name n p1) (X.suite a ((a, oe) :: pn)).env) :: starEach [.Name T p2] (X.suite a ((a, oe) :: pn)).env := by rfl)
    (hs2 : starEach [.Name T p2] (X.suite a ((a, oe) :: pn)).env = (false, eval (.Name T p2) (X.suite a ((a, oe) :: pn)).env) :: starEach [] (X.suite a ((a, oe) :: pn)).env := by rfl) (hpl : (backTo pos (starEach [.Name T p2] (X.suite a ((a, oe) :: pn)).env)).any (·.1) = false := by rfl) :
    EE (X.suite a ((a, oe) :: pn)) i a (.Call (.Name "isinstance" p) [.Name n p1, .Name T p2] [] pos) (.bl b) :=
  PE.imp (pe_callB (X := X.suite a ((a, oe) :: pn)) (call_isE C hz hf) hg hm (by decide +kernel) (pa_cons (pe_var hN hv hdn hcd) (pa_cons (pe_bltn (v := .ty t) hgT hmT hvT rfl hnT hdT) pa_nil hs2) hs) (he := hs) (hpl := hpl)) fun s h Q q =>
    ⟨_, q.1, .ty t, .type t, b, rfl, fun u hu => hu, hk, q.2⟩
theorem et_v (h : EE X i a e (.bl b)) (he : ∀ whole, isTrue e X.env whole = (do let v ← whole; standAt e.pos; holding [v] (truthy v)) := by intro _; rfl) : ET X i a e b := PT.imp (pt_val h he) fun _ _ _ q => ⟨q.1, b, rfl, q.2⟩
theorem et_not (h : ET X i a e b) : ET X i a (.UnaryOp .Not e pos) (!b) := PT.imp (pt_not h) fun _ _ _ q => q
theorem ew_and1 (h : ET X i a e b) : EW X i a (.BoolOp .And [e] pos) b := pw_and1 h
theorem ew_and (h : ET X i a e b) (k : EW X i a (.BoolOp .And (e2 :: es) pos) b2) : EW X i a (.BoolOp .And (e :: e2 :: es) pos) (b && b2) := PW.imp (pw_and h k) fun _ _ Q q => ⟨q.1, by
  cases b with
  | true => rw [if_pos rfl]; exact q
  | false => rw [if_neg Bool.false_ne_true]; exact q.2⟩
theorem ew_or1 (h : ET X i a e b) : EW X i a (.BoolOp .Or [e] pos) b := pw_or1 h
theorem ew_or (h : ET X i a e b) (k : EW X i a (.BoolOp .Or (e2 :: es) pos) b2) : EW X i a (.BoolOp .Or (e :: e2 :: es) pos) (b || b2) := PW.imp (pw_or h k) fun _ _ Q q => ⟨q.1, by
  cases b with
  | true => rw [if_pos rfl]; exact q.2
  | false => rw [if_neg Bool.false_ne_true]; exact q⟩
theorem ee_if {c : Expr} {w : V} (h : ET X i a c b) (h1 : EE X i a e v) (h2 : EE X i a e2 w) : EE X i a (.IfExp c e e2 pos) (if b = true then v else w) := PE.imp (pe_ifExp h h1 h2) fun _ _ Q q => ⟨q.1, by
  cases b with
  | true => rw [if_pos rfl] at q ⊢; exact q
  | false => rw [if_neg Bool.false_ne_true] at q ⊢; exact q⟩
theorem es_set {j : Nat} {x : Str} {p' : Pos} (hj : j ≠ i) (hN : X.N.Nodup) (hi : X.N[j]? = some x) (hx : Loc X.env.scope x) (he : EE X i a e v) (hs : swapsWith e (some (.Name x p')) pos.line X.env = pure false := by rfl) (hf : X.fn x = true ∨ X.env.scope.names.lookup x = some .local := by first | exact .inl rfl | exact .inr rfl | assumption) :
    ES X i a (.Assign [.Name x p'] e pos) [(j, v)] := ⟨fun p hp => by rw [List.mem_singleton] at hp; rw [hp]; exact hj, PS.imp (ps_set hN hi hx he hs hf) fun _ _ _ q => q⟩
theorem es_nil : ESs X i a [] [] := ⟨fun p hp => (nomatch hp), PSs.imp pss_nil fun _ _ _ q => q.2⟩
theorem es_cons (h : ES X i a st l) (k : ESs X i a sts m) : ESs X i a (st :: sts) (l ++ m) := ⟨fun p hp => (List.mem_append.mp hp).elim (h.1 p) (k.1 p), PSs.imp (pss_cons h.2 k.2) fun D s _ q => ⟨q.1, by rw [putV_get h.1]; exact q.1, by rw [← putV_app]; exact q.2⟩⟩
theorem es_if {c : Expr} {s1 s2 : List Stmt} (h : ET X i a c b) (h1 : ESs X i a s1 l) (h2 : ESs X i a s2 m) : ES X i a (.If c s1 s2 pos) (if b = true then l else m) := by
  constructor
  · cases b with
    | true => exact h1.1
    | false => exact h2.1
  · refine PS.imp (ps_if h h1.2 h2.2) fun D s _ q => ⟨q.1, ?_⟩
    cases b with
    | true => rw [if_pos rfl] at q ⊢; exact q
    | false => rw [if_neg Bool.false_ne_true] at q ⊢; exact q
end
/-- the constants that a suite stores -/
def fPut (l : List (Nat × PyData)) : FT := fun ρ S => .nx (putD l ρ) S
inductive PutRel (K : PySem.W.Frag) : List (Nat × PyData) → List (Nat × V) → Prop
  | nil : PutRel K [] []
  | cons {i : Nat} {d : PyData} {v : V} {l : List (Nat × PyData)} {m : List (Nat × V)} : (∀ F : Hp, Dp K F v d) → PutRel K l m → PutRel K ((i, d) :: l) ((i, v) :: m)
theorem put_ok {K : PySem.W.Frag} {Fr Hd : Hp} {μ : List Addr} {S : List Ob} {H : Hp} : ∀ {l : List (Nat × PyData)} {m : List (Nat × V)} {ρ : List Sl} {σ : St}, PutRel K l m → R K Fr Hd μ ρ S σ H → R K Fr Hd μ (putD l ρ) S (putV m σ) H
  | _, _, _, _, .nil, r => r
  | _, _, ρ, σ, .cons (i := i) (d := d) (v := v) (l := l) (m := m) h t, r => put_ok (l := l) (m := m) t (r.setW (i := i) (x := .d d) (v := v) (h Fr))

section
variable {X : Cx} {Wc : WX} {body : List Stmt} {e₀ : ExceptHandler} {es : List ExceptHandler} {pos : Pos} {fb : FT} {ks : List CF} {sub : Str → Str → Bool} {ds cs : List Str}
/-- the text's clauses with their functions -/
inductive HdF (X : Cx) : List ExceptHandler → List CF → Prop
  | nil : HdF X [] []
  | plain {x : Str} {C : Addr} {f : Str → FT} {b : Stmt} {bs : List Stmt} {q q' : Pos} {es : List ExceptHandler} {ks : List CF} (hg : Gl X x) (hm : X.mg x = some (.ref C)) (hd : (x == ("__debug__" : Str)) = false)
      (hb : ∀ (c : Str) (a : Addr) (o : Obj) (D : Addr) (pn : List (Addr × Obj)), X.mg c = some (.ref D) → Zc (.ref D) none o → (∃ vs, o.data = .fields vs) → PSs (X.suite a ((a, o) :: pn)) (b :: bs) (LS (X.suite a ((a, o) :: pn)) W0 (f c))) (r : HdF X es ks) :
      HdF X (.ExceptHandler (some (.Name x q)) none (b :: bs) q' :: es) (⟨x, none, f⟩ :: ks)
  | named {x n : Str} {i : Nat} {C : Addr} {f : Str → FT} {b : Stmt} {bs : List Stmt} {q q' : Pos} {es : List ExceptHandler} {ks : List CF} (hg : Gl X x) (hm : X.mg x = some (.ref C)) (hd : (x == ("__debug__" : Str)) = false) (hi : X.N[i]? = some n) (hn : X.env.kindOf n = some .local)
      (hb : ∀ (c : Str), f c = fNever ∨ ∃ (l : List (Nat × PyData)) (m : List (Nat × V)), f c = fPut l ∧ PutRel X.K l m ∧ ∀ (a : Addr) (o : Obj) (D : Addr) (pn : List (Addr × Obj)), X.mg c = some (.ref D) → Zc (.ref D) none o → (∃ vs, o.data = .fields vs) → ESs (X.suite a ((a, o) :: pn)) i a (b :: bs) m) (r : HdF X es ks) :
      HdF X (.ExceptHandler (some (.Name x q)) (some n) (b :: bs) q' :: es) (⟨x, some i, f⟩ :: ks)
theorem hdF_ok {es : List ExceptHandler} {ks : List CF} (h : HdF X es ks) : ∃ l, ClsOk X es l ∧ ClF X.K X.mg ks l := by
  induction h with
  | nil => exact ⟨[], .nil, .nil⟩
  | @plain x C f b bs q q' es ks hg hm hd hb r ih =>
    obtain ⟨l, h1, h2⟩ := ih
    refine ⟨_, .cons (.plain (c := .ref C) (ts := tCl X.K X.mg none f) ⟨hg, hd, .inl hm⟩ fun a o cls d pn hz hf => ⟨fun pins s σ H D I z => ?_⟩) h1, .cons (k := ⟨x, none, f⟩) hm h2⟩
    obtain ⟨rfl, c, C', rfl, hc, _, z⟩ := z
    exact (hb c a o C' pn hc hz hf).run pins s σ H D I z
  | @named x n i C f b bs q q' es ks hg hm hd hi hn hb r ih =>
    obtain ⟨l, h1, h2⟩ := ih
    refine ⟨_, .cons (.named (c := .ref C) (ts := tCl X.K X.mg (some i) f) ⟨hg, hd, .inl hm⟩ hi hn fun a o cls d pn hz hf => ⟨fun pins s σ H D I z => ?_⟩) h1, .cons (k := ⟨x, some i, f⟩) hm h2⟩
    obtain ⟨rfl, c, C', rfl, hc, hsl, F, Hd, mu, ρ, S, r0, c0⟩ := z
    rcases hb c with e | ⟨l0, m0, e, hr, hb⟩
    · rw [e] at c0; exact c0.elim
    · rw [e] at c0
      refine (hb a o C' pn hc hz hf).2.run pins s σ H D I ⟨hsl i rfl ?_, ?_⟩
      · have e1 := I.len
        have e2 := (List.getElem?_eq_some_iff.mp hi).1
        have e1 : σ.length = X.N.length := e1
        omega
      · exact c0 F mu _ H Le.refl (List.prefix_refl mu) (put_ok hr r0)
/-- try: .. except A [as e]: .. except B: .. -/
theorem s_try (hs : X.stack = X.env :: X.outer) (hf : X.env.frame = some X.env.locals) (hN : X.N.Nodup) (tk : Takes X Wc) (hsub : Subs X.K X.mg sub ds cs) (hcs : ∀ k ∈ ks, k.c ∈ cs)
    (hb : ∀ (W : WX) (pn : List (Addr × Obj)) (xe : Value → Shared → Prop), Takes (X.tr pn xe) W → PassesOwn (model X.prog X.w) X.A X.env xe → PSs (X.tr pn xe) body (LS (X.tr pn xe) W fb))
    (hk : HdF X (e₀ :: es) ks) : PS X (.Try body (e₀ :: es) [] [] pos) (LS X Wc (fTry sub ds fb ks)) := by
  obtain ⟨l, h1, h2⟩ := hdF_ok hk
  exact PS.imp (ps_try_cl (tb := fun W => liftS X.K X.mg W fb) hs hf hN tk hb h1) fun D σ H h => try_imp hsub hcs h2 h
end
end L2.Q
/-! Layer Q, part K: lists that change: append, pop, extend; several names at once; x op= y. -/
namespace L2.Q
open PySem PySem.Spec PyProof.Rows

/-! ### a hidden new object while more is reckoned -/
section
variable {K : PySem.W.Frag} {mg : Str → Option Value} {Wc : WX} {α β γ δ : Type} {rep : Rep α β} {rep2 : Rep γ δ} {Fr Fr' Hd : Hp} {μ μ' : List Addr} {ρ : List Sl} {S : List Ob} {σ : St} {H : Hp} {Q : β → Hp → Prop} {Q2 : δ → Hp → Prop} {q : Addr} {ho : HO}
theorem unhid (f : Free Fr' Hd μ' ρ σ q) (r : R K Fr (upd Hd q ho) μ ρ S σ H) : R K Fr Hd μ ρ S σ H ∧ H q = some ho ∧ Free Fr Hd μ ρ σ q := by
  have hH := r.b.hd q ho upd_same
  refine ⟨r.unhide (Le.upd f.hd), hH.1, hH.2, f.hd, fun hm => ?_, f.ow⟩
  obtain ⟨_, _, _, h9, _⟩ := r.b.muH hm
  rw [upd_same] at h9; cases h9
theorem stepSH {f : List Sl → List Ob → Res α} {k : α → List Ob → Fl} {D : Ends} (r : R K Fr Hd μ ρ S σ H) (hp : H q = some ho) (fr : Free Fr Hd μ ρ σ q) (c : contS K mg Wc Fr Hd μ D (fl (f ρ S) ρ k))
    (hk : ∀ Fr' μ' a b S1 H1, Le Fr Fr' → μ <+: μ' → R K Fr' Hd μ' ρ S1 σ H1 → H1 q = some ho → Free Fr' Hd μ' ρ σ q → rep Fr' (upd Hd q ho) μ' ρ σ H1 a b → contS K mg Wc Fr' Hd μ' D (k a S1) → Q b H1) : lift K mg Wc rep f σ H Q := by
  refine ⟨Fr, upd Hd q ho, μ, ρ, S, r.hide hp fr, ?_⟩
  cases e : f ρ S with
  | ok a S1 =>
    rw [e] at c
    intro F m b H' l p r' q'
    obtain ⟨r1, h1, f1⟩ := unhid fr r'
    exact hk F m a b S1 H' l p r1 h1 f1 q' (contS.mono l p c)
  | err x S1 => rw [e] at c; exact fun F m C H' l p r' q' => c F m σ C H' l p (unhid fr r').1 q'
  | bad => rw [e] at c; exact c
theorem stepH {f : List Sl → List Ob → Res α} {k : α → List Ob → Res γ} (r : R K Fr Hd μ ρ S σ H) (hp : H q = some ho) (fr : Free Fr Hd μ ρ σ q) (c : cont K mg Wc rep2 Fr Hd μ ρ σ Q2 ((f ρ S).bind k))
    (hk : ∀ Fr' μ' a b S1 H1, Le Fr Fr' → μ <+: μ' → R K Fr' Hd μ' ρ S1 σ H1 → H1 q = some ho → Free Fr' Hd μ' ρ σ q → rep Fr' (upd Hd q ho) μ' ρ σ H1 a b → cont K mg Wc rep2 Fr' Hd μ' ρ σ Q2 (k a S1) → Q b H1) : lift K mg Wc rep f σ H Q := by
  refine ⟨Fr, upd Hd q ho, μ, ρ, S, r.hide hp fr, ?_⟩
  cases e : f ρ S with
  | ok a S1 =>
    rw [e] at c
    intro F m b H' l p r' q'
    obtain ⟨r1, h1, f1⟩ := unhid fr r'
    exact hk F m a b S1 H' l p r1 h1 f1 q' (cont.mono l p (fun _ _ z => z) c)
  | err x S1 => rw [e] at c; exact fun F m C H' l p r' q' => c F m C H' l p (unhid fr r').1 q'
  | bad => rw [e] at c; exact c
theorem free_set {p p1 : Addr} {i : Nat} {o : Ob} (f : Free Fr (upd Hd p1 ho) μ ρ σ p) (n : Hd p1 = none) : Free Fr Hd μ (ρ.set i (.own o)) (σ.set i (some (.ref p1))) p := by
  have np : p ≠ p1 := fun e => by have := f.hd; rw [e, upd_same] at this; cases this
  refine ⟨f.fr, none_le (Le.upd n) f.hd, f.mu, fun j ⟨⟨u, h1⟩, h2⟩ => ?_⟩
  by_cases z : i = j
  · subst z
    by_cases hi : i < σ.length
    · rw [List.getElem?_set_self hi] at h2; cases h2; exact np rfl
    · rw [List.getElem?_eq_none (by simpa using hi)] at h2; cases h2
  · rw [List.getElem?_set_ne z] at h1 h2
    exact f.ow j ⟨⟨u, h1⟩, h2⟩
theorem free_setW {p : Addr} {i : Nat} {x : W} {v : Option V} (f : Free Fr Hd μ ρ σ p) : Free Fr Hd μ (ρ.set i (.w x)) (σ.set i v) p := by
  refine ⟨f.fr, f.hd, f.mu, fun j ⟨⟨u, h1⟩, h2⟩ => ?_⟩
  by_cases z : i = j
  · subst z
    by_cases hi : i < ρ.length
    · rw [List.getElem?_set_self hi] at h1; cases h1
    · rw [List.getElem?_eq_none (by simpa using hi)] at h1; cases h1
  · rw [List.getElem?_set_ne z] at h1 h2
    exact f.ow j ⟨⟨u, h1⟩, h2⟩
/-- the object of an own slot is written -/
theorem R.putOwn (r : R K Fr Hd μ ρ S σ H) {i : Nat} {o o' : Ob} {a : Addr} (e : ρ[i]? = some (.own o)) (ea : σ[i]? = some (some (.ref a))) (h : RepO K Fr μ o' ho) : R K Fr Hd μ (ρ.set i (.own o')) S σ (L2.upd H a ho) := by
  have ow : Owns ρ σ i a := ⟨⟨o, e⟩, ea⟩
  have f := r.free_un ow
  have r1 := ((r.un i).upd (o := ho) f).setOwn (i := i) upd_same f h
  rw [set_at ea, List.set_set] at r1
  exact r1
end

/-! ### what a name takes -/
def repC (K : PySem.W.Frag) : Rep Sl V := fun Fr Hd μ ρ σ H c v => match c with
  | .un => False
  | .w x => RepW K Fr μ x v
  | .own o => ∃ p ho, v = .ref p ∧ H p = some ho ∧ RepO K Fr μ o ho ∧ Free Fr Hd μ ρ σ p
abbrev FC := List Sl → List Ob → Res Sl
abbrev LC (X : Cx) (Wc : WX) (f : FC) : TE := lift X.K X.mg Wc (repC X.K) f
def fCw (fa : FE) : FC := fun ρ S => (fa ρ S).bind fun x S1 => .ok (.w x) S1
def fCo (fo : FO) : FC := fun ρ S => (fo ρ S).bind fun o S1 => .ok (.own o) S1
section
variable {X : Cx} {Wc : WX} {a b c3 e e2 : Expr} {es : List Expr} {pos p : Pos} {fa fb : FE} {fo fo2 : FO} {f1 f2 f3 : FC} {g : FG} {own : List Nat}
theorem c_w (h : PE X e (LE X Wc fa)) : PE X e (LC X Wc (fCw fa)) := PE.imp h fun σ H Q h => by
  obtain ⟨F, D, m, ρ, S, r0, c⟩ := h
  refine step r0 c fun F1 m1 x v S1 H1 l1 p1 r1 e1 c1 => ?_
  exact c1 F1 m1 v H1 Le.refl (List.prefix_refl m1) r1 e1
theorem c_o (h : PE X e (LO X Wc fo)) : PE X e (LC X Wc (fCo fo)) := PE.imp h fun σ H Q h => by
  obtain ⟨F, D, m, ρ, S, r0, c⟩ := h
  refine step r0 c fun F1 m1 x v S1 H1 l1 p1 r1 e1 c1 => ?_
  exact c1 F1 m1 v H1 Le.refl (List.prefix_refl m1) r1 e1
theorem R.setC {Fr Hd : Hp} {μ : List Addr} {ρ : List Sl} {S : List Ob} {σ : St} {H : Hp} {i : Nat} {c : Sl} {v : V} (r : R X.K Fr Hd μ ρ S σ H) (e : repC X.K Fr Hd μ ρ σ H c v) : R X.K Fr Hd μ (ρ.set i c) S (σ.set i (some v)) H := by
  cases c with
  | un => exact e.elim
  | w x => exact r.setW e
  | own o => obtain ⟨p, ho, rfl, h1, h2, h3⟩ := e; exact r.setOwn h1 h3 h2
/-- a, b = e, f -/
def fPar (i j : Nat) (f1 f2 : FC) : FT := fun ρ S => fl (f1 ρ S) ρ fun c1 S1 => fl (f2 ρ S1) ρ fun c2 S2 => .nx ((ρ.set i c1).set j c2) S2
theorem par_imp {i j : Nat} {D : Ends} {σ : St} {H : Hp} (h : LS X Wc (fPar i j f1 f2) D σ H) : tPar i j (tCons (LC X Wc f1) (tCons (LC X Wc f2) tNil)) D σ H := by
  obtain ⟨F, Hd, m, ρ, S, r, c⟩ := h
  show LC X Wc f1 σ H _
  refine stepS r c fun F1 m1 k1 v1 S1 H1 l1 p1 r1 e1 c1 => ?_
  cases k1 with
  | un => exact e1.elim
  | w x =>
    refine stepS r1 c1 fun F2 m2 k2 v2 S2 H2 l2 p2 r2 e2 c2 => ?_
    refine ⟨v1, v2, rfl, ?_⟩
    have r3 := r2.setW (i := i) (RepW.mono l2 p2 e1)
    have e3 : repC X.K F2 Hd m2 (ρ.set i (.w x)) (σ.set i (some v1)) H2 k2 v2 := by
      cases k2 with
      | un => exact e2
      | w y => exact e2
      | own o => obtain ⟨q, ho, h0, h1, h2, h3⟩ := e2; exact ⟨q, ho, h0, h1, h2, free_setW h3⟩
    exact c2 F2 m2 _ H2 Le.refl (List.prefix_refl m2) (r3.setC e3)
  | own o =>
    obtain ⟨q, ho, rfl, h1, h2, h3⟩ := e1
    refine stepSH r1 h1 h3 c1 fun F2 m2 k2 v2 S2 H2 l2 p2 r2 hq fq e2 c2 => ?_
    refine ⟨.ref q, v2, rfl, ?_⟩
    have r3 := r2.setOwn (i := i) hq fq (h2.mono l2 p2)
    have e3 : repC X.K F2 Hd m2 (ρ.set i (.own o)) (σ.set i (some (.ref q))) H2 k2 v2 := by
      cases k2 with
      | un => exact e2
      | w y => exact e2
      | own o2 => obtain ⟨q2, ho2, h0, h1, h2, h3⟩ := e2; exact ⟨q2, ho2, h0, h1, h2, free_set h3 fq.hd⟩
    exact c2 F2 m2 _ H2 Le.refl (List.prefix_refl m2) (r3.setC e3)
theorem s_par {i j : Nat} {x y : Str} {px py pt : Pos} {kt k2 pt2} (hc : X.calm = true) (hN : X.N.Nodup) (hi : X.N[i]? = some x) (hj : X.N[j]? = some y) (hij : i ≠ j)
    (hx : X.env.scope.names.lookup x = some .local) (hy : X.env.scope.names.lookup y = some .local) (ha : PE X a (LC X Wc f1)) (hb : PE X b (LC X Wc f2))
    (hw : swappedStores [.Tuple [.Name x px, .Name y py] kt pt] (.Tuple [a, b] k2 pt2) X.env = pure (some [x, y]))
    (hs : swapsWithSole [.Tuple [.Name x px, .Name y py] kt pt] (.Tuple [a, b] k2 pt2) pos.line X.env = pure false := by rfl)
    (hs1 : starEach [a, b] X.env = (false, eval a X.env) :: starEach [b] X.env := by rfl) (hs2 : starEach [b] X.env = (false, eval b X.env) :: starEach [] X.env := by rfl) :
    PS X (.Assign [.Tuple [.Name x px, .Name y py] kt pt] (.Tuple [a, b] k2 pt2) pos) (LS X Wc (fPar i j f1 f2)) :=
  PS.imp (ps_par hc hN hi hj hij hx hy (pa_cons ha (pa_cons hb pa_nil hs2) hs1) hw hs) fun _ _ _ h => par_imp h
/-- a, b, c = e, f, g -/
def fPar3 (i j l : Nat) (f1 f2 f3 : FC) : FT := fun ρ S => fl (f1 ρ S) ρ fun c1 S1 => fl (f2 ρ S1) ρ fun c2 S2 => fl (f3 ρ S2) ρ fun c3 S3 => .nx (((ρ.set i c1).set j c2).set l c3) S3
theorem par3_imp {i j l : Nat} {D : Ends} {σ : St} {H : Hp} (h : LS X Wc (fPar3 i j l f1 f2 f3) D σ H) : tPar3 i j l (tCons (LC X Wc f1) (tCons (LC X Wc f2) (tCons (LC X Wc f3) tNil))) D σ H := by
  obtain ⟨F, Hd, m, ρ, S, r, c⟩ := h
  show LC X Wc f1 σ H _
  refine stepS r c fun F1 m1 k1 v1 S1 H1 l1 p1 r1 e1 c1 => ?_
  cases k1 with
  | un => exact e1.elim
  | w x =>
    refine stepS r1 c1 fun F2 m2 k2 v2 S2 H2 l2 p2 r2 e2 c2 => ?_
    cases k2 with
    | un => exact e2.elim
    | w y =>
      refine stepS r2 c2 fun F3 m3 k3 v3 S3 H3 l3 p3 r3 e3 c3 => ?_
      refine ⟨v1, v2, v3, rfl, ?_⟩
      have r4 := (r3.setW (i := i) (RepW.mono (l2.trans l3) (p2.trans p3) e1)).setW (i := j) (RepW.mono l3 p3 e2)
      refine c3 F3 m3 _ H3 Le.refl (List.prefix_refl m3) (r4.setC ?_)
      cases k3 with
      | un => exact e3
      | w y => exact e3
      | own o => obtain ⟨q, ho, h0, h1, h2, h3⟩ := e3; exact ⟨q, ho, h0, h1, h2, free_setW (free_setW h3)⟩
    | own o2 =>
      obtain ⟨q2, ho2, rfl, h21, h22, h23⟩ := e2
      refine stepSH r2 h21 h23 c2 fun F3 m3 k3 v3 S3 H3 l3 p3 r3 hq fq e3 c3 => ?_
      refine ⟨v1, .ref q2, v3, rfl, ?_⟩
      have r4 := (r3.setW (i := i) (RepW.mono (l2.trans l3) (p2.trans p3) e1)).setOwn (i := j) hq (free_setW fq) (h22.mono l3 p3)
      refine c3 F3 m3 _ H3 Le.refl (List.prefix_refl m3) (r4.setC ?_)
      cases k3 with
      | un => exact e3
      | w y => exact e3
      | own o => obtain ⟨q, ho, h0, h1, h2, h3⟩ := e3; exact ⟨q, ho, h0, h1, h2, free_set (free_setW h3) fq.hd⟩
  | own oA =>
    obtain ⟨q, ho, rfl, h11, h12, h13⟩ := e1
    refine stepSH r1 h11 h13 c1 fun F2 m2 k2 v2 S2 H2 l2 p2 r2 hq fq e2 c2 => ?_
    cases k2 with
    | un => exact e2.elim
    | w y =>
      refine stepSH r2 hq fq c2 fun F3 m3 k3 v3 S3 H3 l3 p3 r3 hq3 fq3 e3 c3 => ?_
      refine ⟨.ref q, v2, v3, rfl, ?_⟩
      have r4 := (r3.setOwn (i := i) hq3 fq3 (h12.mono (l2.trans l3) (p2.trans p3))).setW (i := j) (RepW.mono l3 p3 e2)
      refine c3 F3 m3 _ H3 Le.refl (List.prefix_refl m3) (r4.setC ?_)
      cases k3 with
      | un => exact e3
      | w y => exact e3
      | own o => obtain ⟨q, ho, h0, h1, h2, h3⟩ := e3; exact ⟨q, ho, h0, h1, h2, free_setW (free_set h3 fq.hd)⟩
    | own o2 =>
      obtain ⟨q2, ho2, rfl, h21, h22, h23⟩ := e2
      have r2h := r2.hide hq fq
      -- both hidden
      show lift X.K X.mg Wc (repC X.K) f3 σ H2 _
      refine ⟨F2, upd (upd Hd q ho) q2 ho2, m2, ρ, S2, r2h.hide h21 h23, ?_⟩
      have fin : ∀ {F3 : Hp} {m3 : List Addr} {S3 : List Ob} {H3 : Hp}, R X.K F3 (upd (upd Hd q ho) q2 ho2) m3 ρ S3 σ H3 → R X.K F3 (upd Hd q ho) m3 ρ S3 σ H3 ∧ H3 q2 = some ho2 ∧ Free F3 (upd Hd q ho) m3 ρ σ q2 := fun r3 => unhid h23 r3
      cases z : f3 ρ S2 with
      | bad => rw [z] at c2; exact c2.elim
      | err w S3 => rw [z] at c2; exact fun F3 m3 C H3 l3 p3 r3 hC => c2 F3 m3 σ C H3 l3 p3 (unhid fq (fin r3).1).1 hC
      | ok k3 S3 =>
        rw [z] at c2
        intro F3 m3 v3 H3 l3 p3 r3 e3
        obtain ⟨r3a, hq2, fq2⟩ := fin r3
        obtain ⟨r3b, hq3, fq3⟩ := unhid fq r3a
        refine ⟨.ref q, .ref q2, v3, rfl, ?_⟩
        have r4 := (r3b.setOwn (i := i) hq3 fq3 (h12.mono (l2.trans l3) (p2.trans p3))).setOwn (i := j) hq2 (free_set fq2 fq.hd) (h22.mono l3 p3)
        refine contS.mono (Wc := Wc) l3 p3 c2 F3 m3 _ H3 Le.refl (List.prefix_refl m3) (r4.setC ?_)
        cases k3 with
        | un => exact e3
        | w y => exact e3
        | own o =>
          obtain ⟨qq, hoo, h0, h1, h2, h3⟩ := e3
          have nd : upd Hd q ho q2 = none := fq2.hd
          have s1 : Free F3 (upd (upd Hd q2 ho2) q ho) m3 ρ σ qq := by
            refine ⟨h3.fr, ?_, h3.mu, h3.ow⟩
            have := h3.hd
            have n1 : qq ≠ q2 := fun e => by rw [e, upd_same] at this; cases this
            rw [upd_ne n1] at this
            have n2 : qq ≠ q := fun e => by rw [e, upd_same] at this; cases this
            rw [upd_ne n2] at this ⊢
            rw [upd_ne n1]; exact this
          have n3 : q2 ≠ q := fun e => by rw [e, upd_same] at nd; cases nd
          have hd2 : Hd q2 = none := by rw [upd_ne n3] at nd; exact nd
          have s2 := free_set (i := i) (o := oA) s1 (by rw [upd_ne n3.symm]; exact fq.hd)
          exact ⟨qq, hoo, h0, h1, h2, free_set s2 hd2⟩
theorem s_par3 {i j l : Nat} {x y z : Str} {px py pz pt : Pos} {kt k2 pt2} (hc : X.calm = true) (hN : X.N.Nodup) (hi : X.N[i]? = some x) (hj : X.N[j]? = some y) (hl : X.N[l]? = some z) (hij : i ≠ j) (hil : i ≠ l) (hjl : j ≠ l)
    (hx : X.env.scope.names.lookup x = some .local) (hy : X.env.scope.names.lookup y = some .local) (hz : X.env.scope.names.lookup z = some .local) (ha : PE X a (LC X Wc f1)) (hb : PE X b (LC X Wc f2)) (hc3 : PE X c3 (LC X Wc f3))
    (hw : swappedStores [.Tuple [.Name x px, .Name y py, .Name z pz] kt pt] (.Tuple [a, b, c3] k2 pt2) X.env = pure (some [x, y, z]))
    (hs : swapsWithSole [.Tuple [.Name x px, .Name y py, .Name z pz] kt pt] (.Tuple [a, b, c3] k2 pt2) pos.line X.env = pure false := by rfl)
    (hs0 : starEach [a, b, c3] X.env = (false, eval a X.env) :: starEach [b, c3] X.env := by rfl) (hs1 : starEach [b, c3] X.env = (false, eval b X.env) :: starEach [c3] X.env := by rfl) (hs2 : starEach [c3] X.env = (false, eval c3 X.env) :: starEach [] X.env := by rfl) :
    PS X (.Assign [.Tuple [.Name x px, .Name y py, .Name z pz] kt pt] (.Tuple [a, b, c3] k2 pt2) pos) (LS X Wc (fPar3 i j l f1 f2 f3)) :=
  PS.imp (ps_par3 hc hN hi hj hl hij hil hjl hx hy hz (pa_cons ha (pa_cons hb (pa_cons hc3 pa_nil hs2) hs1) hs0) hw hs) fun _ _ _ h => par3_imp h

/-! ### expressions that change an own list -/
abbrev FX := List Sl → List Ob → Res (W × List Sl)
def contX (K : PySem.W.Frag) (mg : Str → Option Value) (Wc : WX) (Fr Hd : Hp) (μ : List Addr) (ρ : List Sl) (σ : St) (Q : VK) : Res (W × List Sl) → Prop
  | .ok a S' => ∀ Fr' μ' v H', Le Fr Fr' → μ <+: μ' → R K Fr' Hd μ' a.2 S' σ H' → RepW K Fr' μ' a.1 v → Q v H'
  | .err c S' => ∀ Fr' μ' C H', Le Fr Fr' → μ <+: μ' → R K Fr' Hd μ' ρ S' σ H' → mg c = some (.ref C) → Wc (.ref C) none σ H'
  | .bad => False
abbrev LX (X : Cx) (Wc : WX) (f : FX) : TE := fun σ H Q => ∃ Fr Hd μ ρ S, R X.K Fr Hd μ ρ S σ H ∧ contX X.K X.mg Wc Fr Hd μ ρ σ Q (f ρ S)
theorem contX.mono {K : PySem.W.Frag} {mg : Str → Option Value} {Fr Fr' Hd : Hp} {μ μ' : List Addr} {ρ : List Sl} {σ : St} {Q : VK} {r : Res (W × List Sl)} (h1 : Le Fr Fr') (h2 : μ <+: μ') (c : contX K mg Wc Fr Hd μ ρ σ Q r) : contX K mg Wc Fr' Hd μ' ρ σ Q r := by
  cases r with
  | ok a S => exact fun F m b H' l p r e => c F m b H' (h1.trans l) (List.IsPrefix.trans h2 p) r e
  | err x S => exact fun F m C H' l p r e => c F m C H' (h1.trans l) (List.IsPrefix.trans h2 p) r e
  | bad => exact c
/-- x.append(e) -/
def fApp (i : Nat) (fa : FE) : FX := fun ρ S => match ρ[i]? with
  | some (.own (.lst xs)) => (fa ρ S).bind fun y S1 => if xs.length < 16777216 then .ok (.d .none, ρ.set i (.own (.lst (xs ++ [y])))) S1 else .bad
  | _ => .bad
theorem stepX {Fr Hd : Hp} {μ : List Addr} {ρ : List Sl} {S : List Ob} {σ : St} {H : Hp} {Q : VK} {α β : Type} {rep : Rep α β} {f : List Sl → List Ob → Res α} {k : α → List Ob → Res (W × List Sl)} {Q1 : β → Hp → Prop} (r : R X.K Fr Hd μ ρ S σ H) (c : contX X.K X.mg Wc Fr Hd μ ρ σ Q ((f ρ S).bind k))
    (hk : ∀ Fr' μ' a b S1 H1, Le Fr Fr' → μ <+: μ' → R X.K Fr' Hd μ' ρ S1 σ H1 → rep Fr' Hd μ' ρ σ H1 a b → contX X.K X.mg Wc Fr' Hd μ' ρ σ Q (k a S1) → Q1 b H1) : lift X.K X.mg Wc rep f σ H Q1 := by
  refine ⟨Fr, Hd, μ, ρ, S, r, ?_⟩
  cases e : f ρ S with
  | ok a S1 =>
    rw [e] at c
    exact fun F m b H' l p r' q => hk F m a b S1 H' l p r' q (contX.mono l p c)
  | err x S1 => rw [e] at c; exact c
  | bad => rw [e] at c; exact c
variable {apos cpos : Pos} {fr : FA}
theorem x_app {i : Nat} {x : Str} {p' : Pos} (hN : X.N[i]? = some x) (hv : Vis X.env.scope x) (ha : PE X e (LE X Wc fa)) (hd : (x == ("__debug__" : Str)) = false := by decide) (hcd : (x == ("__classdict__" : Str)) = false := by decide)
    (hbase : attributeBase (.Name x p') "append" X.env (eval (.Name x p') X.env) = eval (.Name x p') X.env := by rfl)
    (hfew : ((backTo cpos (starEach [e] X.env)).all (fun x => !x.1) && (backToKw cpos (keywordEach [] X.env)).all (fun x => x.1.isSome)
      && decide (([e] : List Expr).length + ([] : List Keyword).length + (if ([] : List Keyword).isEmpty then 0 else 1) < 30)) = true := by rfl)
    (hline : (apos.endLine == cpos.line) = true := by rfl) (hs : starEach [e] X.env = (false, eval e X.env) :: starEach [] X.env := by rfl) (hplain : (backTo cpos (starEach [] X.env)).any (·.1) = false := by rfl) :
    PE X (.Call (.Attribute (.Name x p') "append" apos) [e] [] cpos) (LX X Wc (fApp i fa)) :=
  PE.imp (pe_bm PySem.F.plainAttrs_list PySem.F.slot_list_append PySem.F.type_list_append mt_append (pe_var hN hv hd hcd) (pa_cons ha pa_nil hs) hbase hfew hline hs hplain) fun σ H Q h => by
  obtain ⟨F, D, m, ρ, S, r, c⟩ := h
  unfold fApp at c
  split at c
  · rename_i xs ex
    obtain ⟨a, vs, ea, h1, q1⟩ := own_lst r ex
    refine ⟨_, ea, .inl ⟨rfl, vs, .inl (.inl h1)⟩, ?_⟩
    refine stepX r c fun F1 m1 y v S1 H1 l1 p1 r1 ey c1 => ?_
    obtain ⟨a', vs', ea', h1', q1'⟩ := own_lst r1 ex
    rw [ea] at ea'
    cases ea'
    split at c1
    · rename_i hl
      refine ⟨a, vs', v, rfl, rfl, h1', by rw [← Paired.length q1', sizeLine_eq]; exact hl, ?_⟩
      exact c1 F1 m1 .non _ Le.refl (List.prefix_refl m1) (r1.putOwn ex ea ⟨_, rfl, Paired.snoc q1' ey⟩) Dp.non
    · exact c1.elim
  · exact c.elim
/-- x.pop() -/
def fPop (i : Nat) : FX := fun ρ S => match ρ[i]? with
  | some (.own (.lst xs)) => (match xs[xs.length - 1]? with
    | some y => .ok (y, ρ.set i (.own (.lst xs.dropLast))) S
    | none => .bad)
  | _ => .bad
theorem paired_dropLast {α β : Type} {F : α → β → Prop} : ∀ {l₁ : List α} {l₂ : List β}, Paired F l₁ l₂ → Paired F l₁.dropLast l₂.dropLast
  | _, _, .nil => .nil
  | [_], [_], .cons _ _ => .nil
  | _ :: _ :: _, _ :: _ :: _, .cons h t => .cons h (paired_dropLast t)
theorem paired_erase {α β : Type} {F : α → β → Prop} : ∀ {l₁ : List α} {l₂ : List β} (k : Nat), Paired F l₁ l₂ → Paired F (l₁.eraseIdx k) (l₂.eraseIdx k)
  | _, _, _, .nil => .nil
  | _ :: _, _ :: _, 0, .cons _ t => t
  | _ :: _, _ :: _, k + 1, .cons h t => .cons h (paired_erase k t)
theorem x_pop {i : Nat} {x : Str} {p' : Pos} (hN : X.N[i]? = some x) (hv : Vis X.env.scope x) (hd : (x == ("__debug__" : Str)) = false := by decide) (hcd : (x == ("__classdict__" : Str)) = false := by decide)
    (hbase : attributeBase (.Name x p') "pop" X.env (eval (.Name x p') X.env) = eval (.Name x p') X.env := by rfl) (hline : (apos.endLine == cpos.line) = true := by rfl) :
    PE X (.Call (.Attribute (.Name x p') "pop" apos) [] [] cpos) (LX X Wc (fPop i)) :=
  PE.imp (pe_bm0 PySem.F.plainAttrs_list PySem.F.slot_list_pop PySem.F.type_list_pop mt_pop (pe_var hN hv hd hcd) hbase hline) fun σ H Q h => by
  obtain ⟨F, D, m, ρ, S, r, c⟩ := h
  unfold fPop at c
  split at c
  · rename_i xs ex
    obtain ⟨a, vs, ea, h1, q1⟩ := own_lst r ex
    refine ⟨_, ea, .inl ⟨rfl, vs, .inl (.inl h1)⟩, ?_⟩
    split at c
    · rename_i y ey
      obtain ⟨v, ev, rv⟩ := paired_get q1 ey
      rw [Paired.length q1] at ev
      exact ⟨a, vs, v, rfl, rfl, h1, ev, c F m v _ Le.refl (List.prefix_refl m) (r.putOwn ex ea ⟨_, rfl, paired_dropLast q1⟩) rv⟩
    · exact c.elim
  · exact c.elim
/-- x.pop(e) -/
def fPopAt (i : Nat) (fa : FE) : FX := fun ρ S => match ρ[i]? with
  | some (.own (.lst xs)) => (fa ρ S).bind fun z S1 => match z with
    | .d (.int k) => (match ixN xs.length k with
      | some j => (match xs[j]? with
        | some y => if xs.length ≤ 16777216 then .ok (y, ρ.set i (.own (.lst (xs.eraseIdx j)))) S1 else .bad
        | none => .bad)
      | none => .bad)
    | _ => .bad
  | _ => .bad
theorem x_popAt {i : Nat} {x : Str} {p' : Pos} (hN : X.N[i]? = some x) (hv : Vis X.env.scope x) (ha : PE X e (LE X Wc fa)) (hd : (x == ("__debug__" : Str)) = false := by decide) (hcd : (x == ("__classdict__" : Str)) = false := by decide)
    (hbase : attributeBase (.Name x p') "pop" X.env (eval (.Name x p') X.env) = eval (.Name x p') X.env := by rfl)
    (hfew : ((backTo cpos (starEach [e] X.env)).all (fun x => !x.1) && (backToKw cpos (keywordEach [] X.env)).all (fun x => x.1.isSome)
      && decide (([e] : List Expr).length + ([] : List Keyword).length + (if ([] : List Keyword).isEmpty then 0 else 1) < 30)) = true := by rfl)
    (hline : (apos.endLine == cpos.line) = true := by rfl) (hs : starEach [e] X.env = (false, eval e X.env) :: starEach [] X.env := by rfl) (hplain : (backTo cpos (starEach [] X.env)).any (·.1) = false := by rfl) :
    PE X (.Call (.Attribute (.Name x p') "pop" apos) [e] [] cpos) (LX X Wc (fPopAt i fa)) :=
  PE.imp (pe_bm PySem.F.plainAttrs_list PySem.F.slot_list_pop PySem.F.type_list_pop mt_popAt (pe_var hN hv hd hcd) (pa_cons ha pa_nil hs) hbase hfew hline hs hplain) fun σ H Q h => by
  obtain ⟨F, D, m, ρ, S, r, c⟩ := h
  unfold fPopAt at c
  split at c
  · rename_i xs ex
    obtain ⟨a, vs, ea, h1, q1⟩ := own_lst r ex
    refine ⟨_, ea, .inl ⟨rfl, vs, .inl (.inl h1)⟩, ?_⟩
    refine stepX r c fun F1 m1 y v S1 H1 l1 p1 r1 ey c1 => ?_
    obtain ⟨a', vs', ea', h1', q1'⟩ := own_lst r1 ex
    rw [ea] at ea'
    cases ea'
    split at c1
    · rename_i k
      cases ey
      split at c1
      · rename_i j ej
        split at c1
        · rename_i z ez
          split at c1
          · rename_i hl
            obtain ⟨w, ew, rw'⟩ := paired_get q1' ez
            have el := Paired.length q1'
            obtain ⟨k1, k2, k3, k4⟩ := ixN_seq ej
            refine ⟨a, vs', k, j, w, rfl, rfl, h1', by omega, by omega, by rw [← el]; exact k1, ew, ?_⟩
            exact c1 F1 m1 w _ Le.refl (List.prefix_refl m1) (r1.putOwn ex ea ⟨_, rfl, paired_erase j q1'⟩) rw'
          · exact c1.elim
        · exact c1.elim
      · exact c1.elim
    · exact c1.elim
  · exact c.elim
/-- target = such an expression -/
def fAsgX (g : FG) (fx : FX) : FT := fun ρ S => fl (fx ρ S) ρ fun a S1 => setG (g a.1 a.2) S1 fun ρ1 S2 => .nx ρ1 S2
theorem s_asgX {tg : Expr} {fx : FX} (he : PE X e (LX X Wc fx)) (hg : PG X tg (liftG X.K own g)) (hs : swapsWithSole [tg] e pos.line X.env = pure false := by rfl) (hw : swappedStores [tg] e X.env = pure none := by rfl)
    (h1 : (assignEach [tg] X.env).map (·.2) = [assign tg X.env] := by rfl) : PS X (.Assign [tg] e pos) (LS X Wc (fAsgX g fx)) := PS.imp (ps_asg he hg hs hw h1) fun D σ H h => by
  obtain ⟨F, Hd, m, ρ, S, r, c⟩ := h
  refine ⟨F, Hd, m, ρ, S, r, ?_⟩
  unfold fAsgX at c
  cases z : fx ρ S with
  | bad => rw [z] at c; exact c.elim
  | err w S1 => rw [z] at c; exact fun F1 m1 C H1 l1 p1 r1 hC => c F1 m1 σ C H1 l1 p1 r1 hC
  | ok a S1 =>
    rw [z] at c
    intro F1 m1 v H1 l1 p1 r1 e1
    have c : contS X.K X.mg Wc F Hd m D (setG (g a.1 a.2) S1 fun ρ1 S2 => .nx ρ1 S2) := c
    cases q : g a.1 a.2 with
    | none => rw [q] at c; exact c.elim
    | some ρ1 =>
      rw [q] at c
      exact ⟨F1, Hd, m1, a.2, S1, a.1, r1, e1, ρ1, q, fun σ' _ r2 => c F1 m1 σ' H1 l1 p1 r2⟩
/-- such an expression as a statement -/
def fDropX (fx : FX) : FT := fun ρ S => fl (fx ρ S) ρ fun a S1 => .nx a.2 S1
theorem s_exprX {fx : FX} (he : PE X e (LX X Wc fx)) (hs : swapsWith e none pos.line X.env = pure false := by rfl) : PS X (.Expr e pos) (LS X Wc (fDropX fx)) := PS.imp (ps_expr he hs) fun D σ H h => by
  obtain ⟨F, Hd, m, ρ, S, r, c⟩ := h
  refine ⟨F, Hd, m, ρ, S, r, ?_⟩
  unfold fDropX at c
  cases z : fx ρ S with
  | bad => rw [z] at c; exact c.elim
  | err w S1 => rw [z] at c; exact fun F1 m1 C H1 l1 p1 r1 hC => c F1 m1 σ C H1 l1 p1 r1 hC
  | ok a S1 => rw [z] at c; exact fun F1 m1 v H1 l1 p1 r1 e1 => c F1 m1 σ H1 l1 p1 r1
/-- target = value, the target a tuple of names -/
def fAsg (g : FG) (fa : FE) : FT := fun ρ S => fl (fa ρ S) ρ fun x S1 => setG (g x ρ) S1 fun ρ1 S2 => .nx ρ1 S2
theorem s_asg {tg : Expr} (he : PE X e (LE X Wc fa)) (hg : PG X tg (liftG X.K own g)) (hs : swapsWithSole [tg] e pos.line X.env = pure false := by rfl) (hw : swappedStores [tg] e X.env = pure none := by rfl)
    (h1 : (assignEach [tg] X.env).map (·.2) = [assign tg X.env] := by rfl) : PS X (.Assign [tg] e pos) (LS X Wc (fAsg g fa)) := PS.imp (ps_asg he hg hs hw h1) fun D σ H h => by
  obtain ⟨F, Hd, m, ρ, S, r, c⟩ := h
  refine stepS r c fun F1 m1 x v S1 H1 l1 p1 r1 e1 c1 => ?_
  cases q : g x ρ with
  | none => rw [q] at c1; exact c1.elim
  | some ρ1 =>
    rw [q] at c1
    exact ⟨F1, Hd, m1, ρ, S1, x, r1, e1, ρ1, q, fun σ' _ r2 => c1 F1 m1 σ' H1 Le.refl (List.prefix_refl m1) r2⟩
/-- x op= e -/
def fAug (i : Nat) (op : W → W → List Ob → Res W) (fa : FE) : FT := fun ρ S => match ρ[i]? with
  | some (.w x) => fl (fa ρ S) ρ fun y S1 => fl (op x y S1) ρ fun z S2 => .nx (ρ.set i (.w z)) S2
  | _ => .bad
theorem s_aug {i : Nat} {x : Str} {op : Operator} {ti : TIp} {fop : W → W → List Ob → Res W} {pos' : Pos} (hN : X.N.Nodup) (hi : X.N[i]? = some x) (hx : Loc X.env.scope x) (he : PE X e (LE X Wc fa)) (ho : PIp X op ti) (hr : OpF X Wc ti fop) (hf : X.fn x = true ∨ X.env.scope.names.lookup x = some .local := by first | exact .inl rfl | exact .inr rfl | assumption) :
    PS X (.AugAssign (.Name x pos') op e pos) (LS X Wc (fAug i fop fa)) := PS.imp (ps_aug hN hi hx he ho hf) fun D σ H h => by
  obtain ⟨F, Hd, m, ρ, S, r, c⟩ := h
  unfold fAug at c
  split at c
  · rename_i x ex
    obtain ⟨u, eu, ru⟩ := r.s.sl i _ ex
    refine ⟨u, eu, ?_⟩
    refine stepS r c fun F1 m1 y v S1 H1 l1 p1 r1 ey c1 => ?_
    refine hr F1 Hd m1 ρ S1 σ H1 x y u v _ r1 (RepW.mono l1 p1 ru) ey ?_
    cases z : fop x y S1 with
    | bad => rw [z] at c1; exact c1.elim
    | err w S2 => rw [z] at c1; exact fun F2 m2 C H2 l2 p2 r2 hC => c1 F2 m2 σ C H2 l2 p2 r2 hC
    | ok w S2 => rw [z] at c1; exact fun F2 m2 v2 H2 l2 p2 r2 e2 => c1 F2 m2 _ H2 l2 p2 (r2.setW e2)
  · exact c.elim
theorem f_iadd : OpF X Wc (ipI fun i j => i + j) (oI yes fun i j => .int (i + j)) := f_int0 (g' := fun i j => .int (i + j)) fun _ _ _ => .int _
theorem f_isub : OpF X Wc (ipI fun i j => i - j) oSub := f_int0 (g' := fun i j => .int (i - j)) fun _ _ _ => .int _
/-- an own list + a list -/
def fAddO (i : Nat) (fb : FE) : FO := fun ρ S => match ρ[i]? with
  | some (.own (.lst xs)) => (fb ρ S).bind fun y S1 => match y with
    | .d (.list ys) => if xs.length + ys.length ≤ 16777216 then .ok (.lst (xs ++ ys.map .d)) S1 else .bad
    | _ => .bad
  | _ => .bad
theorem q_addO {i : Nat} {x : Str} {p' : Pos} (hN : X.N[i]? = some x) (hv : Vis X.env.scope x) (hb : PE X b (LE X Wc fb)) (hd : (x == ("__debug__" : Str)) = false := by decide) (hcd : (x == ("__classdict__" : Str)) = false := by decide) :
    PE X (.BinOp (.Name x p') .Add b pos) (LO X Wc (fAddO i fb)) := PE.imp (pe_op op_catS (pe_var hN hv hd hcd) hb) fun σ H Q h => by
  obtain ⟨F, D, m, ρ, S, r, c⟩ := h
  unfold fAddO at c
  split at c
  · rename_i xs ex
    obtain ⟨a, vs, ea, _, _⟩ := own_lst r ex
    refine ⟨_, ea, ?_⟩
    refine step r c fun F1 m1 y v S1 H1 l1 p1 r1 ey c1 => ?_
    obtain ⟨a', vs', ea', h1', q1'⟩ := own_lst r1 ex
    rw [ea] at ea'
    cases ea'
    split at c1
    · rename_i ys
      split at c1
      · rename_i hl
        cases ey with
        | @lst b us _ k1 k2 =>
          have e1 := Paired.length q1'
          have e2 := DpAll.len k2
          exact ⟨a, b, vs', us, rfl, rfl, .inl (.inl h1'), Le.sqL r1.b.fr k1, by rw [sizeLine_eq]; omega, fun q hq => new_lst r1 (paired_app q1' (rep_dats k2)) hq c1⟩
      · exact c1.elim
    · exact c1.elim
  · exact c.elim
/-- two lists, a new one -/
def oAddN (x y : W) (S : List Ob) : Res Ob := match x, y with
  | .d (.list xs), .d (.list ys) => if xs.length + ys.length ≤ 16777216 then .ok (.lst ((xs ++ ys).map .d)) S else .bad
  | _, _ => .bad
def fAddN (fa fb : FE) : FO := fun ρ S => (fa ρ S).bind fun x S1 => (fb ρ S1).bind fun y S2 => oAddN x y S2
theorem q_addN (ha : PE X a (LE X Wc fa)) (hb : PE X b (LE X Wc fb)) : PE X (.BinOp a .Add b pos) (LO X Wc (fAddN fa fb)) := PE.imp (pe_op op_catS ha hb) fun σ H Q h => by
  obtain ⟨F, D, m, ρ, S, r0, c⟩ := h
  refine step r0 c fun F1 m1 x v S1 H1 l1 p1 r1 e1 c1 => ?_
  refine step r1 c1 fun F2 m2 y u S2 H2 l2 p2 r2 e2 c2 => ?_
  have e1 := RepW.mono l2 p2 e1
  unfold oAddN at c2
  split at c2
  · rename_i xs ys
    split at c2
    · rename_i hl
      cases e1 with
      | @lst a vs _ h1 h2 =>
        cases e2 with
        | @lst b us _ k1 k2 =>
          have z1 := DpAll.len h2
          have z2 := DpAll.len k2
          exact ⟨a, b, vs, us, rfl, rfl, Le.sqL r2.b.fr h1, Le.sqL r2.b.fr k1, by rw [sizeLine_eq]; omega, fun q hq => new_lst r2 (rep_dats (dps_app h2 k2)) hq c2⟩
    · exact c2.elim
  · exact c2.elim
end
end L2.Q
/-! Layer Q, part L: the store's lists by method; own dicts; calls with keywords; defs by names. -/
namespace L2.Q
open PySem PySem.Spec PyProof.Rows

section
variable {X : Cx} {Wc : WX} {a b e e2 : Expr} {es : List Expr} {pos p apos cpos : Pos} {fa fb fc : FE} {fo fo2 : FO} {fr : FA}
/-! ### the store's lists -/
def isLst (x : W) (S : List Ob) : Bool := match x with
  | .ref n => (match S[n]? with
    | some (.lst _) => true
    | _ => false)
  | _ => false
theorem isLst_rep {Fr Hd : Hp} {μ : List Addr} {ρ : List Sl} {S : List Ob} {σ : St} {H : Hp} (r : R X.K Fr Hd μ ρ S σ H) {x : W} {v : V} (h : isLst x S = true) (e : RepW X.K Fr μ x v) :
    ∃ n a vs, x = .ref n ∧ v = .ref a ∧ μ[n]? = some a ∧ H a = some (.lst vs) := by
  cases x with
  | d x => cases h
  | ref n =>
    obtain ⟨a, ea, rfl⟩ := e
    unfold isLst at h
    dsimp only at h
    split at h
    · rename_i xs es
      obtain ⟨ho, h1, ⟨vs, rfl, q⟩, _⟩ := r.b.st n a _ ea es
      exact ⟨n, a, vs, rfl, rfl, ea, h1⟩
    · cases h
/-- x.append(e) -/
def appSt (x y : W) (S : List Ob) : Res W := match x with
  | .ref n => (match S[n]? with
    | some (.lst xs) => if xs.length < 16777216 then .ok (.d .none) (S.set n (.lst (xs ++ [y]))) else .bad
    | _ => .bad)
  | _ => .bad
def fAppS (fa fb : FE) : FE := fun ρ S => (fa ρ S).bind fun x S1 => if isLst x S1 = true then (fb ρ S1).bind fun y S2 => appSt x y S2 else .bad
theorem q_appS {o : Expr} (ho : PE X o (LE X Wc fa)) (ha : PE X e (LE X Wc fb))
    (hbase : attributeBase o "append" X.env (eval o X.env) = eval o X.env := by rfl)
    (hfew : ((backTo cpos (starEach [e] X.env)).all (fun x => !x.1) && (backToKw cpos (keywordEach [] X.env)).all (fun x => x.1.isSome)
      && decide (([e] : List Expr).length + ([] : List Keyword).length + (if ([] : List Keyword).isEmpty then 0 else 1) < 30)) = true := by rfl)
    (hline : (apos.endLine == cpos.line) = true := by rfl) (hs : starEach [e] X.env = (false, eval e X.env) :: starEach [] X.env := by rfl) (hplain : (backTo cpos (starEach [] X.env)).any (·.1) = false := by rfl) :
    PE X (.Call (.Attribute o "append" apos) [e] [] cpos) (LE X Wc (fAppS fa fb)) :=
  PE.imp (pe_bm PySem.F.plainAttrs_list PySem.F.slot_list_append PySem.F.type_list_append mt_append ho (pa_cons ha pa_nil hs) hbase hfew hline hs hplain) fun σ H Q h => by
  obtain ⟨F, D, m, ρ, S, r0, c⟩ := h
  refine step r0 c fun F1 m1 x v S1 H1 l1 p1 r1 e1 c1 => ?_
  split at c1
  · rename_i hx
    obtain ⟨n, a, vs, rfl, rfl, ea, h1⟩ := isLst_rep r1 hx e1
    refine ⟨.inl ⟨rfl, vs, .inl (.inl h1)⟩, ?_⟩
    refine step r1 c1 fun F2 m2 y u S2 H2 l2 p2 r2 e2 c2 => ?_
    have ea := pre_get p2 ea
    unfold appSt at c2
    dsimp only at c2
    split at c2
    · rename_i xs es
      split at c2
      · rename_i hl
        obtain ⟨ho, h2, ⟨us, rfl, q⟩, hfr, _⟩ := r2.b.st n a _ ea es
        refine ⟨a, us, u, rfl, rfl, h2, by rw [← Paired.length q, sizeLine_eq]; exact hl, ?_⟩
        exact c2 F2 m2 .non _ Le.refl (List.prefix_refl m2) (r2.put ea hfr ⟨_, rfl, Paired.snoc q e2⟩) Dp.non
      · exact c2.elim
    · exact c2.elim
  · exact c1.elim
/-- x.pop(e) -/
def popSt (x y : W) (S : List Ob) : Res W := match x, y with
  | .ref n, .d (.int k) => (match S[n]? with
    | some (.lst xs) => (match ixN xs.length k with
      | some j => (match xs[j]? with
        | some z => if xs.length ≤ 16777216 then .ok z (S.set n (.lst (xs.eraseIdx j))) else .bad
        | none => .bad)
      | none => .bad)
    | _ => .bad)
  | _, _ => .bad
def fPopS (fa fb : FE) : FE := fun ρ S => (fa ρ S).bind fun x S1 => if isLst x S1 = true then (fb ρ S1).bind fun y S2 => popSt x y S2 else .bad
theorem q_popS {o : Expr} (ho : PE X o (LE X Wc fa)) (ha : PE X e (LE X Wc fb))
    (hbase : attributeBase o "pop" X.env (eval o X.env) = eval o X.env := by rfl)
    (hfew : ((backTo cpos (starEach [e] X.env)).all (fun x => !x.1) && (backToKw cpos (keywordEach [] X.env)).all (fun x => x.1.isSome)
      && decide (([e] : List Expr).length + ([] : List Keyword).length + (if ([] : List Keyword).isEmpty then 0 else 1) < 30)) = true := by rfl)
    (hline : (apos.endLine == cpos.line) = true := by rfl) (hs : starEach [e] X.env = (false, eval e X.env) :: starEach [] X.env := by rfl) (hplain : (backTo cpos (starEach [] X.env)).any (·.1) = false := by rfl) :
    PE X (.Call (.Attribute o "pop" apos) [e] [] cpos) (LE X Wc (fPopS fa fb)) :=
  PE.imp (pe_bm PySem.F.plainAttrs_list PySem.F.slot_list_pop PySem.F.type_list_pop mt_popAt ho (pa_cons ha pa_nil hs) hbase hfew hline hs hplain) fun σ H Q h => by
  obtain ⟨F, D, m, ρ, S, r0, c⟩ := h
  refine step r0 c fun F1 m1 x v S1 H1 l1 p1 r1 e1 c1 => ?_
  split at c1
  · rename_i hx
    obtain ⟨n, a, vs, rfl, rfl, ea, h1⟩ := isLst_rep r1 hx e1
    refine ⟨.inl ⟨rfl, vs, .inl (.inl h1)⟩, ?_⟩
    refine step r1 c1 fun F2 m2 y u S2 H2 l2 p2 r2 e2 c2 => ?_
    have ea := pre_get p2 ea
    rcases rep_int e2 with ⟨k, rfl, rfl⟩ | nk
    · unfold popSt at c2
      dsimp only at c2
      split at c2
      · rename_i xs es
        split at c2
        · rename_i j ej
          split at c2
          · rename_i z ez
            split at c2
            · rename_i hl
              obtain ⟨ho, h2, ⟨us, rfl, q⟩, hfr, _⟩ := r2.b.st n a _ ea es
              obtain ⟨w, ew, rw'⟩ := paired_get q ez
              have el := Paired.length q
              obtain ⟨k1, k2, k3, k4⟩ := ixN_seq ej
              refine ⟨a, us, k, j, w, rfl, rfl, h2, by omega, by omega, by rw [← el]; exact k1, ew, ?_⟩
              exact c2 F2 m2 w _ Le.refl (List.prefix_refl m2) (r2.put ea hfr ⟨_, rfl, paired_erase j q⟩) rw'
            · exact c2.elim
          · exact c2.elim
        · exact c2.elim
      · exact c2.elim
    · unfold popSt at c2
      split at c2
      · exact absurd rfl (nk _)
      · exact c2.elim
  · exact c1.elim

/-! ### own dicts -/
def keyOf : W → Option Key
  | .d (.int i) => some (.inl i)
  | .d (.str z) => some (.inr z)
  | _ => none
theorem keyOf_rep {K : PySem.W.Frag} {Fr : Hp} {μ : List Addr} {x : W} {v : V} {k : Key} (h : keyOf x = some k) (e : RepW K Fr μ x v) : v = kV k := by
  cases x with
  | ref n => cases h
  | d x =>
    rcases rep_cases (μ := μ) e with ⟨rfl, rfl⟩ | ⟨b, rfl, rfl⟩ | ⟨i, rfl, rfl⟩ | ⟨z, rfl, rfl⟩ | ⟨a, vs, ds, rfl, rfl, h1, h2⟩ | ⟨a, vs, ds, rfl, rfl, h1, h2⟩
    · cases h
    · cases h
    · cases h; rfl
    · cases h; rfl
    · cases h
    · cases h
def valW (kvs : List (Key × W)) (k : Key) : Option W := (kvs.find? fun kv => decide (kv.1 = k)).map (·.2)
def putW (kvs : List (Key × W)) (k : Key) (v : W) : List (Key × W) :=
  if (kvs.any fun kv => decide (kv.1 = k)) = true then kvs.map (fun kv => if kv.1 = k then (kv.1, v) else kv) else kvs ++ [(k, v)]
theorem valW_rep {K : PySem.W.Frag} {Fr : Hp} {μ : List Addr} {k : Key} : ∀ {kvs : List (Key × W)} {vs : List (Key × V)}, RepKV K Fr μ kvs vs → (valW kvs k = none ∧ valV vs k = none) ∨ ∃ x v, valW kvs k = some x ∧ valV vs k = some v ∧ RepW K Fr μ x v
  | _, _, .nil => .inl ⟨rfl, rfl⟩
  | (k1, x) :: r, (k2, v) :: t, .cons h rest => by
    obtain ⟨e, q⟩ := h
    have e : k1 = k2 := e
    subst e
    by_cases z : k1 = k
    · refine .inr ⟨x, v, ?_, ?_, q⟩ <;> simp [valW, valV, List.find?_cons, z]
    · have ih := valW_rep (k := k) rest
      have e1 : valW ((k1, x) :: r) k = valW r k := by simp [valW, List.find?_cons, z]
      have e2 : valV ((k1, v) :: t) k = valV t k := by simp [valV, List.find?_cons, z]
      rw [e1, e2]; exact ih
theorem any_rep {K : PySem.W.Frag} {Fr : Hp} {μ : List Addr} {k : Key} : ∀ {kvs : List (Key × W)} {vs : List (Key × V)}, RepKV K Fr μ kvs vs → (kvs.any fun kv => decide (kv.1 = k)) = (vs.any fun kv => decide (kv.1 = k))
  | _, _, .nil => rfl
  | (k1, x) :: r, (k2, v) :: t, .cons h rest => by
    obtain ⟨e, q⟩ := h
    have e : k1 = k2 := e
    subst e
    rw [List.any_cons, List.any_cons, any_rep rest]
theorem map_rep {K : PySem.W.Frag} {Fr : Hp} {μ : List Addr} {k : Key} {y : W} {u : V} (hy : RepW K Fr μ y u) : ∀ {kvs : List (Key × W)} {vs : List (Key × V)}, RepKV K Fr μ kvs vs → RepKV K Fr μ (kvs.map fun kv => if kv.1 = k then (kv.1, y) else kv) (vs.map fun kv => if kv.1 = k then (kv.1, u) else kv)
  | _, _, .nil => .nil
  | (k1, x) :: r, (k2, v) :: t, .cons h rest => by
    obtain ⟨e, q⟩ := h
    have e : k1 = k2 := e
    subst e
    refine .cons ?_ (map_rep hy rest)
    by_cases z : k1 = k
    · dsimp only; rw [if_pos z, if_pos z]; exact ⟨rfl, hy⟩
    · dsimp only; rw [if_neg z, if_neg z]; exact ⟨rfl, q⟩
theorem putW_rep {K : PySem.W.Frag} {Fr : Hp} {μ : List Addr} {k : Key} {y : W} {u : V} (hy : RepW K Fr μ y u) {kvs : List (Key × W)} {vs : List (Key × V)} (h : RepKV K Fr μ kvs vs) : RepKV K Fr μ (putW kvs k y) (putK vs k u) := by
  unfold putW putK
  rw [any_rep h]
  split
  · exact map_rep hy h
  · exact Paired.snoc h ⟨rfl, hy⟩
theorem own_dct {Fr Hd : Hp} {μ : List Addr} {ρ : List Sl} {S : List Ob} {σ : St} {H : Hp} (r : R X.K Fr Hd μ ρ S σ H) {i : Nat} {xs : List (Key × W)} (e : ρ[i]? = some (.own (.dct xs))) :
    ∃ a vs, σ[i]? = some (some (.ref a)) ∧ H a = some (.dK vs) ∧ RepKV X.K Fr μ xs vs := by
  obtain ⟨a, ho, e1, h1, ⟨vs, rfl, q⟩, _⟩ := r.s.sl i _ e
  exact ⟨a, vs, e1, h1, q⟩
def fDnew : FO := fun _ S => .ok (.dct []) S
theorem q_dnew : PE X (.Dict [] [] pos) (LO X Wc fDnew) := PE.imp pe_dnewK fun σ H Q h => by
  obtain ⟨F, D, m, ρ, S, r, c⟩ := h
  intro q hq
  have f := r.new hq
  exact c F m (.ref q) _ Le.refl (List.prefix_refl m) (r.upd (o := .dK []) f) ⟨q, .dK [], rfl, upd_same, ⟨[], rfl, .nil⟩, f⟩
/-- d[e] -/
def getD (kvs : List (Key × W)) (y : W) (S : List Ob) : Res W := match keyOf y with
  | some k => (match valW kvs k with
    | some x => .ok x S
    | none => .bad)
  | none => .bad
def fDget (i : Nat) (fb : FE) : FE := fun ρ S => match ρ[i]? with
  | some (.own (.dct kvs)) => (fb ρ S).bind (getD kvs)
  | _ => .bad
theorem q_dget {i : Nat} {x : Str} {p' : Pos} (hu : X.A.units + 1 < cLine) (hN : X.N[i]? = some x) (hv : Vis X.env.scope x) (hb : PE X b (LE X Wc fb)) (hs : NoSl b := by exact fun _ _ => rfl) (hd : (x == ("__debug__" : Str)) = false := by decide) (hcd : (x == ("__classdict__" : Str)) = false := by decide) :
    PE X (.Subscript (.Name x p') b pos) (LE X Wc (fDget i fb)) := PE.imp (pe_dget hu (pe_var hN hv hd hcd) hb hs) fun σ H Q h => by
  obtain ⟨F, D, m, ρ, S, r, c⟩ := h
  unfold fDget at c
  split at c
  · rename_i kvs ex
    obtain ⟨a, vs, ea, _, _⟩ := own_dct r ex
    refine ⟨_, ea, ?_⟩
    refine step r c fun F1 m1 y v S1 H1 l1 p1 r1 ey c1 => ?_
    obtain ⟨a', vs', ea', h1', q1'⟩ := own_dct r1 ex
    rw [ea] at ea'
    cases ea'
    unfold getD at c1
    split at c1
    · rename_i k hk
      split at c1
      · rename_i x hx
        rcases valW_rep (k := k) q1' with ⟨e1, _⟩ | ⟨x', v', e1, e2, e3⟩
        · rw [hx] at e1; cases e1
        · rw [hx] at e1
          cases e1
          rw [keyOf_rep hk ey]
          exact ⟨a, v', rfl, e2 ▸ DGet.k h1', rt r1 c1 e3⟩
      · exact c1.elim
    · exact c1.elim
  · exact c.elim
/-- d.get(e, f) -/
def fDget2 (i : Nat) (fb fc : FE) : FE := fun ρ S => match ρ[i]? with
  | some (.own (.dct kvs)) => (fb ρ S).bind fun y S1 => (fc ρ S1).bind fun z S2 => (match keyOf y with
    | some k => .ok ((valW kvs k).getD z) S2
    | none => .bad)
  | _ => .bad
theorem q_dget2 {i : Nat} {x : Str} {p' : Pos} (hu : X.A.units + 1 < cLine) (hN : X.N[i]? = some x) (hv : Vis X.env.scope x) (hb : PE X b (LE X Wc fb)) (hc : PE X e (LE X Wc fc)) (m : M2 X (.Name x p') "get" apos b e cpos := by exact ⟨rfl, rfl, rfl, rfl⟩) (hd : (x == ("__debug__" : Str)) = false := by decide) (hcd : (x == ("__classdict__" : Str)) = false := by decide) :
    PE X (.Call (.Attribute (.Name x p') "get" apos) [b, e] [] cpos) (LE X Wc (fDget2 i fb fc)) := PE.imp (pe_dget2 hu (pe_var hN hv hd hcd) hb hc m) fun σ H Q h => by
  obtain ⟨F, D, m, ρ, S, r, c⟩ := h
  unfold fDget2 at c
  split at c
  · rename_i kvs ex
    obtain ⟨a, vs, ea, h0, _⟩ := own_dct r ex
    refine ⟨_, ea, a, rfl, .inl ⟨vs, .inl h0⟩, ?_⟩
    refine step r c fun F1 m1 y v S1 H1 l1 p1 r1 ey c1 => ?_
    refine step r1 c1 fun F2 m2 z u S2 H2 l2 p2 r2 ez c2 => ?_
    obtain ⟨a', vs', ea', h1', q1'⟩ := own_dct r2 ex
    rw [ea] at ea'
    cases ea'
    split at c2
    · rename_i k hk
      rw [keyOf_rep hk ey]
      refine ⟨_, DGet.k h1', ?_⟩
      rcases valW_rep (k := k) q1' with ⟨e1, e2⟩ | ⟨x', v', e1, e2, e3⟩
      · rw [e2]; rw [e1] at c2; exact rt r2 c2 ez
      · rw [e2]; rw [e1] at c2; exact rt r2 c2 e3
    · exact c2.elim
  · exact c.elim
/-- e in d, e not in d -/
def fDin (neg : Bool) (i : Nat) (fb : FE) : FE := fun ρ S => match ρ[i]? with
  | some (.own (.dct _)) => (fb ρ S).bind fun y S1 => (match ρ[i]?, keyOf y with
    | some (.own (.dct kvs)), some k => .ok (.d (.bool (neg ^^ (valW kvs k).isSome))) S1
    | _, _ => .bad)
  | _ => .bad
theorem din_imp {i : Nat} {neg : Bool} {σ : St} {H : Hp} {Q : VK} (h : LE X Wc (fDin neg i fb) σ H Q) : LE X Wc fb σ H fun y H1 => tVar i σ H1 fun x H2 => ∃ a o, x = .ref a ∧ DGet H2 a y o ∧ Q (.bl (neg ^^ o.isSome)) H2 := by
  obtain ⟨F, D, m, ρ, S, r, c⟩ := h
  unfold fDin at c
  split at c
  · rename_i kvs ex
    refine step r c fun F1 m1 y v S1 H1 l1 p1 r1 ey c1 => ?_
    obtain ⟨a, vs, ea, h1, q1⟩ := own_dct r1 ex
    rw [ex] at c1
    split at c1
    · rename_i kvs' k e1 hk
      cases e1
      refine ⟨_, ea, a, valV vs k, rfl, ?_, ?_⟩
      · rw [keyOf_rep hk ey]; exact DGet.k h1
      · rcases valW_rep (k := k) q1 with ⟨e1, e2⟩ | ⟨x', v', e1, e2, e3⟩
        · rw [e2]; rw [e1] at c1; exact rt r1 c1 (Dp.bl _)
        · rw [e2]; rw [e1] at c1; exact rt r1 c1 (Dp.bl _)
    · exact c1.elim
  · exact c.elim
theorem q_din {i : Nat} {x : Str} {p' : Pos} (hu : X.A.units + 1 < cLine) (hN : X.N[i]? = some x) (hv : Vis X.env.scope x) (hb : PE X b (LE X Wc fb)) (hd : (x == ("__debug__" : Str)) = false := by decide) (hcd : (x == ("__classdict__" : Str)) = false := by decide) :
    PE X (.Compare b [.In] [.Name x p'] pos) (LE X Wc (fDin false i fb)) := PE.imp (pe_cmp (pc_din hu hb (pe_var hN hv hd hcd)) rfl) fun σ H Q h => lift.imp (fun y H1 ⟨u, e1, a, o, e2, e3, q⟩ => ⟨u, e1, a, o, e2, e3, by rw [Bool.false_xor] at q; exact q⟩) (din_imp h)
theorem q_dnotin {i : Nat} {x : Str} {p' : Pos} (hu : X.A.units + 1 < cLine) (hN : X.N[i]? = some x) (hv : Vis X.env.scope x) (hb : PE X b (LE X Wc fb)) (hd : (x == ("__debug__" : Str)) = false := by decide) (hcd : (x == ("__classdict__" : Str)) = false := by decide) :
    PE X (.Compare b [.NotIn] [.Name x p'] pos) (LE X Wc (fDin true i fb)) := PE.imp (pe_cmp (pc_dnotin hu hb (pe_var hN hv hd hcd)) rfl) fun σ H Q h => lift.imp (fun y H1 ⟨u, e1, a, o, e2, e3, q⟩ => ⟨u, e1, a, o, e2, e3, by rw [Bool.true_xor] at q; exact q⟩) (din_imp h)
theorem t_din {i : Nat} {x : Str} {p' : Pos} (hu : X.A.units + 1 < cLine) (hN : X.N[i]? = some x) (hv : Vis X.env.scope x) (hb : PE X b (LE X Wc fb)) (hd : (x == ("__debug__" : Str)) = false := by decide) (hcd : (x == ("__classdict__" : Str)) = false := by decide) :
    PT X (.Compare b [.In] [.Name x p'] pos) (LB X Wc (fT (fDin false i fb))) := PT.imp (pt_cmp (pc_din hu hb (pe_var hN hv hd hcd)) rfl) fun σ H Q h => lift.imp (fun y H1 ⟨u, e1, a, o, e2, e3, q⟩ => ⟨u, e1, a, o, e2, e3, by rw [Bool.false_xor] at q; exact q⟩) (din_imp (t_imp h))
theorem t_dnotin {i : Nat} {x : Str} {p' : Pos} (hu : X.A.units + 1 < cLine) (hN : X.N[i]? = some x) (hv : Vis X.env.scope x) (hb : PE X b (LE X Wc fb)) (hd : (x == ("__debug__" : Str)) = false := by decide) (hcd : (x == ("__classdict__" : Str)) = false := by decide) :
    PT X (.Compare b [.NotIn] [.Name x p'] pos) (LB X Wc (fT (fDin true i fb))) := PT.imp (pt_cmp (pc_dnotin hu hb (pe_var hN hv hd hcd)) rfl) fun σ H Q h => lift.imp (fun y H1 ⟨u, e1, a, o, e2, e3, q⟩ => ⟨u, e1, a, o, e2, e3, by rw [Bool.true_xor] at q; exact q⟩) (din_imp (t_imp h))
/-- d[e] = v -/
def fDput (i : Nat) (fk fv : FE) : FT := fun ρ S => fl (fv ρ S) ρ fun v S1 => match ρ[i]? with
  | some (.own (.dct kvs)) => fl (fk ρ S1) ρ fun y S2 => (match keyOf y with
    | some k => if kvs.length < 16777216 then .nx (ρ.set i (.own (.dct (putW kvs k v)))) S2 else .bad
    | none => .bad)
  | _ => .bad
theorem s_dput {i : Nat} {x : Str} {p' pos' : Pos} {value : Expr} {fk fv : FE} (hu : X.A.units + 1 < cLine) (hN : X.N[i]? = some x) (hvs : Vis X.env.scope x) (hk : PE X e (LE X Wc fk)) (hv : PE X value (LE X Wc fv)) (hs : swapsWith value (some (.Subscript (.Name x p') e pos')) pos.line X.env = pure false := by rfl)
    (hd : (x == ("__debug__" : Str)) = false := by decide) (hcd : (x == ("__classdict__" : Str)) = false := by decide) :
    PS X (.Assign [.Subscript (.Name x p') e pos'] value pos) (LS X Wc (fDput i fk fv)) := PS.imp (ps_dput hu (pe_var hN hvs hd hcd) hk hv hs) fun D σ H h => by
  obtain ⟨F, Hd, m, ρ, S, r, c⟩ := h
  refine stepS r c fun F1 m1 v vv S1 H1 l1 p1 r1 e1 c1 => ?_
  split at c1
  · rename_i kvs ex
    obtain ⟨a, vs, ea, _, _⟩ := own_dct r1 ex
    refine ⟨_, ea, ?_⟩
    refine stepS r1 c1 fun F2 m2 y u S2 H2 l2 p2 r2 e2 c2 => ?_
    obtain ⟨a', vs', ea', h1', q1'⟩ := own_dct r2 ex
    rw [ea] at ea'
    cases ea'
    split at c2
    · rename_i k hk
      split at c2
      · rename_i hl
        rw [keyOf_rep hk e2]
        have el := Paired.length q1'
        exact ⟨a, _, rfl, DPut.k h1' (by rw [sizeLine_eq]; omega), c2 F2 m2 σ _ Le.refl (List.prefix_refl m2) (r2.putOwn ex ea ⟨_, rfl, putW_rep (RepW.mono l2 p2 e1) q1'⟩)⟩
      · exact c2.elim
    · exact c2.elim
  · exact c1.elim
/-- sorted(d): fewer than 64 keys, all ints -/
def intKeys : List (Key × W) → Option (List Int)
  | [] => some []
  | (.inl i, _) :: r => (intKeys r).map (i :: ·)
  | (.inr _, _) :: _ => none
theorem intKeys_map {K : PySem.W.Frag} {Fr : Hp} {μ : List Addr} : ∀ {kvs : List (Key × W)} {vs : List (Key × V)} {ks : List Int}, intKeys kvs = some ks → RepKV K Fr μ kvs vs → vs.map (·.1) = ks.map Sum.inl
  | [], _, _, h, .nil => by cases h; rfl
  | (.inl i, x) :: r, (k2, v) :: t, ks, h, .cons q rest => by
    unfold intKeys at h
    cases z : intKeys r with
    | none => rw [z] at h; cases h
    | some l =>
      rw [z] at h
      cases h
      have e : Sum.inl i = k2 := q.1
      rw [List.map_cons, List.map_cons, intKeys_map z rest, ← e]
  | (.inr i, x) :: r, _ :: _, ks, h, .cons q rest => by cases h
def fDsrt (i : Nat) : FO := fun ρ S => match ρ[i]? with
  | some (.own (.dct kvs)) => (match intKeys kvs with
    | some ks => if ks.length < 64 then .ok (.lst ((ks.mergeSort).map fun i => .d (.int i))) S else .bad
    | none => .bad)
  | _ => .bad
theorem sort_uniq {xs ys : List Int} (p : ys.Perm xs) (h : ys.Pairwise (· ≤ ·)) : ys = xs.mergeSort := by
  have s : (xs.mergeSort).Pairwise (fun a b => a ≤ b) := by
    have := List.pairwise_mergeSort (le := fun a b : Int => decide (a ≤ b)) (fun a b c h1 h2 => by simp only [decide_eq_true_eq] at *; omega) (fun a b => by simp only [Bool.or_eq_true, decide_eq_true_eq]; omega) xs
    exact this.imp fun h => of_decide_eq_true h
  exact List.Perm.eq_of_pairwise (fun _ _ _ _ a b => Int.le_antisymm a b) h s (p.trans (List.mergeSort_perm xs _).symm)
theorem q_dsrt {i : Nat} {x : Str} {p' : Pos} (hc : X.calm = true) (hg : Gl X "sorted") (hm : X.mg "sorted" = none) (hN : X.N[i]? = some x) (hv : Vis X.env.scope x) (hd : (x == ("__debug__" : Str)) = false := by decide) (hcd : (x == ("__classdict__" : Str)) = false := by decide)
    (hs : starEach [.Name x p'] X.env = (false, eval (.Name x p') X.env) :: starEach [] X.env := by rfl) (hpl : (backTo pos (starEach [] X.env)).any (·.1) = false := by rfl) :
    PE X (.Call (.Name "sorted" p) [.Name x p'] [] pos) (LO X Wc (fDsrt i)) :=
  PE.imp (pe_callB (call_sortedDI hc) hg hm (by decide +kernel) (pa_cons (pe_var hN hv hd hcd) pa_nil hs) (he := hs) (hpl := hpl)) fun σ H Q h => by
  obtain ⟨F, D, m, ρ, S, r, c⟩ := h
  unfold fDsrt at c
  split at c
  · rename_i kvs ex
    obtain ⟨a, vs, ea, h1, q1⟩ := own_dct r ex
    split at c
    · rename_i ks hk
      split at c
      · rename_i hl
        refine ⟨_, ea, a, vs, ks, rfl, .inl h1, intKeys_map hk q1, hl, fun ys q hp hy hq => ?_⟩
        rw [sort_uniq hp hy]
        refine new_lst r ?_ hq c
        have := rep_dats (K := X.K) (Fr := F) (μ := m) (ds := (ks.mergeSort).map PyData.int) (vs := (ks.mergeSort).map V.int) ?_
        · rw [List.map_map] at this; exact this
        · generalize ks.mergeSort = l
          induction l with
          | nil => exact .nil
          | cons x r ih => exact .cons (Dp.int _) ih
      · exact c.elim
    · exact c.elim
  · exact c.elim

/-! ### defs by names -/
abbrev FnP (K : PySem.W.Frag) (x : Str) (st : Stmt) (f : Addr) (fd : FuncData) : Prop := FunD K x x (defArgs st) (defBody st) (defScope st) [] [] f fd
theorem FnP.toFun {K : PySem.W.Frag} {x : Str} {st : Stmt} {f : Addr} {fd : FuncData} (F : FnP K x st f fd) : Fun K x x st f fd := by
  obtain ⟨oc, od, dV, kV, doc, pm, an, cdv, ct, osl, rfl, lk, hcd, hD, hK⟩ := F.ex
  rcases hD with ⟨_, rfl⟩ | ⟨e, _⟩
  · exact ⟨⟨oc, od, kV, doc, pm, an, cdv, ct, osl, rfl, lk, hcd⟩, F.kp⟩
  · exact absurd rfl e
/-- how a call with keywords in the parameters' order binds -/
def KwB (fd : FuncData) (ps ks : List Str) (n1 : Nat) : Prop := ∀ (s : Shared) (us ws : List Value), us.length = n1 → ws.length = ks.length → BindsTo s fd ⟨us, ks.zip ws⟩ (ps.zip (us ++ ws))
theorem FnP.kwb {K : PySem.W.Frag} {x : Str} {st : Stmt} {f : Addr} {fd : FuncData} {ps ks : List Str} {n1 : Nat} (F : FnP K x st f fd)
    (h : ∀ (kV doc pm : Value) (an : Option Addr) (cdv ct : Value) (us ws : List Value), us.length = n1 → ws.length = ks.length → bindArgs (PySem.W.fnOf x x (defArgs st) (defBody st) (defScope st) .none kV doc pm an cdv ct) ⟨us, ks.zip ws⟩ = pure (ps.zip (us ++ ws))) : KwB fd ps ks n1 := by
  obtain ⟨oc, od, dV, kV, doc, pm, an, cdv, ct, osl, rfl, lk, hcd, hD, hK⟩ := F.ex
  rcases hD with ⟨_, rfl⟩ | ⟨e, _⟩
  · exact fun s us ws h1 h2 => .of_eq (h kV doc pm an cdv ct us ws h1 h2)
  · exact absurd rfl e
variable {k : Nat} {f : Addr} {fd : FuncData} {ps ks : List Str} {m : FM} {x : Str} {kws : List Keyword}
theorem kw_run {n1 : Nat} {sp : Sp} {pins : List (Addr × Obj)} {σ : St} {H : Hp} {s : Shared} {Q : VK} {us ws : List Value} {vs zs : List V} (F : FnOk X.prog X.w X.K X.mg X.base (L2.CX X.prog X.w) k f fd ps sp) (hr : Room k X.A) (hb : KwB fd ps ks n1) (tk : Takes X Wc)
    (I : Inv X pins σ H s) (r : Vals vs us) (rz : Vals zs ws) (hv : vs.length = n1) (hl : zs.length = ks.length) (h : sp (vs ++ zs) H Q (WE Wc σ)) : wpAny (model X.prog X.w) X.A (call (.ref f) us (ks.zip ws)) (EP X pins σ Q) X.xe s := by
  have r2 := r.append rz
  have hl2 : (us ++ ws).length = ps.length := by rw [← r2.length]; exact F.len _ _ _ _ h
  have hl3 : ws.length = ks.length := by rw [← rz.length]; exact hl
  refine wpAny_call (codeAny_mono (F.run X.A X.stack s H ⟨us, ks.zip ws⟩ (us ++ ws) (vs ++ zs) Q (WE Wc σ) hr I.env0 (hb s us ws (by rw [← r.length]; exact hv) hl3) r2 h) fun r s' hq => ?_)
  cases r with
  | error e => exact passAt tk σ pins H s e s' I hq
  | ok fl =>
    cases fl with
    | ret u => exact I.after hq
    | next => exact False.elim hq
    | brk => exact False.elim hq
    | cont => exact False.elim hq
/-- the keywords' values -/
theorem k_nil : PK X [] (LA X Wc fNil) := ⟨fun pos pins s σ H Q I h => pk_nil.run pos pins s σ H Q I (by
  obtain ⟨F, D, m, ρ, S, r0, c⟩ := h
  exact c F m [] H Le.refl (List.prefix_refl m) r0 .nil)⟩
theorem k_cons {nm : Option Str} {kpos : Pos} (ha : PE X e (LE X Wc fa)) (hr : PK X kws (LA X Wc fr)) : PK X (⟨nm, e, kpos⟩ :: kws) (LA X Wc (fCons fa fr)) := ⟨fun pos pins s σ H Q I h => (pk_cons ha hr).run pos pins s σ H Q I (by
  obtain ⟨F, D, m, ρ, S, r0, c⟩ := h
  refine step r0 c fun F1 m1 x v S1 H1 l1 p1 r1 e1 c1 => ?_
  refine step r1 c1 fun F2 m2 xs vs S2 H2 l2 p2 r2 e2 c2 => ?_
  exact c2 F2 m2 _ H2 Le.refl (List.prefix_refl m2) r2 (.cons (RepW.mono l2 p2 e1) e2))⟩
def fApd (f g : FA) : FA := fun ρ S => (f ρ S).bind fun xs S1 => (g ρ S1).bind fun ys S2 => .ok (xs ++ ys) S2
variable {fk : FA}
/-- f(e, .., k = v, ..) -/
theorem kw_imp {n1 n2 : Nat} (hn : n1 + n2 = ps.length) (hl1 : LenN fr n1) (hl2 : LenN fk n2) {σ : St} {H : Hp} {Q : VK} (h : LE X Wc (fCall m (fApd fr fk)) σ H Q) :
    LA X Wc fr σ H fun vs H1 => LA X Wc fk σ H1 fun zs H2 => vs.length = n1 ∧ zs.length = n2 ∧ spOf X.K X.mg m ps.length (vs ++ zs) H2 Q (WE Wc σ) := by
  obtain ⟨F0, Hd, μ, ρ, S, r, c⟩ := h
  unfold fCall fApd at c
  rw [bind_assoc] at c
  refine ⟨F0, Hd, μ, ρ, S, r, ?_⟩
  cases q1 : fr ρ S with
  | bad => rw [q1] at c; exact c.elim
  | err z S1 => rw [q1] at c; exact c
  | ok ws S1 =>
    rw [q1] at c
    intro F1 m1 vs H1 l1 p1 r1 e1
    refine ⟨F1, Hd, m1, ρ, S1, r1, ?_⟩
    have c : cont X.K X.mg Wc (repE X.K) F0 Hd μ ρ σ Q (((fk ρ S1).bind fun ys S2 => .ok (ws ++ ys) S2).bind fun ws S1 => (m ws S1).bind rvW) := c
    rw [bind_assoc] at c
    cases q2 : fk ρ S1 with
    | bad => rw [q2] at c; exact c.elim
    | err z S2 => rw [q2] at c; exact fun F2 m2 C H2 l2 p2 r2 hC => c F2 m2 C H2 (l1.trans l2) (p1.trans p2) r2 hC
    | ok us S2 =>
      rw [q2] at c
      intro F2 m2 zs H2 l2 p2 r2 e2
      have g1 := Paired.length e1
      have g2 := Paired.length e2
      have g3 := hl1 _ _ _ _ q1
      have g4 := hl2 _ _ _ _ q2
      refine ⟨by omega, by omega, ?_⟩
      have ee : RepWs X.K F2 m2 (ws ++ us) (vs ++ zs) := paired_app (RepWs.mono l2 p2 e1) e2
      exact sp_call (by rw [List.length_append]; omega) r2 ee (cont.mono (l1.trans l2) (p1.trans p2) (fun _ _ z => z) c)
theorem q_callK {n1 n2 : Nat} (F : FnQ X.prog X.w X.K X.mg X.base k f fd ps m) (hr : Room k X.A) (hg : Gl X x) (hm : X.mg x = some (.ref f)) (hk : PySem.W.keepIn X.K (.ref f) = true) (hb : KwB fd ps ks n1) (tk : Takes X Wc)
    (hl1 : LenN fr n1) (hl2 : LenN fk n2) (hn : n1 + n2 = ps.length) (hn2 : n2 = ks.length) (ha : PA X (e :: es) (LA X Wc fr)) (hkw : PK X kws (LA X Wc fk))
    (hall : (backToKw pos (keywordEach kws X.env)).all (·.1.isSome) = true := by rfl) (hks : (backToKw pos (keywordEach kws X.env)).filterMap (·.1) = ks := by rfl)
    (hdb : (x == ("__debug__" : Str)) = false := by decide) (he : starEach (e :: es) X.env = (false, eval e X.env) :: starEach es X.env := by rfl)
    (hpl : ((backTo pos (starEach (e :: es) X.env)).any (·.1) || (backToKw pos (keywordEach kws X.env)).any (·.1.isNone)) = false := by rfl) :
    PE X (.Call (.Name x p) (e :: es) kws pos) (LE X Wc (fCall m (fApd fr fk))) := by
  refine ⟨fun pins s σ H Q I h => ?_⟩
  have h := kw_imp hn hl1 hl2 h
  refine wpAny_Call_Name_kw (ld_glob I hg hm ?_ hdb)
  refine PySem.W.callWith_KW (h₀ := X.base) I.ok.mod.kin hk hall (thn (ha.run pos pins s σ H _ I h) fun us s1 ⟨vs, H1, I1, r, q⟩ => ?_) hpl he
  refine thn (hkw.run pos pins s1 σ H1 _ I1 q) fun ws s2 ⟨zs, H2, I2, rz, hv, hz, q2⟩ => ⟨I2.kIn, ?_⟩
  rw [hks]
  exact kw_run F hr hb tk I2 r rz hv (hz.trans hn2) q2
/-- f(k = v, ..) -/
theorem q_callK0 {n2 : Nat} (F : FnQ X.prog X.w X.K X.mg X.base k f fd ps m) (hr : Room k X.A) (hg : Gl X x) (hm : X.mg x = some (.ref f)) (hk : PySem.W.keepIn X.K (.ref f) = true) (hb : KwB fd ps ks 0) (tk : Takes X Wc)
    (hl2 : LenN fk n2) (hn : n2 = ps.length) (hn2 : n2 = ks.length) (hkw : PK X kws (LA X Wc fk))
    (hall : (backToKw pos (keywordEach kws X.env)).all (·.1.isSome) = true := by rfl) (hks : (backToKw pos (keywordEach kws X.env)).filterMap (·.1) = ks := by rfl)
    (hdb : (x == ("__debug__" : Str)) = false := by decide)
    (hpl : ((backTo pos (starEach [] X.env)).any (·.1) || (backToKw pos (keywordEach kws X.env)).any (·.1.isNone)) = false := by rfl) :
    PE X (.Call (.Name x p) [] kws pos) (LE X Wc (fCall m (fApd fNil fk))) := by
  refine ⟨fun pins s σ H Q I h => ?_⟩
  have h := kw_imp (n1 := 0) (n2 := n2) (ps := ps) (by omega) ln_nil hl2 h
  obtain ⟨F0, Hd, μ, ρ, S, r, c⟩ := h
  have h := c F0 μ [] H Le.refl (List.prefix_refl μ) r .nil
  refine wpAny_Call_Name_kw (ld_glob I hg hm ?_ hdb)
  refine PySem.W.callWith_KW0 (h₀ := X.base) I.ok.mod.kin hk hall ?_ hpl
  refine thn (hkw.run pos pins s σ H _ I h) fun ws s2 ⟨zs, H2, I2, rz, hv, hz, q2⟩ => ⟨I2.kIn, ?_⟩
  rw [hks]
  exact kw_run (us := []) (vs := []) F hr hb tk I2 .nil rz hv (hz.trans hn2) q2
end
end L2.Q
/-! Layer Q, part M: a slot's object handed back; * of tuples; zip, enumerate; max, min. -/
namespace L2.Q
open PySem PySem.Spec PyProof.Rows

section
variable {X : Cx} {Wc : WX} {a b e e2 : Expr} {es : List Expr} {pos p apos cpos : Pos} {fa fb fc : FE} {fo fo2 : FO} {fl1 : FA} {fr : FA}
/-- return x, x's object its own -/
def fRetI (i : Nat) : FT := fun ρ S => match ρ[i]? with
  | some (.own o) => .rt (.own o) S
  | _ => .bad
theorem s_retI {i : Nat} {x : Str} {p' : Pos} (hN : X.N[i]? = some x) (hv : Vis X.env.scope x) (hd : (x == ("__debug__" : Str)) = false := by decide) (hcd : (x == ("__classdict__" : Str)) = false := by decide) : PS X (.Return (some (.Name x p')) pos) (LS X Wc (fRetI i)) :=
  PS.imp (ps_ret (pe_var hN hv hd hcd)) fun D σ H h => by
  obtain ⟨F, Hd, m, ρ, S, r, c⟩ := h
  unfold fRetI at c
  split at c
  · rename_i o eo
    obtain ⟨a, ho, e1, h1, h2, h3, h4, h5⟩ := r.s.sl i _ eo
    exact ⟨_, e1, c F m a ho H Le.refl (List.prefix_refl m) r.b h1 h2 h3 h4 h5⟩
  · exact c.elim
/-- * of ints, a tuple times an int -/
def oMulA : W → W → List Ob → Res W := fun x y S => match x, y with
  | .d (.tuple xs), .d (.int k) => if xs ≠ [] ∧ 2 ≤ k ∧ k ≤ 1000 ∧ xs.length ≤ 1000 then .ok (.d (.tuple (List.replicate k.toNat xs).flatten)) S else .bad
  | x, y => oMul x y S
theorem dps_rep {K : PySem.W.Frag} {F : Hp} {ds : List PyData} {vs : List V} (h : DpAll K F vs ds) : ∀ n : Nat, DpAll K F (List.replicate n vs).flatten (List.replicate n ds).flatten
  | 0 => .nil
  | n + 1 => by
    rw [List.replicate_succ, List.replicate_succ, List.flatten_cons, List.flatten_cons]
    exact dps_app h (dps_rep h n)
theorem f_mulA : OpF X Wc (fun x y H Q => rRepT X.K x y H Q ∨ rI CMulX (fun i j => .int (i * j)) x y H Q) oMulA := by
  intro Fr Hd μ ρ S σ H x y v u Q r ex ey c
  unfold oMulA at c
  split at c
  · rename_i xs k
    split at c
    · rename_i hh
      cases ey
      cases ex with
      | @tup a vs _ h1 h2 =>
        have el := DpAll.len h2
        exact .inl ⟨a, k, vs, rfl, rfl, Le.sqT r.b.fr h1, fun z => hh.1 (by subst z; cases h2; rfl), hh.2.1, hh.2.2.1, by rw [el]; exact hh.2.2.2, fun q hq => new_tup r (dps_rep h2 k.toNat) hq c⟩
    · exact c.elim
  · exact .inr (f_mul Fr Hd μ ρ S σ H _ _ v u Q r ex ey c)
theorem q_mul (ha : PE X a (LE X Wc fa)) (hb : PE X b (LE X Wc fb)) : PE X (.BinOp a .Mult b pos) (LE X Wc (fBin oMulA fa fb)) := q_op (OpR.or op_repT op_mulX) f_mulA ha hb

/-! ### zip, enumerate -/
def zipD : List PyData → List PyData → List W
  | x :: r, y :: s => .d (.tuple [x, y]) :: zipD r s
  | _, _ => []
theorem zipD_len : ∀ xs ys : List PyData, (zipD xs ys).length = min xs.length ys.length
  | [], _ => by simp [zipD]
  | _ :: _, [] => by simp [zipD]
  | x :: r, y :: s => by simp [zipD, zipD_len r s]
theorem zipD_get : ∀ (i : Nat) (xs ys : List PyData) (x y : PyData), xs[i]? = some x → ys[i]? = some y → (zipD xs ys)[i]? = some (.d (.tuple [x, y]))
  | 0, x' :: r, y' :: s, x, y, h, k => by simp at h k; subst h k; rfl
  | i + 1, x' :: r, y' :: s, x, y, h, k => by
    have h : r[i]? = some x := by simpa using h
    have k : s[i]? = some y := by simpa using k
    exact zipD_get i r s x y h k
  | _, [], _, _, _, h, _ => by simp at h
  | _, _ :: _, [], _, _, _, k => by simp at k
def zipV (x y : W) (S : List Ob) : Res (List W) := match x, y with
  | .d (.tuple xs), .d (.tuple ys) => if xs.length ≤ 16777216 then .ok (zipD xs ys) S else .bad
  | .d (.list xs), .d (.list ys) => if xs.length ≤ 16777216 then .ok (zipD xs ys) S else .bad
  | _, _ => .bad
def fZip (fa fb : FE) : FA := fun ρ S => (fa ρ S).bind fun x S1 => (fb ρ S1).bind fun y S2 => zipV x y S2
theorem dps_get {K : PySem.W.Frag} {F : Hp} {ds : List PyData} {vs : List V} {i : Nat} {v : V} (h : DpAll K F vs ds) (e : vs[i]? = some v) : ∃ d, ds[i]? = some d ∧ Dp K F v d := by
  have hi : i < ds.length := by rw [← DpAll.len h]; exact (List.getElem?_eq_some_iff.mp e).1
  obtain ⟨v', e1, e2⟩ := paired_get (rep_dats (μ := []) h) (i := i) (a := .d ds[i]) (by rw [List.getElem?_map, List.getElem?_eq_getElem hi]; rfl)
  rw [e] at e1
  cases e1
  exact ⟨_, List.getElem?_eq_getElem hi, e2⟩
theorem zip_yq {K : PySem.W.Frag} {Fr : Hp} {μ : List Addr} {xs ys : List PyData} {vs us : List V} (hx : DpAll K Fr vs xs) (hy : DpAll K Fr us ys) {i : Nat} {H : Hp} {v : V} {H' : Hp} (y : YPair (fun i => vs[i]?) (fun i => us[i]?) i H v H') : Yq K Fr μ (zipD xs ys) i H v H' := by
  obtain ⟨T, x, z, rfl, hT, rfl, e1, e2⟩ := y
  obtain ⟨d, k1, k2⟩ := dps_get hx e1
  obtain ⟨e, k3, k4⟩ := dps_get hy e2
  exact ⟨_, zipD_get _ _ _ _ _ k1 k3, .inr ⟨T, _, _, rfl, hT, rfl, rfl, .cons k2 (.cons k4 .nil)⟩⟩
theorem walk_zipT {K : PySem.W.Frag} {a b : Addr} {xs ys : List V} {n : Nat} (hn : n = min xs.length ys.length) : Walk (RZ.ItzT K a b) n (fun H => SqT K H a xs ∧ SqT K H b ys) (YPair (fun i => xs[i]?) (fun i => ys[i]?)) := by
  subst hn
  refine ⟨fun i _ hi q => ?_, fun _ q => ⟨xs, ys, q.1, q.2, by omega⟩, fun i H v H' _ q y => ?_⟩
  · have h1 : i < xs.length := by omega
    have h2 : i < ys.length := by omega
    exact ⟨xs, ys, xs[i], ys[i], q.1, q.2, by simp [h1], by simp [h2]⟩
  · obtain ⟨T, x, z, h1, h2, h3, h4, h5⟩ := y
    exact ⟨T, x, z, h1, h2, h3, h4 xs q.1, h5 ys q.2⟩
theorem i_zip {elts : List Expr} {kk : Nat} {tpos : Pos} (hg : Gl X "zip") (hm : X.mg "zip" = none) (ha : PE X e (LE X Wc fa)) (hb : PE X e2 (LE X Wc fb))
    (hs : starEach [e, e2] X.env = (false, eval e X.env) :: starEach [e2] X.env := by rfl) (hs2 : starEach [e2] X.env = (false, eval e2 X.env) :: starEach [] X.env := by rfl) (hpl : (backTo pos (starEach [e2] X.env)).any (·.1) = false := by rfl) :
    PI X (.Tuple elts kk tpos) (.Call (.Name "zip" p) [e, e2] [] pos) (LI X Wc (fZip fa fb)) := PI.imp (RZ.pi_zipA hg hm (pa_cons ha (pa_cons hb pa_nil hs2) hs) hs hpl) fun σ H Q h => by
  obtain ⟨F, Hd, m, ρ, S, r, c⟩ := h
  refine stepI r c fun F1 m1 x v S1 H1 l1 p1 r1 e1 c1 => ?_
  refine stepI r1 c1 fun F2 m2 y u S2 H2 l2 p2 r2 e2 c2 => ?_
  have e1 := RepW.mono l2 p2 e1
  unfold zipV at c2
  split at c2
  · rename_i xs ys
    split at c2
    · rename_i hl
      cases e1 with
      | @tup a vs _ h1 h2 =>
        cases e2 with
        | @tup b us _ k1 k2 =>
          have z1 := DpAll.len h2
          have z2 := DpAll.len k2
          refine ⟨a, b, vs, us, rfl, .inr ⟨Le.sqT r2.b.fr h1, Le.sqT r2.b.fr k1, c2 F2 Hd m2 H2 _ Le.refl Le.refl (List.prefix_refl m2) r2 (Walk.mono (walk_zipT (by rw [zipD_len, z1, z2])) (fun H h => ⟨Le.sqT h.1 h1, Le.sqT h.1 k1⟩) fun i H v H' hi _ y => zip_yq h2 k2 y) ?_⟩⟩
          rw [zipD_len, sizeLine_eq]; omega
    · exact c2.elim
  · rename_i xs ys
    split at c2
    · rename_i hl
      cases e1 with
      | @lst a vs _ h1 h2 =>
        cases e2 with
        | @lst b us _ k1 k2 =>
          have z1 := DpAll.len h2
          have z2 := DpAll.len k2
          refine ⟨a, b, vs, us, rfl, .inl ⟨Le.sqL r2.b.fr h1, Le.sqL r2.b.fr k1, c2 F2 Hd m2 H2 _ Le.refl Le.refl (List.prefix_refl m2) r2 (Walk.mono (walk_zip (by rw [zipD_len, z1, z2])) (fun H h => ⟨Le.sqL h.1 h1, Le.sqL h.1 k1⟩) fun i H v H' hi _ y => zip_yq h2 k2 y) ?_⟩⟩
          rw [zipD_len, sizeLine_eq]; omega
    · exact c2.elim
  · exact c2.elim
/-- enumerate of a list -/
def enumD (n : Nat) : List PyData → List W
  | x :: r => .d (.tuple [.int (n : Int), x]) :: enumD (n + 1) r
  | [] => []
theorem enumD_len : ∀ (n : Nat) (xs : List PyData), (enumD n xs).length = xs.length
  | _, [] => rfl
  | n, x :: r => by simp [enumD, enumD_len (n + 1) r]
theorem enumD_get : ∀ (i n : Nat) (xs : List PyData) (x : PyData), xs[i]? = some x → (enumD n xs)[i]? = some (.d (.tuple [.int ((n + i : Nat) : Int), x]))
  | 0, n, x' :: r, x, h => by simp at h; subst h; rfl
  | i + 1, n, x' :: r, x, h => by
    have h : r[i]? = some x := by simpa using h
    have := enumD_get i (n + 1) r x h
    rw [show n + 1 + i = n + (i + 1) by omega] at this
    exact this
  | _, _, [], _, h => by simp at h
def enumV (x : W) (S : List Ob) : Res (List W) := match x with
  | .d (.list xs) => if xs.length ≤ 16777216 then .ok (enumD 0 xs) S else .bad
  | _ => .bad
def fEnum (fa : FE) : FA := fun ρ S => (fa ρ S).bind enumV
theorem i_enum {elts : List Expr} {kk : Nat} {tpos : Pos} (hg : Gl X "enumerate") (hm : X.mg "enumerate" = none) (ha : PE X e (LE X Wc fa)) (hs1 : starEach [e] X.env = (false, eval e X.env) :: starEach [] X.env := by rfl) (hs : starEach [e] X.env = [(false, eval e X.env)] := by rfl) :
    PI X (.Tuple elts kk tpos) (.Call (.Name "enumerate" p) [e] [] pos) (LI X Wc (fEnum fa)) := PI.imp (pi_enum hg hm (pa_cons ha pa_nil hs1) hs) fun σ H Q h => by
  obtain ⟨F, Hd, m, ρ, S, r, c⟩ := h
  refine stepI r c fun F1 m1 x v S1 H1 l1 p1 r1 e1 c1 => ?_
  unfold enumV at c1
  split at c1
  · rename_i xs
    split at c1
    · rename_i hl
      cases e1 with
      | @lst a vs _ h1 h2 =>
        have z1 := DpAll.len h2
        have hw := walk_enum (K := X.K) (a := a) (xs := vs)
        rw [show vs.length = (enumD 0 xs).length by rw [enumD_len, z1]] at hw
        refine ⟨a, vs, rfl, Le.sqL r1.b.fr h1, c1 F1 Hd m1 H1 _ Le.refl Le.refl (List.prefix_refl m1) r1 (Walk.mono hw (fun H h => Le.sqL h.1 h1) fun i H v H' hi _ y => ?_) ?_⟩
        · obtain ⟨T, x, z, rfl, hT, rfl, e1, e2⟩ := y
          cases e1
          obtain ⟨d, k1, k2⟩ := dps_get h2 e2
          have := enumD_get i 0 xs d k1
          rw [Nat.zero_add] at this
          exact ⟨_, this, .inr ⟨T, _, _, rfl, hT, rfl, rfl, .cons (Dp.int _) (.cons k2 .nil)⟩⟩
        · rw [enumD_len, sizeLine_eq]; exact hl
    · exact c1.elim
  · exact c1.elim
/-- max, min of a list of ints -/
def maxL : List Int → Option Int
  | [] => none
  | x :: r => some (r.foldl max x)
def minL : List Int → Option Int
  | [] => none
  | x :: r => some (r.foldl min x)
theorem foldl_max (r : List Int) : ∀ x, (∀ y ∈ x :: r, y ≤ r.foldl max x) ∧ r.foldl max x ∈ x :: r := by
  induction r with
  | nil => intro x; simp
  | cons y r ih =>
    intro x
    obtain ⟨h1, h2⟩ := ih (max x y)
    rw [List.foldl_cons]
    refine ⟨fun z hz => ?_, ?_⟩
    · have hm := h1 (max x y) (List.mem_cons_self ..)
      rcases List.mem_cons.mp hz with rfl | hz
      · omega
      · rcases List.mem_cons.mp hz with rfl | hz
        · omega
        · exact h1 z (List.mem_cons_of_mem _ hz)
    · rcases List.mem_cons.mp h2 with e | e
      · rw [e]
        by_cases q : x ≤ y
        · rw [Int.max_eq_right q]; simp
        · rw [Int.max_eq_left (by omega)]; simp
      · simp [e]
theorem foldl_min (r : List Int) : ∀ x, (∀ y ∈ x :: r, r.foldl min x ≤ y) ∧ r.foldl min x ∈ x :: r := by
  induction r with
  | nil => intro x; simp
  | cons y r ih =>
    intro x
    obtain ⟨h1, h2⟩ := ih (min x y)
    rw [List.foldl_cons]
    refine ⟨fun z hz => ?_, ?_⟩
    · have hm := h1 (min x y) (List.mem_cons_self ..)
      rcases List.mem_cons.mp hz with rfl | hz
      · omega
      · rcases List.mem_cons.mp hz with rfl | hz
        · omega
        · exact h1 z (List.mem_cons_of_mem _ hz)
    · rcases List.mem_cons.mp h2 with e | e
      · rw [e]
        by_cases q : x ≤ y
        · rw [Int.min_eq_left q]; simp
        · rw [Int.min_eq_right (by omega)]; simp
      · simp [e]
def onIo (f : List Int → Option Int) (xs : List W) (S : List Ob) : Res W := match intsW xs with
  | some ns => (match f ns with
    | some i => .ok (.d (.int i)) S
    | none => .bad)
  | none => .bad
def fMaxL (f : FA) : FE := fun ρ S => (f ρ S).bind (onIo maxL)
def fMinL (f : FA) : FE := fun ρ S => (f ρ S).bind (onIo minL)
theorem q_maxL (hc : X.calm = true) (hg : Gl X "max") (hm : X.mg "max" = none) (h : PE X e (LL X Wc fl1)) (hs : starEach [e] X.env = (false, eval e X.env) :: starEach [] X.env := by rfl) (hpl : (backTo pos (starEach [] X.env)).any (·.1) = false := by rfl) : PE X (.Call (.Name "max" p) [e] [] pos) (LE X Wc (fMaxL fl1)) :=
  PE.imp (pe_callB (cr_max hc) hg hm (by decide +kernel) (pa_cons h pa_nil hs) (he := hs) (hpl := hpl)) fun σ H Q h => by
  obtain ⟨F, D, m, ρ, S, r0, c⟩ := h
  refine step r0 c fun F1 m1 xs v S1 H1 l1 p1 r1 e1 c1 => ?_
  obtain ⟨a, vs, rfl, e2, e3⟩ := e1
  unfold onIo at c1
  cases z : intsW xs with
  | none => rw [z] at c1; exact c1.elim
  | some bs =>
    rw [z] at c1
    rw [intsW_rep z e3] at e2
    cases bs with
    | nil => exact c1.elim
    | cons x r =>
      refine ⟨a, x :: r, rfl, e2, Nat.succ_pos _, fun m hm hy => ?_⟩
      obtain ⟨h1, h2⟩ := foldl_max r x
      have : m = r.foldl max x := by have := hy _ h2; have := h1 m hm; omega
      subst this
      exact rt r1 c1 (Dp.int _)
theorem q_minL (hc : X.calm = true) (hg : Gl X "min") (hm : X.mg "min" = none) (h : PE X e (LL X Wc fl1)) (hs : starEach [e] X.env = (false, eval e X.env) :: starEach [] X.env := by rfl) (hpl : (backTo pos (starEach [] X.env)).any (·.1) = false := by rfl) : PE X (.Call (.Name "min" p) [e] [] pos) (LE X Wc (fMinL fl1)) :=
  PE.imp (pe_callB (cr_min hc) hg hm (by decide +kernel) (pa_cons h pa_nil hs) (he := hs) (hpl := hpl)) fun σ H Q h => by
  obtain ⟨F, D, m, ρ, S, r0, c⟩ := h
  refine step r0 c fun F1 m1 xs v S1 H1 l1 p1 r1 e1 c1 => ?_
  obtain ⟨a, vs, rfl, e2, e3⟩ := e1
  unfold onIo at c1
  cases z : intsW xs with
  | none => rw [z] at c1; exact c1.elim
  | some bs =>
    rw [z] at c1
    rw [intsW_rep z e3] at e2
    cases bs with
    | nil => exact c1.elim
    | cons x r =>
      refine ⟨a, x :: r, rfl, e2, Nat.succ_pos _, fun m hm hy => ?_⟩
      obtain ⟨h1, h2⟩ := foldl_min r x
      have : m = r.foldl min x := by have := hy _ h2; have := h1 m hm; omega
      subst this
      exact rt r1 c1 (Dp.int _)
end
end L2.Q
/-! Layer Q, part N: the scope of a comprehension by a test; a head with any tests of the written part; the law's end. -/
namespace L2.Q
open PySem PySem.Spec PyProof.Rows

/-! ### a comprehension's scope -/
def blkB (N : List Str) (sc scope : Scope) (own : List (Str × Nat)) : Bool :=
  decide (scope.kind = .function) && (scope.names.all (fun y => decide (scope.names.lookup y.1 = some y.2)) && (own.all (fun p => decide (N[p.2]? = some p.1)) &&
    (scope.names.all (fun y => !decide (y.2 = .free) || (decide (sc.names.lookup y.1 = some .cell) || decide (sc.names.lookup y.1 = some .free))) &&
      scope.names.all (fun y => !(decide (y.2 = .local) || decide (y.2 = .cell)) || (decide (y.1 ∈ own.map (·.1)) || decide (y.1 ∉ N))))))
theorem blk_of {N : List Str} {sc scope : Scope} {own : List (Str × Nat)} (h : blkB N sc scope own = true) : BlkOk N sc scope own := by
  unfold blkB at h
  simp only [Bool.and_eq_true, List.all_eq_true, Bool.or_eq_true, decide_eq_true_eq, Bool.not_eq_true', Bool.or_eq_false_iff, decide_eq_false_iff_not] at h
  obtain ⟨h1, h2, h3, h4, h5⟩ := h
  refine ⟨h1, h2, h3, fun y hy e => ?_, fun y hy e => ?_⟩
  · rcases h4 y hy with k | k
    · exact absurd e k
    · exact k
  · rcases h5 y hy with k | k
    · rcases e with e | e
      · exact absurd e k.1
      · exact absurd e k.2
    · exact k
section
variable {X : Cx} {Wc : WX} {a b c : Expr} {fa fb fc : FE} {pos : Pos}
/-- a < b < c as a test -/
theorem t_chainI {op op' : CmpOp} {C C' : Int → Int → Bool} {g g' : Int → Int → Bool} (ho : OpR X (compareOp op) (rI0 fun i j => .bl (g i j))) (ho' : OpR X (compareOp op') (rI0 fun i j => .bl (g' i j)))
    (ha : PE X a (LE X Wc fa)) (hb : PE X b (LE X Wc fb)) (hc : PE X c (LE X Wc fc)) (hm : lastMarks [op, op'] [b, c] = false := by rfl) :
    PT X (.Compare a [op, op'] [b, c] pos) (LB X Wc (fT (fChain (oI C fun i j => .bool (g i j)) (oI C' fun i j => .bool (g' i j)) fa fb fc))) := PT.imp (pt_chain ho ho' ha hb hc hm) fun σ H Q h => by
  have h := t_imp h
  obtain ⟨F, D, m, ρ, S, r0, c⟩ := h
  refine step r0 c fun F1 m1 x v S1 H1 l1 p1 r1 e1 c1 => ?_
  refine step r1 c1 fun F2 m2 y u S2 H2 l2 p2 r2 e2 c2 => ?_
  have e1' := RepW.mono l2 p2 e1
  rcases rep_int e1' with ⟨i, rfl, rfl⟩ | n
  · rcases rep_int e2 with ⟨j, rfl, rfl⟩ | n
    · unfold oI at c2
      dsimp only at c2
      split at c2
      · refine ⟨i, j, rfl, rfl, g i j, rfl, ?_⟩
        have c2 : cont X.K X.mg Wc (repE X.K) F2 D m2 ρ σ (fun x H => ∃ k, x = V.bl k ∧ Q k H) (if g i j = true then (fc ρ S2).bind fun z S4 => oI C' (fun i j => .bool (g' i j)) (.d (.int j)) z S4 else .ok (.d (.bool false)) S2) := c2
        split at c2
        · rename_i hg
          rw [if_pos hg]
          refine step r2 c2 fun F3 m3 z w S3 H3 l3 p3 r3 e3 c3 => ?_
          exact f_int0 (X := X) (Wc := Wc) (g := fun i j => .bool (g' i j)) (g' := fun i j => .bl (g' i j)) (fun _ _ _ => .bl _) F3 D m3 ρ S3 σ H3 (.d (.int j)) z (.int j) w _ r3 (Dp.int _) e3 c3
        · rename_i hg
          rw [if_neg hg]
          exact rt r2 c2 (Dp.bl _)
      · exact c2.elim
    · rw [oI_bad (.inr n)] at c2; exact c2.elim
  · rw [oI_bad (.inl n)] at c2; exact c2.elim
end

/-! ### a head -/
abbrev FbT := PySem.W.Frag → Bool
def obsB (fb : List FbT) (fn : List He.DefD) (K : PySem.W.Frag) : He.AlD := (fb.all (fun f => f K) && fn.all (fun d => d.ok K), fn.map fun d => He.fnW K d.at_)
def SaysB (fb : List FbT) (fn : List He.DefD) (K : PySem.W.Frag) : Prop := obsB fb fn K = He.valD fn
def obsBG (n : Nat) (fb : List FbT) (fn : List He.DefD) (g : Addr → Option Obj) : He.AlD := obsB fb fn (He.frG g (He.asD g n))
def hookB (n : Nat) (fb : List FbT) (fn : List He.DefD) : PySem.W.Hook where
  α := He.AlD
  obs := fun s => obsBG n fb fn s.heap.get?
  val := fun _ => He.valD fn
  says := fun _ h => ∃ K : PySem.W.Frag, K.In h ∧ SaysB fb fn K
  of := fun _ _ e => ⟨_, He.frG_in, e⟩
  keeps := fun _ _ _ ⟨K, hK, c⟩ k => ⟨K, PySem.W.Frag.In.keeps hK k, c⟩
theorem obsBG_eq {n : Nat} {fb : List FbT} {fn : List He.DefD} {g : Addr → Option Obj} {s : Shared} (h : ∀ a, g a = s.heap.get? a) : obsBG n fb fn g = (hookB n fb fn).obs s := by
  have e : g = s.heap.get? := funext h
  rw [e] <;> rfl
section
variable {fb : List FbT} {fn : List He.DefD} {K : PySem.W.Frag}
theorem SaysB.fact (c : SaysB fb fn K) (i : Nat) {f : FbT} (h : fb[i]? = some f := by rfl) : f K = true := by
  have c1 := (He.ba (show (fb.all (fun f => f K) && fn.all (fun d => d.ok K)) = true from congrArg (fun z : He.AlD => z.1) c)).1
  exact List.all_eq_true.mp c1 f (List.mem_of_getElem? h)
theorem SaysB.def_ (c : SaysB fb fn K) (i : Nat) {d : He.DefD} (h : fn[i]? = some d := by rfl) : ∃ fd, FunD K d.name d.qual d.params d.body d.scope (d.dvs K) (d.kws K) (He.fAd K d.at_) fd := by
  have c2 := (He.ba (show (fb.all (fun f => f K) && fn.all (fun d => d.ok K)) = true from congrArg (fun z : He.AlD => z.1) c)).2
  have e : fn.map (fun d => He.fnW K d.at_) = fn.map He.DefD.val := congrArg (fun z : He.AlD => z.2) c
  have e2 : (fn.map fun d => He.fnW K d.at_)[i]? = (fn.map He.DefD.val)[i]? := by rw [e]
  rw [List.getElem?_map, List.getElem?_map, h] at e2
  exact He.DefD.funD (Option.some.inj e2) (List.all_eq_true.mp c2 d (List.mem_of_getElem? h))
end
/-- a def of the top, by its statement -/
def topD (x : Str) (st : Stmt) : He.DefD := ⟨(x, none), x, x, defArgs st, defBody st, defScope st, [], []⟩
/-- tests of the written part -/
def fcGlo (x : Str) : FbT := fun K => (He.Fa.glo x).ok K
def fcFree (x : Str) : FbT := fun K => (He.Fa.free x).ok K
def fcInt (x : Str) (i : Int) : FbT := fun K => (He.Fa.int x i).ok K
def fcExc (x : Str) : FbT := fun K => (He.Fa.exc x).ok K
/-- the class c is caught by except d, is an instance of d: b -/
def fcSub (c d : Str) (b : Bool) : FbT := fun K => decide (PySem.W.exmOne K (.ref (He.ga K c)) (.ref (He.ga K d)) = some b)
def fcIs (c d : Str) (b : Bool) : FbT := fun K => decide (PySem.W.kitOne K (.ref (He.ga K c)) (.ref (He.ga K d)) = some b)
def fcIsV (c : Str) (t : String) (b : Bool) : FbT := fun K => decide (PySem.W.kitOne K (.ref (He.ga K c)) (.type t) = some b)
/-- what isinstance asks of a caught error's class -/
def fcEx (c : Str) : FbT := fun K => decide (PySem.W.findIn K (.ref (He.ga K c)) "__getattribute__" = some (some (.builtin "BaseException.__getattribute__"))) && (decide (PySem.W.findIn K (.ref (He.ga K c)) "__getattr__" = some none) &&
  (decide (PySem.W.subIn K (.ref (He.ga K c)) (.type "BaseException") = some true) && (PySem.W.hasDictIn K (He.ga K c) && (decide (PySem.W.findIn K (.ref (He.ga K c)) "__class__" = some (some (.builtin "object.__class__"))) &&
    (decide (PySem.W.specialIn K (.builtin "object.__class__") "__get__" = some (some (.builtin "getset_descriptor.__get__"))) && (decide (PySem.W.takesIn K (.builtin "object.__class__") = some true) && decide (PySem.W.mroIn K (He.ga K c) (.type "object") = some true)))))))
theorem fcEx_ok {K : PySem.W.Frag} {c : Str} (h : fcEx c K = true) : ExcC K (He.ga K c) := by
  unfold fcEx at h
  simp only [Bool.and_eq_true, decide_eq_true_eq] at h
  obtain ⟨h1, h2, h3, h4, h5, h6, h7, h8⟩ := h
  exact ⟨h1, h2, h3, h4, h5, h6, h7, h8⟩
/-! ### the end -/
/-- the promise of the law's function: True at each script -/
def spLawQ (K : PySem.W.Frag) (mg : Str → Option Value) (m : FM) : Sp := spOf K mg m 1
theorem law_sp {K : PySem.W.Frag} {mg : Str → Option Value} {m : FM} (hm : ∀ ns : List Int, ns.length ≤ 63 → (∀ z ∈ ns, Builtin.Int.intBits z ≤ 1048576) → ∃ S, m [.d (.list (ns.map .int))] [] = .ok (.w (.d (.bool true))) S)
    (H : Hp) (a : Addr) (ns : List Int) (hl : ns.length ≤ 63) (hb : ∀ z ∈ ns, Builtin.Int.intBits z ≤ 1048576) (hS : SqL K H a (ns.map V.int)) : spLawQ K mg m [.ref a] H (fun v _ => v = .bl true) fun _ _ _ => False := by
  obtain ⟨S, e⟩ := hm ns hl hb
  have hd : DpAll K H (ns.map V.int) (ns.map PyData.int) := by
    clear hS hl hb e
    induction ns with
    | nil => exact .nil
    | cons x r ih => exact .cons (Dp.int _) ih
  refine ⟨rfl, H, fun _ => none, [], [.d (.list (ns.map .int))], [], ⟨Le.refl, fun a o e => (nomatch e), rfl, fun n a o e => by simp at e, List.nodup_nil⟩, .cons (Dp.lst hS hd) .nil, ?_⟩
  rw [e]
  intro Fr' μ' v H' _ _ _ rv
  cases rv
  rfl
theorem walk_ofEB {l : PySem.W.OpenLaw} {n k : Nat} {q : Program} {loose : List Str} {XP : (Str → Option Value) → Heap → Prop} {YP : World → Heap → Prop} {d : DefRec} {x : Str}
    (hn : l.most = some n) (hn2 : n ≤ sizeLine) (hdf : d.params.defaults = []) (hr : Room k callerA)
    (F : ∀ (w : World) (mg : Str → Option Value) (fa : Addr) (h : Heap), YP w h → h.Ns mainGlobals mg → mg d.name = some (.ref fa) →
      ∃ (K : PySem.W.Frag) (fd : FuncData) (sp : Sp), K.In h ∧ (∀ (s : Shared) (u : Value), BindsTo s fd ⟨[u], []⟩ [(x, u)]) ∧
        (∀ (H : Hp) (a : Addr) (ns : List Int), ns.length ≤ n → (∀ z ∈ ns, Builtin.Int.intBits z ≤ 1048576) → Only H → SqL K H a (ns.map V.int) → sp [.ref a] H (fun v _ => v = .bl true) fun _ _ _ => False) ∧
        ∀ base : Heap, K.In base → base.Ns mainGlobals mg → FnOk l.prog w K mg base (L2.CX l.prog w) k fa fd [x] sp) :
    PySem.W.WalkO q loose XP YP l.row.toRowW d [] (fun f vs => PySem.call f vs) := by
  refine Att.attach_callB hn hdf fun w s₀ s₁ mg mb fa o pm cd doc a vs ns G Y ho hd hcd hmg hobj hints hlen hbits hg => ?_
  obtain ⟨K, fd, sp, KX, hb, hsp, hF⟩ := F w mg fa _ Y G.T.g hmg
  exact law_call KX G.T.g G.T.b G.T.builtins G.T.nolimit hg hobj hints (Nat.le_trans hlen hn2) hr hF hb (fun H hO hS => hsp H a ns hlen hbits hO hS) fun H e s' h => by
    obtain ⟨_, _, _, _, _, _, _, _, _, _, _, _, h⟩ := h
    exact h
end L2.Q
/-! Layer Q, part O: mirrors reckoned by simp. -/
namespace L2.Q
open PySem PySem.Spec PyProof.Rows

section
variable {α β : Type} {ρ : List Sl} {S S' : List Ob} {xs : List W} {i j : Nat} {fa fb fc : FE} {fo fo2 : FO} {fr fi fl1 : FA} {x y : W} {a b : Int} {t ta tb : FB} {f g : FT} {op op' : W → W → List Ob → Res W}
@[simp] theorem e_ok (a : α) (k : α → List Ob → Res β) : (Res.ok a S).bind k = k a S := rfl
@[simp] theorem e_err (c : Str) (k : α → List Ob → Res β) : (Res.err c S : Res α).bind k = .err c S := rfl
@[simp] theorem e_flok (a : α) (k : α → List Ob → Fl) : fl (Res.ok a S) ρ k = k a S := rfl
@[simp] theorem e_flerr (c : Str) (k : α → List Ob → Fl) : fl (Res.err c S : Res α) ρ k = .ex c ρ S := rfl
@[simp] theorem e_var : fVar i ρ S = (match ρ[i]? with | some (.w x) => .ok x S | _ => .bad) := rfl
@[simp] theorem e_c (d : PyData) : fC d ρ S = .ok (.d d) S := rfl
@[simp] theorem e_bin : fBin op fa fb ρ S = (fa ρ S).bind fun x S1 => (fb ρ S1).bind fun y S2 => op x y S2 := rfl
@[simp] theorem e_un (op : W → List Ob → Res W) : fUn op fa ρ S = (fa ρ S).bind fun x S1 => op x S1 := rfl
@[simp] theorem e_toB (c : Bool) : toB (.d (.bool c)) S = .ok c S := rfl
@[simp] theorem e_T : fT fa ρ S = (fa ρ S).bind toB := rfl
@[simp] theorem e_And : fAnd ta tb ρ S = (ta ρ S).bind fun c S1 => if c = true then tb ρ S1 else .ok false S1 := rfl
@[simp] theorem e_Or : fOr ta tb ρ S = (ta ρ S).bind fun c S1 => if c = true then .ok true S1 else tb ρ S1 := rfl
@[simp] theorem e_Not : fNot ta ρ S = (ta ρ S).bind fun c S1 => .ok (!c) S1 := rfl
@[simp] theorem e_AndV : fAndV fa fb ρ S = ((fa ρ S).bind toB).bind fun c S1 => if c = true then fb ρ S1 else .ok (.d (.bool false)) S1 := rfl
@[simp] theorem e_OrV : fOrV fa fb ρ S = ((fa ρ S).bind toB).bind fun c S1 => if c = true then .ok (.d (.bool true)) S1 else fb ρ S1 := rfl
@[simp] theorem e_NotV : fNotV fa ρ S = ((fa ρ S).bind toB).bind fun c S1 => .ok (.d (.bool (!c))) S1 := rfl
@[simp] theorem e_If : fIf t fa fb ρ S = (t ρ S).bind fun c S1 => if c = true then fa ρ S1 else fb ρ S1 := rfl
@[simp] theorem e_Nil : fNil ρ S = .ok [] S := rfl
@[simp] theorem e_Cons : fCons fa fr ρ S = (fa ρ S).bind fun x S1 => (fr ρ S1).bind fun xs S2 => .ok (x :: xs) S2 := rfl
@[simp] theorem e_Tup : fTup fr ρ S = (fr ρ S).bind mkTup := rfl
@[simp] theorem e_dats0 : dats [] = some [] := rfl
@[simp] theorem e_dats1 (d : PyData) (r : List W) : dats (.d d :: r) = (dats r).map (d :: ·) := rfl
@[simp] theorem e_mkTup (xs : List W) : mkTup xs S = (match dats xs with | some ds => .ok (.d (.tuple ds)) S | none => .bad) := rfl
theorem dats_map : ∀ ds : List PyData, dats (ds.map .d) = some ds
  | [] => rfl
  | d :: r => by show (dats (r.map .d)).map (d :: ·) = _; rw [dats_map r]; rfl
@[simp] theorem e_datsm (ds : List PyData) : dats (ds.map .d) = some ds := dats_map ds
@[simp] theorem e_datsc {γ : Type} (f : γ → PyData) (l : List γ) : dats (l.map (W.d ∘ f)) = some (l.map f) := by rw [← List.map_map]; exact dats_map _
@[simp] theorem e_datsf {γ : Type} (f : γ → PyData) (l : List γ) : dats (l.map fun x => W.d (f x)) = some (l.map f) := e_datsc f l
@[simp] theorem e_datsa : ∀ xs ys : List W, dats (xs ++ ys) = (dats xs).bind fun a => (dats ys).map (a ++ ·)
  | [], ys => by simp
  | .d x :: r, ys => by
    rw [List.cons_append, e_dats1, e_dats1, e_datsa r ys]
    cases dats r with
    | none => rfl
    | some a => cases dats ys <;> rfl
  | .ref _ :: _, ys => rfl
@[simp] theorem e_Nx : fNx ρ S = .nx ρ S := rfl
@[simp] theorem e_Seq : fSeq f g ρ S = thenF (f ρ S) g := rfl
@[simp] theorem e_thenN : thenF (.nx ρ S) g = g ρ S := rfl
@[simp] theorem e_thenR (r : Rv) : thenF (.rt r S) g = .rt r S := rfl
@[simp] theorem e_thenX (c : Str) : thenF (.ex c ρ S) g = .ex c ρ S := rfl
@[simp] theorem e_thenB : thenF (.bk ρ S) g = .bk ρ S := rfl
@[simp] theorem e_thenC : thenF (.ct ρ S) g = .ct ρ S := rfl
@[simp] theorem e_Bk : fBk ρ S = .bk ρ S := rfl
@[simp] theorem e_Ct : fCt ρ S = .ct ρ S := rfl
@[simp] theorem e_Set : fSet i fa ρ S = fl (fa ρ S) ρ fun x S1 => .nx (ρ.set i (.w x)) S1 := rfl
@[simp] theorem e_SetO : fSetO i fo ρ S = fl (fo ρ S) ρ fun o S1 => .nx (ρ.set i (.own o)) S1 := rfl
@[simp] theorem e_Drop : fDrop fa ρ S = fl (fa ρ S) ρ fun _ S1 => .nx ρ S1 := rfl
@[simp] theorem e_Ret : fRet fa ρ S = fl (fa ρ S) ρ fun x S1 => .rt (.w x) S1 := rfl
@[simp] theorem e_RetO : fRetO fo ρ S = fl (fo ρ S) ρ fun x S1 => .rt (.own x) S1 := rfl
@[simp] theorem e_RetN : fRetN ρ S = .rt (.w (.d .none)) S := rfl
@[simp] theorem e_IfS : fIfS t f g ρ S = fl (t ρ S) ρ fun c S1 => if c = true then f ρ S1 else g ρ S1 := rfl
@[simp] theorem e_Raise (c : Str) : fRaise c ρ S = .ex c ρ S := rfl
@[simp] theorem e_Call (m : FM) : fCall m fr ρ S = (fr ρ S).bind fun ws S1 => (m ws S1).bind rvW := rfl
@[simp] theorem e_CallO (m : FM) : fCallO m fr ρ S = (fr ρ S).bind fun ws S1 => (m ws S1).bind rvO := rfl
@[simp] theorem e_rvW : rvW (.w x) S = .ok x S := rfl
@[simp] theorem e_rvWo (o : Ob) : rvW (.own o) S = (match frz o with | some x => .ok x S | none => .bad) := rfl
@[simp] theorem e_rvO (o : Ob) : rvO (.own o) S = .ok o S := rfl
@[simp] theorem e_frz (xs : List W) : frz (.lst xs) = (dats xs).map fun ds => .d (.list ds) := rfl
@[simp] theorem e_runF (n : Nat) (ws : List W) : runF n f ws S = outF (f (start0 n ws) S) := rfl
@[simp] theorem e_outR (r : Rv) : outF (.rt r S) = .ok r S := rfl
@[simp] theorem e_outN : outF (.nx ρ S) = .ok (.w (.d .none)) S := rfl
@[simp] theorem e_outX (c : Str) : outF (.ex c ρ S) = .err c S := rfl
@[simp] theorem e_gN (w : W) : gN i w ρ = some (ρ.set i (.w w)) := rfl
@[simp] theorem e_gsN : gsN [] ρ = some ρ := rfl
@[simp] theorem e_gsC (g : FG) (gs : FGs) (d : PyData) (r : List PyData) : gsC g gs (d :: r) ρ = (g (.d d) ρ).bind (gs r) := rfl
@[simp] theorem e_gT (n : Nat) (gs : FGs) (xs : List PyData) : gT n gs (.d (.tuple xs)) ρ = if xs.length = n then gs xs ρ else none := rfl
@[simp] theorem e_setG (k : List Sl → List Ob → Fl) : setG (some ρ) S k = k ρ S := rfl
@[simp] theorem e_Asg (g : FG) : fAsg g fa ρ S = fl (fa ρ S) ρ fun x S1 => setG (g x ρ) S1 fun ρ1 S2 => .nx ρ1 S2 := rfl
@[simp] theorem e_AsgX (g : FG) (fx : FX) : fAsgX g fx ρ S = fl (fx ρ S) ρ fun a S1 => setG (g a.1 a.2) S1 fun ρ1 S2 => .nx ρ1 S2 := rfl
@[simp] theorem e_DropX (fx : FX) : fDropX fx ρ S = fl (fx ρ S) ρ fun a S1 => .nx a.2 S1 := rfl
@[simp] theorem e_Cw : fCw fa ρ S = (fa ρ S).bind fun x S1 => .ok (.w x) S1 := rfl
@[simp] theorem e_Co : fCo fo ρ S = (fo ρ S).bind fun o S1 => .ok (.own o) S1 := rfl
@[simp] theorem e_Par (f1 f2 : FC) : fPar i j f1 f2 ρ S = fl (f1 ρ S) ρ fun c1 S1 => fl (f2 ρ S1) ρ fun c2 S2 => .nx ((ρ.set i c1).set j c2) S2 := rfl
@[simp] theorem e_Par3 (l : Nat) (f1 f2 f3 : FC) : fPar3 i j l f1 f2 f3 ρ S = fl (f1 ρ S) ρ fun c1 S1 => fl (f2 ρ S1) ρ fun c2 S2 => fl (f3 ρ S2) ρ fun c3 S3 => .nx (((ρ.set i c1).set j c2).set l c3) S3 := rfl
@[simp] theorem e_Fz : fFz fo ρ S = (fo ρ S).bind fun o S1 => match frz o with | some x => .ok x S1 | none => .bad := rfl
@[simp] theorem e_NewL : fNewL fr ρ S = (fr ρ S).bind fun xs S1 => .ok (.lst xs) S1 := rfl
@[simp] theorem e_It : fIt fa ρ S = (fa ρ S).bind seqOf := rfl
@[simp] theorem e_seqT (ds : List PyData) : seqOf (.d (.tuple ds)) S = .ok (ds.map .d) S := rfl
@[simp] theorem e_seqL (ds : List PyData) : seqOf (.d (.list ds)) S = .ok (ds.map .d) S := rfl
@[simp] theorem e_Len : fLen fl1 ρ S = (fl1 ρ S).bind fun xs S1 => .ok (.d (.int xs.length)) S1 := rfl
@[simp] theorem e_Lv : fLv fa ρ S = (fa ρ S).bind lstV := rfl
@[simp] theorem e_lstV (ds : List PyData) : lstV (.d (.list ds)) S = .ok (ds.map .d) S := rfl
@[simp] theorem e_ItO : fItO fo ρ S = (fo ρ S).bind lstOf := rfl
@[simp] theorem e_lstOf (xs : List W) : lstOf (.lst xs) S = .ok xs S := rfl
@[simp] theorem e_TupL : fTupL fl1 ρ S = (fl1 ρ S).bind mkTup := rfl
@[simp] theorem e_Own : fOwn i ρ S = (match ρ[i]? with | some (.own (.lst xs)) => .ok xs S | some (.w (.d (.list ds))) => .ok (ds.map .d) S | _ => .bad) := rfl
@[simp] theorem e_All : fAll fl1 ρ S = (fl1 ρ S).bind (onB fun bs => bs.all id) := rfl
@[simp] theorem e_Any : fAny fl1 ρ S = (fl1 ρ S).bind (onB fun bs => bs.any id) := rfl
@[simp] theorem e_Sum : fSum fl1 ρ S = (fl1 ρ S).bind (onI List.sum) := rfl
theorem bools_map : ∀ bs : List Bool, bools (bs.map fun b => .d (.bool b)) = some bs
  | [] => rfl
  | b :: r => by show (bools (r.map fun b => .d (.bool b))).map (b :: ·) = _; rw [bools_map r]; rfl
theorem intsW_map : ∀ ns : List Int, intsW (ns.map fun i => .d (.int i)) = some ns
  | [] => rfl
  | b :: r => by show (intsW (r.map fun i => .d (.int i))).map (b :: ·) = _; rw [intsW_map r]; rfl
theorem e_onB (k : List Bool → Bool) (bs : List Bool) : onB k (bs.map fun b => .d (.bool b)) S = .ok (.d (.bool (k bs))) S := by unfold onB; rw [bools_map]
theorem e_onI (k : List Int → Int) (ns : List Int) : onI k (ns.map fun i => .d (.int i)) S = .ok (.d (.int (k ns))) S := by unfold onI; rw [intsW_map]
/-! operators -/
theorem e_oI (C : Int → Int → Bool) (g : Int → Int → PyData) : oI C g (.d (.int a)) (.d (.int b)) S = if C a b = true then .ok (.d (g a b)) S else .bad := rfl
@[simp] theorem e_oIy (g : Int → Int → PyData) : oI yes g (.d (.int a)) (.d (.int b)) S = .ok (.d (g a b)) S := rfl
@[simp] theorem e_add : oAddA (.d (.int a)) (.d (.int b)) S = .ok (.d (.int (a + b))) S := rfl
@[simp] theorem e_addT (xs ys : List PyData) : oAddA (.d (.tuple xs)) (.d (.tuple ys)) S = if xs.length + ys.length ≤ 16777216 then .ok (.d (.tuple (xs ++ ys))) S else .bad := rfl
@[simp] theorem e_addL (xs ys : List PyData) : oAddA (.d (.list xs)) (.d (.list ys)) S = if xs.length + ys.length ≤ 16777216 then .ok (.d (.list (xs ++ ys))) S else .bad := rfl
@[simp] theorem e_mul : oMulA (.d (.int a)) (.d (.int b)) S = if mulC a b = true then .ok (.d (.int (a * b))) S else .bad := rfl
@[simp] theorem e_div : oDiv (.d (.int a)) (.d (.int b)) S = if divC a b = true then .ok (.d (.int (a / b))) S else .bad := rfl
@[simp] theorem e_mod : oMod (.d (.int a)) (.d (.int b)) S = if modC a b = true then .ok (.d (.int (a % b))) S else .bad := rfl
@[simp] theorem e_pow : oPow (.d (.int a)) (.d (.int b)) S = if powC a b = true then .ok (.d (.int (a ^ b.toNat))) S else .bad := rfl
@[simp] theorem e_neg : oNeg (.d (.int a)) S = .ok (.d (.int (-a))) S := rfl
@[simp] theorem e_abs : oAbs (.d (.int a)) S = .ok (.d (.int (if a < 0 then -a else a))) S := rfl
@[simp] theorem e_isN : oIsN x S = .ok (.d (.bool (isNon x))) S := rfl
@[simp] theorem e_notN : oNotN x S = .ok (.d (.bool (!isNon x))) S := rfl
@[simp] theorem e_toI : toI (.d (.int a)) S = .ok (.d (.int a)) S := rfl
@[simp] theorem e_toIb (c : Bool) : toI (.d (.bool c)) S = .ok (.d (.int (if c then 1 else 0))) S := rfl
@[simp] theorem e_Int : fInt fa ρ S = (fa ρ S).bind toI := rfl
theorem e_eqD (neg : Bool) (d e : PyData) (h1 : SeqAt.shaped d = true) (h2 : SeqAt.shaped e = true) : oEqS neg (.d d) (.d e) S = .ok (.d (.bool (neg ^^ PyData.eqv d e))) S := by
  show (if SeqAt.shaped d && SeqAt.shaped e then Res.ok (W.d (.bool (neg ^^ PyData.eqv d e))) S else .bad) = _
  rw [h1, h2]; rfl
@[simp] theorem e_eqI (neg : Bool) : oEqS neg (.d (.int a)) (.d (.int b)) S = .ok (.d (.bool (neg ^^ decide (a = b)))) S := by
  rw [e_eqD neg _ _ rfl rfl]; rfl
@[simp] theorem e_ixT (xs : List PyData) (k : Int) : oIx (.d (.tuple xs)) (.d (.int k)) S = (match atI xs k with | some z => .ok (.d z) S | none => .bad) := rfl
@[simp] theorem e_ixL (xs : List PyData) (k : Int) : oIx (.d (.list xs)) (.d (.int k)) S = (match atI xs k with | some z => .ok (.d z) S | none => .bad) := rfl
@[simp] theorem e_ixR (n : Nat) (k : Int) : oIx (.ref n) (.d (.int k)) S = (match S[n]? with | some (.lst xs) => (match atI xs k with | some z => .ok z S | none => .bad) | _ => .bad) := rfl
@[simp] theorem e_at0 (x : α) (xs : List α) : atI (x :: xs) 0 = some x := by unfold atI ixN; simp
theorem atI_nat {xs : List α} {k : Nat} {z : α} (h : xs[k]? = some z) : atI xs (k : Int) = some z := by
  have hk := (List.getElem?_eq_some_iff.mp h).1
  unfold atI ixN
  rw [if_pos (by omega), if_pos (by omega)]
  exact h
@[simp] theorem e_at1 (x y : α) (xs : List α) : atI (x :: y :: xs) 1 = some y := atI_nat (k := 1) rfl
@[simp] theorem e_at2 (x y z : α) (xs : List α) : atI (x :: y :: z :: xs) 2 = some z := atI_nat (k := 2) rfl
/-! kinds -/
def isiR (T : String) (x : W) (S : List Ob) : Res W := match (wTy x S).bind fun t => kitB t T with
  | some b => .ok (.d (.bool b)) S
  | none => .bad
@[simp] theorem e_isi (T : String) : fIsi T fa ρ S = (fa ρ S).bind (isiR T) := rfl
def isInt : PyData → Bool
  | .int _ => true
  | .bool _ => true
  | _ => false
def isBool : PyData → Bool
  | .bool _ => true
  | _ => false
def isTup : PyData → Bool
  | .tuple _ => true
  | _ => false
def isList : PyData → Bool
  | .list _ => true
  | _ => false
def isStr : PyData → Bool
  | .str _ => true
  | _ => false
@[simp] theorem e_isInt (d : PyData) : isiR "int" (.d d) S = .ok (.d (.bool (isInt d))) S := by cases d <;> rfl
@[simp] theorem e_isBool (d : PyData) : isiR "bool" (.d d) S = .ok (.d (.bool (isBool d))) S := by cases d <;> rfl
@[simp] theorem e_isTup (d : PyData) : isiR "tuple" (.d d) S = .ok (.d (.bool (isTup d))) S := by cases d <;> rfl
@[simp] theorem e_isList (d : PyData) : isiR "list" (.d d) S = .ok (.d (.bool (isList d))) S := by cases d <;> rfl
@[simp] theorem e_isStr (d : PyData) : isiR "str" (.d d) S = .ok (.d (.bool (isStr d))) S := by cases d <;> rfl
/-! sources, slices, own lists, dicts -/
@[simp] theorem e_Rng1 : fRng1 fa ρ S = (fa ρ S).bind rng1 := rfl
@[simp] theorem e_rng1 : rng1 (.d (.int a)) S = if -(2 ^ 62) ≤ a ∧ a ≤ 16777216 then .ok (rngL 0 a.toNat) S else .bad := rfl
@[simp] theorem e_Chain : fChain op op' fa fb fc ρ S = (fa ρ S).bind fun x S1 => (fb ρ S1).bind fun y S2 => ((op x y S2).bind toB).bind fun c S3 => if c = true then (fc ρ S3).bind fun z S4 => op' y z S4 else .ok (.d (.bool false)) S3 := rfl
@[simp] theorem e_NoP : fNoP ρ S = .ok none S := rfl
@[simp] theorem e_P : fP fa ρ S = (fa ρ S).bind fun x S1 => match x with | .d (.int i) => .ok (some i) S1 | _ => .bad := rfl
@[simp] theorem e_Cut (fl fh : FP) : fCut fa fl fh ρ S = (fa ρ S).bind fun x S1 => (fl ρ S1).bind fun lo S2 => (fh ρ S2).bind fun hi S3 => cutOf x lo hi S3 := rfl
@[simp] theorem e_cutT (xs : List PyData) (lo hi : Option Int) : cutOf (.d (.tuple xs)) lo hi S = .ok (.d (.tuple (cut xs lo hi))) S := rfl
@[simp] theorem e_cutL (xs : List PyData) (lo hi : Option Int) : cutOf (.d (.list xs)) lo hi S = .ok (.d (.list (cut xs lo hi))) S := rfl
@[simp] theorem e_CmpO (neg : Bool) : fCmpO neg i fb ρ S = (match ρ[i]? with | some (.own (.lst xs)) => (fb ρ S).bind (cmpO neg xs) | some (.w (.d (.list ds))) => (fb ρ S).bind (cmpO neg (ds.map .d)) | _ => .bad) := rfl
@[simp] theorem e_IxO : fIxO i fb ρ S = (match ρ[i]? with | some (.own (.lst xs)) => (fb ρ S).bind (ixO xs) | some (.w x) => (fb ρ S).bind fun y S1 => oIx x y S1 | _ => .bad) := rfl
@[simp] theorem e_App : fApp i fa ρ S = (match ρ[i]? with | some (.own (.lst xs)) => (fa ρ S).bind fun y S1 => if xs.length < 16777216 then .ok (.d .none, ρ.set i (.own (.lst (xs ++ [y])))) S1 else .bad | _ => .bad) := rfl
@[simp] theorem e_Pop : fPop i ρ S = (match ρ[i]? with | some (.own (.lst xs)) => (match xs[xs.length - 1]? with | some y => .ok (y, ρ.set i (.own (.lst xs.dropLast))) S | none => .bad) | _ => .bad) := rfl
@[simp] theorem e_PopAt : fPopAt i fa ρ S = (match ρ[i]? with | some (.own (.lst xs)) => (fa ρ S).bind fun z S1 => (match z with | .d (.int k) => (match ixN xs.length k with | some j => (match xs[j]? with | some y => if xs.length ≤ 16777216 then .ok (y, ρ.set i (.own (.lst (xs.eraseIdx j)))) S1 else .bad | none => .bad) | none => .bad) | _ => .bad) | _ => .bad) := rfl
@[simp] theorem e_Aug : fAug i op fa ρ S = (match ρ[i]? with | some (.w x) => fl (fa ρ S) ρ fun y S1 => fl (op x y S1) ρ fun z S2 => .nx (ρ.set i (.w z)) S2 | _ => .bad) := rfl
@[simp] theorem e_AddO : fAddO i fb ρ S = (match ρ[i]? with | some (.own (.lst xs)) => (fb ρ S).bind fun y S1 => (match y with | .d (.list ys) => if xs.length + ys.length ≤ 16777216 then .ok (.lst (xs ++ ys.map .d)) S1 else .bad | _ => .bad) | _ => .bad) := rfl
@[simp] theorem e_AddN : fAddN fa fb ρ S = (fa ρ S).bind fun x S1 => (fb ρ S1).bind fun y S2 => oAddN x y S2 := rfl
@[simp] theorem e_addN (xs ys : List PyData) : oAddN (.d (.list xs)) (.d (.list ys)) S = if xs.length + ys.length ≤ 16777216 then .ok (.lst ((xs ++ ys).map .d)) S else .bad := rfl
@[simp] theorem e_Rep : fRep fo fb ρ S = (fo ρ S).bind fun o S1 => (fb ρ S1).bind fun y S2 => oRep o y S2 := rfl
@[simp] theorem e_oRep (xs : List W) : oRep (.lst xs) (.d (.int a)) S = if -(2 ^ 63) ≤ a ∧ a < 2 ^ 63 ∧ xs.length * a.toNat ≤ 16777216 then .ok (.lst (List.replicate a.toNat xs).flatten) S else .bad := rfl
@[simp] theorem e_Sto : fSto fo ρ S = (fo ρ S).bind fun o S1 => .ok (.ref S1.length) (S1 ++ [o]) := rfl
@[simp] theorem e_SetIx : fSetIx fa fb fc ρ S = fl (fa ρ S) ρ fun v S1 => fl (fb ρ S1) ρ fun x S2 => fl (fc ρ S2) ρ fun y S3 => setIxS v x y ρ S3 := rfl
@[simp] theorem e_setIx (v : W) (n : Nat) : setIxS v (.ref n) (.d (.int a)) ρ S = (match S[n]? with | some (.lst xs) => (match ixN xs.length a with | some j => .nx ρ (S.set n (.lst (xs.set j v))) | none => .bad) | _ => .bad) := rfl
@[simp] theorem e_PopS : fPopS fa fb ρ S = (fa ρ S).bind fun x S1 => if isLst x S1 = true then (fb ρ S1).bind fun y S2 => popSt x y S2 else .bad := rfl
@[simp] theorem e_AppS : fAppS fa fb ρ S = (fa ρ S).bind fun x S1 => if isLst x S1 = true then (fb ρ S1).bind fun y S2 => appSt x y S2 else .bad := rfl
@[simp] theorem e_isLst (n : Nat) : isLst (.ref n) S = (match S[n]? with | some (.lst _) => true | _ => false) := rfl
@[simp] theorem e_Dnew : fDnew ρ S = .ok (.dct []) S := rfl
@[simp] theorem e_Dget : fDget i fb ρ S = (match ρ[i]? with | some (.own (.dct kvs)) => (fb ρ S).bind (getD kvs) | _ => .bad) := rfl
@[simp] theorem e_getD (kvs : List (Key × W)) : getD kvs (.d (.int a)) S = (match valW kvs (.inl a) with | some x => .ok x S | none => .bad) := rfl
@[simp] theorem e_Dget2 : fDget2 i fb fc ρ S = (match ρ[i]? with | some (.own (.dct kvs)) => (fb ρ S).bind fun y S1 => (fc ρ S1).bind fun z S2 => (match keyOf y with | some k => .ok ((valW kvs k).getD z) S2 | none => .bad) | _ => .bad) := rfl
@[simp] theorem e_keyI : keyOf (.d (.int a)) = some (.inl a) := rfl
@[simp] theorem e_Dput : fDput i fa fb ρ S = fl (fb ρ S) ρ fun v S1 => (match ρ[i]? with | some (.own (.dct kvs)) => fl (fa ρ S1) ρ fun y S2 => (match keyOf y with | some k => if kvs.length < 16777216 then .nx (ρ.set i (.own (.dct (putW kvs k v)))) S2 else .bad | none => .bad) | _ => .bad) := rfl
@[simp] theorem e_Dsrt : fDsrt i ρ S = (match ρ[i]? with | some (.own (.dct kvs)) => (match intKeys kvs with | some ks => if ks.length < 64 then .ok (.lst ((ks.mergeSort).map fun i => .d (.int i))) S else .bad | none => .bad) | _ => .bad) := rfl
@[simp] theorem e_Frz (n : Nat) : fFrz n f ρ S = (match ρ[n]? with | some (.own o) => (match frz o with | some x => f (ρ.set n (.w x)) S | none => .bad) | _ => f ρ S) := rfl
@[simp] theorem e_RetI : fRetI i ρ S = (match ρ[i]? with | some (.own o) => .rt (.own o) S | _ => .bad) := rfl
@[simp] theorem e_Apd (fk : FA) : fApd fr fk ρ S = (fr ρ S).bind fun xs S1 => (fk ρ S1).bind fun ys S2 => .ok (xs ++ ys) S2 := rfl
@[simp] theorem e_Srt : fSrt fl1 ρ S = (fl1 ρ S).bind srt := rfl
@[simp] theorem e_minI : oMin (.d (.int a)) (.d (.int b)) S = .ok (.d (.int (if b < a then b else a))) S := rfl
/-! loops -/
theorem e_For (g : FG) (h : fi ρ S = .ok xs S') : fFor fi g f ρ S = forL g f xs ρ S' := by unfold fFor; rw [h]; rfl
theorem for_nil (g : FG) : forL g f [] ρ S = .nx ρ S := rfl
theorem for_cons (g : FG) (w : W) (r : List W) : forL g f (w :: r) ρ S = setG (g w ρ) S fun ρ1 S1 => turnF (f ρ1 S1) (forL g f r) := rfl
@[simp] theorem e_turnN (k : List Sl → List Ob → Fl) : turnF (.nx ρ S) k = k ρ S := rfl
@[simp] theorem e_turnC (k : List Sl → List Ob → Fl) : turnF (.ct ρ S) k = k ρ S := rfl
@[simp] theorem e_turnB (k : List Sl → List Ob → Fl) : turnF (.bk ρ S) k = .nx ρ S := rfl
@[simp] theorem e_turnR (r : Rv) (k : List Sl → List Ob → Fl) : turnF (.rt r S) k = .rt r S := rfl
@[simp] theorem e_turnX (c : Str) (k : List Sl → List Ob → Fl) : turnF (.ex c ρ S) k = .ex c ρ S := rfl
/-- a for whose turns go on: P holds of the slots and the store behind each turn -/
theorem for_inv (g : FG) (P : Nat → List Sl → List Ob → Prop) : ∀ (xs : List W) (n : Nat) (ρ : List Sl) (S : List Ob), P n ρ S →
    (∀ i x ρ S, xs[i]? = some x → P (n + i) ρ S → ∃ ρ2 S2, setG (g x ρ) S f = .nx ρ2 S2 ∧ P (n + i + 1) ρ2 S2) → ∃ ρ' S', forL g f xs ρ S = .nx ρ' S' ∧ P (n + xs.length) ρ' S'
  | [], n, ρ, S, h, _ => ⟨ρ, S, rfl, h⟩
  | x :: r, n, ρ, S, h, k => by
    obtain ⟨ρ2, S2, e, p⟩ := k 0 x ρ S rfl h
    obtain ⟨ρ3, S3, e3, p3⟩ := for_inv g P r (n + 1) ρ2 S2 p fun i y ρ S hy hp => by
      have := k (i + 1) y ρ S (by simpa using hy) (by rw [show n + (i + 1) = n + 1 + i by omega]; exact hp)
      rw [show n + (i + 1) + 1 = n + 1 + i + 1 by omega] at this
      exact this
    refine ⟨ρ3, S3, ?_, ?_⟩
    · rw [for_cons]
      cases q : g x ρ with
      | none => rw [q] at e; cases e
      | some ρ1 =>
        rw [q] at e
        have e : f ρ1 S = .nx ρ2 S2 := e
        rw [e_setG, e, e_turnN]
        exact e3
    · rw [show n + (x :: r).length = n + 1 + r.length by simp; omega]; exact p3
/-- a comprehension whose tests and items change nothing -/
theorem lc_pure (g : FG) (t : FB) (fe : FE) (ρ : List Sl) (S : List Ob) (p : W → Bool) (y : W → W) : ∀ xs : List W, (∀ x ∈ xs, ∃ ρ1, g x ρ = some ρ1 ∧ t ρ1 S = .ok (p x) S ∧ (p x = true → fe ρ1 S = .ok (y x) S)) → lcL g t fe ρ xs S = .ok ((xs.filter p).map y) S
  | [], _ => rfl
  | x :: r, h => by
    obtain ⟨ρ1, e1, e2, e3⟩ := h x (List.mem_cons_self ..)
    have ih := lc_pure g t fe ρ S p y r fun z hz => h z (List.mem_cons_of_mem _ hz)
    unfold lcL
    simp only [e1, e2]
    cases q : p x with
    | true => simp only [e3 q, if_true, ih, e_ok, List.filter_cons_of_pos q, List.map_cons]
    | false => simp only [Bool.false_eq_true, if_false, ih]; rw [List.filter_cons_of_neg (by rw [q]; exact Bool.false_ne_true)]
theorem e_Lc (own : List Nat) (g : FG) (fe : FE) (h : fi ρ S = .ok xs S') (ho : own.any (fun i => isOwn ρ[i]?) = false) : fLc fi own g t fe ρ S = (lcL g t fe (unset ρ own) xs S').bind fun ys S2 => .ok (.lst ys) S2 := by
  unfold fLc; rw [h]; simp only [e_ok, ho, Bool.false_eq_true, if_false]
theorem e_While (n : Nat) : fWhile n t f ρ S = whileN t f n ρ S := rfl
theorem while_succ (n : Nat) : whileN t f (n + 1) ρ S = fl (t ρ S) ρ fun c S1 => if c = true then turnF (f ρ S1) (whileN t f n) else .nx ρ S1 := rfl
/-! what == may be asked of -/
def shp (k : Nat) (d : PyData) : Prop := PyData.canLay0 d = true ∧ PyData.depth d ≤ k
theorem shaped_of {d : PyData} (h : shp 64 d) : SeqAt.shaped d = true := by unfold SeqAt.shaped; rw [h.1, decide_eq_true h.2]; rfl
theorem shp_mono {d : PyData} {k l : Nat} (h : shp k d) (hl : k ≤ l) : shp l d := ⟨h.1, Nat.le_trans h.2 hl⟩
theorem shp_int (k : Nat) (i : Int) : shp k (.int i) := ⟨rfl, Nat.zero_le _⟩
theorem shp_bool (k : Nat) (i : Bool) : shp k (.bool i) := ⟨rfl, Nat.zero_le _⟩
theorem shp_non (k : Nat) : shp k .none := ⟨rfl, Nat.zero_le _⟩
theorem shp_all {k : Nat} : ∀ {ds : List PyData}, (∀ d ∈ ds, shp k d) → PyData.canLayAll0 ds = true ∧ PyData.depthAll ds ≤ k
  | [], _ => ⟨by simp only [PyData.canLayAll0], by simp only [PyData.depthAll]; omega⟩
  | d :: r, h => by
    have h1 := h d (List.mem_cons_self ..)
    have h2 := shp_all fun x hx => h x (List.mem_cons_of_mem _ hx)
    have e1 := h1.2
    have e2 := h2.2
    refine ⟨by simp only [PyData.canLayAll0, h1.1, h2.1, Bool.and_self], by simp only [PyData.depthAll]; omega⟩
theorem shp_list {k : Nat} {ds : List PyData} (h : ∀ d ∈ ds, shp k d) : shp (k + 1) (.list ds) := by
  obtain ⟨h1, h2⟩ := shp_all h
  exact ⟨by simp only [PyData.canLay0, h1], by simp only [PyData.depth]; omega⟩
theorem shp_tup {k : Nat} {ds : List PyData} (h : ∀ d ∈ ds, shp k d) : shp (k + 1) (.tuple ds) := by
  obtain ⟨h1, h2⟩ := shp_all h
  exact ⟨by simp only [PyData.canLay0, h1], by simp only [PyData.depth]; omega⟩
@[simp] theorem eqv_nil (xs : List PyData) : PyData.eqv (.list xs) (.list []) = xs.isEmpty := by cases xs <;> simp [PyData.eqv, PyData.eqvAll]
theorem mem_ints {d : PyData} {cs : List Int} (h : d ∈ cs.map PyData.int) : ∃ i, d = .int i := by
  obtain ⟨i, _, e⟩ := List.mem_map.mp h
  exact ⟨i, e.symm⟩
theorem shp_ints (cs : List Int) : shp 1 (.list (cs.map .int)) := shp_list fun d h => by obtain ⟨i, rfl⟩ := mem_ints h; exact shp_int _ _
theorem dats_ints (cs : List Int) : dats (cs.map fun i => W.d (.int i)) = some (cs.map .int) := by
  have := dats_map (cs.map PyData.int)
  rw [List.map_map] at this
  exact this
/-- two values compared -/
theorem e_eqS (neg : Bool) {d e : PyData} (h1 : asD x S = some d) (h2 : asD y S = some e) (k1 : shp 64 d) (k2 : shp 64 e) : oEqS neg x y S = .ok (.d (.bool (neg ^^ PyData.eqv d e))) S := by
  unfold oEqS; rw [h1, h2]; simp only [shaped_of k1, shaped_of k2, Bool.and_self, if_true]
end
end L2.Q
/-! Layer Q, part P: xs[::-1]. -/
namespace L2.Q
open PySem PySem.Spec PyProof.Rows
section
variable {prog : Program} {w : World} {A : Around} {E : Value → Shared → Prop} {s : Shared}
theorem adjust_rev (n : Nat) : Builtin.Slice.sliceAdjust none none (-1) (n : Int) = ((n : Int) - 1, -1) := by
  unfold Builtin.Slice.sliceAdjust
  simp
theorem places_rev (n : Nat) : Builtin.Slice.slicePlaces ((n : Int) - 1) (-1) (-1) = n := by
  unfold Builtin.Slice.slicePlaces
  have h1 : ¬ ((-1 : Int) > 0) := by omega
  simp only [h1, if_false]
  split
  · rw [show ((n : Int) - 1 - -1 - 1) / - -1 = (n : Int) - 1 by rw [show (- -1 : Int) = 1 by decide, Int.ediv_one]; omega]
    omega
  · omega
theorem sliceApplied_rev {sl : Addr} {vl vu vs : Value} {n : Nat} {Q : Int × Int × Nat → Shared → Prop} (hs : s.heap.IsSliceOf sl vl vu vs) (pl : IsPart vl none) (pu : IsPart vu none) (ps : IsPart vs (some (-1)))
    (h : Q ((n : Int) - 1, -1, n) s) : wpAny (model prog w) A (Builtin.Slice.sliceApplied (.ref sl) (pure (n : Int))) Q E s := by
  obtain ⟨os, hos, hcs, hds⟩ := id hs
  unfold Builtin.Slice.sliceApplied Builtin.Slice.sliceFields
  refine wpAny_bind (wpAny_bind (wpAny_field hos hds (x := vl) rfl (wpAny_bind (wpAny_field hos hds (x := vu) rfl (wpAny_bind (wpAny_field hos hds (x := vs) rfl (wpAny_pure ?_)))))))
  refine wpAny_bind (HT.slicePart_ ps ?_)
  show wpAny _ _ (if ((-1 : Int) == 0) = true then _ else _) _ _ s
  rw [if_neg (by decide)]
  refine wpAny_bind (HT.slicePart_ pl (wpAny_bind (HT.slicePart_ pu (wpAny_bind (wpAny_pure ?_)))))
  show wpAny _ _ (match Builtin.Slice.sliceAdjust none none (-1) (n : Int) with | (lo, hi) => pure (lo, (-1 : Int), Builtin.Slice.slicePlaces lo hi (-1))) _ _ s
  rw [adjust_rev n]
  show wpAny _ _ (pure ((n : Int) - 1, (-1 : Int), Builtin.Slice.slicePlaces ((n : Int) - 1) (-1) (-1))) _ _ s
  rw [places_rev]
  exact wpAny_pure h
theorem pick_rev (xs : Array Value) : ((List.range xs.size).filterMap fun (m : Nat) => xs[((xs.size : Int) - 1 + (m : Int) * -1).toNat]?).toArray = xs.toList.reverse.toArray := by
  have e : (List.range xs.size).filterMap (fun (m : Nat) => xs[((xs.size : Int) - 1 + (m : Int) * -1).toNat]?) = ((List.range xs.size).map fun k => xs.size - 1 - k).filterMap (xs[·]?) := by
    rw [List.filterMap_map]
    have g : ∀ l : List Nat, (∀ m ∈ l, m < xs.size) → l.filterMap (fun (m : Nat) => xs[((xs.size : Int) - 1 + (m : Int) * -1).toNat]?) = l.filterMap ((xs[·]?) ∘ fun k => xs.size - 1 - k) := by
      intro l hl
      induction l with
      | nil => rfl
      | cons m r ih =>
        have := hl m (List.mem_cons_self ..)
        have ih := ih fun z hz => hl z (List.mem_cons_of_mem _ hz)
        have q : ((xs.size : Int) - 1 + (m : Int) * -1).toNat = xs.size - 1 - m := by omega
        rw [List.filterMap_cons, List.filterMap_cons, ih, q]
        rfl
    exact g _ fun m hm => List.mem_range.mp hm
  rw [e, PySem.W.krv_range, List.filterMap_reverse, PySem.W.krv_all]
theorem getItem_tuple_rev {t sl : Addr} {items : Array Value} {vl vu vs : Value} {Q : Value → Shared → Prop} (ht : IsTup s.heap t items) (hs : s.heap.IsSliceOf sl vl vu vs) (pl : IsPart vl none) (pu : IsPart vu none) (ps : IsPart vs (some (-1)))
    (h : Q (.ref s.heap.objs.size) { s with heap := s.heap.push { cls := .type "tuple", data := .seq items.toList.reverse.toArray } })
    (hsz : items.size ≤ sizeLine) : wpAny (model prog w) A (getItem (.ref t) (.ref sl)) Q E s := by
  have htake : sizeOk (.seq items.toList.reverse.toArray) := by
    show items.toList.reverse.toArray.size ≤ sizeLine
    rw [List.size_toArray, List.length_reverse, Array.length_toList]
    exact hsz
  obtain ⟨os, hos, hcs, hds⟩ := id hs
  have hTs : s.TypeIs (.ref sl) "slice" := ⟨os, hos, hcs⟩
  unfold getItem
  try with_reducible refine wpAny_holding ?_
  first | refine wpAny_bind (wpAny_pure ?_) | skip
  refine wpAny_bind (wpAny_sequenceKey ht.typeIs (by decide) ?_)
  refine wpAny_bind (wpAny_callSpecial?_slot (name := Str.ofString "__getitem__") ht.typeIs PyProof.Rows.slot_tuple_getitem
    (wpAny_call_entry PyProof.Rows.slot_tuple_getitem ht.typeIs entry_tuple_getitem ?_ (args_tuple_getitem _ _)))
  show wpAny _ _ (Builtin.Tuple.tupleItemsOf (.ref t) >>= _) _ _ s
  refine wpAny_bind (tupleItemsOf_ ht ?_)
  refine wpAny_bind (wpAny_typeOf hTs ?_)
  rw [if_pos (by decide)]
  refine wpAny_bind (sliceApplied_rev hs pl pu ps ?_)
  have hno : ¬ (((items.size : Int) - 1 == 0 && (-1 : Int) == 1 && items.size == items.size) = true) := by
    intro q
    rw [Bool.and_eq_true, Bool.and_eq_true] at q
    exact absurd q.1.2 (by decide)
  show wpAny _ _ (if ((items.size : Int) - 1 == 0 && (-1 : Int) == 1 && items.size == items.size) = true then _ else _) _ _ s
  rw [if_neg hno, pick_rev]
  first
    | exact wpAny_bind (m := Builtin.Tuple.tupleExact _) (wpAny_newObj_type (wpAny_pure ⟨_, rfl, wpAny_pure h⟩) htake)
    | exact wpAny_bind (m := Builtin.Tuple.tupleExact _) (wpAny_newObj_type (wpAny_bind (wpAny_pure (wpAny_pure ⟨_, rfl, wpAny_pure h⟩))) htake)
    | exact wpAny_bind (wpAny_bind (m := Builtin.Tuple.tupleExact _) (wpAny_newObj_type (wpAny_pure (wpAny_pure ⟨_, rfl, wpAny_pure h⟩)) htake))
    | exact wpAny_bind (wpAny_bind (m := Builtin.Tuple.tupleExact _) (wpAny_newObj_type (wpAny_pure ⟨_, rfl, wpAny_pure h⟩) htake))
end
section
variable {X : Cx}
def tRevT (K : PySem.W.Frag) (te : TE) : TE := fun σ H Q => te σ H fun x H1 => ∃ a xs, x = .ref a ∧ SqT K H1 a xs ∧ ∀ p, H1 p = none → Q (.ref p) (upd H1 p (.tup xs.reverse))
theorem pe_revT {e : Expr} {te : TE} {k : Nat} {p1 p2 p3 pos : Pos} (he : PE X e te) : PE X (.Subscript e (.Slice none none (some (.UnaryOp .USub (.Constant (.int 1) k p1) p2)) p3) pos) (tRevT X.K te) := by
  refine ⟨fun pins s σ H Q I h => ?_⟩
  refine Subscript_ (thn (he.run pins s σ H _ I h) fun v s1 ⟨x, H1, I1, r1, q1⟩ => ?_)
  obtain ⟨a, xs, ex, hx, q⟩ := q1
  subst ex
  cases r1
  have hst : PO X (some (.UnaryOp .USub (.Constant (.int 1) k p1) p2)) (tPart (tUn (rU fun i => .int (-i)) (tC (.int 1)))) := po_some (pe_un un_neg pe_int)
  refine wpAny_Slice (thn (po_none.run pins s1 σ H1 (fun o H2 => o = none ∧ H2 = H1) I1 ⟨rfl, rfl⟩) fun vl s2 ⟨l, H2, I2, pl, el, e2⟩ => ?_)
  subst el e2
  refine thn (po_none.run pins s2 σ H2 (fun o H3 => o = none ∧ H3 = H2) I2 ⟨rfl, rfl⟩) fun vu s3 ⟨u, H3, I3, pu, eu, e3⟩ => ?_
  subst eu e3
  refine thn (hst.run pins s3 σ H3 (fun o H4 => o = some (-1) ∧ H4 = H3) I3 ⟨1, rfl, -1, rfl, rfl, rfl⟩) fun vs s4 ⟨o, H4, I4, ps, eo, e4⟩ => ?_
  subst eo e4
  have I5 : Inv X pins σ H4 { s4 with heap := s4.heap.push { cls := .type "slice", data := .fields #[vl, vu, vs] } } := I4.kept (t' := s4.toks) fun b ob q => Heap.get?_push_of_some _ q
  obtain ⟨its, r, ht, hz⟩ := I5.tuple hx
  have hlen : its.toArray.size = xs.length := by rw [List.size_toArray]; exact r.length.symm
  show wpAny (model X.prog X.w) X.A (subscriptTail e (.Slice none none (some (.UnaryOp .USub (.Constant (.int 1) k p1) p2)) p3) (.ref a) (.ref s4.heap.objs.size)) (EP X pins σ Q) X.xe { s4 with heap := s4.heap.push { cls := .type "slice", data := .fields #[vl, vu, vs] } }
  refine tail_any (ops := [.ref a, .ref s4.heap.objs.size]) ht.typeIs (PyProof.Rows.slot_tuple_getitem.lookup) ?_ (by with_unfolding_all rfl)
  refine getItem_tuple_rev ht (Heap.IsSliceOf.new _ vl vu vs) pl pu ps ?_ (by rw [hlen]; exact hz)
  refine ⟨.ref _, _, I5.laid (t' := s4.toks) (o := .tup xs.reverse) (fun b ob q => Heap.get?_push_of_some _ q) (Nat.le_refl _) ?_, rfl, q _ (I5.hok.fresh (Nat.le_refl _))⟩
  exact ⟨by rw [List.length_reverse]; exact hz, _, r.reverse, IsTup.new _ _⟩
end
section
variable {X : Cx} {Wc : WX} {a : Expr} {fa : FE} {k : Nat} {p1 p2 p3 pos : Pos}
def revT (x : W) (S : List Ob) : Res W := match x with
  | .d (.tuple xs) => .ok (.d (.tuple xs.reverse)) S
  | _ => .bad
def fRevT (fa : FE) : FE := fun ρ S => (fa ρ S).bind revT
theorem dps_rev {K : PySem.W.Frag} {F : Hp} {ds : List PyData} {vs : List V} (h : DpAll K F vs ds) : DpAll K F vs.reverse ds.reverse := by
  induction ds generalizing vs with
  | nil => cases h; exact .nil
  | cons d r ih =>
    cases h with
    | cons h1 h2 =>
      rw [List.reverse_cons, List.reverse_cons]
      exact dps_app (ih h2) (.cons h1 .nil)
theorem q_revT (ha : PE X a (LE X Wc fa)) : PE X (.Subscript a (.Slice none none (some (.UnaryOp .USub (.Constant (.int 1) k p1) p2)) p3) pos) (LE X Wc (fRevT fa)) := PE.imp (pe_revT ha) fun σ H Q h => by
  obtain ⟨F, D, m, ρ, S, r0, c⟩ := h
  refine step r0 c fun F1 m1 x v S1 H1 l1 p1 r1 e1 c1 => ?_
  cases x with
  | ref n => exact c1.elim
  | d x =>
    rcases rep_cases (μ := m1) e1 with ⟨rfl, rfl⟩ | ⟨b, rfl, rfl⟩ | ⟨i, rfl, rfl⟩ | ⟨z, rfl, rfl⟩ | ⟨a, vs, ds, rfl, rfl, h1, h2⟩ | ⟨a, vs, ds, rfl, rfl, h1, h2⟩
    · exact c1.elim
    · exact c1.elim
    · exact c1.elim
    · exact c1.elim
    · exact c1.elim
    · exact ⟨a, vs, rfl, Le.sqT r1.b.fr h1, fun q hq => new_tup r1 (dps_rev h2) hq c1⟩
@[simp] theorem e_RevT {ρ : List Sl} {S : List Ob} : fRevT fa ρ S = (fa ρ S).bind revT := rfl
@[simp] theorem e_revT {S : List Ob} (xs : List PyData) : revT (.d (.tuple xs)) S = .ok (.d (.tuple xs.reverse)) S := rfl
end
end L2.Q
/-! Layer Q, part Q: enumerate of a tuple. -/
namespace L2.Q
open PySem PySem.Spec PyProof.Rows
section
variable {prog : Program} {w : World} {A : Around} {E : Value → Shared → Prop} {s : Shared}
abbrev enumOb (n : Nat) : Obj := { cls := .type "enumerate", data := .fields #[.none, .bool false, .ref n, rawInt 0, .none, .none] }
theorem enum_made {v : Value} {o : Obj} {G : Heap → Prop} (B : Begins v o G) :
    Meets (Builtin.«enumerate.__new__» ⟨[.type "enumerate", v], []⟩) (fun _ R s => G s.heap ∧ R (.ok (.ret (.ref (s.heap.push o).objs.size))) { s with heap := (s.heap.push o).push (enumOb s.heap.objs.size) }) :=
  .of_wp fun prog w A R s h => by
    obtain ⟨hp, g, d, tk, os⟩ := s
    obtain ⟨h1, h⟩ := h
    have sub := sub_enumerate
    have it : ∀ {A' : Around} {E' : Value → Shared → Prop} {Q : Value → Shared → Prop}, Q (.ref hp.objs.size) ⟨hp.push o, g, d, tk, os⟩ → wpAny (model prog w) A' (pyIter v) Q E' ⟨hp, g, d, tk, os⟩ := fun q => B.iter prog w _ _ ⟨hp, g, d, tk, os⟩ _ h1 q
    wp_walk using it
    refine wpAny_stack_any fun st => wpAny_pure ?_
    split
    · rename_i c _ _ _ _ _
      cases (c == Value.type "enumerate") <;> (wp_walk using it) <;> exact ⟨_, rfl, h⟩
    · wp_walk using it
      exact ⟨_, rfl, h⟩
theorem enum_call {v : Value} {o : Obj} {G : Heap → Prop} {Q : Value → Shared → Prop} (B : Begins v o G) (h1 : G s.heap)
    (h : ∀ h', IsEnum h' (s.heap.objs.size + 1) s.heap.objs.size 0 .none → h'.get? s.heap.objs.size = some o → (∀ b o', s.heap.get? b = some o' → h'.get? b = some o') → Q (.ref (s.heap.objs.size + 1)) { s with heap := h' }) :
    wpAny (model prog w) A (call (.type "enumerate") [v]) Q E s := by
  refine callType_new F.called_enumerate (by decide) (F.typeCall_enumerate_1 _) (F.newCall_enumerate_1 _) (fun x => F.args_object_init_2 x _) F.entry_enumerate_new (enum_made B) ⟨h1, ?_⟩
  have z : (s.heap.push o).objs.size = s.heap.objs.size + 1 := Heap.size_push ..
  show _ ∧ _
  rw [z]
  have e : IsEnum ((s.heap.push o).push (enumOb s.heap.objs.size)) (s.heap.objs.size + 1) s.heap.objs.size 0 .none := by
    have := Heap.get?_push_size (s.heap.push o) (o := enumOb s.heap.objs.size) rfl
    rw [z] at this
    exact this
  exact ⟨⟨_, e, rfl⟩, h _ e (Heap.get?_push_of_some _ (Heap.get?_push_size _ B.free)) fun b o' x => Heap.get?_push_of_some _ (Heap.get?_push_of_some _ x)⟩
theorem enum_endT {e it t : Addr} {i : Int} {k : Nat} {items : Array Value} {old : Value} {Q : Option Value → Shared → Prop} (hh : A.handled = none) (he : IsEnum s.heap e it i old) (hit : s.heap.IsTupleIter it t k) (ht : s.heap.IsTuple t items) (hx : items[k]? = none)
    (hQ : ∀ h', Heap.ExtBut it s.heap h' → Q none { s with heap := h' }) : wpAny (model prog w) A (pyNext (.ref e)) Q E s := by
  have ty : s.TypeIs (.ref e) "enumerate" := ⟨_, he, rfl⟩
  unfold pyNext
  refine wpAny_bind (wpAny_attempt (wpAny_callSpecial?_slot (name := Str.ofString "__next__") ty F.slot_enumerate_next (wpAny_call_entry F.slot_enumerate_next ty F.entry_enumerate_next ?_ (F.args_enumerate_next_1 _))))
  refine wpAny_bind (m := field (.ref e) 2) (wpAny_field he rfl (x := .ref it) rfl ?_)
  refine wpAny_bind (wpAny_nextOf_tuple_end hh hit ht hx fun h' x hk hc => ?_)
  obtain ⟨o, ho, hc⟩ := hc
  exact wpAny_bind (wpAny_isInstance (T := "StopIteration") (b := true) ⟨o, ho, hc⟩ isSubtype_stop (wpAny_pure (hQ _ hk)))
end
/-- the tuple at a, each item in a new pair -/
def IteT (K : PySem.W.Frag) (a : Addr) : It :=
  ⟨fun i H => ∃ (xs : List V) (x : V), SqT K H a xs ∧ xs[i]? = some x,
    fun i H v H' => ∃ T x, v = .ref T ∧ H T = none ∧ H' = upd H T (.tup [.int (i : Nat), x]) ∧ ∀ xs, SqT K H a xs → xs[i]? = some x,
    fun i H => ∃ xs : List V, SqT K H a xs ∧ xs.length ≤ i⟩
theorem turn_enumT {P : Program} {w : World} {K : PySem.W.Frag} {elts : List Expr} {kk : Nat} {tpos : Pos} (a e it : Addr) :
    Turn P w K (.Tuple elts kk tpos) (IteT K a) [e, it] e (fun i h => (∃ old, IsEnum h e it ((i : Nat) : Int) old) ∧ h.IsTupleIter it a i ∧ e ≠ it ∧ a ≠ it ∧ e ≠ a) where
  mem := by simp
  obj := fun i h st b hb => by
    obtain ⟨⟨old, he⟩, ⟨o, ho, hc, hd⟩, _⟩ := st
    rcases (show b = e ∨ b = it by simpa using hb) with rfl | rfl
    · exact ⟨_, he, fun v q => nomatch q⟩
    · exact ⟨o, ho, fun v q => by rw [hd] at q; cases q⟩
  keep := fun i h h' st k => by
    obtain ⟨⟨old, he⟩, hi, r⟩ := st
    exact ⟨⟨old, k e (by simp) _ he⟩, hi.at fun o q => k it (by simp) o q, r⟩
  item := by
    intro X hP hw hK hc i pins s σ H E I hf st hg
    subst hP hw hK
    obtain ⟨⟨old, he⟩, hit, n1, n2, n3⟩ := st
    obtain ⟨xs, x, hq, hx⟩ := hg
    obtain ⟨its, rv, p, hz⟩ := I.tuple hq
    obtain ⟨u, hu, ru⟩ := rv.get hx
    have le := Heap.lt_size he
    have li : it < s.heap.objs.size := by obtain ⟨_, q, _⟩ := hit; exact Heap.lt_size q
    have hd := I.ok.hd hc
    have D := Draws.tuple (prog := X.prog) (w := X.w) (A := X.A.in1) hd it a n2 its.toArray
    refine wpAny_pyNext_enum_itemD D he ⟨hit, p⟩ (by have := (List.getElem?_eq_some_iff.mp hu).1; simpa using this) n1 (by simp [n1, n3]) fun y h' tk hy eo ht hT hs hk => ?_
    have hy : its[i]? = some y := by simpa using hy
    rw [hu] at hy
    cases hy
    refine ⟨_, rfl, wpAny_letOwnedTupleGo_enum (s := { s with heap := h', toks := tk + 1 }) eo fun h'' e2 sb => ?_⟩
    have g2 : h''.get? s.heap.objs.size = some { cls := .type "tuple", data := .seq #[.int i tk, u] } := (sb.2 _ (Nat.ne_of_gt le)).trans hT
    have ob : ObjOk X.prog X.w (upd H s.heap.objs.size (.tup [.int (i : Nat), x])) h'' s.heap.objs.size (.tup [.int (i : Nat), x]) := ⟨by show 2 ≤ sizeLine; decide, [.int i tk, u], .cons ⟨_, rfl⟩ (.cons ru .nil), ⟨_, g2, rfl, _, rfl⟩⟩
    have I1 : Inv X pins σ (upd H s.heap.objs.size (.tup [.int (i : Nat), x])) { s with heap := h'', toks := tk + 1 } :=
      I.turnedNew (ch := [e, it]) (fun b o hb q => (sb.2 b (fun z => hb (by simp [z]))).trans (hk b o (fun z => hb (by simp [z])) (fun z => hb (by simp [z])) q)) hf (Nat.le_refl _) ob
    refine ⟨.ref s.heap.objs.size, _, I1, rfl, ⟨_, x, rfl, I.hok.fresh (Nat.le_refl _), rfl, fun ys hy => by rw [I.tuple_inj hy hq]; exact hx⟩, ⟨⟨u, ?_⟩, ht.1.at fun o q => (sb.2 it (Ne.symm n1)).trans q, n1, n2, n3⟩, fun b hb => ?_⟩
    · rw [show ((i + 1 : Nat) : Int) = (i : Int) + 1 by omega]
      exact e2
    · have lb : b < s.heap.objs.size := by
        rcases (show b = e ∨ b = it by simpa using hb) with rfl | rfl
        · exact le
        · exact li
      rw [upd_ne (Nat.ne_of_lt lb)]
      exact (hf b hb).1
  done := by
    intro X hP hw hK hc i pins s σ H E I hf st hg
    subst hP hw hK
    obtain ⟨⟨old, he⟩, hit, n1, n2, n3⟩ := st
    obtain ⟨xs, hq, hx⟩ := hg
    obtain ⟨its, rv, p, hz⟩ := I.tuple hq
    obtain ⟨f0, f1, f2, f3, f4, f5⟩ := hf it (by simp)
    have hl := rv.length
    exact enum_endT (I.ok.hd hc) he hit p (by simp; omega) fun h' eb => ⟨rfl, I.turned (t' := s.toks) (fun b o hb q => eb b o hb q) f0 f1 f3 f4 f5⟩
  self := fun A i s Q E st h => let ⟨⟨_, he⟩, _⟩ := st; wpAny_pyIter_enum he h
theorem walk_enumT {K : PySem.W.Frag} {a : Addr} {xs : List V} : Walk (IteT K a) xs.length (fun H => SqT K H a xs) (YPair (fun i => some (.int (i : Nat))) (fun i => xs[i]?)) := by
  refine ⟨fun i _ hi q => ⟨xs, xs[i], q, by simp [hi]⟩, fun _ q => ⟨xs, q, Nat.le_refl _⟩, fun i H v H' _ q y => ?_⟩
  obtain ⟨T, x, k1, k2, k3, k4⟩ := y
  exact ⟨T, .int (i : Nat), x, k1, k2, k3, rfl, k4 xs q⟩
def iEnumA (K : PySem.W.Frag) (ta : TA) : TI := fun σ H R => ta σ H fun vs H1 => ∃ a xs, vs = [.ref a] ∧ ((SqL K H1 a xs ∧ R (Ite K a) H1) ∨ (SqT K H1 a xs ∧ R (IteT K a) H1))
theorem pi_enumA {X : Cx} {e : Expr} {ta : TA} {p pos tpos : Pos} {elts : List Expr} {kk : Nat} (hg : Gl X "enumerate") (hm : X.mg "enumerate" = none) (ha : PA X [e] ta) (hs : starEach [e] X.env = [(false, eval e X.env)] := by rfl) :
    PI X (.Tuple elts kk tpos) (.Call (.Name "enumerate" p) [e] [] pos) (iEnumA X.K ta) := by
  refine ⟨fun pins s σ H R I h => ?_⟩
  refine Call_ (ld_blt I hg hm boot_enumerate (PyProof.Rows.callWith_type1 (thn (ha.run pos pins s σ H _ I h) fun us s1 ⟨vs, H1, I1, r1, q1⟩ => ?_) hs rfl))
  obtain ⟨a, xs, ex, q1⟩ := q1
  subst ex
  cases r1 with
  | cons r rr =>
    cases rr
    cases r
    have fresh : ∀ b, b ∈ [s1.heap.objs.size + 1, s1.heap.objs.size] → FpOk X pins H1 b := fun b hb => by
      have hle : s1.heap.objs.size ≤ b := by
        rcases (show b = s1.heap.objs.size + 1 ∨ b = s1.heap.objs.size by simpa using hb) with z | z
        · rw [z]; exact Nat.le_add_right _ _
        · rw [z]; exact Nat.le_refl _
      exact I1.fpOk hle (I1.hok.fresh hle)
    rcases q1 with ⟨hq, q⟩ | ⟨hq, q⟩
    · obtain ⟨its, rv, p', hz⟩ := I1.list hq
      refine call_enumerate_list p'.isList fun h' he hit hsz hk => wpAny_pyIter_enum he ?_
      exact ⟨s1.heap.objs.size + 1, [s1.heap.objs.size + 1, s1.heap.objs.size], _, _, H1, rfl, I1.kept (t' := s1.toks) hk, turn_enum a (s1.heap.objs.size + 1) s1.heap.objs.size, ⟨⟨.none, he⟩, hit, Nat.succ_ne_self _⟩, fresh, q⟩
    · obtain ⟨its, rv, p', hz⟩ := I1.tuple hq
      have la : a < s1.heap.objs.size := by obtain ⟨o, ho, _⟩ := id p'; exact Heap.lt_size ho
      refine enum_call (begins_tuple a its.toArray) p' fun h' he hit hk => wpAny_pyIter_enum he ?_
      exact ⟨s1.heap.objs.size + 1, [s1.heap.objs.size + 1, s1.heap.objs.size], _, _, H1, rfl, I1.kept (t' := s1.toks) hk, turn_enumT a (s1.heap.objs.size + 1) s1.heap.objs.size,
        ⟨⟨.none, he⟩, ⟨_, hit, rfl, rfl⟩, Nat.succ_ne_self _, Nat.ne_of_lt la, Nat.ne_of_gt (Nat.lt_succ_of_lt la)⟩, fresh, q⟩
section
variable {X : Cx} {Wc : WX} {e : Expr} {fa : FE} {p pos : Pos}
def enumA (x : W) (S : List Ob) : Res (List W) := match x with
  | .d (.list xs) => if xs.length ≤ 16777216 then .ok (enumD 0 xs) S else .bad
  | .d (.tuple xs) => if xs.length ≤ 16777216 then .ok (enumD 0 xs) S else .bad
  | _ => .bad
def fEnumA (fa : FE) : FA := fun ρ S => (fa ρ S).bind enumA
theorem enum_yq {K : PySem.W.Frag} {Fr : Hp} {μ : List Addr} {xs : List PyData} {vs : List V} (hx : DpAll K Fr vs xs) {i : Nat} {H : Hp} {v : V} {H' : Hp} (y : YPair (fun i => some (.int (i : Nat))) (fun i => vs[i]?) i H v H') : Yq K Fr μ (enumD 0 xs) i H v H' := by
  obtain ⟨T, x, z, rfl, hT, rfl, e1, e2⟩ := y
  cases e1
  obtain ⟨d, k1, k2⟩ := dps_get hx e2
  have := enumD_get i 0 xs d k1
  rw [Nat.zero_add] at this
  exact ⟨_, this, .inr ⟨T, _, _, rfl, hT, rfl, rfl, .cons (Dp.int _) (.cons k2 .nil)⟩⟩
theorem i_enumA {elts : List Expr} {kk : Nat} {tpos : Pos} (hg : Gl X "enumerate") (hm : X.mg "enumerate" = none) (ha : PE X e (LE X Wc fa)) (hs1 : starEach [e] X.env = (false, eval e X.env) :: starEach [] X.env := by rfl) (hs : starEach [e] X.env = [(false, eval e X.env)] := by rfl) :
    PI X (.Tuple elts kk tpos) (.Call (.Name "enumerate" p) [e] [] pos) (LI X Wc (fEnumA fa)) := PI.imp (pi_enumA hg hm (pa_cons ha pa_nil hs1) hs) fun σ H Q h => by
  obtain ⟨F, Hd, m, ρ, S, r, c⟩ := h
  refine stepI r c fun F1 m1 x v S1 H1 l1 p1 r1 e1 c1 => ?_
  unfold enumA at c1
  split at c1
  · rename_i xs
    split at c1
    · rename_i hl
      cases e1 with
      | @lst a vs _ h1 h2 =>
        have hw := walk_enum (K := X.K) (a := a) (xs := vs)
        rw [show vs.length = (enumD 0 xs).length by rw [enumD_len, DpAll.len h2]] at hw
        exact ⟨a, vs, rfl, .inl ⟨Le.sqL r1.b.fr h1, c1 F1 Hd m1 H1 _ Le.refl Le.refl (List.prefix_refl m1) r1 (Walk.mono hw (fun H h => Le.sqL h.1 h1) fun i H v H' hi _ y => enum_yq h2 y) (by rw [enumD_len, sizeLine_eq]; exact hl)⟩⟩
    · exact c1.elim
  · rename_i xs
    split at c1
    · rename_i hl
      cases e1 with
      | @tup a vs _ h1 h2 =>
        have hw := walk_enumT (K := X.K) (a := a) (xs := vs)
        rw [show vs.length = (enumD 0 xs).length by rw [enumD_len, DpAll.len h2]] at hw
        exact ⟨a, vs, rfl, .inr ⟨Le.sqT r1.b.fr h1, c1 F1 Hd m1 H1 _ Le.refl Le.refl (List.prefix_refl m1) r1 (Walk.mono hw (fun H h => Le.sqT h.1 h1) fun i H v H' hi _ y => enum_yq h2 y) (by rw [enumD_len, sizeLine_eq]; exact hl)⟩⟩
    · exact c1.elim
  · exact c1.elim
@[simp] theorem e_EnumA {ρ : List Sl} {S : List Ob} : fEnumA fa ρ S = (fa ρ S).bind enumA := rfl
@[simp] theorem e_enumT {S : List Ob} (xs : List PyData) : enumA (.d (.tuple xs)) S = if xs.length ≤ 16777216 then .ok (enumD 0 xs) S else .bad := rfl
@[simp] theorem e_enumL {S : List Ob} (xs : List PyData) : enumA (.d (.list xs)) S = if xs.length ≤ 16777216 then .ok (enumD 0 xs) S else .bad := rfl
end
end L2.Q
/-! Layer Q, part R: a, b = e, f and a, b, c = e, f, g by way of a tuple (some name is a cell). -/
namespace L2.Q
open PySem PySem.Spec PyProof.Rows
section
variable {X : Cx} {Wc : WX} {a b c3 : Expr} {pos : Pos} {f1 f2 f3 : FC}
/-- where the continuation goes on at a heap with one more object -/
theorem more_nx {D : Ends} {Fr Hd : Hp} {μ : List Addr} {ρ : List Sl} {S : List Ob} {σ : St} {H : Hp} {p : Addr} {o : HO} (r : R X.K Fr Hd μ ρ S σ H) (hp : H p = none) (c : contS X.K X.mg Wc Fr Hd μ D (.nx ρ S)) : D.nx σ (upd H p o) :=
  c Fr μ σ _ Le.refl (List.prefix_refl μ) (r.upd (r.new hp))
theorem parT_imp {i j : Nat} {D : Ends} {σ : St} {H : Hp} (h : LS X Wc (fPar i j f1 f2) D σ H) : tAsg (tTup (tCons (LC X Wc f1) (tCons (LC X Wc f2) tNil))) (gTup X.K 2 (gCons (gName i) (gCons (gName j) gNil))) D σ H := by
  obtain ⟨F, Hd, m, ρ, S, r, c⟩ := h
  show LC X Wc f1 σ H _
  refine stepS r c fun F1 m1 k1 v1 S1 H1 l1 p1 r1 e1 c1 => ?_
  cases k1 with
  | un => exact e1.elim
  | w x =>
    refine stepS r1 c1 fun F2 m2 k2 v2 S2 H2 l2 p2 r2 e2 c2 => ?_
    refine ⟨by show 2 ≤ sizeLine; decide, fun p hp => ⟨p, [v1, v2], rfl, .inl (.inl upd_same), rfl, v1, [v2], rfl, v2, [], rfl, rfl, ?_⟩⟩
    have r3 := r2.setW (i := i) (RepW.mono l2 p2 e1)
    have e3 : repC X.K F2 Hd m2 (ρ.set i (.w x)) (σ.set i (some v1)) H2 k2 v2 := by
      cases k2 with
      | un => exact e2
      | w y => exact e2
      | own o => obtain ⟨q, ho, h0, h1, h2, h3⟩ := e2; exact ⟨q, ho, h0, h1, h2, free_setW h3⟩
    exact more_nx (r3.setC e3) hp c2
  | own o =>
    obtain ⟨q, ho, rfl, h1, h2, h3⟩ := e1
    refine stepSH r1 h1 h3 c1 fun F2 m2 k2 v2 S2 H2 l2 p2 r2 hq fq e2 c2 => ?_
    refine ⟨by show 2 ≤ sizeLine; decide, fun p hp => ⟨p, [.ref q, v2], rfl, .inl (.inl upd_same), rfl, .ref q, [v2], rfl, v2, [], rfl, rfl, ?_⟩⟩
    have r3 := r2.setOwn (i := i) hq fq (h2.mono l2 p2)
    have e3 : repC X.K F2 Hd m2 (ρ.set i (.own o)) (σ.set i (some (.ref q))) H2 k2 v2 := by
      cases k2 with
      | un => exact e2
      | w y => exact e2
      | own o2 => obtain ⟨q2, ho2, h0, h1, h2, h3⟩ := e2; exact ⟨q2, ho2, h0, h1, h2, free_set h3 fq.hd⟩
    exact more_nx (r3.setC e3) hp c2
theorem s_parT {i j : Nat} {x y : Str} {px py pt : Pos} {kt k2 pt2} (hc : X.calm = true) (hN : X.N.Nodup) (hi : X.N[i]? = some x) (hj : X.N[j]? = some y) (hx : Loc X.env.scope x) (hy : Loc X.env.scope y) (ha : PE X a (LC X Wc f1)) (hb : PE X b (LC X Wc f2))
    (hfx : X.fn x = true ∨ X.env.scope.names.lookup x = some .local := by first | exact .inl rfl | exact .inr rfl | assumption) (hfy : X.fn y = true ∨ X.env.scope.names.lookup y = some .local := by first | exact .inl rfl | exact .inr rfl | assumption)
    (hw : swappedStores [.Tuple [.Name x px, .Name y py] kt pt] (.Tuple [a, b] k2 pt2) X.env = pure none := by rfl)
    (hs : swapsWithSole [.Tuple [.Name x px, .Name y py] kt pt] (.Tuple [a, b] k2 pt2) pos.line X.env = pure false := by rfl)
    (hs1 : starEach [a, b] X.env = (false, eval a X.env) :: starEach [b] X.env := by rfl) (hs2 : starEach [b] X.env = (false, eval b X.env) :: starEach [] X.env := by rfl)
    (hn : (assignEach [.Name x px, .Name y py] X.env).length = 2 := by rfl) (hst : (assignEach [.Name x px, .Name y py] X.env).findIdx? (·.1) = none := by rfl)
    (h1 : (assignEach [.Tuple [.Name x px, .Name y py] kt pt] X.env).map (·.2) = [assign (.Tuple [.Name x px, .Name y py] kt pt) X.env] := by rfl) :
    PS X (.Assign [.Tuple [.Name x px, .Name y py] kt pt] (.Tuple [a, b] k2 pt2) pos) (LS X Wc (fPar i j f1 f2)) :=
  PS.imp (ps_asg (pe_tup (pa_cons ha (pa_cons hb pa_nil hs2) hs1)) (pg_tup hc (pgs_cons (pg_name hN hi hx hfx) (pgs_cons (pg_name hN hj hy hfy) pgs_nil)) hn hst) hs hw h1) fun _ _ _ h => parT_imp h
end
/-! ### sorted(set(xs)) of ints -/
/-- a new set -/
abbrev setOb (w : World) : Obj := { cls := .type "set", dict := none, data := .set #[] 0 (.fresh 0 0 (!w.params.followText "set-order")) }
section
variable {P : Program} {w : World} {A : Around} {E : Value → Shared → Prop} {s : Shared}
/-- set(l), l a list of ints -/
theorem set_of_ints {l : Addr} {items : Array Value} (ns : List Int) {Q : Value → Shared → Prop} (hh : A.handled = none) (hl : s.heap.IsList l items) (hit : IntsAre items.toList ns) (hb : ns.length + 1 < scanBound)
    (h : ∀ (h' : Heap) (tk c : Nat), SetR w h' s.heap.objs.size (fun j => decide (j ∈ ns)) c → c ≤ ns.length → (∀ b o, s.heap.get? b = some o → h'.get? b = some o) → Q (.ref s.heap.objs.size) { s with heap := h', toks := tk }) : wpAny (model P w) A (call (.type "set") [.ref l]) Q E s := by
  have isz : items.size = ns.length := by have q := IntsAre.length hit; rw [Array.length_toList] at q; exact q
  obtain ⟨c, tl, mro⟩ := F.called_set.mro
  have made := F.called_set.made
  have sub := F.called_set.sub
  refine wpAny_call (codeAny_of_tree ?_); show wpAny _ _ (callAny (.type "set") _) _ _ _
  refine wpAny_pure ⟨Code.quiet_builtin _ (by decide +kernel), codeAny_builtin F.entry_type_call ?_⟩; rw [Around.under_plain (weight_type_call_type "set" [.ref l] []) rfl]
  have c1 := F.called_set.notType
  have c2 := F.called_set.canCreate
  have c3 := F.typeCall_set_1 (.ref l)
  repeat (any_goals (first | assumption | wp_step))
  refine codeAny_mono (code_set_led1 (.ref l) (E := E) (Q₁ := fun obj s1 => obj = .ref s.heap.objs.size ∧ s1 = { s with heap := s.heap.push (setOb w) }) ⟨rfl, rfl⟩) fun r s1 hr => ?_
  cases r with
  | error e => exact hr
  | ok fl =>
    cases fl with
    | ret obj =>
      obtain ⟨rfl, rfl⟩ := hr
      have at0 : (s.heap.push (setOb w)).get? s.heap.objs.size = some (setOb w) := Heap.get?_push_size _ rfl
      have ty : Shared.TypeIs { s with heap := s.heap.push (setOb w) } (.ref s.heap.objs.size) "set" := ⟨_, at0, rfl⟩
      have i1 := F.called_set.init.lookup
      have i2 := F.called_set.init.bind (.ref s.heap.objs.size)
      repeat (any_goals (first | assumption | wp_step))
      refine codeAny_mono (codeAny_call_builtin (R := wants (fun r s2 => r = .none ∧ ∃ h' tk c, s2 = { s with heap := h', toks := tk } ∧ SetR w h' s.heap.objs.size (fun j => decide (j ∈ ns)) c ∧ c ≤ ns.length ∧ (∀ b o, s.heap.get? b = some o → h'.get? b = some o)) E) F.called_set.init.plain F.entry_set_init (check_set_init_1 ty ?_)) fun r2 s2 hr2 => ?_
      · obtain ⟨ol, gl, cl, nl, dl⟩ := hl
        obtain ⟨oc, od, oo, os⟩ := ol
        simp only at cl dl
        subst cl dl
        have gl' : (s.heap.push (setOb w)).get? l = some { cls := .type "list", dict := od, data := .seq items nl, slots := os } := Heap.get?_push_of_some _ gl
        have b1 := F.sub_list_set
        have b2 := F.sub_list_frozenset
        have b3 : (Value.type "list" == Value.type "dict") = false := by decide
        have is1 : (s.heap.push (setOb w)).IsList l items := ⟨_, gl', rfl, nl, rfl⟩
        unfold Builtin.«set.__init__» noKeywords Builtin.Frozenset.updateFrom
        generalize hPI : pyIter = PI
        wp_walk
        subst hPI
        refine wpAny_pyIter_list is1 (wpAny_bind (wpAny_runValue ?_))
        have lt : l < s.heap.objs.size := Heap.lt_size gl
        have hh3 : A.in1.in1.in1.handled = none := by simp [hh]
        have nI : l ≠ (s.heap.push (setOb w)).objs.size := by rw [Heap.size_push]; exact Nat.ne_of_lt (Nat.lt_succ_of_lt lt)
        have nS : s.heap.objs.size ∉ [(s.heap.push (setOb w)).objs.size, l] := by
          rw [Heap.size_push]
          simp only [List.mem_cons, List.mem_singleton, List.not_mem_nil, or_false, not_or]
          exact ⟨Nat.ne_of_lt (Nat.lt_succ_self _), Nat.ne_of_gt lt⟩
        have val : ∀ (i : Nat) (v : Value), items[i]? = some v → ∃ k t, ns[i]? = some k ∧ v = .int k t := fun i v hv => by
          have hi : i < ns.length := by rw [← isz]; exact (Array.getElem?_eq_some_iff.mp hv).1
          obtain ⟨t, e⟩ := PyProof.Rows.IntsAre.int_at hit i v (by rw [Array.getElem?_toList]; exact hv)
          refine ⟨ns[i], t, List.getElem?_eq_getElem hi, ?_⟩
          rw [e, List.getD_eq_getElem?_getD, List.getElem?_eq_getElem hi]
          rfl
        refine set_update_ints ((Walks.list hh3 _ l nI items).toS) s.heap.objs.size nS ns isz hb val (items.size - 0) 0 _ (by omega) (Nat.zero_le _) ⟨⟨_, Heap.get?_push_size _ rfl, rfl, rfl⟩, (is1.push _)⟩ ?z0 ?z1
        case z0 => exact ⟨0, Nat.le_refl 0, setR_new_at (Heap.get?_push_of_some _ at0)⟩
        case z1 =>
          intro s' c' hm hc' hS'
          obtain ⟨h', g2, d', tk', os'⟩ := s'
          have eg : g2 = s.gens := hm.gens
          have ed : d' = s.drawn := hm.drawn
          have eo : os' = s.os := hm.os
          subst eg ed eo
          show wpAny _ _ _ _ _ _
          refine wpAny_pure (show wpAny _ _ (ret Value.none) _ _ _ from ?_)
          rw [isz] at hc'
          refine wpAny_pure ⟨rfl, h', tk', c', rfl, hS', hc', fun b o e => ?_⟩
          have lb : b < s.heap.objs.size := Heap.lt_size e
          have nb : b ≠ (s.heap.push (setOb w)).objs.size := by rw [Heap.size_push]; exact Nat.ne_of_lt (Nat.lt_succ_of_lt lb)
          exact hm.heap b o (by simp only [List.mem_cons, List.mem_singleton, List.not_mem_nil, or_false, not_or]; exact ⟨Nat.ne_of_lt lb, nb⟩) (Heap.get?_push_of_some _ (Heap.get?_push_of_some _ e))
      · cases r2 with
        | error e => exact hr2
        | ok f2 =>
          cases f2 with
          | ret r =>
            obtain ⟨rfl, h', tk, c', rfl, hS', hc', hk'⟩ := hr2
            repeat (any_goals (first | assumption | wp_step))
            exact h _ _ _ hS' hc' hk'
          | _ => exact hr2.elim
    | _ => exact hr.elim
end
/-- the different ones of ns, rising -/
def insU (k : Int) : List Int → List Int
  | [] => [k]
  | x :: r => if k < x then k :: x :: r else if k = x then x :: r else x :: insU k r
def sset : List Int → List Int
  | [] => []
  | k :: r => insU k (sset r)
theorem mem_insU (k j : Int) : ∀ l : List Int, j ∈ insU k l ↔ j = k ∨ j ∈ l
  | [] => by simp [insU]
  | x :: r => by
    unfold insU
    split
    · simp
    · split
      · rename_i e; subst e; simp
      · rw [List.mem_cons, mem_insU k j r, List.mem_cons]
        constructor
        · rintro (h | h | h)
          · exact .inr (.inl h)
          · exact .inl h
          · exact .inr (.inr h)
        · rintro (h | h | h)
          · exact .inr (.inl h)
          · exact .inl h
          · exact .inr (.inr h)
theorem insU_lt (k : Int) : ∀ {l : List Int}, l.Pairwise (· < ·) → (insU k l).Pairwise (· < ·)
  | [], _ => by simp [insU]
  | x :: r, h => by
    have h' := List.pairwise_cons.mp h
    unfold insU
    split
    · rename_i q
      refine List.pairwise_cons.mpr ⟨fun y hy => ?_, h⟩
      rcases List.mem_cons.mp hy with rfl | hy
      · exact q
      · have := h'.1 y hy; omega
    · split
      · exact h
      · refine List.pairwise_cons.mpr ⟨fun y hy => ?_, insU_lt k h'.2⟩
        rcases (mem_insU k y r).mp hy with rfl | hy
        · omega
        · exact h'.1 y hy
theorem mem_sset (j : Int) : ∀ l : List Int, j ∈ sset l ↔ j ∈ l
  | [] => by simp [sset]
  | k :: r => by unfold sset; rw [mem_insU, mem_sset j r, List.mem_cons]
theorem sset_lt : ∀ l : List Int, (sset l).Pairwise (· < ·)
  | [] => List.Pairwise.nil
  | k :: r => insU_lt k (sset_lt r)
theorem rise_one : ∀ {xs ys : List Int}, xs.Pairwise (· < ·) → ys.Pairwise (· < ·) → (∀ k, k ∈ xs ↔ k ∈ ys) → xs = ys
  | [], [], _, _, _ => rfl
  | [], y :: s, _, _, h => absurd ((h y).mpr (List.mem_cons_self ..)) (by simp)
  | x :: r, [], _, _, h => absurd ((h x).mp (List.mem_cons_self ..)) (by simp)
  | x :: r, y :: s, hx, hy, h => by
    have hx' := List.pairwise_cons.mp hx
    have hy' := List.pairwise_cons.mp hy
    have e : x = y := by
      rcases List.mem_cons.mp ((h x).mp (List.mem_cons_self ..)) with e | m
      · exact e
      · rcases List.mem_cons.mp ((h y).mpr (List.mem_cons_self ..)) with e | m2
        · exact e.symm
        · have := hy'.1 x m
          have := hx'.1 y m2
          omega
    subst e
    rw [rise_one hx'.2 hy'.2 fun k => ?_]
    constructor
    · intro hk
      rcases List.mem_cons.mp ((h k).mp (List.mem_cons_of_mem _ hk)) with e | m
      · have := hx'.1 k hk; omega
      · exact m
    · intro hk
      rcases List.mem_cons.mp ((h k).mpr (List.mem_cons_of_mem _ hk)) with e | m
      · have := hy'.1 k hk; omega
      · exact m
section
variable {X : Cx} {Wc : WX} {e : Expr} {fl1 : FA} {p p2 pos pos2 : Pos}
def rSetOfI (K : PySem.W.Frag) (w : World) : List V → Hp → VK → Prop := fun vs H Q => ∃ (a : Addr) (ns : List Int), vs = [V.ref a] ∧ SqL K H a (ns.map V.int) ∧ ns.length ≤ 1000 ∧ ∀ (c : Nat) (q : Addr), c ≤ ns.length → H q = none → Q (.ref q) (upd H q (SetO w q (fun j => decide (j ∈ ns)) c))
theorem cr_setOfI (hc : X.calm = true) : CallR X (.type "set") (rSetOfI X.K X.w) := by
  intro pins s σ H vs us Q I r h
  obtain ⟨a, ns, rfl, hs, hl, q⟩ := h
  obtain ⟨its, rv, li, hz⟩ := I.list hs
  rw [Vals.ref1 r]
  refine set_of_ints ns (I.ok.hd hc) li.isList (by simpa using intsAre_of rv) (by unfold scanBound; omega) fun h' tk c hS hcl hk => ?_
  exact ⟨.ref _, upd H s.heap.objs.size (SetO X.w s.heap.objs.size (fun j => decide (j ∈ ns)) c), I.laid (t' := tk) hk (Nat.le_refl _) (setO_new hS), rfl, q c _ hcl (I.hok.fresh (Nat.le_refl _))⟩
def srtSet (xs : List W) (S : List Ob) : Res W := match intsW xs with
  | some ns => if ns.length < 64 then .ok (.d (.list ((sset ns).map .int))) S else .bad
  | none => .bad
def fSSet (f : FA) : FE := fun ρ S => (f ρ S).bind srtSet
theorem dps_ints {K : PySem.W.Frag} {F : Hp} : ∀ ns : List Int, DpAll K F (ns.map V.int) (ns.map .int)
  | [] => .nil
  | k :: r => .cons (Dp.int _) (dps_ints r)
theorem q_sset (hc : X.calm = true) (hg : Gl X "sorted") (hm : X.mg "sorted" = none) (hg2 : Gl X "set") (hm2 : X.mg "set" = none) (h : PE X e (LL X Wc fl1))
    (hs : starEach [e] X.env = (false, eval e X.env) :: starEach [] X.env := by rfl) (hpl : (backTo pos2 (starEach [] X.env)).any (·.1) = false := by rfl)
    (hs2 : starEach [.Call (.Name "set" p2) [e] [] pos2] X.env = (false, eval (.Call (.Name "set" p2) [e] [] pos2) X.env) :: starEach [] X.env := by rfl) (hpl2 : (backTo pos (starEach [] X.env)).any (·.1) = false := by rfl) :
    PE X (.Call (.Name "sorted" p) [.Call (.Name "set" p2) [e] [] pos2] [] pos) (LE X Wc (fSSet fl1)) :=
  PE.imp (pe_callB (cr_sortedSet hc) hg hm (by decide +kernel) (pa_cons (pe_callTy (cr_setOfI hc) hg2 hm2 (by decide +kernel) (pa_cons h pa_nil hs) (he := hs) (hpl := hpl)) pa_nil hs2) (he := hs2) (hpl := hpl2)) fun σ H Q h => by
  obtain ⟨F, D, m, ρ, S, r0, c⟩ := h
  refine step r0 c fun F1 m1 xs v S1 H1 l1 p1 r1 e1 c1 => ?_
  obtain ⟨a, vs, rfl, e2, e3⟩ := e1
  unfold srtSet at c1
  split at c1
  · rename_i ns ens
    split at c1
    · rename_i hl
      have ev := intsW_rep ens e3
      subst ev
      refine ⟨a, ns, rfl, e2, by omega, fun c q hcl hq => ?_⟩
      refine ⟨q, _, c, rfl, upd_same, by omega, fun ys q2 hys hmem hlen hq2 => ?_⟩
      have ey : ys = sset ns := rise_one hys (sset_lt ns) fun k => by rw [hmem k, mem_sset, decide_eq_true_eq]
      rw [ey]
      exact new_lstV (r1.upd (r1.new hq)) (dps_ints _) hq2 c1
    · exact c1.elim
  · exact c1.elim
end
section
variable {ρ : List Sl} {S : List Ob} {fl1 : FA}
@[simp] theorem e_SSet : fSSet fl1 ρ S = (fl1 ρ S).bind srtSet := rfl
theorem e_srtSet (ns : List Int) (h : ns.length < 64) : srtSet (ns.map fun i => .d (.int i)) S = .ok (.d (.list ((sset ns).map .int))) S := by
  unfold srtSet
  rw [intsW_map]
  dsimp only
  rw [if_pos h]
end
/-! ### a list in the store, as it stands -/
def seqS (x : W) (S : List Ob) : Res (List W) := match x with
  | .ref n => (match S[n]? with
    | some (.lst xs) => .ok xs S
    | _ => .bad)
  | x => seqOf x S
def fItS (fa : FE) : FA := fun ρ S => (fa ρ S).bind seqS
section
variable {X : Cx} {Wc : WX} {e : Expr} {fa : FE}
theorem qs_s (h : PE X e (LE X Wc fa)) : PE X e (LQ X Wc (fItS fa)) := PE.imp h fun σ H Q h => by
  obtain ⟨F, D, m, ρ, S, r0, c⟩ := h
  refine step r0 c fun F1 m1 x v S1 H1 l1 p1 r1 e1 c1 => ?_
  cases x with
  | ref n =>
    obtain ⟨a, ea, rfl⟩ := e1
    unfold seqS at c1
    dsimp only at c1
    split at c1
    · rename_i xs es
      obtain ⟨ho, h1, ⟨vs, rfl, q⟩, _⟩ := r1.b.st n a _ ea es
      exact c1 F1 m1 _ H1 Le.refl (List.prefix_refl m1) r1 ⟨a, vs, rfl, .inl (.inl (.inl h1)), q⟩
    · exact c1.elim
  | d x =>
    cases x with
    | tuple xs =>
      cases e1 with
      | @tup a vs _ hs ha => exact c1 F1 m1 _ H1 Le.refl (List.prefix_refl m1) r1 ⟨a, vs, rfl, .inr (Le.sqT r1.b.fr hs), rep_dats ha⟩
    | list xs =>
      cases e1 with
      | @lst a vs _ hs ha => exact c1 F1 m1 _ H1 Le.refl (List.prefix_refl m1) r1 ⟨a, vs, rfl, .inl (Le.sqL r1.b.fr hs), rep_dats ha⟩
    | none => exact c1.elim
    | bool b => exact c1.elim
    | int i => exact c1.elim
    | str z => exact c1.elim
    | dict z => exact c1.elim
end
section
variable {ρ : List Sl} {S : List Ob} {fa : FE}
@[simp] theorem e_ItS : fItS fa ρ S = (fa ρ S).bind seqS := rfl
@[simp] theorem e_seqS (n : Nat) : seqS (.ref n) S = (match S[n]? with | some (.lst xs) => .ok xs S | _ => .bad) := rfl
end
end L2.Q
/-! Layer Q, part S: x in a tuple or list of flat items; own[i] = v; sorted of at most one item. -/
namespace L2.Q
open PySem PySem.Spec PyProof.Rows
def flatD : PyData → Bool
  | .none => true
  | .bool _ => true
  | .int _ => true
  | .str _ => true
  | _ => false
def flV : PyData → V
  | .bool b => .bl b
  | .int i => .int i
  | .str s => .str s
  | _ => .non
def eqF (x y : PyData) : Bool := eqV (flV x) (flV y)
theorem flat_rep {K : PySem.W.Frag} {Fr : Hp} {x : PyData} {v : V} (r : Dp K Fr v x) (h : flatD x = true) : v = flV x ∧ flatV v = true := by
  cases x with
  | none => cases r; exact ⟨rfl, rfl⟩
  | bool b => cases r; exact ⟨rfl, rfl⟩
  | int i => cases r; exact ⟨rfl, rfl⟩
  | str s => cases r; exact ⟨rfl, rfl⟩
  | list _ => cases h
  | tuple _ => cases h
  | dict _ => cases h
theorem flats_rep {K : PySem.W.Frag} {Fr : Hp} : ∀ {ds : List PyData} {vs : List V}, DpAll K Fr vs ds → ds.all flatD = true → vs = ds.map flV ∧ vs.all flatV = true
  | [], _, .nil, _ => ⟨rfl, rfl⟩
  | d :: r, _, .cons h t, e => by
    rw [List.all_cons, Bool.and_eq_true] at e
    obtain ⟨e1, e2⟩ := flat_rep h e.1
    obtain ⟨e3, e4⟩ := flats_rep t e.2
    subst e1 e3
    exact ⟨rfl, by rw [List.all_cons, e2, e4]; rfl⟩
def inD (x : PyData) (ds : List PyData) : Bool := ds.any fun y => eqF y x
def itemsD : PyData → Option (List PyData)
  | .tuple ds => some ds
  | .list ds => some ds
  | _ => none
def oIn : W → W → List Ob → Res W := fun x y S => match x, y with
  | .d x, .d y => (match itemsD y with
    | some ds => if flatD x && ds.all flatD then .ok (.d (.bool (inD x ds))) S else .bad
    | none => .bad)
  | _, _ => .bad
section
variable {X : Cx} {Wc : WX} {a b e : Expr} {fa fb : FE} {pos p : Pos} {fl1 : FA}
theorem f_in : OpF X Wc (rIn X.K false) oIn := by
  intro Fr Hd μ ρ S σ H x y v u Q r ex ey c
  unfold oIn at c
  split at c
  · rename_i x y
    split at c
    · rename_i ds ei
      split at c
      · rename_i hh
        rw [Bool.and_eq_true] at hh
        obtain ⟨e1, e2⟩ := flat_rep ex hh.1
        have go : ∀ {p : Addr} {vs : List V}, (SqL X.K H p vs ∨ SqT X.K H p vs) → DpAll X.K Fr vs ds → u = .ref p → rIn X.K false v u H Q := fun {p vs} hs hd eu => by
          obtain ⟨e3, e4⟩ := flats_rep hd hh.2
          refine ⟨p, vs, eu, hs, e2, e4, ?_⟩
          have : inV v vs = inD x ds := by
            unfold inV inD
            rw [e3, e1, List.any_map]
            rfl
          rw [show (if false = true then !inV v vs else inV v vs) = inD x ds from this]
          exact rt r c (Dp.bl _)
        cases y with
        | tuple ys => cases ei; cases ey with | @tup a vs _ h1 h2 => exact go (.inr (Le.sqT r.b.fr h1)) h2 rfl
        | list ys => cases ei; cases ey with | @lst a vs _ h1 h2 => exact go (.inl (Le.sqL r.b.fr h1)) h2 rfl
        | none => cases ei
        | bool _ => cases ei
        | int _ => cases ei
        | str _ => cases ei
        | dict _ => cases ei
      · exact c.elim
    · exact c.elim
  · exact c.elim
theorem q_in (ha : PE X a (LE X Wc fa)) (hb : PE X b (LE X Wc fb)) (hm : behindInMarks .In b = false := by rfl) : PE X (.Compare a [.In] [b] pos) (LE X Wc (fBin oIn fa fb)) := q_cmp op_in_seq f_in ha hb hm
theorem t_in (ha : PE X a (LE X Wc fa)) (hb : PE X b (LE X Wc fb)) (hm : behindInMarks .In b = false := by rfl) : PT X (.Compare a [.In] [b] pos) (LB X Wc (fT (fBin oIn fa fb))) := q_tc op_in_seq f_in ha hb hm
/-! own[i] = v -/
def fPutO (i : Nat) (fv fy : FE) : FT := fun ρ S => fl (fv ρ S) ρ fun v S1 => match ρ[i]? with
  | some (.own (.lst xs)) => fl (fy ρ S1) ρ fun y S2 => (match y with
    | .d (.int k) => (match ixN xs.length k with
      | some j => .nx (ρ.set i (.own (.lst (xs.set j v)))) S2
      | none => .bad)
    | _ => .bad)
  | _ => .bad
theorem s_putO {i : Nat} {x : Str} {p' : Pos} {k v : Expr} {fv fy : FE} {tpos : Pos} (hN : X.N[i]? = some x) (hvis : Vis X.env.scope x) (hv : PE X v (LE X Wc fv)) (hk : PE X k (LE X Wc fy)) (hd : (x == ("__debug__" : Str)) = false := by decide) (hcd : (x == ("__classdict__" : Str)) = false := by decide)
    (hs : swapsWithSole [.Subscript (.Name x p') k tpos] v pos.line X.env = pure false := by rfl) (hw : swappedStores [.Subscript (.Name x p') k tpos] v X.env = pure none := by rfl)
    (h1 : (assignEach [.Subscript (.Name x p') k tpos] X.env).map (·.2) = [assign (.Subscript (.Name x p') k tpos) X.env] := by rfl) (ha : ∀ v, assign (.Subscript (.Name x p') k tpos) X.env v = (do
      let ov ← holding [v] (eval (.Name x p') X.env)
      let iv ← holding [v, ov] (eval k X.env)
      standAt tpos
      holding [v, ov, iv] (setItem ov iv v)
      release [v, ov, iv] []) := by intro _; rfl) : PS X (.Assign [.Subscript (.Name x p') k tpos] v pos) (LS X Wc (fPutO i fv fy)) :=
  PS.imp (ps_asg hv (pg_sub (pe_var hN hvis hd hcd) hk set_list ha) hs hw h1) fun D σ H h => by
  obtain ⟨F, Hd, m, ρ, S, r, c⟩ := h
  refine stepS r c fun F1 m1 w vv S1 H1 l1 p1 r1 e1 c1 => ?_
  split at c1
  · rename_i xs ex
    obtain ⟨q, vs, eq0, _, _⟩ := own_lst r1 ex
    refine ⟨_, eq0, ?_⟩
    refine stepS r1 c1 fun F2 m2 y vy S2 H2 l2 p2 r2 e2 c2 => ?_
    obtain ⟨q', vs', eq1, hq, rw'⟩ := own_lst r2 ex
    rw [eq0] at eq1
    cases eq1
    split at c2
    · rename_i k
      cases e2
      split at c2
      · rename_i j ej
        refine ⟨q, vs', k, j, rfl, rfl, hq, by rw [← Paired.length rw']; exact ej, ?_⟩
        exact c2 F2 m2 σ _ Le.refl (List.prefix_refl m2) (r2.putOwn ex eq0 ⟨_, rfl, paired_set (RepW.mono l2 p2 e1) j rw'⟩)
      · exact c2.elim
    · exact c2.elim
  · exact c1.elim
/-! sorted of at most one item, or as before -/
def rSort1 (K : PySem.W.Frag) : List V → Hp → VK → Prop := fun vs H Q => ∃ (a : Addr) (xs : List V), vs = [V.ref a] ∧ SqL K H a xs ∧ xs.length ≤ 1 ∧ ∀ p, H p = none → Q (.ref p) (upd H p (.lst xs))
theorem swo_no {α : Type} : SrtO.Swo fun (_ _ : α) => false := ⟨fun _ _ h => (nomatch h), fun _ _ _ _ _ => rfl⟩
theorem cr_sort1 : CallR X (.builtin "sorted") (rSort1 X.K) := by
  intro pins s σ H vs us Q I r h
  obtain ⟨a, xs, rfl, hs, hl, q⟩ := h
  obtain ⟨its, rv, li, hz⟩ := I.list hs
  rw [Vals.ref1 r]
  have el := rv.length
  refine SrtO.sorted_ord (swo_no (α := Value)) li.isList (by omega) (fun h2 => by omega) fun out _ hb => ?_
  have eo : out = its := by
    have hp := hb.perm
    match its, out, hp, el with
    | [], [], _, _ => rfl
    | [], _ :: _, hp, _ => exact absurd hp.length_eq (by simp)
    | [x], out, hp, _ => exact List.perm_singleton.mp hp
    | _ :: _ :: _, _, _, el => simp at el; omega
  subst eo
  obtain ⟨ep, he'⟩ := PyProof.Rows.sortedAll_at s.heap out out.toArray
  exact ⟨.ref _, upd H (s.heap.objs.size + 1) (.lst xs), I.laid (t' := s.toks) (fun _ _ => PyProof.Rows.sortedAll_old) (Nat.le_succ _) ⟨by rw [sizeLine_eq]; omega, out, ep, rv, he'⟩, rfl, q _ (I.hok.fresh (Nat.le_succ _))⟩
theorem callR_or {f : Value} {r1 r2 : List V → Hp → VK → Prop} (h1 : CallR X f r1) (h2 : CallR X f r2) : CallR X f (fun vs H Q => r1 vs H Q ∨ r2 vs H Q) := fun pins s σ H xs us Q I r h => h.elim (fun h => h1 pins s σ H xs us Q I r h) fun h => h2 pins s σ H xs us Q I r h
def srtA (xs : List W) (S : List Ob) : Res W := match dats xs with
  | some ds => if ds.length ≤ 1 then .ok (.d (.list ds)) S else srt xs S
  | none => .bad
def fSrtA (f : FA) : FE := fun ρ S => (f ρ S).bind srtA
theorem q_srtA (hu : X.A.units + 200 < cLine) (hg : Gl X "sorted") (hm : X.mg "sorted" = none) (h : PE X e (LL X Wc fl1)) (hs : starEach [e] X.env = (false, eval e X.env) :: starEach [] X.env := by rfl) (hpl : (backTo pos (starEach [] X.env)).any (·.1) = false := by rfl) : PE X (.Call (.Name "sorted" p) [e] [] pos) (LE X Wc (fSrtA fl1)) :=
  PE.imp (pe_callB (callR_or cr_sort1 (cr_srt hu)) hg hm (by decide +kernel) (pa_cons h pa_nil hs) (he := hs) (hpl := hpl)) fun σ H Q h => by
  obtain ⟨F, D, m, ρ, S, r0, c⟩ := h
  refine step r0 c fun F1 m1 xs v S1 H1 l1 p1 r1 e1 c1 => ?_
  obtain ⟨a, vs, rfl, e2, e3⟩ := e1
  unfold srtA at c1
  cases z : dats xs with
  | none => rw [z] at c1; exact c1.elim
  | some ds =>
    rw [z] at c1
    dsimp only at c1
    have hd := dats_rep z e3
    split at c1
    · rename_i hl
      exact .inl ⟨a, vs, rfl, e2, by rw [DpAll.len hd]; exact hl, fun q hq => new_lstV r1 hd hq c1⟩
    · unfold srt at c1
      rw [z] at c1
      dsimp only at c1
      split at c1
      · rename_i hh
        exact .inr ⟨a, vs, ds, F1, rfl, e2, r1.b.fr, hd, alikes_ok hh.1, sortable_ok hh.2.1, fun d hd => of_decide_eq_true (List.all_eq_true.mp hh.2.2 d hd), fun ys q hys hq => new_lstV r1 hys hq c1⟩
      · exact c1.elim
end
section
variable {ρ : List Sl} {S : List Ob} {fl1 : FA} {fv fy : FE} {i : Nat} {x : PyData} {ds : List PyData}
@[simp] theorem e_SrtA : fSrtA fl1 ρ S = (fl1 ρ S).bind srtA := rfl
@[simp] theorem e_PutO : fPutO i fv fy ρ S = fl (fv ρ S) ρ fun v S1 => (match ρ[i]? with
  | some (.own (.lst xs)) => fl (fy ρ S1) ρ fun y S2 => (match y with
    | .d (.int k) => (match ixN xs.length k with
      | some j => .nx (ρ.set i (.own (.lst (xs.set j v)))) S2
      | none => .bad)
    | _ => .bad)
  | _ => .bad) := rfl
theorem e_inT (h : flatD x = true) (h2 : ds.all flatD = true) : oIn (.d x) (.d (.tuple ds)) S = .ok (.d (.bool (inD x ds))) S := by
  show (if flatD x && ds.all flatD then Res.ok (W.d (.bool (inD x ds))) S else .bad) = _
  rw [h, h2]; rfl
theorem e_inL (h : flatD x = true) (h2 : ds.all flatD = true) : oIn (.d x) (.d (.list ds)) S = .ok (.d (.bool (inD x ds))) S := by
  show (if flatD x && ds.all flatD then Res.ok (W.d (.bool (inD x ds))) S else .bad) = _
  rw [h, h2]; rfl
end
/-! a global that is a tuple of texts -/
def strV : Value → Option Str
  | .str s _ => some s
  | _ => none
def fcStrs (x : Str) (ss : List Str) : FbT := fun K => match K.lookup (He.ga K x) with
  | some o => decide (o.cls = Value.type "tuple") && (match o.data with
    | .seq its _ => decide (its.toList.map strV = ss.map some)
    | _ => false)
  | none => false
theorem strs_vals : ∀ {ss : List Str} {us : List Value}, us.map strV = ss.map some → Vals (ss.map V.str) us
  | [], [], _ => .nil
  | [], _ :: _, h => by simp at h
  | _ :: _, [], h => by simp at h
  | s :: r, u :: us, h => by
    rw [List.map_cons, List.map_cons, List.cons.injEq] at h
    refine .cons ?_ (strs_vals h.2)
    have h1 := h.1
    cases u <;> simp [strV] at h1
    subst h1
    exact ⟨_, rfl⟩
theorem dps_strs {K : PySem.W.Frag} {F : Hp} : ∀ ss : List Str, DpAll K F (ss.map V.str) (ss.map .str)
  | [] => .nil
  | k :: r => .cons (Dp.str _) (dps_strs r)
theorem fcStrs_ok {K : PySem.W.Frag} {x : Str} {ss : List Str} (hl : ss.length ≤ 1000) (h : fcStrs x ss K = true) (F : Hp) : Dp K F (.ref (He.ga K x)) (.tuple (ss.map .str)) := by
  unfold fcStrs at h
  split at h
  · rename_i o eo
    rw [Bool.and_eq_true] at h
    obtain ⟨h1, h2⟩ := h
    split at h2
    · rename_i its n ed
      have e := of_decide_eq_true h2
      have hz : its.size ≤ sizeLine := by
        have := congrArg List.length e
        rw [List.length_map, List.length_map, Array.length_toList] at this
        rw [sizeLine_eq]; omega
      exact Dp.tup (.inr ⟨o, its, n, eo, of_decide_eq_true h1, ed, hz, strs_vals e⟩) (dps_strs ss)
    · cases h2
  · cases h
end L2.Q
/-! Layer Q, part T: a tuple times 1, times 0 or less. -/
namespace L2.Q
open PySem PySem.Spec PyProof.Rows
abbrev tupOb (items : Array Value) (n : Nat) (dd : Option Addr) (sl : Array (Option Value)) : Obj := { cls := .type "tuple", dict := dd, data := .seq items n, slots := sl }
theorem tup_once (l : Addr) (items : Array Value) (n : Nat) (dd : Option Addr) (sl : Array (Option Value)) (u : Tok) :
    Meets (Builtin.«tuple.__mul__» ⟨[.ref l, .int 1 u], []⟩) (fun _ R s => s.heap.get? l = some { cls := .type "tuple", dict := dd, data := .seq items n, slots := sl } ∧ R (.ok (.ret (Value.ref l))) s) :=
  .of_wp fun prog w A R s h => by
    obtain ⟨hp, g, d, tk, os⟩ := s
    obtain ⟨hl, h⟩ := h
    have f1 := AutoSeq1.idx_int
    have c0 : (decide ((1 : Int) < -(2 ^ 63)) || decide ((1 : Int) ≥ 2 ^ 63)) = false := by decide
    have c1 : (items.isEmpty || (1 : Int) == 1) = true := by rw [show ((1 : Int) == 1) = true from rfl, Bool.or_true]
    wp_walk using wpAny_loadPart' hl
    repeat (first
      | (refine wpAny_ite_false (decide_eq_false (by rw [c0]; exact Bool.false_ne_true)) ?_; wp_walk using wpAny_loadPart' hl)
      | (refine wpAny_ite_true (decide_eq_true c1) ?_; wp_walk using wpAny_loadPart' hl))
    exact ⟨_, rfl, h⟩
theorem tup_none (l : Addr) (items : Array Value) (n : Nat) (dd : Option Addr) (sl : Array (Option Value)) (x : Int) (u : Tok) (c0 : (decide (x < -(2 ^ 63)) || decide (x ≥ 2 ^ 63)) = false) (c1 : (items.isEmpty || x == 1) = false) (c2 : (decide (x ≤ 0) || items.isEmpty) = true) :
    Meets (Builtin.«tuple.__mul__» ⟨[.ref l, .int x u], []⟩) (fun _ R s => s.heap.get? l = some { cls := .type "tuple", dict := dd, data := .seq items n, slots := sl } ∧ R (.ok (.ret (Value.ref s.heap.objs.size))) { s with heap := s.heap.push { cls := .type "tuple", data := .seq #[] }, toks := s.toks }) :=
  .of_wp fun prog w A R s h => by
    obtain ⟨hp, g, d, tk, os⟩ := s
    obtain ⟨hl, h⟩ := h
    have f1 := AutoSeq1.idx_int
    wp_walk using wpAny_loadPart' hl
    repeat (first
      | (refine wpAny_ite_false (decide_eq_false (by rw [c0]; exact Bool.false_ne_true)) ?_; wp_walk using wpAny_loadPart' hl)
      | (refine wpAny_ite_false (decide_eq_false (by rw [c1]; exact Bool.false_ne_true)) ?_; wp_walk using wpAny_loadPart' hl)
      | (refine wpAny_ite_true (decide_eq_true c2) ?_; wp_walk using wpAny_loadPart' hl))
    exact ⟨_, rfl, h⟩
def rRepS (K : PySem.W.Frag) : R2 := fun x y H Q => ∃ l k xs, x = .ref l ∧ y = .int k ∧ SqT K H l xs ∧ ((k = 1 ∧ Q (.ref l) H) ∨ (k ≤ 0 ∧ -1000 ≤ k ∧ xs ≠ [] ∧ ∀ p, H p = none → Q (.ref p) (upd H p (.tup []))))
section
variable {X : Cx}
theorem op_repS : OpR X (binaryOp .Mult) (rRepS X.K) := by
  intro pins s σ H x y v u Q I rx ry h
  obtain ⟨l, k, xs, rfl, rfl, hT, h⟩ := h
  cases rx
  obtain ⟨t, rfl⟩ := ry
  obtain ⟨its, r, ⟨⟨cls, dd, data, sl⟩, ho, hc, n, hd⟩, hs⟩ := I.tuple hT
  simp only at hc hd
  subst hc hd
  rcases h with ⟨rfl, q⟩ | ⟨h1, h2, hne, q⟩
  · exact wpAny_binaryOp_repeat_ref (T := "tuple") (U := "int") (by decide) ⟨_, ho, rfl⟩ (fun s' => typeIs_int s' 1 t) noFill_tuple_mul F.fills_int_mul F.slot_int_rmul repeat_tuple F.slot_int_index.lookup
      (call_meets F.slot_int_rmul (typeIs_int s 1 t) F.entry_int_rmul (F.args_int_rmul_2 _ _) (int_rmul_tuple 1 t l its.toArray n dd sl)
        ⟨ho, rfl, ⟨_, ho, rfl⟩, call_meets F.slot_tuple_mul ⟨_, ho, rfl⟩ F.entry_tuple_mul (F.args_tuple_mul_2 _ _) (tup_once l its.toArray n dd sl t) ⟨ho, .ref l, H, I, rfl, q⟩⟩)
  · have hn : its ≠ [] := fun e => hne (by
      have := r.length
      rw [e] at this
      exact List.eq_nil_of_length_eq_zero this)
    have hi : its.toArray.isEmpty = false := by
      cases its with
      | nil => exact absurd rfl hn
      | cons a b => rfl
    have c0 : (decide (k < -(2 ^ 63)) || decide (k ≥ 2 ^ 63)) = false := by rw [decide_eq_false (by omega), decide_eq_false (by omega)]; rfl
    have c1 : (its.toArray.isEmpty || k == 1) = false := by rw [hi, Bool.false_or]; exact beq_eq_false_iff_ne.mpr (by omega)
    have c2 : (decide (k ≤ 0) || its.toArray.isEmpty) = true := by rw [decide_eq_true h1]; rfl
    refine wpAny_binaryOp_repeat_ref (T := "tuple") (U := "int") (by decide) ⟨_, ho, rfl⟩ (fun s' => typeIs_int s' k t) noFill_tuple_mul F.fills_int_mul F.slot_int_rmul repeat_tuple F.slot_int_index.lookup
      (call_meets F.slot_int_rmul (typeIs_int s k t) F.entry_int_rmul (F.args_int_rmul_2 _ _) (int_rmul_tuple k t l its.toArray n dd sl)
        ⟨ho, rfl, ⟨_, ho, rfl⟩, call_meets F.slot_tuple_mul ⟨_, ho, rfl⟩ F.entry_tuple_mul (F.args_tuple_mul_2 _ _) (tup_none l its.toArray n dd sl k t c0 c1 c2) ⟨ho, ?_⟩⟩)
    refine ⟨.ref s.heap.objs.size, _, I.laid (t' := s.toks) (o := .tup []) (fun b ob q => Heap.get?_push_of_some _ q) (Nat.le_refl _) ?_, rfl, q _ (I.hok.fresh (Nat.le_refl _))⟩
    exact ⟨by rw [sizeLine_eq]; simp, [], .nil, IsTup.new _ _⟩
end
/-- * of ints, a tuple times any small int -/
def oMulT : W → W → List Ob → Res W := fun x y S => match x, y with
  | .d (.tuple xs), .d (.int k) => if xs ≠ [] ∧ -1000 ≤ k ∧ k ≤ 1000 ∧ xs.length ≤ 1000 then .ok (.d (.tuple (List.replicate k.toNat xs).flatten)) S else .bad
  | x, y => oMul x y S
section
variable {X : Cx} {Wc : WX} {a b : Expr} {fa fb : FE} {pos : Pos}
theorem f_mulT : OpF X Wc (fun x y H Q => rRepS X.K x y H Q ∨ (rRepT X.K x y H Q ∨ rI CMulX (fun i j => .int (i * j)) x y H Q)) oMulT := by
  intro Fr Hd μ ρ S σ H x y v u Q r ex ey c
  unfold oMulT at c
  split at c
  · rename_i xs k
    split at c
    · rename_i hh
      obtain ⟨h0, h1, h2, h3⟩ := hh
      by_cases k2 : 2 ≤ k
      · refine .inr (f_mulA (Wc := Wc) Fr Hd μ ρ S σ H _ _ v u Q r ex ey ?_)
        have e : oMulA (.d (.tuple xs)) (.d (.int k)) S = .ok (.d (.tuple (List.replicate k.toNat xs).flatten)) S := if_pos ⟨h0, k2, h2, h3⟩
        rw [e]
        exact c
      · left
        cases ey
        have ex' := ex
        cases ex with
        | @tup a vs _ g1 g2 =>
          by_cases k1 : k = 1
          · subst k1
            have e : (List.replicate (1 : Int).toNat xs).flatten = xs := by simp
            rw [e] at c
            exact ⟨a, 1, vs, rfl, rfl, Le.sqT r.b.fr g1, .inl ⟨rfl, rt r c ex'⟩⟩
          · have e : (List.replicate k.toNat xs).flatten = [] := by rw [show k.toNat = 0 by omega]; rfl
            rw [e] at c
            exact ⟨a, k, vs, rfl, rfl, Le.sqT r.b.fr g1, .inr ⟨by omega, h1, fun z => h0 (by subst z; cases g2; rfl), fun q hq => new_tup r DpAll.nil hq c⟩⟩
    · exact c.elim
  · exact .inr (.inr (f_mul (Wc := Wc) Fr Hd μ ρ S σ H _ _ v u Q r ex ey c))
theorem q_mulT (ha : PE X a (LE X Wc fa)) (hb : PE X b (LE X Wc fb)) : PE X (.BinOp a .Mult b pos) (LE X Wc (fBin oMulT fa fb)) := q_op (OpR.or op_repS (OpR.or op_repT op_mulX)) f_mulT ha hb
@[simp] theorem e_mulT {a b : Int} {S : List Ob} : oMulT (.d (.int a)) (.d (.int b)) S = if mulC a b = true then .ok (.d (.int (a * b))) S else .bad := rfl
theorem e_mulTt {xs : List PyData} {k : Int} {S : List Ob} (h : xs ≠ [] ∧ -1000 ≤ k ∧ k ≤ 1000 ∧ xs.length ≤ 1000) : oMulT (.d (.tuple xs)) (.d (.int k)) S = .ok (.d (.tuple (List.replicate k.toNat xs).flatten)) S := if_pos h
end
end L2.Q
/-! Layer Q, part U: list comprehensions of two clauses, the second source a value. -/
namespace L2.Q
open PySem PySem.Spec PyProof.Rows
def lcL2 (own1 : List Nat) (g : FG) (t : FB) (fi1 : FA) (g1 : FG) (t1 : FB) (fe : FE) (ρ : List Sl) : List W → List Ob → Res (List W)
  | [], S => .ok [] S
  | x :: r, S => match g x ρ with
    | none => .bad
    | some ρ1 => match t ρ1 S with
      | .ok c S1 => if c = true then (match fi1 ρ1 S1 with
          | .ok xs S2 => (match lcL g1 t1 fe (unset ρ1 own1) xs S2 with
            | .ok ys S3 => (lcL2 own1 g t fi1 g1 t1 fe ρ r S3).bind fun zs S4 => .ok (ys ++ zs) S4
            | _ => .bad)
          | _ => .bad) else lcL2 own1 g t fi1 g1 t1 fe ρ r S1
      | _ => .bad
def capL (ys : List W) (S : List Ob) : Res Ob := if ys.length ≤ 1000000 then .ok (.lst ys) S else .bad
def fLc2 (fi : FA) (own own1 : List Nat) (g : FG) (t : FB) (fi1 : FA) (g1 : FG) (t1 : FB) (fe : FE) : FO := fun ρ S => (fi ρ S).bind fun xs S1 =>
  if own.any (fun i => isOwn ρ[i]?) = true then .bad else (lcL2 own1 g t fi1 g1 t1 fe (unset ρ own) xs S1).bind capL
/-- a walk by its turns, whatever a turn is -/
theorem it_any {J : It} {n : Nat} {G : Hp → Prop} {Y : Nat → Hp → V → Hp → Prop} (w : Walk J n G Y) {B : (Hp → Prop) → V → Hp → Prop} {Hs : Hp} {Qd : Hp → Prop} (Pv : Nat → Hp → Prop) (h0 : Pv 0 Hs) (hG : ∀ i H, i ≤ n → Pv i H → G H)
    (hs : ∀ i x H H', i < n → Pv i H → Y i H x H' → B (Pv (i + 1)) x H') (hd : ∀ H, Pv n H → Qd H) :
    ∃ W : Nat → Nat → Hp → Prop, (∃ m, W 0 m Hs) ∧ ∀ i m H, W i m H → (J.stop i H ∧ Qd H) ∨ (J.go i H ∧ ∃ Nx : Hp → Prop, (∀ H', Nx H' → ∃ m', m' < m ∧ W (i + 1) m' H') ∧ ∀ x H', J.yld i H x H' → B Nx x H') := by
  refine ⟨fun i m H => m = n - i ∧ i ≤ n ∧ Pv i H, ⟨n, by simp, Nat.zero_le _, h0⟩, ?_⟩
  rintro i m H ⟨rfl, hi, p⟩
  have q := hG i H hi p
  by_cases hlt : i < n
  · refine .inr ⟨w.goes i H hlt q, Pv (i + 1), fun H' p' => ⟨n - (i + 1), by omega, rfl, hlt, p'⟩, fun x H' y => hs i x H H' hlt p (w.yields i H x H' hlt q y)⟩
  · have e : i = n := by omega
    subst e
    exact .inl ⟨w.stops H q, hd H p⟩
section
variable {X : Cx} {Wc : WX} {elt tg iter tg1 iter1 : Expr} {ifs ifs1 : List Expr} {scope : Scope} {own : List (Str × Nat)} {pos : Pos} {fi : FA} {g g1 : FG} {t t1 : FB} {fe fa1 : FE}
def kSeq (K : PySem.W.Frag) (R : It → Hp → Prop) : V → Hp → Prop := fun x H1 => ∃ a, x = .ref a ∧ ((∃ xs, SqL K H1 a xs ∧ (xs.length ≤ sizeLine → R (Itl K a) H1)) ∨ (∃ xs, SqT K H1 a xs ∧ (xs.length ≤ sizeLine → R (Itt K a) H1)))
def iSeq2 (K : PySem.W.Frag) (tl : TE) : TI := fun σ H R => tl σ H (kSeq K R)
theorem pi_seq2 {tl : TE} {l : Expr} (hl : PE X l tl) : PI X tg l (iSeq2 X.K tl) := pi_seq hl
/-- a value that is walked: only frozen objects are asked of -/
theorem seq_in {K : PySem.W.Frag} {F : Hp} {m : List Addr} {ρ : List Sl} {S : List Ob} {σ : St} {Hd H : Hp} {w : W} {v : V} {xs : List W} {S2 : List Ob} (r : R K F Hd m ρ S σ H) (e : RepW K F m w v) (hs : seqOf w S = .ok xs S2) {Q : It → Hp → Prop}
    (hq : ∀ J, S2 = S → Walk J xs.length (fun H => Le F H) (Yq K F m xs) → xs.length ≤ sizeLine → Q J H) :
    kSeq K Q v H := by
  cases w with
  | ref n => cases hs
  | d x =>
    cases x with
    | tuple ds =>
      cases hs
      cases e with
      | @tup a vs _ hs ha =>
        have hw := walk_tup (K := K) (a := a) (xs := vs)
        rw [show vs.length = (ds.map W.d).length by simp [DpAll.len ha]] at hw
        exact ⟨a, rfl, .inr ⟨vs, Le.sqT r.b.fr hs, fun hz => hq _ rfl (hw.mono (fun H h => Le.sqT h hs) fun i H v H' hi _ y => yq_at (rep_dats ha) hi y) (by simpa [DpAll.len ha] using hz)⟩⟩
    | list ds =>
      cases hs
      cases e with
      | @lst a vs _ hs ha =>
        have hw := walk_list (K := K) (a := a) (xs := vs)
        rw [show vs.length = (ds.map W.d).length by simp [DpAll.len ha]] at hw
        exact ⟨a, rfl, .inl ⟨vs, Le.sqL r.b.fr hs, fun hz => hq _ rfl (hw.mono (fun H h => Le.sqL h hs) fun i H v H' hi _ y => yq_at (rep_dats ha) hi y) (by simpa [DpAll.len ha] using hz)⟩⟩
    | none => cases hs
    | bool b => cases hs
    | int i => cases hs
    | str z => cases hs
    | dict z => cases hs
theorem back1 {own : List Nat} {g : FG} (hgo : GO own g) {K : PySem.W.Frag} {F Hd H : Hp} {m : List Addr} {ρ ρ3 : List Sl} {σ σ3 : St} {S : List Ob} {x : W} (q : g x (unset ρ own) = some ρ3) (w3 : wipe σ3 own = wipe (wipe σ own) own) (r5 : R K F Hd m ρ3 S σ3 H) : R K F Hd m (unset ρ own) S (wipe σ own) H := by
  have r6 := r5.wiped own
  have e1 : unset ρ3 own = unset ρ own := by
    rw [hgo _ _ _ q]
    apply List.ext_getElem?
    intro j
    rw [unset_get, unset_len, unset_get]
    split <;> rfl
  have e2 : wipe σ3 own = wipe σ own := by
    rw [w3]
    apply List.ext_getElem?
    intro j
    rw [wipe_get, wipe_length, wipe_get]
    split <;> rfl
  rw [e1, e2] at r6
  exact r6
theorem wipe_wipe (σ : St) (own : List Nat) : wipe (wipe σ own) own = wipe σ own := by
  apply List.ext_getElem?
  intro j
  rw [wipe_get, wipe_length, wipe_get]
  split <;> rfl
theorem unset_unset (ρ : List Sl) (own : List Nat) : unset (unset ρ own) own = unset ρ own := by
  apply List.ext_getElem?
  intro j
  rw [unset_get, unset_len, unset_get]
  split <;> rfl
theorem unset_sub {ρ : List Sl} {own own1 : List Nat} (h : ∀ i ∈ own1, i ∈ own) : unset (unset ρ own1) own = unset ρ own := by
  apply List.ext_getElem?
  intro j
  by_cases hj : j ∈ own
  · simp only [unset_get, unset_len, if_pos hj]
  · simp only [unset_get, if_neg hj, if_neg fun z => hj (h j z)]
theorem wipe_sub {σ : St} {own own1 : List Nat} (h : ∀ i ∈ own1, i ∈ own) : wipe (wipe σ own1) own = wipe σ own := by
  apply List.ext_getElem?
  intro j
  by_cases hj : j ∈ own
  · simp only [wipe_get, wipe_length, if_pos hj]
  · simp only [wipe_get, if_neg hj, if_neg fun z => hj (h j z)]
theorem lc2_imp {σ : St} {H : Hp} {Q : VK} {own1 : List Nat} (hv : ∀ i ∈ own1, i ∈ own.map (·.2)) (hgo : GO (own.map (·.2)) g) (hgo1 : GO own1 g1) (h : LO X Wc (fLc2 fi (own.map (·.2)) own1 g t (fIt fa1) g1 t1 fe) σ H Q) :
    tLc2 (LI X Wc fi) (liftG X.K (own.map (·.2)) g) (LB X W0 t) (iSeq2 X.K (LE X W0 fa1)) (liftG X.K own1 g1) (LB X W0 t1) (LE X W0 fe) (own.map (·.2)) own1 σ H Q := by
  obtain ⟨F, Hd, m, ρ, S, r, c⟩ := h
  refine ⟨F, Hd, m, ρ, S, r, ?_⟩
  unfold fLc2 at c
  generalize own.map (·.2) = own at hv hgo c ⊢
  cases e : fi ρ S with
  | bad => rw [e] at c; exact c.elim
  | err z S1 => rw [e] at c; exact c
  | ok xs S1 =>
    rw [e] at c
    intro F1 Hd1 m1 H1 J l1 d1 p1 r1 wk hxs D nD
    have c : cont X.K X.mg Wc (repO X.K) F Hd m ρ σ Q (if own.any (fun i => isOwn ρ[i]?) = true then .bad else (lcL2 own1 g t (fIt fa1) g1 t1 fe (unset ρ own) xs S1).bind capL) := c
    cases hno : own.any (fun i => isOwn ρ[i]?) with
    | true => rw [if_pos hno] at c; exact c.elim
    | false =>
      rw [if_neg (by rw [hno]; exact Bool.false_ne_true)] at c
      have noerr : ∀ (xs : List W) (S : List Ob) c S', lcL2 own1 g t (fIt fa1) g1 t1 fe (unset ρ own) xs S ≠ .err c S' := by
        intro xs
        induction xs with
        | nil => intro S c S' q; cases q
        | cons x rs ih =>
          intro S c S' q
          unfold lcL2 at q
          split at q
          · cases q
          · split at q
            · split at q
              · split at q
                · split at q
                  · cases q2 : lcL2 own1 g t (fIt fa1) g1 t1 fe (unset ρ own) rs ‹List Ob› with
                    | ok a b => simp only [q2] at q; cases q
                    | err a b => exact ih _ _ _ q2
                    | bad => simp only [q2] at q; cases q
                  · cases q
                · cases q
              · exact ih _ _ _ q
            · cases q
      cases ez : lcL2 own1 g t (fIt fa1) g1 t1 fe (unset ρ own) xs S1 with
      | bad => rw [ez] at c; exact c.elim
      | err a b => exact (noerr _ _ _ _ ez).elim
      | ok zs Sz =>
      rw [ez] at c
      have c : cont X.K X.mg Wc (repO X.K) F Hd m ρ σ Q (capL zs Sz) := c
      unfold capL at c
      by_cases hz : zs.length ≤ 1000000
      case neg => rw [if_neg hz] at c; exact c.elim
      rw [if_pos hz] at c
      have hsz : ∀ n : Nat, n < 1000000 → n < sizeLine := fun n hn => by rw [sizeLine_eq]; omega
      have fD := r1.new nD
      refine it_any wk (fun i H => ∃ F2 m2 S2 ys vs rest, Le F1 F2 ∧ m1 <+: m2 ∧ R X.K F2 (upd Hd1 D (.lst vs)) m2 (unset ρ own) S2 (wipe σ own) H ∧ RepWs X.K F2 m2 ys vs ∧ ys ++ rest = zs ∧
        lcL2 own1 g t (fIt fa1) g1 t1 fe (unset ρ own) (xs.drop i) S2 = .ok rest Sz) ?_ ?_ ?_ ?_
      · refine ⟨F1, m1, S1, [], [], zs, Le.refl, List.prefix_refl m1, ?_, .nil, rfl, ez⟩
        exact ((r1.upd fD).hide upd_same fD).wiped _
      · rintro i H2 hi ⟨F2, m2, S2, ys, vs, rest, l2, p2, r2, e2, n2, c2⟩
        refine ⟨l2.trans r2.b.fr, fun a o q => (r2.b.hd a o ?_).1⟩
        rw [upd_ne (ne_of_none q fD.hd)]
        exact q
      · rintro i v H2 H3 hi ⟨F2, m2, S2, ys, vs, rest, l2, p2, r2, e2, n2, c2⟩ y
        obtain ⟨F3, x, ex, l3, r3, e3⟩ := yield_ok r2 l2 p2 y
        rw [List.drop_eq_getElem_cons hi] at c2
        have ex' : xs[i] = x := by rw [List.getElem?_eq_getElem hi] at ex; exact Option.some.inj ex
        rw [ex'] at c2
        unfold lcL2 at c2
        cases q : g x (unset ρ own) with
        | none => simp only [q] at c2; cases c2
        | some ρ3 =>
          simp only [q] at c2
          refine ⟨F3, upd Hd1 D (.lst vs), m2, unset ρ own, S2, x, r3, e3, ρ3, q, fun σ3 w3 r4 => ⟨w3.trans (wipe_wipe _ _), F3, upd Hd1 D (.lst vs), m2, ρ3, S2, r4, ?_⟩⟩
          rw [wipe_wipe] at w3
          have w3' : wipe σ3 own = wipe (wipe σ own) own := w3.trans (wipe_wipe _ _).symm
          cases q2 : t ρ3 S2 with
          | bad => simp only [q2] at c2; cases c2
          | err z S4 => simp only [q2] at c2; cases c2
          | ok b S4 =>
            simp only [q2] at c2
            rintro F4 m4 b' H4 l4 p4 r5 rfl
            cases b with
            | false =>
              rw [if_neg Bool.false_ne_true] at c2 ⊢
              exact ⟨F4, m4, S4, ys, vs, rest, l2.trans (l3.trans l4), p2.trans p4, back1 hgo q w3' r5, e2.mono (l3.trans l4) p4, n2, c2⟩
            | true =>
              rw [if_pos rfl] at c2 ⊢
              refine ⟨F4, upd Hd1 D (.lst vs), m4, ρ3, S4, r5, ?_⟩
              have hfi : fIt fa1 ρ3 S4 = (fa1 ρ3 S4).bind seqOf := rfl
              rw [hfi] at c2
              cases q3 : fa1 ρ3 S4 with
              | bad => simp only [q3] at c2; cases c2
              | err z S5 => simp only [q3] at c2; cases c2
              | ok w S5 =>
                simp only [q3, bind_ok] at c2
                cases q4 : seqOf w S5 with
                | bad => simp only [q4] at c2; cases c2
                | err z S5 => simp only [q4] at c2; cases c2
                | ok us S6 =>
                simp only [q4] at c2
                cases q5 : lcL g1 t1 fe (unset ρ3 own1) us S6 with
                | bad => simp only [q5] at c2; cases c2
                | err z S5 => simp only [q5] at c2; cases c2
                | ok os S7 =>
                simp only [q5] at c2
                cases q6 : lcL2 own1 g t (fIt fa1) g1 t1 fe (unset ρ own) (xs.drop (i + 1)) S7 with
                | bad => simp only [q6] at c2; cases c2
                | err a b => simp only [q6] at c2; cases c2
                | ok rest2 S8 =>
                have c3 : rest = os ++ rest2 ∧ Sz = S8 := by
                  simp only [q6, bind_ok] at c2
                  cases c2
                  exact ⟨rfl, rfl⟩
                obtain ⟨c3, rfl⟩ := c3
                subst c3
                intro F5 m5 v5 H5 l5 p5 r6 e6
                refine seq_in r6 e6 q4 fun J1 hS wk1 hus => ?_
                subst hS
                refine it_any wk1 (fun j H => ∃ F6 m6 S6 ys2 vs2 rest3, Le F5 F6 ∧ m5 <+: m6 ∧ R X.K F6 (upd Hd1 D (.lst vs2)) m6 (unset ρ3 own1) S6 (wipe σ3 own1) H ∧ RepWs X.K F6 m6 ys2 vs2 ∧ ys2 ++ rest3 = ys ++ os ∧
                  lcL g1 t1 fe (unset ρ3 own1) (us.drop j) S6 = .ok rest3 S7) ?_ ?_ ?_ ?_
                · exact ⟨F5, m5, S6, ys, vs, os, Le.refl, List.prefix_refl m5, r6.wiped _, e2.mono (l3.trans (l4.trans l5)) (p4.trans p5), rfl, q5⟩
                · rintro j H6 hj ⟨F6, m6, S9, ys2, vs2, rest3, l6, p6, r7, e7, n7, c7⟩
                  exact l6.trans r7.b.fr
                · rintro j v7 H6 H7 hj ⟨F6, m6, S9, ys2, vs2, rest3, l6, p6, r7, e7, n7, c7⟩ y7
                  obtain ⟨F7, x7, ex7, l7, r8, e8⟩ := yield_ok r7 l6 p6 y7
                  rw [List.drop_eq_getElem_cons hj] at c7
                  have ex7' : us[j] = x7 := by rw [List.getElem?_eq_getElem hj] at ex7; exact Option.some.inj ex7
                  rw [ex7'] at c7
                  unfold lcL at c7
                  cases k1 : g1 x7 (unset ρ3 own1) with
                  | none => simp only [k1] at c7; cases c7
                  | some ρ7 =>
                  simp only [k1] at c7
                  refine ⟨F7, upd Hd1 D (.lst vs2), m6, unset ρ3 own1, S9, x7, r8, e8, ρ7, k1, fun σ7 w7 r9 => ⟨w7.trans (wipe_wipe _ _), F7, upd Hd1 D (.lst vs2), m6, ρ7, S9, r9, ?_⟩⟩
                  cases k2 : t1 ρ7 S9 with
                  | bad => simp only [k2] at c7; cases c7
                  | err z S4 => simp only [k2] at c7; cases c7
                  | ok b S10 =>
                  simp only [k2] at c7
                  rintro F8 m8 b' H8 l8 p8 r10 rfl
                  cases b with
                  | false =>
                    rw [if_neg Bool.false_ne_true] at c7 ⊢
                    exact ⟨F8, m8, S10, ys2, vs2, rest3, l6.trans (l7.trans l8), p6.trans p8, back1 hgo1 k1 w7 r10, e7.mono (l7.trans l8) p8, n7, c7⟩
                  | true =>
                    rw [if_pos rfl] at c7 ⊢
                    refine ⟨F8, upd Hd1 D (.lst vs2), m8, ρ7, S10, r10, ?_⟩
                    cases k3 : fe ρ7 S10 with
                    | bad => simp only [k3] at c7; cases c7
                    | err z S5 => simp only [k3] at c7; cases c7
                    | ok w9 S11 =>
                    simp only [k3] at c7
                    cases k4 : lcL g1 t1 fe (unset ρ3 own1) (us.drop (j + 1)) S11 with
                    | bad => simp only [k4] at c7; cases c7
                    | err a b => simp only [k4] at c7; cases c7
                    | ok rest4 S12 =>
                    simp only [k4, bind_ok] at c7
                    cases c7
                    intro F9 m9 v9 H9 l9 p9 r11 e9
                    have hlv := Paired.length e7
                    have hcap : vs2.length < 1000000 := by
                      have a1 : zs.length = ys.length + (os.length + rest2.length) := by rw [← n2]; simp
                      have a2 : ys2.length + (rest4.length + 1) = ys.length + os.length := by
                        have := congrArg List.length n7
                        simpa using this
                      omega
                    refine ⟨vs2, (r11.b.hd D _ upd_same).1, hsz _ hcap, F9, m9, S11, ys2 ++ [w9], vs2 ++ [v9], rest4, l6.trans (l7.trans (l8.trans l9)), p6.trans (p8.trans p9), hide_upd (back1 hgo1 k1 w7 r11) fD.hd, ?_, by rw [← n7]; simp, k4⟩
                    exact Paired.snoc (e7.mono (l7.trans (l8.trans l9)) (p8.trans p9)) e9
                · rintro H6 ⟨F6, m6, S9, ys2, vs2, rest3, l6, p6, r7, e7, n7, c7⟩
                  rw [List.drop_length] at c7
                  cases c7
                  rw [List.append_nil] at n7
                  refine ⟨F6, m6, S7, ys2, vs2, rest2, l2.trans (l3.trans (l4.trans (l5.trans l6))), p2.trans (p4.trans (p5.trans p6)), ?_, e7, by rw [n7, ← n2]; simp, q6⟩
                  have r8 := r7.wiped own
                  rw [unset_sub hv, wipe_sub hv] at r8
                  have e1 : unset ρ3 own = unset ρ own := by rw [hgo _ _ _ q, unset_unset]
                  rw [e1, w3] at r8
                  exact r8
      · rintro H2 ⟨F2, m2, S2, ys, vs, rest, l2, p2, r2, e2, n2, c2⟩
        rw [List.drop_length] at c2
        cases c2
        rw [List.append_nil] at n2
        subst n2
        obtain ⟨h1, h2⟩ := r2.b.hd D _ upd_same
        have r3 : R X.K F2 Hd1 m2 (unset ρ own) Sz (wipe σ own) H2 := r2.unhide (Le.upd fD.hd)
        have r4 := R.unwipe r1 hno l2 p2 r3
        have r5 := r4.unhide d1
        have hm : D ∉ m2 := fun hm => by
          obtain ⟨_, _, _, h4, _⟩ := r2.b.muH hm
          rw [upd_same] at h4; cases h4
        have ho : ∀ i, ¬ Owns ρ σ i D := fun i q => by
          obtain ⟨_, h3, _⟩ := r1.owns q
          rw [nD] at h3; cases h3
        exact c F2 m2 (.ref D) H2 (l1.trans l2) (p1.trans p2) r5 ⟨D, .lst vs, rfl, h1, ⟨vs, rfl, e2⟩, h2, none_le d1 fD.hd, hm, ho⟩
/-- [elt for tg in iter if .. for tg1 in iter1 if ..], a new list; iter1 a value -/
theorem q_lc2 {own1 : List Nat} (hc : X.calm = true) (hN : X.N.Nodup) (hgo : GO (own.map (·.2)) g) (hgo1 : GO own1 g1) (hv : ∀ i ∈ own1, i ∈ own.map (·.2)) (hi : PI X tg iter (LI X Wc fi)) (ok : BlkOk X.N X.env.scope scope own)
    (hg : ∀ (s : Shared) (H : Hp) (C : Addr) (cl : List (Str × Addr)) (fp : List Addr), PG (X.blk s H scope (compEnvC scope cl C X.env) fp) tg (liftG X.K (own.map (·.2)) g))
    (ht : ∀ (s : Shared) (H : Hp) (C : Addr) (cl : List (Str × Addr)) (fp : List Addr), PTs (X.blk s H scope (compEnvC scope cl C X.env) fp) ifs (LB X W0 t))
    (hi1 : ∀ (s : Shared) (H : Hp) (C : Addr) (cl : List (Str × Addr)) (fp : List Addr), PE (X.blk s H scope (compEnvC scope cl C X.env) fp) iter1 (LE X W0 fa1))
    (hg1 : ∀ (s : Shared) (H : Hp) (C : Addr) (cl : List (Str × Addr)) (fp : List Addr), PG (X.blk s H scope (compEnvC scope cl C X.env) fp) tg1 (liftG X.K own1 g1))
    (ht1 : ∀ (s : Shared) (H : Hp) (C : Addr) (cl : List (Str × Addr)) (fp : List Addr), PTs (X.blk s H scope (compEnvC scope cl C X.env) fp) ifs1 (LB X W0 t1))
    (he : ∀ (s : Shared) (H : Hp) (C : Addr) (cl : List (Str × Addr)) (fp : List Addr), PE (X.blk s H scope (compEnvC scope cl C X.env) fp) elt (LE X W0 fe)) (hs : ∀ x, foldedSetIterable iter X.env x = pure x := by intro _; rfl) (hs1 : ∀ env x, foldedSetIterable iter1 env x = pure x := by intro _ _; rfl) :
    PE X (.ListComp elt [⟨tg, iter, ifs, 0⟩, ⟨tg1, iter1, ifs1, 0⟩] scope pos) (LO X Wc (fLc2 fi (own.map (·.2)) own1 g t (fIt fa1) g1 t1 fe)) := PE.imp (pe_lc2 hc hN hi ok hv hg ht (fun s H C cl fp => pi_seq2 (hi1 s H C cl fp)) hg1 ht1 he hs hs1) fun _ _ _ h => lc2_imp hv hgo hgo1 h
theorem s_setLc2 {own1 : List Nat} {i : Nat} {y : Str} {py spos : Pos} (hc : X.calm = true) (hN : X.N.Nodup) (hy : X.N[i]? = some y) (hyl : X.env.scope.names.lookup y = some .local)
    (hsw : swapsWith (.ListComp elt [⟨tg, iter, ifs, 0⟩, ⟨tg1, iter1, ifs1, 0⟩] scope pos) (some (.Name y py)) spos.line X.env = pure true) (hgo : GO (own.map (·.2)) g) (hgo1 : GO own1 g1) (hv : ∀ i ∈ own1, i ∈ own.map (·.2)) (hi : PI X tg iter (LI X Wc fi)) (ok : BlkOk X.N X.env.scope scope own)
    (hg : ∀ (s : Shared) (H : Hp) (C : Addr) (cl : List (Str × Addr)) (fp : List Addr), PG (X.blk s H scope (compEnvC scope cl C X.env) fp) tg (liftG X.K (own.map (·.2)) g))
    (ht : ∀ (s : Shared) (H : Hp) (C : Addr) (cl : List (Str × Addr)) (fp : List Addr), PTs (X.blk s H scope (compEnvC scope cl C X.env) fp) ifs (LB X W0 t))
    (hi1 : ∀ (s : Shared) (H : Hp) (C : Addr) (cl : List (Str × Addr)) (fp : List Addr), PE (X.blk s H scope (compEnvC scope cl C X.env) fp) iter1 (LE X W0 fa1))
    (hg1 : ∀ (s : Shared) (H : Hp) (C : Addr) (cl : List (Str × Addr)) (fp : List Addr), PG (X.blk s H scope (compEnvC scope cl C X.env) fp) tg1 (liftG X.K own1 g1))
    (ht1 : ∀ (s : Shared) (H : Hp) (C : Addr) (cl : List (Str × Addr)) (fp : List Addr), PTs (X.blk s H scope (compEnvC scope cl C X.env) fp) ifs1 (LB X W0 t1))
    (he : ∀ (s : Shared) (H : Hp) (C : Addr) (cl : List (Str × Addr)) (fp : List Addr), PE (X.blk s H scope (compEnvC scope cl C X.env) fp) elt (LE X W0 fe)) (hs : ∀ x, foldedSetIterable iter X.env x = pure x := by intro _; rfl) (hs1 : ∀ env x, foldedSetIterable iter1 env x = pure x := by intro _ _; rfl) :
    PS X (.Assign [.Name y py] (.ListComp elt [⟨tg, iter, ifs, 0⟩, ⟨tg1, iter1, ifs1, 0⟩] scope pos) spos) (LS X Wc (fSetO i (fLc2 fi (own.map (·.2)) own1 g t (fIt fa1) g1 t1 fe))) := PS.imp (ps_setLc2 hc hN hy hyl hsw hi ok hv hg ht (fun s H C cl fp => pi_seq2 (hi1 s H C cl fp)) hg1 ht1 he hs hs1) fun D σ H h => by
  have q := setO_imp h
  exact lc2_imp hv hgo hgo1 q
end
section
variable {ρ : List Sl} {S S' : List Ob} {fi : FA} {xs : List W}
/-- what a comprehension of two clauses gives, when nothing changes the store -/
theorem lc2_pure (own1 : List Nat) (g : FG) (t : FB) (fi1 : FA) (g1 : FG) (t1 : FB) (fe : FE) (ρ : List Sl) (S : List Ob) (p : W → Bool) (y : W → List W) : ∀ xs : List W, (∀ x ∈ xs, ∃ ρ1, g x ρ = some ρ1 ∧ t ρ1 S = .ok (p x) S ∧ (p x = true → ∃ us, fi1 ρ1 S = .ok us S ∧ lcL g1 t1 fe (unset ρ1 own1) us S = .ok (y x) S)) → lcL2 own1 g t fi1 g1 t1 fe ρ xs S = .ok ((xs.filter p).flatMap y) S
  | [], _ => rfl
  | x :: r, h => by
    obtain ⟨ρ1, e1, e2, e3⟩ := h x (List.mem_cons_self ..)
    have ih := lc2_pure own1 g t fi1 g1 t1 fe ρ S p y r fun z hz => h z (List.mem_cons_of_mem _ hz)
    unfold lcL2
    simp only [e1, e2]
    cases q : p x with
    | true =>
      obtain ⟨us, e4, e5⟩ := e3 q
      simp only [e4, e5, if_true, ih, e_ok, List.filter_cons_of_pos q, List.flatMap_cons]
    | false => simp only [Bool.false_eq_true, if_false, ih]; rw [List.filter_cons_of_neg (by rw [q]; exact Bool.false_ne_true)]
theorem e_Lc2 (own own1 : List Nat) (g : FG) (t : FB) (fi1 : FA) (g1 : FG) (t1 : FB) (fe : FE) (h : fi ρ S = .ok xs S') (ho : own.any (fun i => isOwn ρ[i]?) = false) : fLc2 fi own own1 g t fi1 g1 t1 fe ρ S = (lcL2 own1 g t fi1 g1 t1 fe (unset ρ own) xs S').bind capL := by
  unfold fLc2; rw [h]; simp only [e_ok, ho, Bool.false_eq_true, if_false]
theorem e_cap {ys : List W} (h : ys.length ≤ 1000000) : capL ys S = .ok (.lst ys) S := if_pos h
end
end L2.Q
/-! Layer Q, part V: reversed(..) walked. -/
namespace L2.Q
open PySem PySem.Spec PyProof.Rows RT
section
variable {X : Cx} {Wc : WX} {e tg : Expr} {fa : FE} {p p2 pos : Pos}
/-! ### reversed(x), walked -/
def revOf (x : W) (S : List Ob) : Res (List W) := match x with
  | .d (.tuple xs) => if xs.length ≤ 1000000 then .ok (xs.reverse.map .d) S else .bad
  | .d (.list xs) => if xs.length ≤ 1000000 then .ok (xs.reverse.map .d) S else .bad
  | _ => .bad
def fRevA (fa : FE) : FA := fun ρ S => (fa ρ S).bind revOf
theorem walk_revT {K : PySem.W.Frag} {a : Addr} {xs : List V} : Walk (ItvT K a xs.length) xs.length (fun H => SqT K H a xs) (fun i H x H' => H' = H ∧ xs[xs.length - 1 - i]? = some x) :=
  ⟨fun i _ hi q => ⟨hi, xs, xs[xs.length - 1 - i]'(by omega), q, by simp [show xs.length - 1 - i < xs.length by omega]⟩, fun _ _ => Nat.le_refl _, fun _ _ _ _ _ q y => ⟨y.1, y.2 xs q⟩⟩
theorem yq_rev {K : PySem.W.Frag} {Fr : Hp} {μ : List Addr} {ds : List PyData} {vs : List V} (ha : DpAll K Fr vs ds) {i : Nat} {H : Hp} {v : V} {H' : Hp} (hi : i < vs.length) (y : H' = H ∧ vs[vs.length - 1 - i]? = some v) : Yq K Fr μ (ds.reverse.map .d) i H v H' := by
  obtain ⟨e1, e2⟩ := y
  have el := DpAll.len ha
  have hj : vs.length - 1 - i < (ds.map W.d).length := by rw [List.length_map]; omega
  obtain ⟨v', e, q⟩ := paired_get (rep_dats (μ := μ) ha) (List.getElem?_eq_getElem hj)
  rw [e] at e2
  cases e2
  refine ⟨_, ?_, .inl ⟨e1, q⟩⟩
  have hi2 : i < ds.length := by omega
  rw [List.getElem?_map, List.getElem?_reverse hi2, show ds.length - 1 - i = vs.length - 1 - i by omega, ← List.getElem?_map]
  exact List.getElem?_eq_getElem hj
theorem i_revA (hg : Gl X "reversed") (hm : X.mg "reversed" = none) (h : PE X e (LE X Wc fa)) (hs : starEach [e] X.env = (false, eval e X.env) :: starEach [] X.env := by rfl) : PI X tg (.Call (.Name "reversed" p) [e] [] pos) (LI X Wc (fRevA fa)) := PI.imp (pi_revA hg hm h hs) fun σ H Q h => by
  obtain ⟨F, Hd, m, ρ, S, r, c⟩ := h
  refine stepI r c fun F1 m1 x v S1 H1 l1 p1 r1 e1 c1 => ?_
  cases x with
  | ref n => exact c1.elim
  | d x =>
    cases x with
    | tuple xs =>
      cases e1 with
      | @tup a vs _ hs ha =>
        unfold revOf at c1
        dsimp only at c1
        split at c1
        · rename_i hl
          have el := DpAll.len ha
          have ee : vs.length = (xs.reverse.map W.d).length := by simp [el]
          have hw := walk_revT (K := X.K) (a := a) (xs := vs)
          refine ⟨a, vs, rfl, .inr ⟨Le.sqT r1.b.fr hs, c1 F1 Hd m1 H1 _ Le.refl Le.refl (List.prefix_refl m1) r1 ?_ (by rw [sizeLine_eq]; simp; omega)⟩⟩
          rw [← ee]
          exact hw.mono (fun H h => Le.sqT h.1 hs) fun i H v H' hi _ y => yq_rev ha hi y
        · exact c1.elim
    | list xs =>
      cases e1 with
      | @lst a vs _ hs ha =>
        unfold revOf at c1
        dsimp only at c1
        split at c1
        · rename_i hl
          have el := DpAll.len ha
          have ee : vs.length = (xs.reverse.map W.d).length := by simp [el]
          have hw := walk_rev (K := X.K) (a := a) (xs := vs)
          refine ⟨a, vs, rfl, .inl ⟨Le.sqL r1.b.fr hs, c1 F1 Hd m1 H1 _ Le.refl Le.refl (List.prefix_refl m1) r1 ?_ (by rw [sizeLine_eq]; simp; omega)⟩⟩
          rw [← ee]
          exact hw.mono (fun H h => Le.sqL h.1 hs) fun i H v H' hi _ y => yq_rev ha hi y
        · exact c1.elim
    | none => exact c1.elim
    | bool b => exact c1.elim
    | int i => exact c1.elim
    | str z => exact c1.elim
    | dict z => exact c1.elim
/-! ### a slice of a list in the store -/
def cutOfS (x : W) (lo hi : Option Int) (S : List Ob) : Res W := match x with
  | .ref n => (match S[n]? with
    | some (.lst xs) => (match dats xs with
      | some ds => .ok (.d (.list (cut ds lo hi))) S
      | none => .bad)
    | _ => .bad)
  | _ => .bad
def fCutS (fa : FE) (fl fh : FP) : FE := fun ρ S => (fa ρ S).bind fun x S1 => (fl ρ S1).bind fun lo S2 => (fh ρ S2).bind fun hi S3 => cutOfS x lo hi S3
theorem q_cutS {a : Expr} {lo hi : Option Expr} {flo fhi : FP} (ha : PE X a (LE X Wc fa)) (hl : PO X lo (LP X Wc flo)) (hh : PO X hi (LP X Wc fhi)) : PE X (.Subscript a (.Slice lo hi none p2) pos) (LE X Wc (fCutS fa flo fhi)) :=
  PE.imp (pe_slice (SlR.or sl_tupA (SlR.or sl_list sl_str)) ha hl hh) fun σ H Q h => by
  obtain ⟨F, D, m, ρ, S, r0, c⟩ := h
  refine step r0 c fun F1 m1 x v S1 H1 l1 p1 r1 e1 c1 => ?_
  refine step r1 c1 fun F2 m2 lo u S2 H2 l2 p2 r2 e2 c2 => ?_
  cases e2
  refine step r2 c2 fun F3 m3 hi u S3 H3 l3 p3 r3 e3 c3 => ?_
  cases e3
  have e1 := RepW.mono (l2.trans l3) (p2.trans p3) e1
  cases x with
  | d x => exact c3.elim
  | ref n =>
    obtain ⟨a, ea, rfl⟩ := e1
    unfold cutOfS at c3
    dsimp only at c3
    split at c3
    · rename_i xs es
      split at c3
      · rename_i ds hds
        obtain ⟨ho, h1, ⟨vs, rfl, h2⟩, _⟩ := r3.b.st n a _ ea es
        exact .inr (.inl ⟨a, vs, rfl, .inl (.inl h1), fun q hq => new_lstV r3 (dps_cut lo hi (dats_rep hds h2)) hq c3⟩)
      · exact c3.elim
    · exact c3.elim
end
section
variable {ρ : List Sl} {S : List Ob} {fa : FE}
@[simp] theorem e_CutS (fl fh : FP) : fCutS fa fl fh ρ S = (fa ρ S).bind fun x S1 => (fl ρ S1).bind fun lo S2 => (fh ρ S2).bind fun hi S3 => cutOfS x lo hi S3 := rfl
theorem e_cutOfS {n : Nat} {ds : List PyData} {lo hi : Option Int} (h : S[n]? = some (.lst (ds.map .d))) : cutOfS (.ref n) lo hi S = .ok (.d (.list (cut ds lo hi))) S := by
  unfold cutOfS
  dsimp only
  rw [h]
  dsimp only
  rw [e_datsm]
@[simp] theorem e_RevA : fRevA fa ρ S = (fa ρ S).bind revOf := rfl
theorem e_revOf {xs : List PyData} (h : xs.length ≤ 1000000) : revOf (.d (.tuple xs)) S = .ok (xs.reverse.map .d) S := if_pos h
end
end L2.Q
/-! Layer Q, part W: dicts of the store (that change, that no longer change), loops over what no longer changes. -/
namespace L2.Q
open PySem PySem.Spec PyProof.Rows
section
variable {X : Cx} {Wc : WX} {o e b tg : Expr} {fa fb fc : FE} {pos apos cpos : Pos}
def dctS (x : W) (S : List Ob) : Option (List (Key × W)) := match x with
  | .ref n => (match S[n]? with
    | some (.dct kvs) => some kvs
    | some (.fdc kvs) => some kvs
    | _ => none)
  | _ => none
theorem dctS_rep {Fr Hd : Hp} {μ : List Addr} {ρ : List Sl} {S : List Ob} {σ : St} {H : Hp} (r : R X.K Fr Hd μ ρ S σ H) {x : W} {v : V} {kvs : List (Key × W)} (h : dctS x S = some kvs) (e : RepW X.K Fr μ x v) :
    ∃ a vs, v = .ref a ∧ Rd H a (.dK vs) ∧ RepKV X.K Fr μ kvs vs := by
  cases x with
  | d x => cases h
  | ref n =>
    obtain ⟨a, ea, rfl⟩ := e
    unfold dctS at h
    dsimp only at h
    split at h
    · rename_i ys es
      cases h
      obtain ⟨ho, h1, ⟨vs, rfl, q⟩, _⟩ := r.b.st n a _ ea es
      exact ⟨a, vs, rfl, .inl h1, q⟩
    · rename_i ys es
      cases h
      obtain ⟨ho, h1, ⟨od, vs, rfl, q⟩, _⟩ := r.b.st n a _ ea es
      exact ⟨a, vs, rfl, .inr ⟨od, h1⟩, q⟩
    · cases h
theorem DGet.rd {H : Hp} {a : Addr} {kvs : List (Key × V)} {k : Key} (e : Rd H a (.dK kvs)) : DGet H a (kV k) (valV kvs k) := .inl ⟨kvs, k, e, rfl, rfl⟩
/-- d[e] -/
def getS (x y : W) (S : List Ob) : Res W := match dctS x S with
  | some kvs => getD kvs y S
  | none => .bad
def fSget (fa fb : FE) : FE := fun ρ S => (fa ρ S).bind fun x S1 => (fb ρ S1).bind fun y S2 => getS x y S2
theorem q_sget (hu : X.A.units + 1 < cLine) (ha : PE X o (LE X Wc fa)) (hb : PE X b (LE X Wc fb)) (hs : NoSl b := by exact fun _ _ => rfl) : PE X (.Subscript o b pos) (LE X Wc (fSget fa fb)) := PE.imp (pe_dget hu ha hb hs) fun σ H Q h => by
  obtain ⟨F, D, m, ρ, S, r, c⟩ := h
  refine step r c fun F1 m1 x v S1 H1 l1 p1 r1 ex c1 => ?_
  refine step r1 c1 fun F2 m2 y u S2 H2 l2 p2 r2 ey c2 => ?_
  unfold getS at c2
  split at c2
  · rename_i kvs hd
    obtain ⟨a, vs, rfl, h1, q1⟩ := dctS_rep r2 hd (RepW.mono l2 p2 ex)
    unfold getD at c2
    split at c2
    · rename_i k hk
      split at c2
      · rename_i z hz
        rcases valW_rep (k := k) q1 with ⟨e1, _⟩ | ⟨x', v', e1, e2, e3⟩
        · rw [hz] at e1; cases e1
        · rw [hz] at e1
          cases e1
          rw [keyOf_rep hk ey]
          exact ⟨a, v', rfl, e2 ▸ DGet.rd h1, rt r2 c2 e3⟩
      · exact c2.elim
    · exact c2.elim
  · exact c2.elim
/-- d.get(e) -/
def get1S (x y : W) (S : List Ob) : Res W := match dctS x S, keyOf y with
  | some kvs, some k => .ok ((valW kvs k).getD (.d .none)) S
  | _, _ => .bad
def fSget1 (fa fb : FE) : FE := fun ρ S => (fa ρ S).bind fun x S1 => if (dctS x S1).isSome = true then (fb ρ S1).bind fun y S2 => get1S x y S2 else .bad
theorem isD_rd {H : Hp} {a : Addr} {vs : List (Key × V)} (h : Rd H a (.dK vs)) : IsD H a := .inl ⟨vs, h⟩
theorem q_sget1 (hu : X.A.units + 1 < cLine) (ha : PE X o (LE X Wc fa)) (hb : PE X b (LE X Wc fb)) (m : M1 X o "get" apos b cpos := by exact ⟨rfl, rfl, rfl, rfl⟩) : PE X (.Call (.Attribute o "get" apos) [b] [] cpos) (LE X Wc (fSget1 fa fb)) := PE.imp (pe_dget1 hu ha hb m) fun σ H Q h => by
  obtain ⟨F, D, m, ρ, S, r, c⟩ := h
  refine step r c fun F1 m1 x v S1 H1 l1 p1 r1 ex c1 => ?_
  split at c1
  · rename_i hi
    obtain ⟨kv0, hd0⟩ := Option.isSome_iff_exists.mp hi
    obtain ⟨a, vs0, rfl, h0, _⟩ := dctS_rep r1 hd0 ex
    refine ⟨a, rfl, isD_rd h0, ?_⟩
    refine step r1 c1 fun F2 m2 y u S2 H2 l2 p2 r2 ey c2 => ?_
    unfold get1S at c2
    split at c2
    · rename_i kvs k hd hk
      obtain ⟨a', vs, ea, h1, q1⟩ := dctS_rep r2 hd (RepW.mono l2 p2 ex)
      cases ea
      rw [keyOf_rep hk ey]
      refine ⟨_, DGet.rd h1, ?_⟩
      rcases valW_rep (k := k) q1 with ⟨e1, e2⟩ | ⟨x', v', e1, e2, e3⟩
      · rw [e2]; rw [e1] at c2; exact rt r2 c2 Dp.non
      · rw [e2]; rw [e1] at c2; exact rt r2 c2 e3
    · exact c2.elim
  · exact c1.elim
/-- d.get(e, f) -/
def get2S (x y z : W) (S : List Ob) : Res W := match dctS x S, keyOf y with
  | some kvs, some k => .ok ((valW kvs k).getD z) S
  | _, _ => .bad
def fSget2 (fa fb fc : FE) : FE := fun ρ S => (fa ρ S).bind fun x S1 => if (dctS x S1).isSome = true then (fb ρ S1).bind fun y S2 => (fc ρ S2).bind fun z S3 => get2S x y z S3 else .bad
theorem q_sget2 (hu : X.A.units + 1 < cLine) (ha : PE X o (LE X Wc fa)) (hb : PE X b (LE X Wc fb)) (hc : PE X e (LE X Wc fc)) (m : M2 X o "get" apos b e cpos := by exact ⟨rfl, rfl, rfl, rfl⟩) : PE X (.Call (.Attribute o "get" apos) [b, e] [] cpos) (LE X Wc (fSget2 fa fb fc)) := PE.imp (pe_dget2 hu ha hb hc m) fun σ H Q h => by
  obtain ⟨F, D, m, ρ, S, r, c⟩ := h
  refine step r c fun F1 m1 x v S1 H1 l1 p1 r1 ex c1 => ?_
  split at c1
  · rename_i hi
    obtain ⟨kv0, hd0⟩ := Option.isSome_iff_exists.mp hi
    obtain ⟨a, vs0, rfl, h0, _⟩ := dctS_rep r1 hd0 ex
    refine ⟨a, rfl, isD_rd h0, ?_⟩
    refine step r1 c1 fun F2 m2 y u S2 H2 l2 p2 r2 ey c2 => ?_
    refine step r2 c2 fun F3 m3 z w S3 H3 l3 p3 r3 ez c3 => ?_
    unfold get2S at c3
    split at c3
    · rename_i kvs k hd hk
      obtain ⟨a', vs, ea, h1, q1⟩ := dctS_rep r3 hd (RepW.mono (l2.trans l3) (List.IsPrefix.trans p2 p3) ex)
      cases ea
      rw [keyOf_rep hk ey]
      refine ⟨_, DGet.rd h1, ?_⟩
      rcases valW_rep (k := k) q1 with ⟨e1, e2⟩ | ⟨x', v', e1, e2, e3⟩
      · rw [e2]; rw [e1] at c3; exact rt r3 c3 ez
      · rw [e2]; rw [e1] at c3; exact rt r3 c3 e3
    · exact c3.elim
  · exact c1.elim
/-- e in d, e not in d -/
def inS (neg : Bool) (y x : W) (S : List Ob) : Res W := match dctS x S, keyOf y with
  | some kvs, some k => .ok (.d (.bool (neg ^^ (valW kvs k).isSome))) S
  | _, _ => .bad
def fSin (neg : Bool) (fb fa : FE) : FE := fun ρ S => (fb ρ S).bind fun y S1 => (fa ρ S1).bind fun x S2 => inS neg y x S2
theorem sin_imp {neg : Bool} {σ : St} {H : Hp} {Q : VK} (h : LE X Wc (fSin neg fb fa) σ H Q) : LE X Wc fb σ H fun y H1 => LE X Wc fa σ H1 fun x H2 => ∃ a o, x = .ref a ∧ DGet H2 a y o ∧ Q (.bl (neg ^^ o.isSome)) H2 := by
  obtain ⟨F, D, m, ρ, S, r, c⟩ := h
  refine step r c fun F1 m1 y u S1 H1 l1 p1 r1 ey c1 => ?_
  refine step r1 c1 fun F2 m2 x v S2 H2 l2 p2 r2 ex c2 => ?_
  unfold inS at c2
  split at c2
  · rename_i kvs k hd hk
    obtain ⟨a, vs, rfl, h1, q1⟩ := dctS_rep r2 hd ex
    refine ⟨a, valV vs k, rfl, ?_, ?_⟩
    · rw [keyOf_rep hk ey]; exact DGet.rd h1
    · rcases valW_rep (k := k) q1 with ⟨e1, e2⟩ | ⟨x', v', e1, e2, e3⟩
      · rw [e2]; rw [e1] at c2; exact rt r2 c2 (Dp.bl _)
      · rw [e2]; rw [e1] at c2; exact rt r2 c2 (Dp.bl _)
  · exact c2.elim
theorem q_sin (hu : X.A.units + 1 < cLine) (hb : PE X b (LE X Wc fb)) (ha : PE X o (LE X Wc fa)) (hm : behindInMarks .In o = false := by rfl) : PE X (.Compare b [.In] [o] pos) (LE X Wc (fSin false fb fa)) := PE.imp (pe_cmp (pc_din hu hb ha) hm) fun σ H Q h => by
  have := sin_imp h
  simp only [Bool.false_xor] at this
  exact this
theorem q_snotin (hu : X.A.units + 1 < cLine) (hb : PE X b (LE X Wc fb)) (ha : PE X o (LE X Wc fa)) (hm : behindInMarks .NotIn o = false := by rfl) : PE X (.Compare b [.NotIn] [o] pos) (LE X Wc (fSin true fb fa)) := PE.imp (pe_cmp (pc_dnotin hu hb ha) hm) fun σ H Q h => by
  have := sin_imp h
  simp only [Bool.true_xor] at this
  exact this
theorem t_sin (hu : X.A.units + 1 < cLine) (hb : PE X b (LE X Wc fb)) (ha : PE X o (LE X Wc fa)) (hm : behindInMarks .In o = false := by rfl) : PT X (.Compare b [.In] [o] pos) (LB X Wc (fT (fSin false fb fa))) := PT.imp (pt_cmp (pc_din hu hb ha) hm) fun σ H Q h => by
  have := sin_imp (t_imp h)
  simp only [Bool.false_xor] at this
  exact this
theorem t_snotin (hu : X.A.units + 1 < cLine) (hb : PE X b (LE X Wc fb)) (ha : PE X o (LE X Wc fa)) (hm : behindInMarks .NotIn o = false := by rfl) : PT X (.Compare b [.NotIn] [o] pos) (LB X Wc (fT (fSin true fb fa))) := PT.imp (pt_cmp (pc_dnotin hu hb ha) hm) fun σ H Q h => by
  have := sin_imp (t_imp h)
  simp only [Bool.true_xor] at this
  exact this
/-- d[e] = v -/
def putS (v x y : W) (ρ : List Sl) (S : List Ob) : Fl := match x with
  | .ref n => (match S[n]?, keyOf y with
    | some (.dct kvs), some k => if kvs.length < 16777216 then .nx ρ (S.set n (.dct (putW kvs k v))) else .bad
    | _, _ => .bad)
  | _ => .bad
def fSput (fv fx fy : FE) : FT := fun ρ S => fl (fv ρ S) ρ fun v S1 => fl (fx ρ S1) ρ fun x S2 => fl (fy ρ S2) ρ fun y S3 => putS v x y ρ S3
theorem s_sput {value : Expr} {pos' : Pos} {fv : FE} (hu : X.A.units + 1 < cLine) (ho : PE X o (LE X Wc fa)) (hk : PE X e (LE X Wc fb)) (hv : PE X value (LE X Wc fv)) (hs : swapsWith value (some (.Subscript o e pos')) pos.line X.env = pure false := by rfl) :
    PS X (.Assign [.Subscript o e pos'] value pos) (LS X Wc (fSput fv fa fb)) := PS.imp (ps_dput hu ho hk hv hs) fun D σ H h => by
  obtain ⟨F, Hd, m, ρ, S, r, c⟩ := h
  refine stepS r c fun F1 m1 v vv S1 H1 l1 p1 r1 e1 c1 => ?_
  refine stepS r1 c1 fun F2 m2 x w S2 H2 l2 p2 r2 e2 c2 => ?_
  refine stepS r2 c2 fun F3 m3 y u S3 H3 l3 p3 r3 e3 c3 => ?_
  cases x with
  | d x => exact c3.elim
  | ref n =>
    obtain ⟨a, ea, rfl⟩ := RepW.mono l3 p3 e2
    unfold putS at c3
    dsimp only at c3
    split at c3
    · rename_i kvs k es hk
      split at c3
      · rename_i hl
        obtain ⟨ho, h1, ⟨vs, rfl, q⟩, hfr, _⟩ := r3.b.st n a _ ea es
        have el := Paired.length q
        rw [keyOf_rep hk e3]
        exact ⟨a, _, rfl, DPut.k h1 (by rw [sizeLine_eq]; omega), c3 F3 m3 σ _ Le.refl (List.prefix_refl m3) (r3.put ea hfr ⟨_, rfl, putW_rep (RepW.mono (l2.trans l3) (List.IsPrefix.trans p2 p3) e1) q⟩)⟩
      · exact c3.elim
    · exact c3.elim
/-- x not in xs -/
def oNIn : W → W → List Ob → Res W := fun x y S => match x, y with
  | .d x, .d y => (match itemsD y with
    | some ds => if flatD x && ds.all flatD then .ok (.d (.bool (!inD x ds))) S else .bad
    | none => .bad)
  | _, _ => .bad
theorem f_nin : OpF X Wc (rIn X.K true) oNIn := by
  intro Fr Hd μ ρ S σ H x y v u Q r ex ey c
  unfold oNIn at c
  split at c
  · rename_i x y
    split at c
    · rename_i ds ei
      split at c
      · rename_i hh
        rw [Bool.and_eq_true] at hh
        obtain ⟨e1, e2⟩ := flat_rep ex hh.1
        have go : ∀ {p : Addr} {vs : List V}, (SqL X.K H p vs ∨ SqT X.K H p vs) → DpAll X.K Fr vs ds → u = .ref p → rIn X.K true v u H Q := fun {p vs} hs hd eu => by
          obtain ⟨e3, e4⟩ := flats_rep hd hh.2
          refine ⟨p, vs, eu, hs, e2, e4, ?_⟩
          have : inV v vs = inD x ds := by
            unfold inV inD
            rw [e3, e1, List.any_map]
            rfl
          rw [show (if true = true then !inV v vs else inV v vs) = !inD x ds from by rw [this]; rfl]
          exact rt r c (Dp.bl _)
        cases y with
        | tuple ys => cases ei; cases ey with | @tup a vs _ h1 h2 => exact go (.inr (Le.sqT r.b.fr h1)) h2 rfl
        | list ys => cases ei; cases ey with | @lst a vs _ h1 h2 => exact go (.inl (Le.sqL r.b.fr h1)) h2 rfl
        | none => cases ei
        | bool _ => cases ei
        | int _ => cases ei
        | str _ => cases ei
        | dict _ => cases ei
      · exact c.elim
    · exact c.elim
  · exact c.elim
theorem q_nin {a : Expr} (ha : PE X a (LE X Wc fa)) (hb : PE X b (LE X Wc fb)) (hm : behindInMarks .NotIn b = false := by rfl) : PE X (.Compare a [.NotIn] [b] pos) (LE X Wc (fBin oNIn fa fb)) := q_cmp op_notIn_seq f_nin ha hb hm
theorem t_nin {a : Expr} (ha : PE X a (LE X Wc fa)) (hb : PE X b (LE X Wc fb)) (hm : behindInMarks .NotIn b = false := by rfl) : PT X (.Compare a [.NotIn] [b] pos) (LB X Wc (fT (fBin oNIn fa fb))) := q_tc op_notIn_seq f_nin ha hb hm
/-- x.extend(a new list) -/
def fExt (i : Nat) (fo : FO) : FX := fun ρ S => match ρ[i]? with
  | some (.own (.lst xs)) => (fo ρ S).bind fun o S1 => (match o with
    | .lst ys => if xs.length + ys.length ≤ 16777216 then .ok (.d .none, ρ.set i (.own (.lst (xs ++ ys)))) S1 else .bad
    | _ => .bad)
  | _ => .bad
theorem x_ext {i : Nat} {x : Str} {p' : Pos} {fo : FO} (hN : X.N[i]? = some x) (hv : Vis X.env.scope x) (ha : PE X e (LO X Wc fo)) (hd : (x == ("__debug__" : Str)) = false := by decide) (hcd : (x == ("__classdict__" : Str)) = false := by decide)
    (hbase : attributeBase (.Name x p') "extend" X.env (eval (.Name x p') X.env) = eval (.Name x p') X.env := by rfl)
    (hfew : ((backTo cpos (starEach [e] X.env)).all (fun x => !x.1) && (backToKw cpos (keywordEach [] X.env)).all (fun x => x.1.isSome)
      && decide (([e] : List Expr).length + ([] : List Keyword).length + (if ([] : List Keyword).isEmpty then 0 else 1) < 30)) = true := by rfl)
    (hline : (apos.endLine == cpos.line) = true := by rfl) (hs : starEach [e] X.env = (false, eval e X.env) :: starEach [] X.env := by rfl) (hplain : (backTo cpos (starEach [] X.env)).any (·.1) = false := by rfl) :
    PE X (.Call (.Attribute (.Name x p') "extend" apos) [e] [] cpos) (LX X Wc (fExt i fo)) :=
  PE.imp (pe_bm PySem.F.plainAttrs_list PySem.F.slot_list_extend PySem.F.type_list_extend mt_extend (pe_var hN hv hd hcd) (pa_cons ha pa_nil hs) hbase hfew hline hs hplain) fun σ H Q h => by
  obtain ⟨F, D, m, ρ, S, r, c⟩ := h
  unfold fExt at c
  split at c
  · rename_i xs ex
    obtain ⟨a, vs, ea, h1, q1⟩ := own_lst r ex
    refine ⟨_, ea, .inl ⟨rfl, vs, .inl (.inl h1)⟩, ?_⟩
    refine stepX r c fun F1 m1 o v S1 H1 l1 p1 r1 ey c1 => ?_
    obtain ⟨a', vs', ea', h1', q1'⟩ := own_lst r1 ex
    rw [ea] at ea'
    cases ea'
    obtain ⟨p, ho, rfl, k1, k2, k3⟩ := ey
    split at c1
    · rename_i ys
      obtain ⟨us, rfl, q2⟩ := k2
      split at c1
      · rename_i hl
        refine ⟨a, p, vs', us, rfl, rfl, h1', k1, by rw [← Paired.length q1', ← Paired.length q2, sizeLine_eq]; exact hl, ?_⟩
        exact c1 F1 m1 .non _ Le.refl (List.prefix_refl m1) (r1.putOwn ex ea ⟨_, rfl, paired_app q1' q2⟩) Dp.non
      · exact c1.elim
    · exact c1.elim
  · exact c.elim
/-- name = [..] on one line, into the store -/
theorem setS_imp {i : Nat} {fo : FO} {D : Ends} {σ : St} {H : Hp} (h : LS X Wc (fSet i (fSto fo)) D σ H) : tAsg (LO X Wc fo) (gName i) D σ H := by
  obtain ⟨F, Hd, m, ρ, S, r, c⟩ := h
  have e : fSet i (fSto fo) ρ S = fl (fo ρ S) ρ fun o S1 => .nx (ρ.set i (.w (.ref S1.length))) (S1 ++ [o]) := by
    show fl ((fo ρ S).bind _) ρ _ = _
    cases fo ρ S <;> rfl
  rw [e] at c
  refine stepS r c fun F1 m1 x v S1 H1 l1 p1 r1 e1 c1 => ?_
  obtain ⟨p, ho, rfl, h1, h2, h3⟩ := e1
  refine c1 F1 (m1 ++ [p]) _ H1 Le.refl (List.prefix_append m1 [p]) ((r1.sto h1 h2 h3).setW ⟨p, ?_, rfl⟩)
  rw [← r1.b.len]
  simp
theorem s_setLcS {i : Nat} {y : Str} {py spos : Pos} {elt iter : Expr} {ifs : List Expr} {scope : Scope} {own : List (Str × Nat)} {fi : FA} {g : FG} {t : FB} {fe : FE} (hc : X.calm = true) (hN : X.N.Nodup) (hy : X.N[i]? = some y) (hyl : X.env.scope.names.lookup y = some .local)
    (hsw : swapsWith (.ListComp elt [⟨tg, iter, ifs, 0⟩] scope pos) (some (.Name y py)) spos.line X.env = pure true) (hgo : GO (own.map (·.2)) g) (hi : PI X tg iter (LI X Wc fi)) (ok : BlkOk X.N X.env.scope scope own)
    (hg : ∀ (s : Shared) (H : Hp) (C : Addr) (cl : List (Str × Addr)) (fp : List Addr), PG (X.blk s H scope (compEnvC scope cl C X.env) fp) tg (liftG X.K (own.map (·.2)) g))
    (ht : ∀ (s : Shared) (H : Hp) (C : Addr) (cl : List (Str × Addr)) (fp : List Addr), PTs (X.blk s H scope (compEnvC scope cl C X.env) fp) ifs (LB X W0 t))
    (he : ∀ (s : Shared) (H : Hp) (C : Addr) (cl : List (Str × Addr)) (fp : List Addr), PE (X.blk s H scope (compEnvC scope cl C X.env) fp) elt (LE X W0 fe)) (hs : ∀ x, foldedSetIterable iter X.env x = pure x := by intro _; rfl) :
    PS X (.Assign [.Name y py] (.ListComp elt [⟨tg, iter, ifs, 0⟩] scope pos) spos) (LS X Wc (fSet i (fSto (fLc fi (own.map (·.2)) g t fe)))) := PS.imp (ps_setLc hc hN hy hyl hsw hi ok hg ht he hs) fun D σ H h => by
  have q := setS_imp h
  exact lc_imp hgo q
end
section
variable {ρ : List Sl} {S : List Ob} {fa fb fc fv fx fy : FE} {fo : FO}
@[simp] theorem e_Sget : fSget fa fb ρ S = (fa ρ S).bind fun x S1 => (fb ρ S1).bind fun y S2 => getS x y S2 := rfl
@[simp] theorem e_Sget1 : fSget1 fa fb ρ S = (fa ρ S).bind fun x S1 => if (dctS x S1).isSome = true then (fb ρ S1).bind fun y S2 => get1S x y S2 else .bad := rfl
@[simp] theorem e_Sget2 : fSget2 fa fb fc ρ S = (fa ρ S).bind fun x S1 => if (dctS x S1).isSome = true then (fb ρ S1).bind fun y S2 => (fc ρ S2).bind fun z S3 => get2S x y z S3 else .bad := rfl
@[simp] theorem e_Sin {neg : Bool} : fSin neg fb fa ρ S = (fb ρ S).bind fun y S1 => (fa ρ S1).bind fun x S2 => inS neg y x S2 := rfl
@[simp] theorem e_Sput : fSput fv fx fy ρ S = fl (fv ρ S) ρ fun v S1 => fl (fx ρ S1) ρ fun x S2 => fl (fy ρ S2) ρ fun y S3 => putS v x y ρ S3 := rfl
@[simp] theorem e_Ext {i : Nat} {xs : List W} (h : ρ[i]? = some (.own (.lst xs))) : fExt i fo ρ S = (fo ρ S).bind fun o S1 => (match o with
    | .lst ys => if xs.length + ys.length ≤ 16777216 then .ok (.d .none, ρ.set i (.own (.lst (xs ++ ys)))) S1 else .bad
    | _ => .bad) := by
  unfold fExt
  rw [h]
theorem dctS_at {n : Nat} {kvs : List (Key × W)} (h : S[n]? = some (.dct kvs)) : dctS (.ref n) S = some kvs := by
  unfold dctS
  dsimp only
  rw [h]
theorem e_getS {n : Nat} {kvs : List (Key × W)} {k : Int} {x : W} (h : S[n]? = some (.dct kvs)) (hx : valW kvs (.inl k) = some x) : getS (.ref n) (.d (.int k)) S = .ok x S := by
  unfold getS
  rw [dctS_at h]
  show getD kvs (.d (.int k)) S = _
  unfold getD keyOf
  dsimp only
  rw [hx]
theorem e_get1S {n : Nat} {kvs : List (Key × W)} {k : Int} (h : S[n]? = some (.dct kvs)) : get1S (.ref n) (.d (.int k)) S = .ok ((valW kvs (.inl k)).getD (.d .none)) S := by
  unfold get1S
  rw [dctS_at h]
  rfl
theorem e_get2S {n : Nat} {kvs : List (Key × W)} {k : Int} {z : W} (h : S[n]? = some (.dct kvs)) : get2S (.ref n) (.d (.int k)) z S = .ok ((valW kvs (.inl k)).getD z) S := by
  unfold get2S
  rw [dctS_at h]
  rfl
theorem e_inS {n : Nat} {neg : Bool} {kvs : List (Key × W)} {k : Int} (h : S[n]? = some (.dct kvs)) : inS neg (.d (.int k)) (.ref n) S = .ok (.d (.bool (neg ^^ (valW kvs (.inl k)).isSome))) S := by
  unfold inS
  rw [dctS_at h]
  rfl
theorem e_putS {n : Nat} {kvs : List (Key × W)} {k : Int} {v : W} (h : S[n]? = some (.dct kvs)) (hl : kvs.length < 16777216) : putS v (.ref n) (.d (.int k)) ρ S = .nx ρ (S.set n (.dct (putW kvs (.inl k) v))) := by
  unfold putS
  dsimp only
  rw [h]
  exact if_pos hl
theorem e_ninT {x : PyData} {ds : List PyData} (h : flatD x = true) (h2 : ds.all flatD = true) : oNIn (.d x) (.d (.tuple ds)) S = .ok (.d (.bool (!inD x ds))) S := by
  show (if flatD x && ds.all flatD then Res.ok (W.d (.bool (!inD x ds))) S else .bad) = _
  rw [h, h2]; rfl
theorem e_ninL {x : PyData} {ds : List PyData} (h : flatD x = true) (h2 : ds.all flatD = true) : oNIn (.d x) (.d (.list ds)) S = .ok (.d (.bool (!inD x ds))) S := by
  show (if flatD x && ds.all flatD then Res.ok (W.d (.bool (!inD x ds))) S else .bad) = _
  rw [h, h2]; rfl
end
end L2.Q
/-! Layer Q, part X: defs that call themselves; texts: x[i], in, <, +, for, len. -/
namespace L2.Q
open PySem PySem.Spec PyProof.Rows
/-- a reading that says nothing is kept by every def -/
theorem fnq_bad {P : Program} {w : World} {K : PySem.W.Frag} {mg : Str → Option Value} {base : Heap} {k : Nat} {f : Addr} {fd : FuncData} {ps : List Str} : FnQ P w K mg base k f fd ps (fun _ _ => .bad) :=
  ⟨fun vs H Q E h => h.1, fun A outer s H args us vs Q E hr e hb r h => by
    obtain ⟨_, Fr, Hd, μ, ws, S, b, e, c⟩ := h
    exact c.elim⟩
section
variable {X : Cx} {Wc : WX} {a b e : Expr} {fa fb : FE} {pos p : Pos}
/-! ### texts -/
abbrev ch1 (c : Nat) : Str := ⟨#[c]⟩
def oIxZ : W → W → List Ob → Res W := fun x y S => match x, y with
  | .d (.str z), .d (.int i) => (match atI z.cps.toList i with
    | some c => if z.length ≤ 16777216 then .ok (.d (.str (ch1 c))) S else .bad
    | none => .bad)
  | x, y => oIx x y S
theorem f_ixZ : OpF X Wc (rIx X.K) oIxZ := by
  intro Fr Hd μ ρ S σ H x y v u Q r ex ey c
  unfold oIxZ at c
  split at c
  · rename_i z i
    split at c
    · rename_i k hk
      split at c
      · rename_i hl
        cases ex
        cases ey
        exact .inr (.inr ⟨z, i, k, rfl, rfl, by rw [sizeLine_eq]; exact hl, hk, rt r c (Dp.str _)⟩)
      · exact c.elim
    · exact c.elim
  · exact f_ix (Wc := Wc) Fr Hd μ ρ S σ H _ _ v u Q r ex ey c
theorem q_ixZ (ha : PE X a (LE X Wc fa)) (hb : PE X b (LE X Wc fb)) (hs : PlainIx b := by exact fun _ _ => rfl) : PE X (.Subscript a b pos) (LE X Wc (fBin oIxZ fa fb)) := PE.imp (pe_ix ix_seq ha hb hs) fun _ _ _ h => bin_imp f_ixZ h
/-- x in y of texts: at some place -/
def isIn (i j : Str) : Bool := !(Builtin.Str.occurrences j i 0 j.length 1).isEmpty
def oInZ : W → W → List Ob → Res W := fun x y S => match x, y with
  | .d (.str i), .d (.str j) => .ok (.d (.bool (isIn i j))) S
  | x, y => oIn x y S
def oNInZ : W → W → List Ob → Res W := fun x y S => match x, y with
  | .d (.str i), .d (.str j) => .ok (.d (.bool (!isIn i j))) S
  | x, y => oNIn x y S
theorem f_inZ : OpF X Wc (fun x y H Q => (∃ i j, x = .str i ∧ y = .str j ∧ Q (.bl (!(Builtin.Str.occurrences j i 0 j.length 1).isEmpty)) H) ∨ rIn X.K false x y H Q) oInZ := by
  intro Fr Hd μ ρ S σ H x y v u Q r ex ey c
  unfold oInZ at c
  split at c
  · rename_i i j
    cases ex
    cases ey
    exact .inl ⟨i, j, rfl, rfl, rt r c (Dp.bl _)⟩
  · exact .inr (f_in (Wc := Wc) Fr Hd μ ρ S σ H _ _ v u Q r ex ey c)
theorem f_ninZ : OpF X Wc (fun x y H Q => (∃ i j, x = .str i ∧ y = .str j ∧ Q (.bl (!(!(Builtin.Str.occurrences j i 0 j.length 1).isEmpty))) H) ∨ rIn X.K true x y H Q) oNInZ := by
  intro Fr Hd μ ρ S σ H x y v u Q r ex ey c
  unfold oNInZ at c
  split at c
  · rename_i i j
    cases ex
    cases ey
    exact .inl ⟨i, j, rfl, rfl, rt r c (Dp.bl _)⟩
  · exact .inr (f_nin (Wc := Wc) Fr Hd μ ρ S σ H _ _ v u Q r ex ey c)
theorem q_inZ (ha : PE X a (LE X Wc fa)) (hb : PE X b (LE X Wc fb)) (hm : behindInMarks .In b = false := by rfl) : PE X (.Compare a [.In] [b] pos) (LE X Wc (fBin oInZ fa fb)) := q_cmp (OpR.or op_in_str op_in_seq) f_inZ ha hb hm
theorem t_inZ (ha : PE X a (LE X Wc fa)) (hb : PE X b (LE X Wc fb)) (hm : behindInMarks .In b = false := by rfl) : PT X (.Compare a [.In] [b] pos) (LB X Wc (fT (fBin oInZ fa fb))) := q_tc (OpR.or op_in_str op_in_seq) f_inZ ha hb hm
theorem q_ninZ (ha : PE X a (LE X Wc fa)) (hb : PE X b (LE X Wc fb)) (hm : behindInMarks .NotIn b = false := by rfl) : PE X (.Compare a [.NotIn] [b] pos) (LE X Wc (fBin oNInZ fa fb)) := q_cmp (OpR.or op_notIn_str op_notIn_seq) f_ninZ ha hb hm
theorem t_ninZ (ha : PE X a (LE X Wc fa)) (hb : PE X b (LE X Wc fb)) (hm : behindInMarks .NotIn b = false := by rfl) : PT X (.Compare a [.NotIn] [b] pos) (LB X Wc (fT (fBin oNInZ fa fb))) := q_tc (OpR.or op_notIn_str op_notIn_seq) f_ninZ ha hb hm
/-- < -/
def oLtZ : W → W → List Ob → Res W := fun x y S => match x, y with
  | .d (.str i), .d (.str j) => .ok (.d (.bool (decide (i.cps.toList < j.cps.toList)))) S
  | x, y => oLt x y S
theorem f_ltZ : OpF X Wc (fun x y H Q => (∃ i j, x = .str i ∧ y = .str j ∧ Q (.bl (decide (i.cps.toList < j.cps.toList))) H) ∨ rI0 (fun i j => .bl (decide (i < j))) x y H Q) oLtZ := by
  intro Fr Hd μ ρ S σ H x y v u Q r ex ey c
  unfold oLtZ at c
  split at c
  · rename_i i j
    cases ex
    cases ey
    exact .inl ⟨i, j, rfl, rfl, rt r c (Dp.bl _)⟩
  · exact .inr (f_lt (Wc := Wc) Fr Hd μ ρ S σ H _ _ v u Q r ex ey c)
theorem q_ltZ (ha : PE X a (LE X Wc fa)) (hb : PE X b (LE X Wc fb)) : PE X (.Compare a [.Lt] [b] pos) (LE X Wc (fBin oLtZ fa fb)) := q_cmp (OpR.or op_lt_str op_lt) f_ltZ ha hb (nomark _)
theorem t_ltZ (ha : PE X a (LE X Wc fa)) (hb : PE X b (LE X Wc fb)) : PT X (.Compare a [.Lt] [b] pos) (LB X Wc (fT (fBin oLtZ fa fb))) := q_tc (OpR.or op_lt_str op_lt) f_ltZ ha hb (nomark _)
/-- + -/
def oAddZ : W → W → List Ob → Res W := fun x y S => match x, y with
  | .d (.str i), .d (.str j) => if i.length + j.length ≤ 16777216 then .ok (.d (.str (i ++ j))) S else .bad
  | x, y => oAddA x y S
theorem f_addZ : OpF X Wc (fun x y H Q => (∃ i j, x = .str i ∧ y = .str j ∧ i.length + j.length ≤ sizeLine ∧ Q (.str (i ++ j)) H) ∨ (rCatS X.K x y H Q ∨ (rI0 (fun i j => .int (i + j)) x y H Q ∨ rCatA X.K x y H Q))) oAddZ := by
  intro Fr Hd μ ρ S σ H x y v u Q r ex ey c
  unfold oAddZ at c
  split at c
  · rename_i i j
    split at c
    · rename_i hl
      cases ex
      cases ey
      exact .inl ⟨i, j, rfl, rfl, by rw [sizeLine_eq]; exact hl, rt r c (Dp.str _)⟩
    · exact c.elim
  · exact .inr (f_addA (Wc := Wc) Fr Hd μ ρ S σ H _ _ v u Q r ex ey c)
theorem q_addZ (ha : PE X a (LE X Wc fa)) (hb : PE X b (LE X Wc fb)) : PE X (.BinOp a .Add b pos) (LE X Wc (fBin oAddZ fa fb)) := q_op (OpR.or op_add_str (OpR.or op_catS op_addQ)) f_addZ ha hb
/-- for c in text -/
def chrOf (x : W) (S : List Ob) : Res (List W) := match x with
  | .d (.str z) => if z.cps.size ≤ 16777216 then .ok (z.cps.toList.map fun c => .d (.str (ch1 c))) S else .bad
  | _ => .bad
def fChr (fa : FE) : FA := fun ρ S => (fa ρ S).bind chrOf
theorem i_chr {tg l : Expr} (h : PE X l (LE X Wc fa)) : PI X tg l (LI X Wc (fChr fa)) := PI.imp (pi_str h) fun σ H Q h => by
  obtain ⟨F, Hd, m, ρ, S, r, c⟩ := h
  refine stepI r c fun F1 m1 x v S1 H1 l1 p1 r1 e1 c1 => ?_
  unfold chrOf at c1
  split at c1
  · rename_i z
    split at c1
    · rename_i hl
      cases e1
      refine ⟨z, rfl, c1 F1 Hd m1 H1 _ Le.refl Le.refl (List.prefix_refl m1) r1 ?_ (by rw [List.length_map, sizeLine_eq]; simpa using hl)⟩
      have hw := walk_str (z := z)
      rw [show (z.cps.toList.map fun c => W.d (.str (ch1 c))).length = z.cps.size by simp]
      refine Walk.mono hw (fun _ _ => True.intro) fun i H v H' hi _ y => ?_
      obtain ⟨rfl, c, hc, rfl⟩ := y
      refine ⟨.d (.str (ch1 c)), ?_, .inl ⟨rfl, Dp.str _⟩⟩
      rw [List.getElem?_map]
      have : z.cps.toList[i]? = some c := by rw [← hc]; simp
      rw [this]; rfl
    · exact c1.elim
  · exact c1.elim
/-- len of a text -/
theorem q_lenS (hg : Gl X "len") (hm : X.mg "len" = none) (h : PE X e (LE X Wc fa)) (hs : starEach [e] X.env = (false, eval e X.env) :: starEach [] X.env := by rfl) (hpl : (backTo pos (starEach [] X.env)).any (·.1) = false := by rfl) : PE X (.Call (.Name "len" p) [e] [] pos) (LE X Wc (fLenS fa)) :=
  PE.imp (pe_callB call_len_str hg hm PySem.boot_len (pa_cons h pa_nil hs) (he := hs) (hpl := hpl)) fun σ H Q h => by
  obtain ⟨F, D, m, ρ, S, r0, c⟩ := h
  refine step r0 c fun F1 m1 x v S1 H1 l1 p1 r1 e1 c1 => ?_
  split at c1
  · rename_i z
    split at c1
    · rename_i hl
      cases e1
      exact ⟨z, rfl, by rw [sizeLine_eq]; exact hl, rt r1 c1 (Dp.int _)⟩
    · exact c1.elim
  · exact c1.elim
end
def fcStr (x z : Str) : FbT := fun K => (He.Fa.str x z).ok K
section
variable {S : List Ob} {ρ : List Sl} {fa : FE}
@[simp] theorem e_Chr : fChr fa ρ S = (fa ρ S).bind chrOf := rfl
@[simp] theorem e_LenS : fLenS fa ρ S = (fa ρ S).bind fun x S1 => match x with
  | .d (.str z) => if z.length ≤ 16777216 then .ok (.d (.int z.length)) S1 else .bad
  | _ => .bad := rfl
@[simp] theorem e_inZs (i j : Str) : oInZ (.d (.str i)) (.d (.str j)) S = .ok (.d (.bool (isIn i j))) S := rfl
@[simp] theorem e_ninZs (i j : Str) : oNInZ (.d (.str i)) (.d (.str j)) S = .ok (.d (.bool (!isIn i j))) S := rfl
@[simp] theorem e_ltZs (i j : Str) : oLtZ (.d (.str i)) (.d (.str j)) S = .ok (.d (.bool (decide (i.cps.toList < j.cps.toList)))) S := rfl
theorem e_inZt {x : PyData} {ds : List PyData} (h : flatD x = true) (h2 : ds.all flatD = true) : oInZ (.d x) (.d (.tuple ds)) S = .ok (.d (.bool (inD x ds))) S := by
  have : oInZ (.d x) (.d (.tuple ds)) S = oIn (.d x) (.d (.tuple ds)) S := by cases x <;> rfl
  rw [this, e_inT h h2]
theorem e_ninZt {x : PyData} {ds : List PyData} (h : flatD x = true) (h2 : ds.all flatD = true) : oNInZ (.d x) (.d (.tuple ds)) S = .ok (.d (.bool (!inD x ds))) S := by
  have : oNInZ (.d x) (.d (.tuple ds)) S = oNIn (.d x) (.d (.tuple ds)) S := by cases x <;> rfl
  rw [this, e_ninT h h2]
theorem e_ninZl {x : PyData} {ds : List PyData} (h : flatD x = true) (h2 : ds.all flatD = true) : oNInZ (.d x) (.d (.list ds)) S = .ok (.d (.bool (!inD x ds))) S := by
  have : oNInZ (.d x) (.d (.list ds)) S = oNIn (.d x) (.d (.list ds)) S := by cases x <;> rfl
  rw [this, e_ninL h h2]
end
end L2.Q
namespace L2.Q.P
open PySem PySem.Spec PyProof.Rows
def top (i : Nat) : Stmt := PySem.Challenge.pw_sumsworn_k56_truth_claims_and_prices_of.main.body.getD i (.Pass ⟨0, 0, 0, 0⟩)
def fuelW : Nat := 1000000000
/-- which class lies under which -/
def subQ (d c : Str) : Bool := ([("BadNumber", "BadNumber"), ("BadNumber", "SumError"), ("BadStatement", "BadStatement"), ("BadStatement", "SumError"), ("BadRow", "BadRow"), ("BadRow", "SumError"), ("BadPart", "BadPart"), ("BadPart", "SumError"), ("SumError", "SumError")] : List (Str × Str)).any fun p => decide (p.1 = d) && decide (p.2 = c)
/-! is_int -/
def b_is_int : FT := (fRet (fAndV (fIsi "int" (fVar 0)) (fNotV (fIsi "bool" (fVar 0)))))
def m_is_int : FM := runF 1 b_is_int
/-! within -/
def b_within : FT := (fRet (fAndV (fCall m_is_int (fCons (fVar 0) fNil)) (fChain oLe oLe (fVar 1) (fVar 0) (fVar 2))))
def m_within : FM := runF 3 b_within
/-! is_row -/
def b_is_row : FT := (fRet (fAndV (fIsi "tuple" (fVar 0)) (fChain oLe oLe (fVar 1) (fLen (fIt (fVar 0))) (fVar 2))))
def m_is_row : FM := runF 3 b_is_row
/-! is_ascending -/
def e_is_ascending_0 : FE := (fBin oLtZ (fVar 1) (fVar 2))
def b_is_ascending : FT := (fRet (fAll (fItO (fLc (fZip (fVar 0) (fCut (fVar 0) (fP (fC (.int 1))) fNoP)) [1, 2] (gT 2 (gsC (gN 1) (gsC (gN 2) gsN))) (fun _ S => .ok true S) e_is_ascending_0))))
def m_is_ascending : FM := runF 3 b_is_ascending
/-! is_low_name -/
def e_is_low_name_0 : FE := (fOrV (fBin oInZ (fVar 1) (fC (.str "abcdefghijklmnopqrstuvwxyz"))) (fBin oInZ (fVar 1) (fC (.str "0123456789"))))
def b_is_low_name : FT := (fSeq (fIfS (fOr (fNot (fT (fIsi "str" (fVar 0)))) (fOr (fNot (fT (fChain oLe oLe (fC (.int 1)) (fLenS (fVar 0)) (fC (.int 10))))) (fT (fBin oNInZ (fBin oIxZ (fVar 0) (fC (.int 0))) (fC (.str "abcdefghijklmnopqrstuvwxyz")))))) (fRet (fC (.bool false))) fNx)
    (fSeq (fIfS (fNot (fT (fAll (fItO (fLc (fChr (fVar 0)) [1] (gN 1) (fun _ S => .ok true S) e_is_low_name_0))))) (fRet (fC (.bool false))) fNx)
    (fRet (fAndV (fBin oNInZ (fVar 0) (fC (.tuple [.str "true", .str "false", .str "not", .str "and", .str "or", .str "implies", .str "iff", .str "atleast", .str "sum"]))) (fBin oNInZ (fVar 0) (fC (.tuple [.str "names", .str "claim", .str "price", .str "from"])))))))
def m_is_low_name : FM := runF 2 b_is_low_name
/-! are_names -/
def e_are_names_0 : FE := (fCall m_is_low_name (fCons (fVar 1) fNil))
def b_are_names : FT := (fRet (fAndV (fCall m_is_row (fCons (fVar 0) (fCons (fC (.int 1)) (fCons (fC (.int 10)) fNil)))) (fAndV (fAll (fItO (fLc (fIt (fVar 0)) [1] (gN 1) (fun _ S => .ok true S) e_are_names_0))) (fCall m_is_ascending (fCons (fVar 0) fNil)))))
def m_are_names : FM := runF 2 b_are_names
/-! is_weighted -/
def b_is_weighted : FT := (fRet (fAndV (fCall m_is_row (fCons (fVar 0) (fCons (fC (.int 2)) (fCons (fC (.int 2)) fNil)))) (fCall m_within (fCons (fBin oIx (fVar 0) (fC (.int 1))) (fCons (fUn oNeg (fC (.int 1000))) (fCons (fC (.int 1000)) fNil))))))
def m_is_weighted : FM := runF 1 b_is_weighted
/-! parts_within -/
def e_parts_within_0 : FE := (fCall m_is_weighted (fCons (fVar 4) fNil))
def e_parts_within_1 : FE := (fBin oIxZ (fVar 4) (fC (.int 0)))
def b_parts_within : FT := (fSeq (fIfS (fOr (fNot (fT (fCall m_is_row (fCons (fVar 1) (fCons (fC (.int 1)) (fCons (fC (.int 3)) fNil)))))) (fNot (fT (fIsi "str" (fBin oIxZ (fVar 1) (fC (.int 0))))))) (fRet (fC .none)) fNx)
    (fSeq (fPar 2 3 (fCw (fBin oIxZ (fVar 1) (fC (.int 0)))) (fCw (fLen (fIt (fVar 1)))))
    (fSeq (fIfS (fT (fBin oInZ (fVar 2) (fTup (fCons (fC (.str "true")) (fCons (fC (.str "false")) fNil))))) (fRet (fIf (fT (fBin (oEqS false) (fVar 3) (fC (.int 1)))) (fFz (fNewL fNil)) (fC .none))) fNx)
    (fSeq (fIfS (fT (fBin (oEqS false) (fVar 2) (fC (.str "name")))) (fRet (fIf (fAnd (fT (fBin (oEqS false) (fVar 3) (fC (.int 2)))) (fT (fCall m_within (fCons (fBin oIxZ (fVar 1) (fC (.int 1))) (fCons (fC (.int 0)) (fCons (fBin oSub (fVar 0) (fC (.int 1))) fNil)))))) (fFz (fNewL fNil)) (fC .none))) fNx)
    (fSeq (fIfS (fT (fBin (oEqS false) (fVar 2) (fC (.str "not")))) (fRet (fIf (fT (fBin (oEqS false) (fVar 3) (fC (.int 2)))) (fFz (fNewL (fCons (fBin oIxZ (fVar 1) (fC (.int 1))) fNil))) (fC .none))) fNx)
    (fSeq (fIfS (fT (fBin oInZ (fVar 2) (fTup (fCons (fC (.str "implies")) (fCons (fC (.str "iff")) fNil))))) (fRet (fIf (fT (fBin (oEqS false) (fVar 3) (fC (.int 3)))) (fFz (fNewL (fCons (fBin oIxZ (fVar 1) (fC (.int 1))) (fCons (fBin oIxZ (fVar 1) (fC (.int 2))) fNil)))) (fC .none))) fNx)
    (fSeq (fIfS (fT (fBin oInZ (fVar 2) (fTup (fCons (fC (.str "and")) (fCons (fC (.str "or")) fNil))))) (fRet (fIf (fAnd (fT (fBin (oEqS false) (fVar 3) (fC (.int 2)))) (fT (fIsi "tuple" (fBin oIxZ (fVar 1) (fC (.int 1)))))) (fFz (fNewL (fIt (fBin oIxZ (fVar 1) (fC (.int 1)))))) (fC .none))) fNx)
    (fSeq (fIfS (fT (fBin (oEqS true) (fVar 3) (fC (.int 3)))) (fRet (fC .none)) fNx)
    (fSeq (fIfS (fT (fBin (oEqS false) (fVar 2) (fC (.str "atleast")))) (fRet (fIf (fAnd (fT (fCall m_within (fCons (fBin oIxZ (fVar 1) (fC (.int 1))) (fCons (fUn oNeg (fC (.int 100))) (fCons (fC (.int 100)) fNil))))) (fT (fIsi "tuple" (fBin oIxZ (fVar 1) (fC (.int 2)))))) (fFz (fNewL (fIt (fBin oIxZ (fVar 1) (fC (.int 2)))))) (fC .none))) fNx)
    (fSeq (fIfS (fOr (fT (fBin (oEqS true) (fVar 2) (fC (.str "sum")))) (fOr (fNot (fT (fCall m_within (fCons (fBin oIxZ (fVar 1) (fC (.int 2))) (fCons (fUn oNeg (fC (.int 1000))) (fCons (fC (.int 1000)) fNil)))))) (fNot (fT (fIsi "tuple" (fBin oIxZ (fVar 1) (fC (.int 1)))))))) (fRet (fC .none)) fNx)
    (fRet (fIf (fT (fAll (fItO (fLc (fIt (fBin oIxZ (fVar 1) (fC (.int 1)))) [4] (gN 4) (fun _ S => .ok true S) e_parts_within_0)))) (fFz (fLc (fIt (fBin oIxZ (fVar 1) (fC (.int 1)))) [4] (gN 4) (fun _ S => .ok true S) e_parts_within_1)) (fC .none)))))))))))))
def m_parts_within : FM := runF 5 b_parts_within
/-! count_parts -/
def e_count_parts_0 : FE := (fTup (fCons (fVar 4) (fCons (fC (.int 1)) fNil)))
def e_count_parts_1 : FE := (fTup (fCons (fVar 7) (fCons (fBin oAddA (fVar 5) (fC (.int 1))) fNil)))
def t_count_parts_0 : FB := (fT (fCmpO true 3 (fFz (fNewL fNil))))
def l_count_parts_0 : FT := (fSeq (fAsgX (gT 2 (gsC (gN 4) (gsC (gN 5) gsN))) (fPop 3))
    (fSeq (fSet 6 (fCall m_parts_within (fCons (fVar 0) (fCons (fVar 4) fNil))))
    (fSeq (fAug 2 (oI yes fun i j => .int (i + j)) (fC (.int 1)))
    (fSeq (fIfS (fOr (fT (fUn oIsN (fVar 6))) (fOr (fT (fBin oGt (fVar 5) (fC (.int 8)))) (fT (fBin oGt (fBin oAddA (fBin oAddA (fVar 2) (fLen (fOwn 3))) (fLen (fIt (fVar 6)))) (fC (.int 32)))))) (fRet (fC .none)) fNx)
    (fDropX (fExt 3 (fLc (fIt (fVar 6)) [7] (gN 7) (fun _ S => .ok true S) e_count_parts_1)))))))
def b_count_parts : FT := (fSeq (fPar 2 3 (fCw (fC (.int 0))) (fCo (fLc (fIt (fVar 1)) [4] (gN 4) (fun _ S => .ok true S) e_count_parts_0)))
    (fSeq (fWhile fuelW t_count_parts_0 l_count_parts_0)
    (fRet (fVar 2))))
def m_count_parts : FM := runF 8 b_count_parts
/-! is_part -/
def b_is_part : FT := (fSeq (fIfS (fNot (fT (fCall m_within (fCons (fVar 0) (fCons (fC (.int 1)) (fCons (fC (.int 10)) fNil)))))) (fRaise "BadNumber") fNx)
    (fRet (fUn oNotN (fCall m_count_parts (fCons (fVar 0) (fCons (fFz (fNewL (fCons (fVar 1) fNil))) fNil))))))
def m_is_part : FM := runF 2 b_is_part
/-! is_price -/
def e_is_price_0 : FE := (fCall m_is_weighted (fCons (fVar 1) fNil))
def b_is_price : FT := (fSeq (fIfS (fT (fUn oIsN (fVar 0))) (fRet (fC (.bool true))) fNx)
    (fSeq (fIfS (fOr (fNot (fT (fCall m_is_row (fCons (fVar 0) (fCons (fC (.int 2)) (fCons (fC (.int 2)) fNil)))))) (fNot (fT (fIsi "tuple" (fBin oIx (fVar 0) (fC (.int 0))))))) (fRet (fC (.bool false))) fNx)
    (fRet (fAndV (fAll (fItO (fLc (fIt (fBin oIx (fVar 0) (fC (.int 0)))) [1] (gN 1) (fun _ S => .ok true S) e_is_price_0))) (fCall m_within (fCons (fBin oIx (fVar 0) (fC (.int 1))) (fCons (fUn oNeg (fC (.int 1000))) (fCons (fC (.int 1000)) fNil))))))))
def m_is_price : FM := runF 2 b_is_price
/-! items_of -/
def b_items_of : FT := (fRet (fIf (fT (fUn oIsN (fVar 0))) (fTup fNil) (fBin oIx (fVar 0) (fC (.int 0)))))
def m_items_of : FM := runF 1 b_items_of
/-! is_statement -/
def e_is_statement_0 : FE := (fBin oIx (fVar 1) (fC (.int 0)))
def b_is_statement : FT := (fSeq (fIfS (fOr (fNot (fT (fCall m_is_row (fCons (fVar 0) (fCons (fC (.int 3)) (fCons (fC (.int 3)) fNil)))))) (fOr (fNot (fT (fCall m_are_names (fCons (fBin oIx (fVar 0) (fC (.int 0))) fNil)))) (fNot (fT (fCall m_is_row (fCons (fBin oIx (fVar 0) (fC (.int 1))) (fCons (fC (.int 0)) (fCons (fC (.int 12)) fNil)))))))) (fRet (fC (.bool false))) fNx)
    (fSeq (fIfS (fNot (fT (fCall m_is_price (fCons (fBin oIx (fVar 0) (fC (.int 2))) fNil)))) (fRet (fC (.bool false))) fNx)
    (fRet (fUn oNotN (fCall m_count_parts (fCons (fLen (fIt (fBin oIx (fVar 0) (fC (.int 0))))) (fCons (fFz (fAddN (fFz (fNewL (fIt (fBin oIx (fVar 0) (fC (.int 1)))))) (fFz (fLc (fIt (fCall m_items_of (fCons (fBin oIx (fVar 0) (fC (.int 2))) fNil))) [1] (gN 1) (fun _ S => .ok true S) e_is_statement_0)))) fNil)))))))
def m_is_statement : FM := runF 2 b_is_statement
/-! need_statement -/
def b_need_statement : FT := (fIfS (fNot (fT (fCall m_is_statement (fCons (fVar 0) fNil)))) (fRaise "BadStatement") fNx)
def m_need_statement : FM := runF 1 b_need_statement
/-! is_name_row -/
def e_is_name_row_0 : FE := (fCall m_within (fCons (fVar 2) (fCons (fC (.int 0)) (fCons (fC (.int 1)) fNil))))
def b_is_name_row : FT := (fRet (fAndV (fCall m_is_row (fCons (fVar 1) (fCons (fVar 0) (fCons (fVar 0) fNil)))) (fAll (fItO (fLc (fIt (fVar 1)) [2] (gN 2) (fun _ S => .ok true S) e_is_name_row_0)))))
def m_is_name_row : FM := runF 3 b_is_name_row
/-! need_row -/
def b_need_row : FT := (fIfS (fNot (fT (fCall m_is_name_row (fCons (fVar 0) (fCons (fVar 1) fNil))))) (fRaise "BadRow") fNx)
def m_need_row : FM := runF 2 b_need_row
/-! weighed -/
def e_weighed_0 : FE := (fTup (fCons (fVar 2) (fCons (fC (.int 1)) fNil)))
def e_weighed_1 : FE := (fTup (fCons (fVar 2) (fCons (fC (.int 1)) fNil)))
def e_weighed_2 : FE := (fTup (fCons (fVar 2) (fCons (fC (.int 1)) fNil)))
def b_weighed : FT := (fSeq (fSet 1 (fBin oIx (fVar 0) (fC (.int 0))))
    (fSeq (fIfS (fT (fBin (oEqS false) (fVar 1) (fC (.str "and")))) (fRet (fTup (fCons (fFz (fLc (fIt (fBin oIx (fVar 0) (fC (.int 1)))) [2] (gN 2) (fun _ S => .ok true S) e_weighed_0)) (fCons (fLen (fIt (fBin oIx (fVar 0) (fC (.int 1))))) fNil)))) fNx)
    (fSeq (fIfS (fT (fBin (oEqS false) (fVar 1) (fC (.str "or")))) (fRet (fTup (fCons (fFz (fLc (fIt (fBin oIx (fVar 0) (fC (.int 1)))) [2] (gN 2) (fun _ S => .ok true S) e_weighed_1)) (fCons (fC (.int 1)) fNil)))) fNx)
    (fSeq (fIfS (fT (fBin (oEqS false) (fVar 1) (fC (.str "implies")))) (fRet (fTup (fCons (fFz (fNewL (fCons (fTup (fCons (fTup (fCons (fC (.str "not")) (fCons (fBin oIx (fVar 0) (fC (.int 1))) fNil))) (fCons (fC (.int 1)) fNil))) (fCons (fTup (fCons (fBin oIx (fVar 0) (fC (.int 2))) (fCons (fC (.int 1)) fNil))) fNil)))) (fCons (fC (.int 1)) fNil)))) fNx)
    (fSeq (fIfS (fT (fBin (oEqS false) (fVar 1) (fC (.str "atleast")))) (fRet (fTup (fCons (fFz (fLc (fIt (fBin oIx (fVar 0) (fC (.int 2)))) [2] (gN 2) (fun _ S => .ok true S) e_weighed_2)) (fCons (fBin oIx (fVar 0) (fC (.int 1))) fNil)))) fNx)
    (fRet (fTup (fCons (fFz (fNewL (fIt (fBin oIx (fVar 0) (fC (.int 1)))))) (fCons (fBin oIx (fVar 0) (fC (.int 2))) fNil)))))))))
def m_weighed : FM := runF 3 b_weighed
/-! is_true -/
def t_is_true_0 (rec : FM) : FB := (fT (fCall rec (fCons (fVar 5) (fCons (fVar 1) fNil))))
def e_is_true_0 (rec : FM) : FE := (fVar 6)
def b_is_true (rec : FM) : FT := (fSeq (fSet 2 (fBin oIx (fVar 0) (fC (.int 0))))
    (fSeq (fIfS (fT (fBin oIn (fVar 2) (fTup (fCons (fC (.str "true")) (fCons (fC (.str "false")) fNil))))) (fRet (fBin (oEqS false) (fVar 2) (fC (.str "true")))) fNx)
    (fSeq (fIfS (fT (fBin (oEqS false) (fVar 2) (fC (.str "name")))) (fRet (fBin (oEqS false) (fBin oIx (fVar 1) (fBin oIx (fVar 0) (fC (.int 1)))) (fC (.int 1)))) fNx)
    (fSeq (fIfS (fT (fBin (oEqS false) (fVar 2) (fC (.str "not")))) (fRet (fNotV (fCall rec (fCons (fBin oIx (fVar 0) (fC (.int 1))) (fCons (fVar 1) fNil))))) fNx)
    (fSeq (fIfS (fT (fBin (oEqS false) (fVar 2) (fC (.str "iff")))) (fRet (fBin (oEqS false) (fCall rec (fCons (fBin oIx (fVar 0) (fC (.int 1))) (fCons (fVar 1) fNil))) (fCall rec (fCons (fBin oIx (fVar 0) (fC (.int 2))) (fCons (fVar 1) fNil))))) fNx)
    (fSeq (fAsg (gT 2 (gsC (gN 3) (gsC (gN 4) gsN))) (fCall m_weighed (fCons (fVar 0) fNil)))
    (fRet (fBin oGe (fSum (fItO (fLc (fIt (fVar 3)) [5, 6] (gT 2 (gsC (gN 5) (gsC (gN 6) gsN))) (t_is_true_0 rec) (e_is_true_0 rec)))) (fVar 4)))))))))
def mr_is_true : Nat → FM
  | 0 => fun _ _ => .bad
  | n + 1 => runF 7 (b_is_true (mr_is_true n))
def m_is_true : FM := mr_is_true 12
/-! truth -/
def b_truth : FT := (fSeq (fIfS (fNot (fT (fCall m_is_part (fCons (fVar 0) (fCons (fVar 1) fNil))))) (fRaise "BadPart") fNx)
    (fSeq (fDrop (fCall m_need_row (fCons (fVar 0) (fCons (fVar 2) fNil))))
    (fRet (fCall m_is_true (fCons (fVar 1) (fCons (fVar 2) fNil))))))
def m_truth : FM := runF 3 b_truth
/-! claims_at -/
def t_claims_at_0 : FB := (fT (fCall m_is_true (fCons (fVar 3) (fCons (fVar 1) fNil))))
def e_claims_at_0 : FE := (fVar 2)
def b_claims_at : FT := (fRet (fFz (fLc (fEnumA (fBin oIx (fVar 0) (fC (.int 1)))) [2, 3] (gT 2 (gsC (gN 2) (gsC (gN 3) gsN))) t_claims_at_0 e_claims_at_0)))
def m_claims_at : FM := runF 4 b_claims_at
/-! claims_true -/
def b_claims_true : FT := (fSeq (fDrop (fCall m_need_statement (fCons (fVar 0) fNil)))
    (fSeq (fDrop (fCall m_need_row (fCons (fLen (fIt (fBin oIx (fVar 0) (fC (.int 0))))) (fCons (fVar 1) fNil))))
    (fRet (fTupL (fLv (fCall m_claims_at (fCons (fVar 0) (fCons (fVar 1) fNil))))))))
def m_claims_true : FM := runF 2 b_claims_true
/-! makes_true -/
def b_makes_true : FT := (fSeq (fDrop (fCall m_need_statement (fCons (fVar 0) fNil)))
    (fSeq (fDrop (fCall m_need_row (fCons (fLen (fIt (fBin oIx (fVar 0) (fC (.int 0))))) (fCons (fVar 1) fNil))))
    (fRet (fBin (oEqS false) (fLen (fIt (fCall m_claims_at (fCons (fVar 0) (fCons (fVar 1) fNil))))) (fLen (fIt (fBin oIx (fVar 0) (fC (.int 1)))))))))
def m_makes_true : FM := runF 2 b_makes_true
/-! price_with -/
def t_price_with_0 : FB := (fT (fCall m_is_true (fCons (fVar 3) (fCons (fVar 1) fNil))))
def e_price_with_0 : FE := (fVar 4)
def b_price_with : FT := (fSeq (fSet 2 (fBin oIx (fVar 0) (fC (.int 2))))
    (fSeq (fIfS (fT (fUn oIsN (fVar 2))) (fRet (fC (.int 0))) fNx)
    (fRet (fBin oAddA (fBin oIx (fVar 2) (fC (.int 1))) (fSum (fItO (fLc (fIt (fBin oIx (fVar 2) (fC (.int 0)))) [3, 4] (gT 2 (gsC (gN 3) (gsC (gN 4) gsN))) t_price_with_0 e_price_with_0)))))))
def m_price_with : FM := runF 5 b_price_with
/-! statement_price -/
def b_statement_price : FT := (fSeq (fDrop (fCall m_need_statement (fCons (fVar 0) fNil)))
    (fSeq (fDrop (fCall m_need_row (fCons (fLen (fIt (fBin oIx (fVar 0) (fC (.int 0))))) (fCons (fVar 1) fNil))))
    (fRet (fCall m_price_with (fCons (fVar 0) (fCons (fVar 1) fNil))))))
def m_statement_price : FM := runF 2 b_statement_price
/-! _law_source -/
def e__law_source_0 : FE := (fBin oMod (fInt (fVar 4)) (fBin oPow (fC (.int 10)) (fC (.int 60))))
def t__law_source_0 : FB := (fT (fBin oGe (fVar 4) (fBin oPow (fC (.int 10)) (fC (.int 18)))))
def e__law_source_1 : FE := (fVar 4)
def t__law_source_1 : FB := (fT (fBin oLt (fVar 4) (fBin oPow (fC (.int 10)) (fC (.int 18)))))
def e__law_source_2 : FE := (fVar 4)
def b__law_source : FT := (fSeq (fSetO 1 (fLc (fIt (fCut (fVar 0) fNoP (fP (fC (.int 63))))) [4] (gN 4) (fun _ S => .ok true S) e__law_source_0))
    (fSeq (fFrz 1 (fSet 2 (fSto (fLc (fIt (fVar 1)) [4] (gN 4) t__law_source_0 e__law_source_1))))
    (fSeq (fFrz 1 (fSetO 3 (fLc (fIt (fVar 1)) [4] (gN 4) t__law_source_1 e__law_source_2)))
    (fFrz 3 (fRetO (fNewL (fCons (fVar 2) (fCons (fVar 3) (fCons (fC (.int 0)) fNil)))))))))
def m__law_source : FM := runF 5 b__law_source
/-! _law_draw -/
def b__law_draw : FT := (fSeq (fPar3 2 3 4 (fCw (fBin oIx (fVar 0) (fC (.int 0)))) (fCw (fBin oIx (fVar 0) (fC (.int 1)))) (fCw (fBin oIx (fVar 0) (fC (.int 2)))))
    (fSeq (fSetIx (fBin oAddA (fVar 4) (fC (.int 1))) (fVar 0) (fC (.int 2)))
    (fSeq (fIfS (fT (fBin (oEqS true) (fVar 2) (fFz (fNewL fNil)))) (fSeq (fSet 5 (fBin oIx (fVar 2) (fC (.int 0))))
    (fSeq (fSetIx (fBin oDiv (fVar 5) (fVar 1)) (fVar 2) (fC (.int 0)))
    (fSeq (fIfS (fT (fBin (oEqS false) (fBin oIx (fVar 2) (fC (.int 0))) (fC (.int 0)))) (fDrop (fPopS (fVar 2) (fC (.int 0)))) fNx)
    (fRet (fBin oMod (fInt (fVar 5)) (fVar 1)))))) fNx)
    (fSeq (fSet 6 (fIf (fT (fBin (oEqS true) (fVar 3) (fFz (fNewL fNil)))) (fBin oIx (fVar 3) (fBin oMod (fVar 4) (fLen (fIt (fVar 3))))) (fC (.int 5))))
    (fSeq (fSet 7 (fBin oMod (fInt (fBin oMulA (fBin oAddA (fBin oAddA (fVar 6) (fBin oMulA (fC (.int 17)) (fVar 4))) (fC (.int 3))) (fBin oAddA (fC (.int 69621)) (fBin oMulA (fC (.int 2)) (fVar 4))))) (fC (.int 2147483647))))
    (fSeq (fSet 8 (fBin oMod (fInt (fBin oMulA (fVar 7) (fBin oAddA (fBin oMod (fVar 7) (fC (.int 9973))) (fC (.int 11))))) (fC (.int 2147483629))))
    (fRet (fBin oMod (fInt (fBin oDiv (fVar 8) (fC (.int 5)))) (fVar 1)))))))))
def m__law_draw : FM := runF 9 b__law_draw
/-! _law_rows -/
def l__law_rows_0 : FT := (fSeq (fDropX (fApp 3 (fBin oAddA (fVar 4) (fTup (fCons (fC (.int 0)) fNil)))))
    (fDropX (fApp 3 (fBin oAddA (fVar 4) (fTup (fCons (fC (.int 1)) fNil))))))
def l__law_rows_1 : FT := (fSeq (fSetO 3 (fNewL fNil))
    (fSeq (fFor (fIt (fVar 1)) (gN 4) l__law_rows_0)
    (fFrz 3 (fSet 1 (fVar 3)))))
def b__law_rows : FT := (fSeq (fSet 1 (fFz (fNewL (fCons (fTup fNil) fNil))))
    (fSeq (fFor (fRng1 (fVar 0)) (gN 2) l__law_rows_1)
    (fRet (fVar 1))))
def m__law_rows : FM := runF 5 b__law_rows
/-! _law_int -/
def b__law_int : FT := (fRet (fAndV (fIsi "int" (fVar 0)) (fNotV (fIsi "bool" (fVar 0)))))
def m__law_int : FM := runF 1 b__law_int
/-! _law_says -/
def b__law_says : FT := (fRet (fAndV (fIsi "bool" (fVar 0)) (fBin (oEqS false) (fVar 0) (fVar 1))))
def m__law_says : FM := runF 2 b__law_says
/-! _law_leaf -/
def b__law_leaf : FT := (fSeq (fSet 2 (fCall m__law_draw (fCons (fVar 0) (fCons (fC (.int 10)) fNil))))
    (fSeq (fIfS (fT (fBin oLt (fVar 2) (fC (.int 2)))) (fRet (fIf (fT (fBin (oEqS false) (fVar 2) (fC (.int 0)))) (fTup (fCons (fC (.str "true")) fNil)) (fTup (fCons (fC (.str "false")) fNil)))) fNx)
    (fRet (fTup (fCons (fC (.str "name")) (fCons (fCall m__law_draw (fCons (fVar 0) (fCons (fVar 1) fNil))) fNil))))))
def m__law_leaf : FM := runF 3 b__law_leaf
/-! _law_number -/
def b__law_number : FT := (fRet (fIf (fT (fBin (oEqS false) (fCall m__law_draw (fCons (fVar 0) (fCons (fC (.int 6)) fNil))) (fC (.int 0)))) (fBin oSub (fCall m__law_draw (fCons (fVar 0) (fCons (fC (.int 2001)) fNil))) (fC (.int 1000))) (fBin oSub (fCall m__law_draw (fCons (fVar 0) (fCons (fC (.int 9)) fNil))) (fC (.int 4)))))
def m__law_number : FM := runF 1 b__law_number
/-! _law_part -/
def e__law_part_0 (rec : FM) : FE := (fCall rec (fCons (fVar 0) (fCons (fVar 1) (fCons (fBin oSub (fVar 2) (fC (.int 1))) (fCons (fBin oDiv (fBin oSub (fVar 3) (fC (.int 1))) (fBin oMax (fC (.int 1)) (fVar 7))) fNil)))))
def e__law_part_1 (rec : FM) : FE := (fTup (fCons (fVar 10) (fCons (fCall m__law_number (fCons (fVar 0) fNil)) fNil)))
def b__law_part (rec : FM) : FT := (fSeq (fSet 4 (fCall m__law_draw (fCons (fVar 0) (fCons (fC (.int 10)) fNil))))
    (fSeq (fIfS (fOr (fT (fBin (oEqS false) (fVar 2) (fC (.int 0)))) (fOr (fT (fBin oLt (fVar 3) (fC (.int 3)))) (fT (fBin oLt (fVar 4) (fC (.int 2)))))) (fRet (fCall m__law_leaf (fCons (fVar 0) (fCons (fVar 1) fNil)))) fNx)
    (fSeq (fIfS (fT (fBin (oEqS false) (fVar 4) (fC (.int 2)))) (fRet (fTup (fCons (fC (.str "not")) (fCons (fCall rec (fCons (fVar 0) (fCons (fVar 1) (fCons (fBin oSub (fVar 2) (fC (.int 1))) (fCons (fBin oSub (fVar 3) (fC (.int 1))) fNil))))) fNil)))) fNx)
    (fSeq (fIfS (fT (fBin oLt (fVar 4) (fC (.int 5)))) (fSeq (fSet 5 (fCall rec (fCons (fVar 0) (fCons (fVar 1) (fCons (fBin oSub (fVar 2) (fC (.int 1))) (fCons (fBin oDiv (fBin oSub (fVar 3) (fC (.int 1))) (fC (.int 2))) fNil))))))
    (fSeq (fSet 6 (fCall rec (fCons (fVar 0) (fCons (fVar 1) (fCons (fBin oSub (fVar 2) (fC (.int 1))) (fCons (fBin oDiv (fBin oSub (fVar 3) (fC (.int 1))) (fC (.int 2))) fNil))))))
    (fRet (fTup (fCons (fIf (fT (fBin (oEqS false) (fVar 4) (fC (.int 3)))) (fC (.str "implies")) (fC (.str "iff"))) (fCons (fVar 5) (fCons (fVar 6) fNil))))))) fNx)
    (fSeq (fSet 7 (fCall m__law_draw (fCons (fVar 0) (fCons (fBin oAddA (fBin oMin (fC (.int 3)) (fBin oSub (fVar 3) (fC (.int 1)))) (fC (.int 1))) fNil))))
    (fSeq (fSetO 8 (fLc (fRng1 (fVar 7)) [9] (gN 9) (fun _ S => .ok true S) (e__law_part_0 rec)))
    (fSeq (fIfS (fT (fBin oLt (fVar 4) (fC (.int 7)))) (fRet (fTup (fCons (fIf (fT (fBin (oEqS false) (fVar 4) (fC (.int 5)))) (fC (.str "and")) (fC (.str "or"))) (fCons (fTupL (fOwn 8)) fNil)))) fNx)
    (fSeq (fIfS (fT (fBin (oEqS false) (fVar 4) (fC (.int 7)))) (fRet (fTup (fCons (fC (.str "atleast")) (fCons (fBin oSub (fCall m__law_draw (fCons (fVar 0) (fCons (fBin oAddA (fVar 7) (fC (.int 3))) fNil))) (fC (.int 1))) (fCons (fTupL (fOwn 8)) fNil))))) fNx)
    (fFrz 8 (fRet (fTup (fCons (fC (.str "sum")) (fCons (fTupL (fItO (fLc (fIt (fVar 8)) [10] (gN 10) (fun _ S => .ok true S) (e__law_part_1 rec)))) (fCons (fCall m__law_number (fCons (fVar 0) fNil)) fNil))))))))))))))
def mr__law_part : Nat → FM
  | 0 => fun _ _ => .bad
  | n + 1 => runF 11 (b__law_part (mr__law_part n))
def m__law_part : FM := mr__law_part 6
/-! _law_names -/
def e__law_names_0 : FE := (fBin oAddZ (fBin oIxZ (fC (.str "bdfhjlnprt")) (fVar 3)) (fBin oIxZ (fVar 2) (fCall m__law_draw (fCons (fVar 0) (fCons (fC (.int 7)) fNil)))))
def b__law_names : FT := (fSeq (fSet 2 (fFz (fNewL (fCons (fC (.str "")) (fCons (fC (.str "1")) (fCons (fC (.str "a2")) (fCons (fC (.str "zz")) (fCons (fC (.str "q9z")) (fCons (fC (.str "0000")) (fCons (fC (.str "x")) fNil))))))))))
    (fRet (fTupL (fItO (fLc (fRng1 (fVar 1)) [3] (gN 3) (fun _ S => .ok true S) e__law_names_0)))))
def m__law_names : FM := runF 4 b__law_names
/-! _law_statement -/
def e__law_statement_0 : FE := (fCall m__law_part (fCons (fVar 0) (fCons (fVar 3) (fCons (fC (.int 3)) (fCons (fVar 5) fNil)))))
def e__law_statement_1 : FE := (fTup (fCons (fCall m__law_part (fCons (fVar 0) (fCons (fVar 3) (fCons (fC (.int 1)) (fCons (fC (.int 3)) fNil))))) (fCons (fCall m__law_number (fCons (fVar 0) fNil)) fNil)))
def b__law_statement : FT := (fSeq (fAsg (gT 2 (gsC (gN 3) (gsC (gN 4) gsN))) (fTup (fCons (fBin oAddA (fC (.int 1)) (fCall m__law_draw (fCons (fVar 0) (fCons (fVar 1) fNil)))) (fCons (fCall m__law_draw (fCons (fVar 0) (fCons (fBin oAddA (fVar 2) (fC (.int 1))) fNil))) fNil))))
    (fSeq (fSet 5 (fBin oDiv (fC (.int 24)) (fBin oMax (fC (.int 1)) (fVar 4))))
    (fSeq (fSet 6 (fTupL (fItO (fLc (fRng1 (fVar 4)) [8] (gN 8) (fun _ S => .ok true S) e__law_statement_0))))
    (fSeq (fIfS (fT (fBin (oEqS false) (fCall m__law_draw (fCons (fVar 0) (fCons (fC (.int 3)) fNil))) (fC (.int 0)))) (fRet (fTup (fCons (fCall m__law_names (fCons (fVar 0) (fCons (fVar 3) fNil))) (fCons (fVar 6) (fCons (fC .none) fNil))))) fNx)
    (fSeq (fSetO 7 (fLc (fRng1 (fCall m__law_draw (fCons (fVar 0) (fCons (fC (.int 3)) fNil)))) [8] (gN 8) (fun _ S => .ok true S) e__law_statement_1))
    (fRet (fTup (fCons (fCall m__law_names (fCons (fVar 0) (fCons (fVar 3) fNil))) (fCons (fVar 6) (fCons (fTup (fCons (fTupL (fOwn 7)) (fCons (fCall m__law_number (fCons (fVar 0) fNil)) fNil))) fNil))))))))))
def m__law_statement : FM := runF 9 b__law_statement
/-! _law_truth -/
def e__law_truth_0 (rec : FM) : FE := (fCall rec (fCons (fVar 3) (fCons (fVar 1) fNil)))
def e__law_truth_1 (rec : FM) : FE := (fCall rec (fCons (fVar 3) (fCons (fVar 1) fNil)))
def t__law_truth_0 (rec : FM) : FB := (fT (fCall rec (fCons (fVar 3) (fCons (fVar 1) fNil))))
def e__law_truth_2 (rec : FM) : FE := (fVar 3)
def t__law_truth_1 (rec : FM) : FB := (fT (fCall rec (fCons (fVar 3) (fCons (fVar 1) fNil))))
def e__law_truth_3 (rec : FM) : FE := (fVar 4)
def b__law_truth (rec : FM) : FT := (fSeq (fSet 2 (fBin oIx (fVar 0) (fC (.int 0))))
    (fSeq (fIfS (fT (fBin oIn (fVar 2) (fTup (fCons (fC (.str "true")) (fCons (fC (.str "false")) fNil))))) (fRet (fBin (oEqS false) (fVar 2) (fC (.str "true")))) fNx)
    (fSeq (fIfS (fT (fBin (oEqS false) (fVar 2) (fC (.str "name")))) (fRet (fBin (oEqS false) (fBin oIx (fVar 1) (fBin oIx (fVar 0) (fC (.int 1)))) (fC (.int 1)))) fNx)
    (fSeq (fIfS (fT (fBin (oEqS false) (fVar 2) (fC (.str "not")))) (fRet (fNotV (fCall rec (fCons (fBin oIx (fVar 0) (fC (.int 1))) (fCons (fVar 1) fNil))))) fNx)
    (fSeq (fIfS (fT (fBin (oEqS false) (fVar 2) (fC (.str "and")))) (fRet (fAll (fItO (fLc (fIt (fBin oIx (fVar 0) (fC (.int 1)))) [3] (gN 3) (fun _ S => .ok true S) (e__law_truth_0 rec))))) fNx)
    (fSeq (fIfS (fT (fBin (oEqS false) (fVar 2) (fC (.str "or")))) (fRet (fAny (fItO (fLc (fIt (fBin oIx (fVar 0) (fC (.int 1)))) [3] (gN 3) (fun _ S => .ok true S) (e__law_truth_1 rec))))) fNx)
    (fSeq (fIfS (fT (fBin (oEqS false) (fVar 2) (fC (.str "implies")))) (fRet (fOrV (fNotV (fCall rec (fCons (fBin oIx (fVar 0) (fC (.int 1))) (fCons (fVar 1) fNil)))) (fCall rec (fCons (fBin oIx (fVar 0) (fC (.int 2))) (fCons (fVar 1) fNil))))) fNx)
    (fSeq (fIfS (fT (fBin (oEqS false) (fVar 2) (fC (.str "iff")))) (fRet (fBin (oEqS false) (fCall rec (fCons (fBin oIx (fVar 0) (fC (.int 1))) (fCons (fVar 1) fNil))) (fCall rec (fCons (fBin oIx (fVar 0) (fC (.int 2))) (fCons (fVar 1) fNil))))) fNx)
    (fSeq (fIfS (fT (fBin (oEqS false) (fVar 2) (fC (.str "atleast")))) (fRet (fBin oGe (fLen (fItO (fLc (fIt (fBin oIx (fVar 0) (fC (.int 2)))) [3] (gN 3) (t__law_truth_0 rec) (e__law_truth_2 rec)))) (fBin oIx (fVar 0) (fC (.int 1))))) fNx)
    (fRet (fBin oGe (fSum (fItO (fLc (fIt (fBin oIx (fVar 0) (fC (.int 1)))) [3, 4] (gT 2 (gsC (gN 3) (gsC (gN 4) gsN))) (t__law_truth_1 rec) (e__law_truth_3 rec)))) (fBin oIx (fVar 0) (fC (.int 2))))))))))))))
def mr__law_truth : Nat → FM
  | 0 => fun _ _ => .bad
  | n + 1 => runF 5 (b__law_truth (mr__law_truth n))
def m__law_truth : FM := mr__law_truth 12
/-! _law_true_claims -/
def t__law_true_claims_0 : FB := (fT (fCall m__law_truth (fCons (fVar 3) (fCons (fVar 1) fNil))))
def e__law_true_claims_0 : FE := (fVar 2)
def b__law_true_claims : FT := (fRet (fTupL (fItO (fLc (fEnumA (fBin oIx (fVar 0) (fC (.int 1)))) [2, 3] (gT 2 (gsC (gN 2) (gsC (gN 3) gsN))) t__law_true_claims_0 e__law_true_claims_0))))
def m__law_true_claims : FM := runF 4 b__law_true_claims
/-! _law_fits -/
def e__law_fits_0 : FE := (fCall m__law_truth (fCons (fVar 2) (fCons (fVar 1) fNil)))
def b__law_fits : FT := (fRet (fAll (fItO (fLc (fIt (fBin oIx (fVar 0) (fC (.int 1)))) [2] (gN 2) (fun _ S => .ok true S) e__law_fits_0))))
def m__law_fits : FM := runF 3 b__law_fits
/-! _law_cost -/
def t__law_cost_0 : FB := (fT (fCall m__law_truth (fCons (fVar 2) (fCons (fVar 1) fNil))))
def e__law_cost_0 : FE := (fVar 3)
def b__law_cost : FT := (fSeq (fIfS (fT (fUn oIsN (fBin oIx (fVar 0) (fC (.int 2))))) (fRet (fC (.int 0))) fNx)
    (fRet (fBin oAddA (fBin oIx (fBin oIx (fVar 0) (fC (.int 2))) (fC (.int 1))) (fSum (fItO (fLc (fIt (fBin oIx (fBin oIx (fVar 0) (fC (.int 2))) (fC (.int 0)))) [2, 3] (gT 2 (gsC (gN 2) (gsC (gN 3) gsN))) t__law_cost_0 e__law_cost_0))))))
def m__law_cost : FM := runF 4 b__law_cost
/-! _law_word -/
def b__law_word : FT := (fSeq (fSet 4 (fC (.str "")))
    (fSeq (fTry subQ ["BadNumber", "BadPart", "BadRow", "BadStatement"] (fIfS (fT (fBin (oEqS false) (fVar 0) (fC (.int 0)))) (fDrop (fCall m_truth (fCons (fVar 1) (fCons (fVar 2) (fCons (fVar 3) fNil))))) (fIfS (fT (fBin (oEqS false) (fVar 0) (fC (.int 1)))) (fDrop (fCall m_claims_true (fCons (fVar 1) (fCons (fVar 2) fNil)))) (fIfS (fT (fBin (oEqS false) (fVar 0) (fC (.int 2)))) (fDrop (fCall m_makes_true (fCons (fVar 1) (fCons (fVar 2) fNil)))) (fDrop (fCall m_statement_price (fCons (fVar 1) (fCons (fVar 2) fNil))))))) [⟨"SumError", some 5, fun c => if c = "BadNumber" then fPut [(4, .str "other"), (4, .str "number")] else if c = "BadPart" then fPut [(4, .str "other"), (4, .str "part")] else if c = "BadRow" then fPut [(4, .str "other"), (4, .str "row")] else if c = "BadStatement" then fPut [(4, .str "other"), (4, .str "statement")] else fNever⟩])
    (fRet (fVar 4))))
def m__law_word : FM := runF 6 b__law_word
/-! _law_wrong_rows -/
def b__law_wrong_rows : FT := (fRet (fFz (fNewL (fCons (fBin oMulT (fTup (fCons (fC (.int 0)) fNil)) (fBin oAddA (fVar 0) (fC (.int 1)))) (fCons (fBin oMulT (fTup (fCons (fC (.int 0)) fNil)) (fBin oSub (fVar 0) (fC (.int 1)))) (fCons (fFz (fRep (fNewL (fCons (fC (.int 0)) fNil)) (fVar 0))) (fCons (fBin oAddA (fTup (fCons (fC (.int 2)) fNil)) (fBin oMulT (fTup (fCons (fC (.int 0)) fNil)) (fBin oSub (fVar 0) (fC (.int 1))))) (fCons (fBin oAddA (fTup (fCons (fC (.bool true)) fNil)) (fBin oMulT (fTup (fCons (fC (.int 0)) fNil)) (fBin oSub (fVar 0) (fC (.int 1))))) (fCons (fC .none) (fCons (fBin oMulT (fTup (fCons (fUn oNeg (fC (.int 1))) fNil)) (fVar 0)) fNil))))))))))
def m__law_wrong_rows : FM := runF 1 b__law_wrong_rows
/-! _law_errors -/
def e__law_errors_0 : FE := (fCall m__law_word (fCons (fVar 5) (fCons (fVar 0) (fCons (fVar 4) (fCons (fC .none) fNil)))))
def e__law_errors_1 : FE := (fCall m__law_word (fCons (fVar 5) (fCons (fVar 3) (fCons (fVar 4) (fCons (fC .none) fNil)))))
def l__law_errors_0 : FT := (fSeq (fIfS (fOr (fT (fBin (oEqS true) (fCall m__law_word (fCons (fC (.int 0)) (fCons (fVar 1) (fCons (fTup (fCons (fC (.str "true")) fNil)) (fCons (fVar 4) fNil))))) (fC (.str "row")))) (fT (fBin (oEqS true) (fCall m__law_word (fCons (fC (.int 0)) (fCons (fVar 1) (fCons (fTup (fCons (fC (.str "name")) (fCons (fVar 1) fNil))) (fCons (fVar 4) fNil))))) (fC (.str "part"))))) (fRet (fC (.bool false))) fNx)
    (fSeq (fIfS (fT (fBin (oEqS true) (fCall m__law_word (fCons (fC (.int 0)) (fCons (fC (.int 11)) (fCons (fTup (fCons (fC (.str "name")) (fCons (fVar 1) fNil))) (fCons (fVar 4) fNil))))) (fC (.str "number")))) (fRet (fC (.bool false))) fNx)
    (fSeq (fIfS (fT (fBin (oEqS true) (fFz (fLc (fIt (fTup (fCons (fC (.int 1)) (fCons (fC (.int 2)) (fCons (fC (.int 3)) fNil))))) [5] (gN 5) (fun _ S => .ok true S) e__law_errors_0)) (fFz (fNewL (fCons (fC (.str "row")) (fCons (fC (.str "row")) (fCons (fC (.str "row")) fNil))))))) (fRet (fC (.bool false))) fNx)
    (fIfS (fT (fBin (oEqS true) (fFz (fLc (fIt (fTup (fCons (fC (.int 1)) (fCons (fC (.int 2)) (fCons (fC (.int 3)) fNil))))) [5] (gN 5) (fun _ S => .ok true S) e__law_errors_1)) (fFz (fNewL (fCons (fC (.str "statement")) (fCons (fC (.str "statement")) (fCons (fC (.str "statement")) fNil))))))) (fRet (fC (.bool false))) fNx))))
def e__law_errors_2 : FE := (fCall m__law_word (fCons (fVar 5) (fCons (fVar 3) (fCons (fVar 2) (fCons (fC .none) fNil)))))
def b__law_errors : FT := (fSeq (fAsg (gT 2 (gsC (gN 1) (gsC (gN 2) gsN))) (fTup (fCons (fLen (fIt (fBin oIx (fVar 0) (fC (.int 0))))) (fCons (fBin oMulT (fTup (fCons (fC (.int 0)) fNil)) (fLen (fIt (fBin oIx (fVar 0) (fC (.int 0)))))) fNil))))
    (fSeq (fSet 3 (fTup (fCons (fBin oIx (fVar 0) (fC (.int 0))) (fCons (fBin oAddA (fBin oIx (fVar 0) (fC (.int 1))) (fTup (fCons (fTup (fCons (fC (.str "name")) (fCons (fVar 1) fNil))) fNil))) (fCons (fBin oIx (fVar 0) (fC (.int 2))) fNil)))))
    (fSeq (fFor (fIt (fCall m__law_wrong_rows (fCons (fVar 1) fNil))) (gN 4) l__law_errors_0)
    (fRet (fBin (oEqS false) (fFz (fLc (fIt (fTup (fCons (fC (.int 1)) (fCons (fC (.int 2)) (fCons (fC (.int 3)) fNil))))) [5] (gN 5) (fun _ S => .ok true S) e__law_errors_2)) (fFz (fNewL (fCons (fC (.str "statement")) (fCons (fC (.str "statement")) (fCons (fC (.str "statement")) fNil))))))))))
def m__law_errors : FM := runF 6 b__law_errors
/-! law -/
def l_law_0 : FT := (fIfS (fNot (fT (fCall m__law_says (fCons (fCall m_truth (fCons (fVar 3) (fCons (fVar 7) (fCons (fVar 4) fNil)))) (fCons (fCall m__law_truth (fCons (fVar 7) (fCons (fVar 4) fNil))) fNil))))) (fRet (fC (.bool false))) fNx)
def l_law_1 : FT := (fSeq (fPar 5 6 (fCw (fCall m__law_true_claims (fCons (fVar 2) (fCons (fVar 4) fNil)))) (fCw (fCall m_statement_price (fCons (fVar 2) (fCons (fVar 4) fNil)))))
    (fSeq (fIfS (fOr (fT (fBin (oEqS true) (fCall m_claims_true (fCons (fVar 2) (fCons (fVar 4) fNil))) (fVar 5))) (fNot (fT (fCall m__law_says (fCons (fCall m_makes_true (fCons (fVar 2) (fCons (fVar 4) fNil))) (fCons (fCall m__law_fits (fCons (fVar 2) (fCons (fVar 4) fNil))) fNil)))))) (fRet (fC (.bool false))) fNx)
    (fSeq (fIfS (fOr (fNot (fT (fCall m__law_int (fCons (fVar 6) fNil)))) (fT (fBin (oEqS true) (fVar 6) (fCall m__law_cost (fCons (fVar 2) (fCons (fVar 4) fNil)))))) (fRet (fC (.bool false))) fNx)
    (fFor (fIt (fBin oIx (fVar 2) (fC (.int 1)))) (gN 7) l_law_0))))
def b_law : FT := (fSeq (fSet 1 (fSto (fCallO m__law_source (fCons (fVar 0) fNil))))
    (fSeq (fSet 2 (fCall m__law_statement (fCons (fVar 1) (fCons (fC (.int 5)) (fCons (fC (.int 5)) fNil)))))
    (fSeq (fSet 3 (fLen (fIt (fBin oIx (fVar 2) (fC (.int 0))))))
    (fSeq (fFor (fIt (fCall m__law_rows (fCons (fVar 3) fNil))) (gN 4) l_law_1)
    (fRet (fCall m__law_errors (fCons (fVar 2) fNil)))))))
def m_law : FM := runF 8 b_law
end L2.Q.P
namespace L2.Q.P
open PySem PySem.Spec PyProof.Rows
theorem hu200 {k : Nat} {A : Around} (hr : Room k A) : A.units + 200 < cLine := by have := hr.un; omega
theorem es_to {X : Cx} {i : Nat} {a : Addr} {sts : List Stmt} {l m : List (Nat × V)} (h : ESs X i a sts l) (e : l = m) : ESs X i a sts m := e ▸ h
abbrev s_is_int : Stmt := top 7
abbrev N_is_int : List Str := ["thing"]
abbrev ps_is_int : List Str := ["thing"]
theorem sc_is_int : FnScope N_is_int ps_is_int (defScope s_is_int) := ⟨rfl, rfl, rfl, by decide +kernel, rfl, by decide +kernel, by decide +kernel⟩
abbrev s_within : Stmt := top 8
abbrev N_within : List Str := ["thing", "low", "high"]
abbrev ps_within : List Str := ["thing", "low", "high"]
theorem sc_within : FnScope N_within ps_within (defScope s_within) := ⟨rfl, rfl, rfl, by decide +kernel, rfl, by decide +kernel, by decide +kernel⟩
abbrev s_is_row : Stmt := top 9
abbrev N_is_row : List Str := ["thing", "low", "high"]
abbrev ps_is_row : List Str := ["thing", "low", "high"]
theorem sc_is_row : FnScope N_is_row ps_is_row (defScope s_is_row) := ⟨rfl, rfl, rfl, by decide +kernel, rfl, by decide +kernel, by decide +kernel⟩
abbrev s_is_ascending : Stmt := top 10
abbrev N_is_ascending : List Str := ["thing", "one", "other"]
abbrev ps_is_ascending : List Str := ["thing"]
theorem sc_is_ascending : FnScope N_is_ascending ps_is_ascending (defScope s_is_ascending) := ⟨rfl, rfl, rfl, by decide +kernel, rfl, by decide +kernel, by decide +kernel⟩
abbrev s_is_low_name : Stmt := top 23
abbrev N_is_low_name : List Str := ["thing", "sign"]
abbrev ps_is_low_name : List Str := ["thing"]
theorem sc_is_low_name : FnScope N_is_low_name ps_is_low_name (defScope s_is_low_name) := ⟨rfl, rfl, rfl, by decide +kernel, rfl, by decide +kernel, by decide +kernel⟩
abbrev s_are_names : Stmt := top 24
abbrev N_are_names : List Str := ["thing", "name"]
abbrev ps_are_names : List Str := ["thing"]
theorem sc_are_names : FnScope N_are_names ps_are_names (defScope s_are_names) := ⟨rfl, rfl, rfl, by decide +kernel, rfl, by decide +kernel, by decide +kernel⟩
abbrev s_is_weighted : Stmt := top 25
abbrev N_is_weighted : List Str := ["thing"]
abbrev ps_is_weighted : List Str := ["thing"]
theorem sc_is_weighted : FnScope N_is_weighted ps_is_weighted (defScope s_is_weighted) := ⟨rfl, rfl, rfl, by decide +kernel, rfl, by decide +kernel, by decide +kernel⟩
abbrev s_parts_within : Stmt := top 26
abbrev N_parts_within : List Str := ["n", "thing", "word", "many", "item"]
abbrev ps_parts_within : List Str := ["n", "thing"]
theorem sc_parts_within : FnScope N_parts_within ps_parts_within (defScope s_parts_within) := ⟨rfl, rfl, rfl, by decide +kernel, rfl, by decide +kernel, by decide +kernel⟩
abbrev s_count_parts : Stmt := top 27
abbrev N_count_parts : List Str := ["n", "things", "found", "waiting", "thing", "deep", "inner", "one"]
abbrev ps_count_parts : List Str := ["n", "things"]
theorem sc_count_parts : FnScope N_count_parts ps_count_parts (defScope s_count_parts) := ⟨rfl, rfl, rfl, by decide +kernel, rfl, by decide +kernel, by decide +kernel⟩
abbrev s_is_part : Stmt := top 28
abbrev N_is_part : List Str := ["n", "thing"]
abbrev ps_is_part : List Str := ["n", "thing"]
theorem sc_is_part : FnScope N_is_part ps_is_part (defScope s_is_part) := ⟨rfl, rfl, rfl, by decide +kernel, rfl, by decide +kernel, by decide +kernel⟩
abbrev s_is_price : Stmt := top 29
abbrev N_is_price : List Str := ["thing", "item"]
abbrev ps_is_price : List Str := ["thing"]
theorem sc_is_price : FnScope N_is_price ps_is_price (defScope s_is_price) := ⟨rfl, rfl, rfl, by decide +kernel, rfl, by decide +kernel, by decide +kernel⟩
abbrev s_items_of : Stmt := top 30
abbrev N_items_of : List Str := ["price"]
abbrev ps_items_of : List Str := ["price"]
theorem sc_items_of : FnScope N_items_of ps_items_of (defScope s_items_of) := ⟨rfl, rfl, rfl, by decide +kernel, rfl, by decide +kernel, by decide +kernel⟩
abbrev s_is_statement : Stmt := top 31
abbrev N_is_statement : List Str := ["thing", "item"]
abbrev ps_is_statement : List Str := ["thing"]
theorem sc_is_statement : FnScope N_is_statement ps_is_statement (defScope s_is_statement) := ⟨rfl, rfl, rfl, by decide +kernel, rfl, by decide +kernel, by decide +kernel⟩
abbrev s_need_statement : Stmt := top 32
abbrev N_need_statement : List Str := ["statement"]
abbrev ps_need_statement : List Str := ["statement"]
theorem sc_need_statement : FnScope N_need_statement ps_need_statement (defScope s_need_statement) := ⟨rfl, rfl, rfl, by decide +kernel, rfl, by decide +kernel, by decide +kernel⟩
abbrev s_is_name_row : Stmt := top 33
abbrev N_is_name_row : List Str := ["n", "thing", "value"]
abbrev ps_is_name_row : List Str := ["n", "thing"]
theorem sc_is_name_row : FnScope N_is_name_row ps_is_name_row (defScope s_is_name_row) := ⟨rfl, rfl, rfl, by decide +kernel, rfl, by decide +kernel, by decide +kernel⟩
abbrev s_need_row : Stmt := top 34
abbrev N_need_row : List Str := ["n", "row"]
abbrev ps_need_row : List Str := ["n", "row"]
theorem sc_need_row : FnScope N_need_row ps_need_row (defScope s_need_row) := ⟨rfl, rfl, rfl, by decide +kernel, rfl, by decide +kernel, by decide +kernel⟩
abbrev s_weighed : Stmt := top 35
abbrev N_weighed : List Str := ["part", "word", "one"]
abbrev ps_weighed : List Str := ["part"]
theorem sc_weighed : FnScope N_weighed ps_weighed (defScope s_weighed) := ⟨rfl, rfl, rfl, by decide +kernel, rfl, by decide +kernel, by decide +kernel⟩
abbrev s_is_true : Stmt := top 36
abbrev N_is_true : List Str := ["part", "row", "word", "items", "number", "one", "weight"]
abbrev ps_is_true : List Str := ["part", "row"]
theorem sc_is_true : FnScope N_is_true ps_is_true (defScope s_is_true) := ⟨rfl, rfl, rfl, by decide +kernel, rfl, by decide +kernel, by decide +kernel⟩
abbrev s_truth : Stmt := top 37
abbrev N_truth : List Str := ["n", "part", "row"]
abbrev ps_truth : List Str := ["n", "part", "row"]
theorem sc_truth : FnScope N_truth ps_truth (defScope s_truth) := ⟨rfl, rfl, rfl, by decide +kernel, rfl, by decide +kernel, by decide +kernel⟩
abbrev s_claims_at : Stmt := top 38
abbrev N_claims_at : List Str := ["statement", "row", "k", "claim"]
abbrev ps_claims_at : List Str := ["statement", "row"]
theorem sc_claims_at : FnScope N_claims_at ps_claims_at (defScope s_claims_at) := ⟨rfl, rfl, rfl, by decide +kernel, rfl, by decide +kernel, by decide +kernel⟩
abbrev s_claims_true : Stmt := top 39
abbrev N_claims_true : List Str := ["statement", "row"]
abbrev ps_claims_true : List Str := ["statement", "row"]
theorem sc_claims_true : FnScope N_claims_true ps_claims_true (defScope s_claims_true) := ⟨rfl, rfl, rfl, by decide +kernel, rfl, by decide +kernel, by decide +kernel⟩
abbrev s_makes_true : Stmt := top 40
abbrev N_makes_true : List Str := ["statement", "row"]
abbrev ps_makes_true : List Str := ["statement", "row"]
theorem sc_makes_true : FnScope N_makes_true ps_makes_true (defScope s_makes_true) := ⟨rfl, rfl, rfl, by decide +kernel, rfl, by decide +kernel, by decide +kernel⟩
abbrev s_price_with : Stmt := top 41
abbrev N_price_with : List Str := ["statement", "row", "price", "one", "weight"]
abbrev ps_price_with : List Str := ["statement", "row"]
theorem sc_price_with : FnScope N_price_with ps_price_with (defScope s_price_with) := ⟨rfl, rfl, rfl, by decide +kernel, rfl, by decide +kernel, by decide +kernel⟩
abbrev s_statement_price : Stmt := top 42
abbrev N_statement_price : List Str := ["statement", "row"]
abbrev ps_statement_price : List Str := ["statement", "row"]
theorem sc_statement_price : FnScope N_statement_price ps_statement_price (defScope s_statement_price) := ⟨rfl, rfl, rfl, by decide +kernel, rfl, by decide +kernel, by decide +kernel⟩
abbrev s__law_source : Stmt := top 44
abbrev N__law_source : List Str := ["script", "cells", "great", "small", "cell"]
abbrev ps__law_source : List Str := ["script"]
theorem sc__law_source : FnScope N__law_source ps__law_source (defScope s__law_source) := ⟨rfl, rfl, rfl, by decide +kernel, rfl, by decide +kernel, by decide +kernel⟩
abbrev s__law_draw : Stmt := top 45
abbrev N__law_draw : List Str := ["source", "many", "great", "small", "turn", "number", "cell", "first", "second"]
abbrev ps__law_draw : List Str := ["source", "many"]
theorem sc__law_draw : FnScope N__law_draw ps__law_draw (defScope s__law_draw) := ⟨rfl, rfl, rfl, by decide +kernel, rfl, by decide +kernel, by decide +kernel⟩
abbrev s__law_rows : Stmt := top 46
abbrev N__law_rows : List Str := ["many", "found", "k", "longer", "row"]
abbrev ps__law_rows : List Str := ["many"]
theorem sc__law_rows : FnScope N__law_rows ps__law_rows (defScope s__law_rows) := ⟨rfl, rfl, rfl, by decide +kernel, rfl, by decide +kernel, by decide +kernel⟩
abbrev s__law_int : Stmt := top 47
abbrev N__law_int : List Str := ["thing"]
abbrev ps__law_int : List Str := ["thing"]
theorem sc__law_int : FnScope N__law_int ps__law_int (defScope s__law_int) := ⟨rfl, rfl, rfl, by decide +kernel, rfl, by decide +kernel, by decide +kernel⟩
abbrev s__law_says : Stmt := top 48
abbrev N__law_says : List Str := ["told", "due"]
abbrev ps__law_says : List Str := ["told", "due"]
theorem sc__law_says : FnScope N__law_says ps__law_says (defScope s__law_says) := ⟨rfl, rfl, rfl, by decide +kernel, rfl, by decide +kernel, by decide +kernel⟩
abbrev s__law_leaf : Stmt := top 49
abbrev N__law_leaf : List Str := ["source", "n", "kind"]
abbrev ps__law_leaf : List Str := ["source", "n"]
theorem sc__law_leaf : FnScope N__law_leaf ps__law_leaf (defScope s__law_leaf) := ⟨rfl, rfl, rfl, by decide +kernel, rfl, by decide +kernel, by decide +kernel⟩
abbrev s__law_number : Stmt := top 50
abbrev N__law_number : List Str := ["source"]
abbrev ps__law_number : List Str := ["source"]
theorem sc__law_number : FnScope N__law_number ps__law_number (defScope s__law_number) := ⟨rfl, rfl, rfl, by decide +kernel, rfl, by decide +kernel, by decide +kernel⟩
abbrev s__law_part : Stmt := top 51
abbrev N__law_part : List Str := ["source", "n", "deep", "budget", "kind", "one", "other", "count", "parts", "k", "part"]
abbrev ps__law_part : List Str := ["source", "n", "deep", "budget"]
theorem sc__law_part : FnScope N__law_part ps__law_part (defScope s__law_part) := ⟨rfl, rfl, rfl, by decide +kernel, rfl, by decide +kernel, by decide +kernel⟩
abbrev s__law_names : Stmt := top 52
abbrev N__law_names : List Str := ["source", "n", "tails", "k"]
abbrev ps__law_names : List Str := ["source", "n"]
theorem sc__law_names : FnScope N__law_names ps__law_names (defScope s__law_names) := ⟨rfl, rfl, rfl, by decide +kernel, rfl, by decide +kernel, by decide +kernel⟩
abbrev s__law_statement : Stmt := top 53
abbrev N__law_statement : List Str := ["source", "most", "count", "n", "claims", "budget", "parts", "items", "k"]
abbrev ps__law_statement : List Str := ["source", "most", "count"]
theorem sc__law_statement : FnScope N__law_statement ps__law_statement (defScope s__law_statement) := ⟨rfl, rfl, rfl, by decide +kernel, rfl, by decide +kernel, by decide +kernel⟩
abbrev s__law_truth : Stmt := top 54
abbrev N__law_truth : List Str := ["part", "row", "word", "one", "weight"]
abbrev ps__law_truth : List Str := ["part", "row"]
theorem sc__law_truth : FnScope N__law_truth ps__law_truth (defScope s__law_truth) := ⟨rfl, rfl, rfl, by decide +kernel, rfl, by decide +kernel, by decide +kernel⟩
abbrev s__law_true_claims : Stmt := top 55
abbrev N__law_true_claims : List Str := ["statement", "row", "index", "claim"]
abbrev ps__law_true_claims : List Str := ["statement", "row"]
theorem sc__law_true_claims : FnScope N__law_true_claims ps__law_true_claims (defScope s__law_true_claims) := ⟨rfl, rfl, rfl, by decide +kernel, rfl, by decide +kernel, by decide +kernel⟩
abbrev s__law_fits : Stmt := top 56
abbrev N__law_fits : List Str := ["statement", "row", "claim"]
abbrev ps__law_fits : List Str := ["statement", "row"]
theorem sc__law_fits : FnScope N__law_fits ps__law_fits (defScope s__law_fits) := ⟨rfl, rfl, rfl, by decide +kernel, rfl, by decide +kernel, by decide +kernel⟩
abbrev s__law_cost : Stmt := top 57
abbrev N__law_cost : List Str := ["statement", "row", "one", "weight"]
abbrev ps__law_cost : List Str := ["statement", "row"]
theorem sc__law_cost : FnScope N__law_cost ps__law_cost (defScope s__law_cost) := ⟨rfl, rfl, rfl, by decide +kernel, rfl, by decide +kernel, by decide +kernel⟩
abbrev s__law_word : Stmt := top 58
abbrev N__law_word : List Str := ["kind", "first", "second", "third", "word", "e"]
abbrev ps__law_word : List Str := ["kind", "first", "second", "third"]
theorem sc__law_word : FnScope N__law_word ps__law_word (defScope s__law_word) := ⟨rfl, rfl, rfl, by decide +kernel, rfl, by decide +kernel, by decide +kernel⟩
abbrev s__law_wrong_rows : Stmt := top 59
abbrev N__law_wrong_rows : List Str := ["n"]
abbrev ps__law_wrong_rows : List Str := ["n"]
theorem sc__law_wrong_rows : FnScope N__law_wrong_rows ps__law_wrong_rows (defScope s__law_wrong_rows) := ⟨rfl, rfl, rfl, by decide +kernel, rfl, by decide +kernel, by decide +kernel⟩
abbrev s__law_errors : Stmt := top 60
abbrev N__law_errors : List Str := ["statement", "n", "row", "bad", "wrong", "kind"]
abbrev ps__law_errors : List Str := ["statement"]
theorem sc__law_errors : FnScope N__law_errors ps__law_errors (defScope s__law_errors) := ⟨rfl, rfl, rfl, by decide +kernel, rfl, by decide +kernel, by decide +kernel⟩
abbrev s_law : Stmt := top 61
abbrev N_law : List Str := ["script", "source", "statement", "n", "row", "due", "cost", "part"]
abbrev ps_law : List Str := ["script"]
theorem sc_law : FnScope N_law ps_law (defScope s_law) := ⟨rfl, rfl, rfl, by decide +kernel, rfl, by decide +kernel, by decide +kernel⟩
structure Fx (K : PySem.W.Frag) (mg : Str → Option Value) : Prop where
  z_isinstance : mg "isinstance" = none
  z_bool : mg "bool" = none
  z_int : mg "int" = none
  z_len : mg "len" = none
  z_tuple : mg "tuple" = none
  z_zip : mg "zip" = none
  z_all : mg "all" = none
  z_str : mg "str" = none
  z_list : mg "list" = none
  z_sum : mg "sum" = none
  z_enumerate : mg "enumerate" = none
  z_range : mg "range" = none
  z_min : mg "min" = none
  z_max : mg "max" = none
  z_any : mg "any" = none
  i_LONGEST_NAME : ∃ t, mg "LONGEST_NAME" = some (.int 10 t)
  i_MOST_NAMES : ∃ t, mg "MOST_NAMES" = some (.int 10 t)
  i_MOST_WEIGHT : ∃ t, mg "MOST_WEIGHT" = some (.int 1000 t)
  i_MOST_LEAST : ∃ t, mg "MOST_LEAST" = some (.int 100 t)
  i_MOST_PARTS : ∃ t, mg "MOST_PARTS" = some (.int 32 t)
  i_MOST_DEEP : ∃ t, mg "MOST_DEEP" = some (.int 8 t)
  i_MOST_CLAIMS : ∃ t, mg "MOST_CLAIMS" = some (.int 12 t)
  u_SMALL_LETTERS : ∃ t, mg "SMALL_LETTERS" = some (.str "abcdefghijklmnopqrstuvwxyz" t)
  u_DIGITS : ∃ t, mg "DIGITS" = some (.str "0123456789" t)
  g_OTHER_WORDS : mg "OTHER_WORDS" = some (.ref (He.ga K "OTHER_WORDS"))
  t_OTHER_WORDS : ∀ F : Hp, Dp K F (.ref (He.ga K "OTHER_WORDS")) (.tuple [.str "names", .str "claim", .str "price", .str "from"])
  g_PART_WORDS : mg "PART_WORDS" = some (.ref (He.ga K "PART_WORDS"))
  t_PART_WORDS : ∀ F : Hp, Dp K F (.ref (He.ga K "PART_WORDS")) (.tuple [.str "true", .str "false", .str "not", .str "and", .str "or", .str "implies", .str "iff", .str "atleast", .str "sum"])
  g_is_int : mg "is_int" = some (.ref (He.ga K "is_int"))
  g_within : mg "within" = some (.ref (He.ga K "within"))
  g_is_row : mg "is_row" = some (.ref (He.ga K "is_row"))
  g_is_ascending : mg "is_ascending" = some (.ref (He.ga K "is_ascending"))
  g_is_low_name : mg "is_low_name" = some (.ref (He.ga K "is_low_name"))
  g_are_names : mg "are_names" = some (.ref (He.ga K "are_names"))
  g_is_weighted : mg "is_weighted" = some (.ref (He.ga K "is_weighted"))
  g_parts_within : mg "parts_within" = some (.ref (He.ga K "parts_within"))
  g_count_parts : mg "count_parts" = some (.ref (He.ga K "count_parts"))
  g_is_part : mg "is_part" = some (.ref (He.ga K "is_part"))
  g_is_price : mg "is_price" = some (.ref (He.ga K "is_price"))
  g_items_of : mg "items_of" = some (.ref (He.ga K "items_of"))
  g_is_statement : mg "is_statement" = some (.ref (He.ga K "is_statement"))
  g_need_statement : mg "need_statement" = some (.ref (He.ga K "need_statement"))
  g_is_name_row : mg "is_name_row" = some (.ref (He.ga K "is_name_row"))
  g_need_row : mg "need_row" = some (.ref (He.ga K "need_row"))
  g_weighed : mg "weighed" = some (.ref (He.ga K "weighed"))
  g_is_true : mg "is_true" = some (.ref (He.ga K "is_true"))
  g_truth : mg "truth" = some (.ref (He.ga K "truth"))
  g_claims_at : mg "claims_at" = some (.ref (He.ga K "claims_at"))
  g_claims_true : mg "claims_true" = some (.ref (He.ga K "claims_true"))
  g_makes_true : mg "makes_true" = some (.ref (He.ga K "makes_true"))
  g_price_with : mg "price_with" = some (.ref (He.ga K "price_with"))
  g_statement_price : mg "statement_price" = some (.ref (He.ga K "statement_price"))
  g__law_source : mg "_law_source" = some (.ref (He.ga K "_law_source"))
  g__law_draw : mg "_law_draw" = some (.ref (He.ga K "_law_draw"))
  g__law_rows : mg "_law_rows" = some (.ref (He.ga K "_law_rows"))
  g__law_int : mg "_law_int" = some (.ref (He.ga K "_law_int"))
  g__law_says : mg "_law_says" = some (.ref (He.ga K "_law_says"))
  g__law_leaf : mg "_law_leaf" = some (.ref (He.ga K "_law_leaf"))
  g__law_number : mg "_law_number" = some (.ref (He.ga K "_law_number"))
  g__law_part : mg "_law_part" = some (.ref (He.ga K "_law_part"))
  g__law_names : mg "_law_names" = some (.ref (He.ga K "_law_names"))
  g__law_statement : mg "_law_statement" = some (.ref (He.ga K "_law_statement"))
  g__law_truth : mg "_law_truth" = some (.ref (He.ga K "_law_truth"))
  g__law_true_claims : mg "_law_true_claims" = some (.ref (He.ga K "_law_true_claims"))
  g__law_fits : mg "_law_fits" = some (.ref (He.ga K "_law_fits"))
  g__law_cost : mg "_law_cost" = some (.ref (He.ga K "_law_cost"))
  g__law_word : mg "_law_word" = some (.ref (He.ga K "_law_word"))
  g__law_wrong_rows : mg "_law_wrong_rows" = some (.ref (He.ga K "_law_wrong_rows"))
  g__law_errors : mg "_law_errors" = some (.ref (He.ga K "_law_errors"))
  g_law : mg "law" = some (.ref (He.ga K "law"))
  c_BadNumber : mg "BadNumber" = some (.ref (He.ga K "BadNumber"))
  x_BadNumber : PySem.W.excIn K (He.ga K "BadNumber") He.veBase "ValueError.__new__" = true ∧ PySem.W.keepIn K (.ref (He.ga K "BadNumber")) = true ∧ PySem.W.subIn K (.ref (He.ga K "BadNumber")) (.type "BaseException") = some true ∧ PySem.W.typeIn K (.ref (He.ga K "BadNumber")) = some (.type "type")
  c_BadStatement : mg "BadStatement" = some (.ref (He.ga K "BadStatement"))
  x_BadStatement : PySem.W.excIn K (He.ga K "BadStatement") He.veBase "ValueError.__new__" = true ∧ PySem.W.keepIn K (.ref (He.ga K "BadStatement")) = true ∧ PySem.W.subIn K (.ref (He.ga K "BadStatement")) (.type "BaseException") = some true ∧ PySem.W.typeIn K (.ref (He.ga K "BadStatement")) = some (.type "type")
  c_BadRow : mg "BadRow" = some (.ref (He.ga K "BadRow"))
  x_BadRow : PySem.W.excIn K (He.ga K "BadRow") He.veBase "ValueError.__new__" = true ∧ PySem.W.keepIn K (.ref (He.ga K "BadRow")) = true ∧ PySem.W.subIn K (.ref (He.ga K "BadRow")) (.type "BaseException") = some true ∧ PySem.W.typeIn K (.ref (He.ga K "BadRow")) = some (.type "type")
  c_BadPart : mg "BadPart" = some (.ref (He.ga K "BadPart"))
  x_BadPart : PySem.W.excIn K (He.ga K "BadPart") He.veBase "ValueError.__new__" = true ∧ PySem.W.keepIn K (.ref (He.ga K "BadPart")) = true ∧ PySem.W.subIn K (.ref (He.ga K "BadPart")) (.type "BaseException") = some true ∧ PySem.W.typeIn K (.ref (He.ga K "BadPart")) = some (.type "type")
  c_SumError : mg "SumError" = some (.ref (He.ga K "SumError"))
  x_SumError : PySem.W.excIn K (He.ga K "SumError") He.veBase "ValueError.__new__" = true ∧ PySem.W.keepIn K (.ref (He.ga K "SumError")) = true ∧ PySem.W.subIn K (.ref (He.ga K "SumError")) (.type "BaseException") = some true ∧ PySem.W.typeIn K (.ref (He.ga K "SumError")) = some (.type "type")
  w_BadStatement : ExcC K (He.ga K "BadStatement")
  w_BadRow : ExcC K (He.ga K "BadRow")
  w_BadPart : ExcC K (He.ga K "BadPart")
  w_BadNumber : ExcC K (He.ga K "BadNumber")
  p_BadNumber_SumError : PySem.W.exmOne K (.ref (He.ga K "BadNumber")) (.ref (He.ga K "SumError")) = some true
  p_BadPart_SumError : PySem.W.exmOne K (.ref (He.ga K "BadPart")) (.ref (He.ga K "SumError")) = some true
  p_BadRow_SumError : PySem.W.exmOne K (.ref (He.ga K "BadRow")) (.ref (He.ga K "SumError")) = some true
  p_BadStatement_SumError : PySem.W.exmOne K (.ref (He.ga K "BadStatement")) (.ref (He.ga K "SumError")) = some true
  k_BadStatement_BadNumber : PySem.W.kitOne K (.ref (He.ga K "BadStatement")) (.ref (He.ga K "BadNumber")) = some false
  k_BadStatement_BadPart : PySem.W.kitOne K (.ref (He.ga K "BadStatement")) (.ref (He.ga K "BadPart")) = some false
  k_BadStatement_BadRow : PySem.W.kitOne K (.ref (He.ga K "BadStatement")) (.ref (He.ga K "BadRow")) = some false
  k_BadStatement_BadStatement : PySem.W.kitOne K (.ref (He.ga K "BadStatement")) (.ref (He.ga K "BadStatement")) = some true
  k_BadRow_BadNumber : PySem.W.kitOne K (.ref (He.ga K "BadRow")) (.ref (He.ga K "BadNumber")) = some false
  k_BadRow_BadPart : PySem.W.kitOne K (.ref (He.ga K "BadRow")) (.ref (He.ga K "BadPart")) = some false
  k_BadRow_BadRow : PySem.W.kitOne K (.ref (He.ga K "BadRow")) (.ref (He.ga K "BadRow")) = some true
  k_BadRow_BadStatement : PySem.W.kitOne K (.ref (He.ga K "BadRow")) (.ref (He.ga K "BadStatement")) = some false
  k_BadPart_BadNumber : PySem.W.kitOne K (.ref (He.ga K "BadPart")) (.ref (He.ga K "BadNumber")) = some false
  k_BadPart_BadPart : PySem.W.kitOne K (.ref (He.ga K "BadPart")) (.ref (He.ga K "BadPart")) = some true
  k_BadPart_BadRow : PySem.W.kitOne K (.ref (He.ga K "BadPart")) (.ref (He.ga K "BadRow")) = some false
  k_BadPart_BadStatement : PySem.W.kitOne K (.ref (He.ga K "BadPart")) (.ref (He.ga K "BadStatement")) = some false
  k_BadNumber_BadNumber : PySem.W.kitOne K (.ref (He.ga K "BadNumber")) (.ref (He.ga K "BadNumber")) = some true
  k_BadNumber_BadPart : PySem.W.kitOne K (.ref (He.ga K "BadNumber")) (.ref (He.ga K "BadPart")) = some false
  k_BadNumber_BadRow : PySem.W.kitOne K (.ref (He.ga K "BadNumber")) (.ref (He.ga K "BadRow")) = some false
  k_BadNumber_BadStatement : PySem.W.kitOne K (.ref (He.ga K "BadNumber")) (.ref (He.ga K "BadStatement")) = some false
  d_is_int : ∃ fd, FnP K "is_int" s_is_int (He.ga K "is_int") fd
  d_within : ∃ fd, FnP K "within" s_within (He.ga K "within") fd
  d_is_row : ∃ fd, FnP K "is_row" s_is_row (He.ga K "is_row") fd
  d_is_ascending : ∃ fd, FnP K "is_ascending" s_is_ascending (He.ga K "is_ascending") fd
  d_is_low_name : ∃ fd, FnP K "is_low_name" s_is_low_name (He.ga K "is_low_name") fd
  d_are_names : ∃ fd, FnP K "are_names" s_are_names (He.ga K "are_names") fd
  d_is_weighted : ∃ fd, FnP K "is_weighted" s_is_weighted (He.ga K "is_weighted") fd
  d_parts_within : ∃ fd, FnP K "parts_within" s_parts_within (He.ga K "parts_within") fd
  d_count_parts : ∃ fd, FnP K "count_parts" s_count_parts (He.ga K "count_parts") fd
  d_is_part : ∃ fd, FnP K "is_part" s_is_part (He.ga K "is_part") fd
  d_is_price : ∃ fd, FnP K "is_price" s_is_price (He.ga K "is_price") fd
  d_items_of : ∃ fd, FnP K "items_of" s_items_of (He.ga K "items_of") fd
  d_is_statement : ∃ fd, FnP K "is_statement" s_is_statement (He.ga K "is_statement") fd
  d_need_statement : ∃ fd, FnP K "need_statement" s_need_statement (He.ga K "need_statement") fd
  d_is_name_row : ∃ fd, FnP K "is_name_row" s_is_name_row (He.ga K "is_name_row") fd
  d_need_row : ∃ fd, FnP K "need_row" s_need_row (He.ga K "need_row") fd
  d_weighed : ∃ fd, FnP K "weighed" s_weighed (He.ga K "weighed") fd
  d_is_true : ∃ fd, FnP K "is_true" s_is_true (He.ga K "is_true") fd
  d_truth : ∃ fd, FnP K "truth" s_truth (He.ga K "truth") fd
  d_claims_at : ∃ fd, FnP K "claims_at" s_claims_at (He.ga K "claims_at") fd
  d_claims_true : ∃ fd, FnP K "claims_true" s_claims_true (He.ga K "claims_true") fd
  d_makes_true : ∃ fd, FnP K "makes_true" s_makes_true (He.ga K "makes_true") fd
  d_price_with : ∃ fd, FnP K "price_with" s_price_with (He.ga K "price_with") fd
  d_statement_price : ∃ fd, FnP K "statement_price" s_statement_price (He.ga K "statement_price") fd
  d__law_source : ∃ fd, FnP K "_law_source" s__law_source (He.ga K "_law_source") fd
  d__law_draw : ∃ fd, FnP K "_law_draw" s__law_draw (He.ga K "_law_draw") fd
  d__law_rows : ∃ fd, FnP K "_law_rows" s__law_rows (He.ga K "_law_rows") fd
  d__law_int : ∃ fd, FnP K "_law_int" s__law_int (He.ga K "_law_int") fd
  d__law_says : ∃ fd, FnP K "_law_says" s__law_says (He.ga K "_law_says") fd
  d__law_leaf : ∃ fd, FnP K "_law_leaf" s__law_leaf (He.ga K "_law_leaf") fd
  d__law_number : ∃ fd, FnP K "_law_number" s__law_number (He.ga K "_law_number") fd
  d__law_part : ∃ fd, FnP K "_law_part" s__law_part (He.ga K "_law_part") fd
  d__law_names : ∃ fd, FnP K "_law_names" s__law_names (He.ga K "_law_names") fd
  d__law_statement : ∃ fd, FnP K "_law_statement" s__law_statement (He.ga K "_law_statement") fd
  d__law_truth : ∃ fd, FnP K "_law_truth" s__law_truth (He.ga K "_law_truth") fd
  d__law_true_claims : ∃ fd, FnP K "_law_true_claims" s__law_true_claims (He.ga K "_law_true_claims") fd
  d__law_fits : ∃ fd, FnP K "_law_fits" s__law_fits (He.ga K "_law_fits") fd
  d__law_cost : ∃ fd, FnP K "_law_cost" s__law_cost (He.ga K "_law_cost") fd
  d__law_word : ∃ fd, FnP K "_law_word" s__law_word (He.ga K "_law_word") fd
  d__law_wrong_rows : ∃ fd, FnP K "_law_wrong_rows" s__law_wrong_rows (He.ga K "_law_wrong_rows") fd
  d__law_errors : ∃ fd, FnP K "_law_errors" s__law_errors (He.ga K "_law_errors") fd
  d_law : ∃ fd, FnP K "law" s_law (He.ga K "law") fd
section
variable {P : Program} {w : World} {K : PySem.W.Frag} {mg : Str → Option Value} {base : Heap}
theorem su__law_word_243 (T : Fx K mg) : Subs K mg subQ ["BadNumber", "BadPart", "BadRow", "BadStatement"] ["SumError"] := by
  intro d hd c hc C D e1 e2
  simp only [List.mem_cons, List.not_mem_nil, or_false] at hd hc
  rcases hd with rfl | rfl | rfl | rfl <;> rcases hc with rfl
  · cases e1.symm.trans T.c_BadNumber; cases e2.symm.trans T.c_SumError; exact T.p_BadNumber_SumError.trans (congrArg some (by decide +kernel))
  · cases e1.symm.trans T.c_BadPart; cases e2.symm.trans T.c_SumError; exact T.p_BadPart_SumError.trans (congrArg some (by decide +kernel))
  · cases e1.symm.trans T.c_BadRow; cases e2.symm.trans T.c_SumError; exact T.p_BadRow_SumError.trans (congrArg some (by decide +kernel))
  · cases e1.symm.trans T.c_BadStatement; cases e2.symm.trans T.c_SumError; exact T.p_BadStatement_SumError.trans (congrArg some (by decide +kernel))
theorem bn_is_int {f : Addr} {fd : FuncData} (F : FnP K "is_int" s_is_int f fd) : Binds K fd ps_is_int [] := F.bindsN fun _ _ _ _ _ _ us hl => match us, hl with | [_], _ => rfl
theorem bn_within {f : Addr} {fd : FuncData} (F : FnP K "within" s_within f fd) : Binds K fd ps_within [] := F.bindsN fun _ _ _ _ _ _ us hl => match us, hl with | [_, _, _], _ => rfl
theorem bn_is_row {f : Addr} {fd : FuncData} (F : FnP K "is_row" s_is_row f fd) : Binds K fd ps_is_row [] := F.bindsN fun _ _ _ _ _ _ us hl => match us, hl with | [_, _, _], _ => rfl
theorem bn_is_ascending {f : Addr} {fd : FuncData} (F : FnP K "is_ascending" s_is_ascending f fd) : Binds K fd ps_is_ascending [] := F.bindsN fun _ _ _ _ _ _ us hl => match us, hl with | [_], _ => rfl
theorem bn_is_low_name {f : Addr} {fd : FuncData} (F : FnP K "is_low_name" s_is_low_name f fd) : Binds K fd ps_is_low_name [] := F.bindsN fun _ _ _ _ _ _ us hl => match us, hl with | [_], _ => rfl
theorem bn_are_names {f : Addr} {fd : FuncData} (F : FnP K "are_names" s_are_names f fd) : Binds K fd ps_are_names [] := F.bindsN fun _ _ _ _ _ _ us hl => match us, hl with | [_], _ => rfl
theorem bn_is_weighted {f : Addr} {fd : FuncData} (F : FnP K "is_weighted" s_is_weighted f fd) : Binds K fd ps_is_weighted [] := F.bindsN fun _ _ _ _ _ _ us hl => match us, hl with | [_], _ => rfl
theorem bn_parts_within {f : Addr} {fd : FuncData} (F : FnP K "parts_within" s_parts_within f fd) : Binds K fd ps_parts_within [] := F.bindsN fun _ _ _ _ _ _ us hl => match us, hl with | [_, _], _ => rfl
theorem bn_count_parts {f : Addr} {fd : FuncData} (F : FnP K "count_parts" s_count_parts f fd) : Binds K fd ps_count_parts [] := F.bindsN fun _ _ _ _ _ _ us hl => match us, hl with | [_, _], _ => rfl
theorem bn_is_part {f : Addr} {fd : FuncData} (F : FnP K "is_part" s_is_part f fd) : Binds K fd ps_is_part [] := F.bindsN fun _ _ _ _ _ _ us hl => match us, hl with | [_, _], _ => rfl
theorem bn_is_price {f : Addr} {fd : FuncData} (F : FnP K "is_price" s_is_price f fd) : Binds K fd ps_is_price [] := F.bindsN fun _ _ _ _ _ _ us hl => match us, hl with | [_], _ => rfl
theorem bn_items_of {f : Addr} {fd : FuncData} (F : FnP K "items_of" s_items_of f fd) : Binds K fd ps_items_of [] := F.bindsN fun _ _ _ _ _ _ us hl => match us, hl with | [_], _ => rfl
theorem bn_is_statement {f : Addr} {fd : FuncData} (F : FnP K "is_statement" s_is_statement f fd) : Binds K fd ps_is_statement [] := F.bindsN fun _ _ _ _ _ _ us hl => match us, hl with | [_], _ => rfl
theorem bn_need_statement {f : Addr} {fd : FuncData} (F : FnP K "need_statement" s_need_statement f fd) : Binds K fd ps_need_statement [] := F.bindsN fun _ _ _ _ _ _ us hl => match us, hl with | [_], _ => rfl
theorem bn_is_name_row {f : Addr} {fd : FuncData} (F : FnP K "is_name_row" s_is_name_row f fd) : Binds K fd ps_is_name_row [] := F.bindsN fun _ _ _ _ _ _ us hl => match us, hl with | [_, _], _ => rfl
theorem bn_need_row {f : Addr} {fd : FuncData} (F : FnP K "need_row" s_need_row f fd) : Binds K fd ps_need_row [] := F.bindsN fun _ _ _ _ _ _ us hl => match us, hl with | [_, _], _ => rfl
theorem bn_weighed {f : Addr} {fd : FuncData} (F : FnP K "weighed" s_weighed f fd) : Binds K fd ps_weighed [] := F.bindsN fun _ _ _ _ _ _ us hl => match us, hl with | [_], _ => rfl
theorem bn_is_true {f : Addr} {fd : FuncData} (F : FnP K "is_true" s_is_true f fd) : Binds K fd ps_is_true [] := F.bindsN fun _ _ _ _ _ _ us hl => match us, hl with | [_, _], _ => rfl
theorem bn_truth {f : Addr} {fd : FuncData} (F : FnP K "truth" s_truth f fd) : Binds K fd ps_truth [] := F.bindsN fun _ _ _ _ _ _ us hl => match us, hl with | [_, _, _], _ => rfl
theorem bn_claims_at {f : Addr} {fd : FuncData} (F : FnP K "claims_at" s_claims_at f fd) : Binds K fd ps_claims_at [] := F.bindsN fun _ _ _ _ _ _ us hl => match us, hl with | [_, _], _ => rfl
theorem bn_claims_true {f : Addr} {fd : FuncData} (F : FnP K "claims_true" s_claims_true f fd) : Binds K fd ps_claims_true [] := F.bindsN fun _ _ _ _ _ _ us hl => match us, hl with | [_, _], _ => rfl
theorem bn_makes_true {f : Addr} {fd : FuncData} (F : FnP K "makes_true" s_makes_true f fd) : Binds K fd ps_makes_true [] := F.bindsN fun _ _ _ _ _ _ us hl => match us, hl with | [_, _], _ => rfl
theorem bn_price_with {f : Addr} {fd : FuncData} (F : FnP K "price_with" s_price_with f fd) : Binds K fd ps_price_with [] := F.bindsN fun _ _ _ _ _ _ us hl => match us, hl with | [_, _], _ => rfl
theorem bn_statement_price {f : Addr} {fd : FuncData} (F : FnP K "statement_price" s_statement_price f fd) : Binds K fd ps_statement_price [] := F.bindsN fun _ _ _ _ _ _ us hl => match us, hl with | [_, _], _ => rfl
theorem bn__law_source {f : Addr} {fd : FuncData} (F : FnP K "_law_source" s__law_source f fd) : Binds K fd ps__law_source [] := F.bindsN fun _ _ _ _ _ _ us hl => match us, hl with | [_], _ => rfl
theorem bn__law_draw {f : Addr} {fd : FuncData} (F : FnP K "_law_draw" s__law_draw f fd) : Binds K fd ps__law_draw [] := F.bindsN fun _ _ _ _ _ _ us hl => match us, hl with | [_, _], _ => rfl
theorem bn__law_rows {f : Addr} {fd : FuncData} (F : FnP K "_law_rows" s__law_rows f fd) : Binds K fd ps__law_rows [] := F.bindsN fun _ _ _ _ _ _ us hl => match us, hl with | [_], _ => rfl
theorem bn__law_int {f : Addr} {fd : FuncData} (F : FnP K "_law_int" s__law_int f fd) : Binds K fd ps__law_int [] := F.bindsN fun _ _ _ _ _ _ us hl => match us, hl with | [_], _ => rfl
theorem bn__law_says {f : Addr} {fd : FuncData} (F : FnP K "_law_says" s__law_says f fd) : Binds K fd ps__law_says [] := F.bindsN fun _ _ _ _ _ _ us hl => match us, hl with | [_, _], _ => rfl
theorem bn__law_leaf {f : Addr} {fd : FuncData} (F : FnP K "_law_leaf" s__law_leaf f fd) : Binds K fd ps__law_leaf [] := F.bindsN fun _ _ _ _ _ _ us hl => match us, hl with | [_, _], _ => rfl
theorem bn__law_number {f : Addr} {fd : FuncData} (F : FnP K "_law_number" s__law_number f fd) : Binds K fd ps__law_number [] := F.bindsN fun _ _ _ _ _ _ us hl => match us, hl with | [_], _ => rfl
theorem bn__law_part {f : Addr} {fd : FuncData} (F : FnP K "_law_part" s__law_part f fd) : Binds K fd ps__law_part [] := F.bindsN fun _ _ _ _ _ _ us hl => match us, hl with | [_, _, _, _], _ => rfl
theorem bn__law_names {f : Addr} {fd : FuncData} (F : FnP K "_law_names" s__law_names f fd) : Binds K fd ps__law_names [] := F.bindsN fun _ _ _ _ _ _ us hl => match us, hl with | [_, _], _ => rfl
theorem bn__law_statement {f : Addr} {fd : FuncData} (F : FnP K "_law_statement" s__law_statement f fd) : Binds K fd ps__law_statement [] := F.bindsN fun _ _ _ _ _ _ us hl => match us, hl with | [_, _, _], _ => rfl
theorem bn__law_truth {f : Addr} {fd : FuncData} (F : FnP K "_law_truth" s__law_truth f fd) : Binds K fd ps__law_truth [] := F.bindsN fun _ _ _ _ _ _ us hl => match us, hl with | [_, _], _ => rfl
theorem bn__law_true_claims {f : Addr} {fd : FuncData} (F : FnP K "_law_true_claims" s__law_true_claims f fd) : Binds K fd ps__law_true_claims [] := F.bindsN fun _ _ _ _ _ _ us hl => match us, hl with | [_, _], _ => rfl
theorem bn__law_fits {f : Addr} {fd : FuncData} (F : FnP K "_law_fits" s__law_fits f fd) : Binds K fd ps__law_fits [] := F.bindsN fun _ _ _ _ _ _ us hl => match us, hl with | [_, _], _ => rfl
theorem bn__law_cost {f : Addr} {fd : FuncData} (F : FnP K "_law_cost" s__law_cost f fd) : Binds K fd ps__law_cost [] := F.bindsN fun _ _ _ _ _ _ us hl => match us, hl with | [_, _], _ => rfl
theorem bn__law_word {f : Addr} {fd : FuncData} (F : FnP K "_law_word" s__law_word f fd) : Binds K fd ps__law_word [] := F.bindsN fun _ _ _ _ _ _ us hl => match us, hl with | [_, _, _, _], _ => rfl
theorem bn__law_wrong_rows {f : Addr} {fd : FuncData} (F : FnP K "_law_wrong_rows" s__law_wrong_rows f fd) : Binds K fd ps__law_wrong_rows [] := F.bindsN fun _ _ _ _ _ _ us hl => match us, hl with | [_], _ => rfl
theorem bn__law_errors {f : Addr} {fd : FuncData} (F : FnP K "_law_errors" s__law_errors f fd) : Binds K fd ps__law_errors [] := F.bindsN fun _ _ _ _ _ _ us hl => match us, hl with | [_], _ => rfl
theorem bn_law {f : Addr} {fd : FuncData} (F : FnP K "law" s_law f fd) : Binds K fd ps_law [] := F.bindsN fun _ _ _ _ _ _ us hl => match us, hl with | [_], _ => rfl
theorem ok_is_int (T : Fx K mg) {fd : FuncData} (F : FnP K "is_int" s_is_int (He.ga K "is_int") fd) : FnQ P w K mg base 1 (He.ga K "is_int") fd ps_is_int m_is_int := by
  refine q_fn F.toFun sc_is_int rfl fun cdv A outer s H E hr => ?_
  have NO : N_is_int.Nodup := sc_is_int.nd
  exact (s_one (s_ret (q_andV (q_isi (n := "int") rfl T.z_isinstance rfl T.z_int (by decide +kernel) (q_var (i := 0) rfl (.inl rfl))) (q_one (q_notV (q_isi (n := "bool") rfl T.z_isinstance rfl T.z_bool (by decide +kernel) (q_var (i := 0) rfl (.inl rfl))))))))
theorem ok_within (T : Fx K mg) {fd : FuncData} (F : FnP K "within" s_within (He.ga K "within") fd) : FnQ P w K mg base 2 (He.ga K "within") fd ps_within m_within := by
  obtain ⟨fd_is_int, F_is_int⟩ := T.d_is_int
  refine q_fn F.toFun sc_within rfl fun cdv A outer s H E hr => ?_
  have NO : N_within.Nodup := sc_within.nd
  exact (s_one (s_ret (q_andV (q_call (ok_is_int T F_is_int) (hr.mono (by decide)) rfl T.g_is_int F_is_int.kp (bn_is_int F_is_int) (takes_of rfl rfl rfl rfl) (ln_cons ln_nil) (q_acons (q_var (i := 0) rfl (.inl rfl)) q_anil)) (q_one (q_chainI op_le op_le (q_var (i := 1) rfl (.inl rfl)) (q_var (i := 0) rfl (.inl rfl)) (q_var (i := 2) rfl (.inl rfl)))))))
theorem ok_is_row (T : Fx K mg) {fd : FuncData} (F : FnP K "is_row" s_is_row (He.ga K "is_row") fd) : FnQ P w K mg base 1 (He.ga K "is_row") fd ps_is_row m_is_row := by
  refine q_fn F.toFun sc_is_row rfl fun cdv A outer s H E hr => ?_
  have NO : N_is_row.Nodup := sc_is_row.nd
  exact (s_one (s_ret (q_andV (q_isi (n := "tuple") rfl T.z_isinstance rfl T.z_tuple (by decide +kernel) (q_var (i := 0) rfl (.inl rfl))) (q_one (q_chainI op_le op_le (q_var (i := 1) rfl (.inl rfl)) (q_len rfl T.z_len (qs_v (q_var (i := 0) rfl (.inl rfl)))) (q_var (i := 2) rfl (.inl rfl)))))))
theorem ok_is_ascending (T : Fx K mg) {fd : FuncData} (F : FnP K "is_ascending" s_is_ascending (He.ga K "is_ascending") fd) : FnQ P w K mg base 1 (He.ga K "is_ascending") fd ps_is_ascending m_is_ascending := by
  refine q_fn F.toFun sc_is_ascending rfl fun cdv A outer s H E hr => ?_
  have NO : N_is_ascending.Nodup := sc_is_ascending.nd
  exact (s_one (s_ret (q_all rfl rfl T.z_all (l_new (q_lc (own := [("one", 1), ("other", 2)]) rfl NO (go_t (go_c (go_n (by decide)) (go_c (go_n (by decide)) go_nil))) (i_zip rfl T.z_zip (q_var (i := 0) rfl (.inl rfl)) (q_cut (q_var (i := 0) rfl (.inl rfl)) (p_some q_int) p_none)) (blk_of (by kernel_rfl)) (fun _ _ _ _ _ => (g_tup rfl (gs_cons (g_name (i := 1) (by decide) NO rfl (.inl rfl)) (gs_cons (g_name (i := 2) (by decide) NO rfl (.inl rfl)) gs_nil)))) (fun _ _ _ _ _ => ts_nil) (fun _ _ _ _ _ => (q_ltZ (q_var (i := 1) rfl (.inl rfl)) (q_var (i := 2) rfl (.inl rfl)))))))))
theorem ok_is_low_name (T : Fx K mg) {fd : FuncData} (F : FnP K "is_low_name" s_is_low_name (He.ga K "is_low_name") fd) : FnQ P w K mg base 1 (He.ga K "is_low_name") fd ps_is_low_name m_is_low_name := by
  refine q_fn F.toFun sc_is_low_name rfl fun cdv A outer s H E hr => ?_
  have NO : N_is_low_name.Nodup := sc_is_low_name.nd
  exact (s_cons (s_if (PW.pt (q_or (q_not (q_tv (q_isi (n := "str") rfl T.z_isinstance rfl T.z_str (by decide +kernel) (q_var (i := 0) rfl (.inl rfl))))) (q_or (q_not (t_chainI op_le op_le q_int (q_lenS rfl T.z_len (q_var (i := 0) rfl (.inl rfl))) (q_glob (v := .int 10) rfl (T.i_LONGEST_NAME).choose_spec ⟨_, rfl⟩ (fun _ => .int _)))) (q_or1 (t_ninZ (q_ixZ (q_var (i := 0) rfl (.inl rfl)) q_int) (q_glob (v := .str "abcdefghijklmnopqrstuvwxyz") rfl (T.u_SMALL_LETTERS).choose_spec ⟨_, rfl⟩ (fun _ => .str _))))))) (s_one (s_ret q_bl)) s_nil)
    (s_cons (s_if (q_not (q_tv (q_all rfl rfl T.z_all (l_new (q_lc (own := [("sign", 1)]) rfl NO (go_n (by decide)) (i_chr (q_var (i := 0) rfl (.inl rfl))) (blk_of (by kernel_rfl)) (fun _ _ _ _ _ => (g_name (i := 1) (by decide) NO rfl (.inl rfl))) (fun _ _ _ _ _ => ts_nil) (fun _ _ _ _ _ => (q_orV (q_inZ (q_var (i := 1) rfl (.inl rfl)) (q_glob (v := .str "abcdefghijklmnopqrstuvwxyz") rfl (T.u_SMALL_LETTERS).choose_spec ⟨_, rfl⟩ (fun _ => .str _))) (q_one (q_inZ (q_var (i := 1) rfl (.inl rfl)) (q_glob (v := .str "0123456789") rfl (T.u_DIGITS).choose_spec ⟨_, rfl⟩ (fun _ => .str _))))))))))) (s_one (s_ret q_bl)) s_nil)
    (s_one (s_ret (q_andV (q_ninZ (q_var (i := 0) rfl (.inl rfl)) (q_glob (v := .ref (He.ga K "PART_WORDS")) rfl T.g_PART_WORDS rfl T.t_PART_WORDS)) (q_one (q_ninZ (q_var (i := 0) rfl (.inl rfl)) (q_glob (v := .ref (He.ga K "OTHER_WORDS")) rfl T.g_OTHER_WORDS rfl T.t_OTHER_WORDS))))))))
theorem ok_are_names (T : Fx K mg) {fd : FuncData} (F : FnP K "are_names" s_are_names (He.ga K "are_names") fd) : FnQ P w K mg base 2 (He.ga K "are_names") fd ps_are_names m_are_names := by
  obtain ⟨fd_is_row, F_is_row⟩ := T.d_is_row
  obtain ⟨fd_is_low_name, F_is_low_name⟩ := T.d_is_low_name
  obtain ⟨fd_is_ascending, F_is_ascending⟩ := T.d_is_ascending
  refine q_fn F.toFun sc_are_names rfl fun cdv A outer s H E hr => ?_
  have NO : N_are_names.Nodup := sc_are_names.nd
  exact (s_one (s_ret (q_andV (q_call (ok_is_row T F_is_row) (hr.mono (by decide)) rfl T.g_is_row F_is_row.kp (bn_is_row F_is_row) (takes_of rfl rfl rfl rfl) (ln_cons (ln_cons (ln_cons ln_nil))) (q_acons (q_var (i := 0) rfl (.inl rfl)) (q_acons q_int (q_acons (q_glob (v := .int 10) rfl (T.i_MOST_NAMES).choose_spec ⟨_, rfl⟩ (fun _ => .int _)) q_anil)))) (q_andV (q_all rfl rfl T.z_all (l_new (q_lc (own := [("name", 1)]) rfl NO (go_n (by decide)) (i_val (q_var (i := 0) rfl (.inl rfl))) (blk_of (by kernel_rfl)) (fun _ _ _ _ _ => (g_name (i := 1) (by decide) NO rfl (.inl rfl))) (fun _ _ _ _ _ => ts_nil) (fun _ _ _ _ _ => (q_call (ok_is_low_name T F_is_low_name) (hr.mono (by decide)) rfl T.g_is_low_name F_is_low_name.kp (bn_is_low_name F_is_low_name) tk0 (ln_cons ln_nil) (q_acons (q_var (i := 1) rfl (.inl rfl)) q_anil)))))) (q_one (q_call (ok_is_ascending T F_is_ascending) (hr.mono (by decide)) rfl T.g_is_ascending F_is_ascending.kp (bn_is_ascending F_is_ascending) (takes_of rfl rfl rfl rfl) (ln_cons ln_nil) (q_acons (q_var (i := 0) rfl (.inl rfl)) q_anil)))))))
theorem ok_is_weighted (T : Fx K mg) {fd : FuncData} (F : FnP K "is_weighted" s_is_weighted (He.ga K "is_weighted") fd) : FnQ P w K mg base 3 (He.ga K "is_weighted") fd ps_is_weighted m_is_weighted := by
  obtain ⟨fd_is_row, F_is_row⟩ := T.d_is_row
  obtain ⟨fd_within, F_within⟩ := T.d_within
  refine q_fn F.toFun sc_is_weighted rfl fun cdv A outer s H E hr => ?_
  have NO : N_is_weighted.Nodup := sc_is_weighted.nd
  exact (s_one (s_ret (q_andV (q_call (ok_is_row T F_is_row) (hr.mono (by decide)) rfl T.g_is_row F_is_row.kp (bn_is_row F_is_row) (takes_of rfl rfl rfl rfl) (ln_cons (ln_cons (ln_cons ln_nil))) (q_acons (q_var (i := 0) rfl (.inl rfl)) (q_acons q_int (q_acons q_int q_anil)))) (q_one (q_call (ok_within T F_within) (hr.mono (by decide)) rfl T.g_within F_within.kp (bn_within F_within) (takes_of rfl rfl rfl rfl) (ln_cons (ln_cons (ln_cons ln_nil))) (q_acons (q_ix (q_var (i := 0) rfl (.inl rfl)) q_int) (q_acons (q_un un_neg f_neg (q_glob (v := .int 1000) rfl (T.i_MOST_WEIGHT).choose_spec ⟨_, rfl⟩ (fun _ => .int _))) (q_acons (q_glob (v := .int 1000) rfl (T.i_MOST_WEIGHT).choose_spec ⟨_, rfl⟩ (fun _ => .int _)) q_anil))))))))
theorem ok_parts_within (T : Fx K mg) {fd : FuncData} (F : FnP K "parts_within" s_parts_within (He.ga K "parts_within") fd) : FnQ P w K mg base 4 (He.ga K "parts_within") fd ps_parts_within m_parts_within := by
  obtain ⟨fd_is_row, F_is_row⟩ := T.d_is_row
  obtain ⟨fd_within, F_within⟩ := T.d_within
  obtain ⟨fd_is_weighted, F_is_weighted⟩ := T.d_is_weighted
  refine q_fn F.toFun sc_parts_within rfl fun cdv A outer s H E hr => ?_
  have NO : N_parts_within.Nodup := sc_parts_within.nd
  exact (s_cons (s_if (PW.pt (q_or (q_not (q_tv (q_call (ok_is_row T F_is_row) (hr.mono (by decide)) rfl T.g_is_row F_is_row.kp (bn_is_row F_is_row) (takes_of rfl rfl rfl rfl) (ln_cons (ln_cons (ln_cons ln_nil))) (q_acons (q_var (i := 1) rfl (.inl rfl)) (q_acons q_int (q_acons q_int q_anil)))))) (q_or1 (q_not (q_tv (q_isi (n := "str") rfl T.z_isinstance rfl T.z_str (by decide +kernel) (q_ixZ (q_var (i := 1) rfl (.inl rfl)) q_int))))))) (s_one (s_ret q_non)) s_nil)
    (s_cons (s_par (i := 2) (j := 3) rfl NO rfl rfl (by decide) rfl rfl (c_w (q_ixZ (q_var (i := 1) rfl (.inl rfl)) q_int)) (c_w (q_len rfl T.z_len (qs_v (q_var (i := 1) rfl (.inl rfl))))) (by rfl))
    (s_cons (s_if (t_inZ (q_var (i := 2) rfl (.inl rfl)) (q_tup (q_acons q_str (q_acons q_str q_anil)) (ln_cons (ln_cons ln_nil)))) (s_one (s_ret (q_if (t_eq hr.units (q_var (i := 3) rfl (.inl rfl)) q_int) (q_fz (q_lst q_anil ln_nil)) q_non))) s_nil)
    (s_cons (s_if (t_eq hr.units (q_var (i := 2) rfl (.inl rfl)) q_str) (s_one (s_ret (q_if (PW.pt (q_and (t_eq hr.units (q_var (i := 3) rfl (.inl rfl)) q_int) (q_and1 (q_tv (q_call (ok_within T F_within) (hr.mono (by decide)) rfl T.g_within F_within.kp (bn_within F_within) (takes_of rfl rfl rfl rfl) (ln_cons (ln_cons (ln_cons ln_nil))) (q_acons (q_ixZ (q_var (i := 1) rfl (.inl rfl)) q_int) (q_acons q_int (q_acons (q_op op_sub f_sub (q_var (i := 0) rfl (.inl rfl)) q_int) q_anil)))))))) (q_fz (q_lst q_anil ln_nil)) q_non))) s_nil)
    (s_cons (s_if (t_eq hr.units (q_var (i := 2) rfl (.inl rfl)) q_str) (s_one (s_ret (q_if (t_eq hr.units (q_var (i := 3) rfl (.inl rfl)) q_int) (q_fz (q_lst (q_acons (q_ixZ (q_var (i := 1) rfl (.inl rfl)) q_int) q_anil) (ln_cons ln_nil))) q_non))) s_nil)
    (s_cons (s_if (t_inZ (q_var (i := 2) rfl (.inl rfl)) (q_tup (q_acons q_str (q_acons q_str q_anil)) (ln_cons (ln_cons ln_nil)))) (s_one (s_ret (q_if (t_eq hr.units (q_var (i := 3) rfl (.inl rfl)) q_int) (q_fz (q_lst (q_acons (q_ixZ (q_var (i := 1) rfl (.inl rfl)) q_int) (q_acons (q_ixZ (q_var (i := 1) rfl (.inl rfl)) q_int) q_anil)) (ln_cons (ln_cons ln_nil)))) q_non))) s_nil)
    (s_cons (s_if (t_inZ (q_var (i := 2) rfl (.inl rfl)) (q_tup (q_acons q_str (q_acons q_str q_anil)) (ln_cons (ln_cons ln_nil)))) (s_one (s_ret (q_if (PW.pt (q_and (t_eq hr.units (q_var (i := 3) rfl (.inl rfl)) q_int) (q_and1 (q_tv (q_isi (n := "tuple") rfl T.z_isinstance rfl T.z_tuple (by decide +kernel) (q_ixZ (q_var (i := 1) rfl (.inl rfl)) q_int)))))) (q_fz (q_listOf rfl T.z_list (qs_v (q_ixZ (q_var (i := 1) rfl (.inl rfl)) q_int)))) q_non))) s_nil)
    (s_cons (s_if (t_ne hr.units (q_var (i := 3) rfl (.inl rfl)) q_int) (s_one (s_ret q_non)) s_nil)
    (s_cons (s_if (t_eq hr.units (q_var (i := 2) rfl (.inl rfl)) q_str) (s_one (s_ret (q_if (PW.pt (q_and (q_tv (q_call (ok_within T F_within) (hr.mono (by decide)) rfl T.g_within F_within.kp (bn_within F_within) (takes_of rfl rfl rfl rfl) (ln_cons (ln_cons (ln_cons ln_nil))) (q_acons (q_ixZ (q_var (i := 1) rfl (.inl rfl)) q_int) (q_acons (q_un un_neg f_neg (q_glob (v := .int 100) rfl (T.i_MOST_LEAST).choose_spec ⟨_, rfl⟩ (fun _ => .int _))) (q_acons (q_glob (v := .int 100) rfl (T.i_MOST_LEAST).choose_spec ⟨_, rfl⟩ (fun _ => .int _)) q_anil))))) (q_and1 (q_tv (q_isi (n := "tuple") rfl T.z_isinstance rfl T.z_tuple (by decide +kernel) (q_ixZ (q_var (i := 1) rfl (.inl rfl)) q_int)))))) (q_fz (q_listOf rfl T.z_list (qs_v (q_ixZ (q_var (i := 1) rfl (.inl rfl)) q_int)))) q_non))) s_nil)
    (s_cons (s_if (PW.pt (q_or (t_ne hr.units (q_var (i := 2) rfl (.inl rfl)) q_str) (q_or (q_not (q_tv (q_call (ok_within T F_within) (hr.mono (by decide)) rfl T.g_within F_within.kp (bn_within F_within) (takes_of rfl rfl rfl rfl) (ln_cons (ln_cons (ln_cons ln_nil))) (q_acons (q_ixZ (q_var (i := 1) rfl (.inl rfl)) q_int) (q_acons (q_un un_neg f_neg (q_glob (v := .int 1000) rfl (T.i_MOST_WEIGHT).choose_spec ⟨_, rfl⟩ (fun _ => .int _))) (q_acons (q_glob (v := .int 1000) rfl (T.i_MOST_WEIGHT).choose_spec ⟨_, rfl⟩ (fun _ => .int _)) q_anil)))))) (q_or1 (q_not (q_tv (q_isi (n := "tuple") rfl T.z_isinstance rfl T.z_tuple (by decide +kernel) (q_ixZ (q_var (i := 1) rfl (.inl rfl)) q_int)))))))) (s_one (s_ret q_non)) s_nil)
    (s_one (s_ret (q_if (q_tv (q_all rfl rfl T.z_all (l_new (q_lc (own := [("item", 4)]) rfl NO (go_n (by decide)) (i_val (q_ixZ (q_var (i := 1) rfl (.inl rfl)) q_int)) (blk_of (by kernel_rfl)) (fun _ _ _ _ _ => (g_name (i := 4) (by decide) NO rfl (.inl rfl))) (fun _ _ _ _ _ => ts_nil) (fun _ _ _ _ _ => (q_call (ok_is_weighted T F_is_weighted) (hr.mono (by decide)) rfl T.g_is_weighted F_is_weighted.kp (bn_is_weighted F_is_weighted) tk0 (ln_cons ln_nil) (q_acons (q_var (i := 4) rfl (.inl rfl)) q_anil))))))) (q_fz (q_lc (own := [("item", 4)]) rfl NO (go_n (by decide)) (i_val (q_ixZ (q_var (i := 1) rfl (.inl rfl)) q_int)) (blk_of (by kernel_rfl)) (fun _ _ _ _ _ => (g_name (i := 4) (by decide) NO rfl (.inl rfl))) (fun _ _ _ _ _ => ts_nil) (fun _ _ _ _ _ => (q_ixZ (q_var (i := 4) rfl (.inl rfl)) q_int)))) q_non)))))))))))))
theorem ok_count_parts (T : Fx K mg) {fd : FuncData} (F : FnP K "count_parts" s_count_parts (He.ga K "count_parts") fd) : FnQ P w K mg base 5 (He.ga K "count_parts") fd ps_count_parts m_count_parts := by
  obtain ⟨fd_parts_within, F_parts_within⟩ := T.d_parts_within
  refine q_fn F.toFun sc_count_parts rfl fun cdv A outer s H E hr => ?_
  have NO : N_count_parts.Nodup := sc_count_parts.nd
  exact (s_cons (s_par (i := 2) (j := 3) rfl NO rfl rfl (by decide) rfl rfl (c_w q_int) (c_o (q_lc (own := [("thing", 4)]) rfl NO (go_n (by decide)) (i_val (q_var (i := 1) rfl (.inl rfl))) (blk_of (by kernel_rfl)) (fun _ _ _ _ _ => (g_name (i := 4) (by decide) NO rfl (.inl rfl))) (fun _ _ _ _ _ => ts_nil) (fun _ _ _ _ _ => (q_tup (q_acons (q_var (i := 4) rfl (.inl rfl)) (q_acons q_int q_anil)) (ln_cons (ln_cons ln_nil)))))) (by rfl))
    (s_cons (s_while fuelW (passes_of rfl) (t_neO (i := 3) hr.units rfl (.inl rfl) (q_fz (q_lst q_anil ln_nil))) (s_cons (s_asgX (own := [4, 5]) (x_pop (i := 3) rfl (.inl rfl)) (g_tup rfl (gs_cons (g_name (i := 4) (by decide) NO rfl (.inl rfl)) (gs_cons (g_name (i := 5) (by decide) NO rfl (.inr rfl)) gs_nil))))
    (s_cons (s_set NO (i := 6) rfl (.inl rfl) (q_call (ok_parts_within T F_parts_within) (hr.mono (by decide)) rfl T.g_parts_within F_parts_within.kp (bn_parts_within F_parts_within) (takes_of rfl rfl rfl rfl) (ln_cons (ln_cons ln_nil)) (q_acons (q_var (i := 0) rfl (.inl rfl)) (q_acons (q_var (i := 4) rfl (.inl rfl)) q_anil))))
    (s_cons (s_aug NO (i := 2) rfl (.inl rfl) q_int ip_add f_iadd)
    (s_cons (s_if (PW.pt (q_or (t_isN (q_var (i := 6) rfl (.inl rfl))) (q_or (q_tc op_gt f_gt (q_var (i := 5) rfl (.inr (.inl rfl))) (q_glob (v := .int 8) rfl (T.i_MOST_DEEP).choose_spec ⟨_, rfl⟩ (fun _ => .int _)) (nomark _)) (q_or1 (q_tc op_gt f_gt (q_add (q_add (q_var (i := 2) rfl (.inl rfl)) (q_len rfl T.z_len (qs_l (l_own (i := 3) rfl (.inl rfl))))) (q_len rfl T.z_len (qs_v (q_var (i := 6) rfl (.inl rfl))))) (q_glob (v := .int 32) rfl (T.i_MOST_PARTS).choose_spec ⟨_, rfl⟩ (fun _ => .int _)) (nomark _)))))) (s_one (s_ret q_non)) s_nil)
    (s_one (s_exprX (x_ext (i := 3) rfl (.inl rfl) (q_lc (own := [("one", 7)]) rfl NO (go_n (by decide)) (i_val (q_var (i := 6) rfl (.inl rfl))) (blk_of (by kernel_rfl)) (fun _ _ _ _ _ => (g_name (i := 7) (by decide) NO rfl (.inl rfl))) (fun _ _ _ _ _ => ts_nil) (fun _ _ _ _ _ => (q_tup (q_acons (q_var (i := 7) rfl (.inl rfl)) (q_acons (q_add (q_var (i := 5) rfl (.inr (.inl rfl))) q_int) q_anil)) (ln_cons (ln_cons ln_nil)))))))))))))
    (s_one (s_ret (q_var (i := 2) rfl (.inl rfl))))))
theorem ok_is_part (T : Fx K mg) {fd : FuncData} (F : FnP K "is_part" s_is_part (He.ga K "is_part") fd) : FnQ P w K mg base 6 (He.ga K "is_part") fd ps_is_part m_is_part := by
  obtain ⟨fd_within, F_within⟩ := T.d_within
  obtain ⟨fd_count_parts, F_count_parts⟩ := T.d_count_parts
  refine q_fn F.toFun sc_is_part rfl fun cdv A outer s H E hr => ?_
  have NO : N_is_part.Nodup := sc_is_part.nd
  exact (s_cons (s_if (q_not (q_tv (q_call (ok_within T F_within) (hr.mono (by decide)) rfl T.g_within F_within.kp (bn_within F_within) (takes_of rfl rfl rfl rfl) (ln_cons (ln_cons (ln_cons ln_nil))) (q_acons (q_var (i := 0) rfl (.inl rfl)) (q_acons q_int (q_acons (q_glob (v := .int 10) rfl (T.i_MOST_NAMES).choose_spec ⟨_, rfl⟩ (fun _ => .int _)) q_anil)))))) (s_one (s_raise rfl (takes_of rfl rfl rfl rfl) T.c_BadNumber (pmk_own PySem.F.excBase_ValueError T.x_BadNumber.1 T.c_BadNumber T.x_BadNumber.2.1 (raises_own T.x_BadNumber.2.2.1 T.x_BadNumber.2.2.2) rfl))) s_nil)
    (s_one (s_ret (q_notN (q_call (ok_count_parts T F_count_parts) (hr.mono (by decide)) rfl T.g_count_parts F_count_parts.kp (bn_count_parts F_count_parts) (takes_of rfl rfl rfl rfl) (ln_cons (ln_cons ln_nil)) (q_acons (q_var (i := 0) rfl (.inl rfl)) (q_acons (q_fz (q_lst (q_acons (q_var (i := 1) rfl (.inl rfl)) q_anil) (ln_cons ln_nil))) q_anil)))))))
theorem ok_is_price (T : Fx K mg) {fd : FuncData} (F : FnP K "is_price" s_is_price (He.ga K "is_price") fd) : FnQ P w K mg base 4 (He.ga K "is_price") fd ps_is_price m_is_price := by
  obtain ⟨fd_is_row, F_is_row⟩ := T.d_is_row
  obtain ⟨fd_is_weighted, F_is_weighted⟩ := T.d_is_weighted
  obtain ⟨fd_within, F_within⟩ := T.d_within
  refine q_fn F.toFun sc_is_price rfl fun cdv A outer s H E hr => ?_
  have NO : N_is_price.Nodup := sc_is_price.nd
  exact (s_cons (s_if (t_isN (q_var (i := 0) rfl (.inl rfl))) (s_one (s_ret q_bl)) s_nil)
    (s_cons (s_if (PW.pt (q_or (q_not (q_tv (q_call (ok_is_row T F_is_row) (hr.mono (by decide)) rfl T.g_is_row F_is_row.kp (bn_is_row F_is_row) (takes_of rfl rfl rfl rfl) (ln_cons (ln_cons (ln_cons ln_nil))) (q_acons (q_var (i := 0) rfl (.inl rfl)) (q_acons q_int (q_acons q_int q_anil)))))) (q_or1 (q_not (q_tv (q_isi (n := "tuple") rfl T.z_isinstance rfl T.z_tuple (by decide +kernel) (q_ix (q_var (i := 0) rfl (.inl rfl)) q_int))))))) (s_one (s_ret q_bl)) s_nil)
    (s_one (s_ret (q_andV (q_all rfl rfl T.z_all (l_new (q_lc (own := [("item", 1)]) rfl NO (go_n (by decide)) (i_val (q_ix (q_var (i := 0) rfl (.inl rfl)) q_int)) (blk_of (by kernel_rfl)) (fun _ _ _ _ _ => (g_name (i := 1) (by decide) NO rfl (.inl rfl))) (fun _ _ _ _ _ => ts_nil) (fun _ _ _ _ _ => (q_call (ok_is_weighted T F_is_weighted) (hr.mono (by decide)) rfl T.g_is_weighted F_is_weighted.kp (bn_is_weighted F_is_weighted) tk0 (ln_cons ln_nil) (q_acons (q_var (i := 1) rfl (.inl rfl)) q_anil)))))) (q_one (q_call (ok_within T F_within) (hr.mono (by decide)) rfl T.g_within F_within.kp (bn_within F_within) (takes_of rfl rfl rfl rfl) (ln_cons (ln_cons (ln_cons ln_nil))) (q_acons (q_ix (q_var (i := 0) rfl (.inl rfl)) q_int) (q_acons (q_un un_neg f_neg (q_glob (v := .int 1000) rfl (T.i_MOST_WEIGHT).choose_spec ⟨_, rfl⟩ (fun _ => .int _))) (q_acons (q_glob (v := .int 1000) rfl (T.i_MOST_WEIGHT).choose_spec ⟨_, rfl⟩ (fun _ => .int _)) q_anil))))))))))
theorem ok_items_of (T : Fx K mg) {fd : FuncData} (F : FnP K "items_of" s_items_of (He.ga K "items_of") fd) : FnQ P w K mg base 1 (He.ga K "items_of") fd ps_items_of m_items_of := by
  refine q_fn F.toFun sc_items_of rfl fun cdv A outer s H E hr => ?_
  have NO : N_items_of.Nodup := sc_items_of.nd
  exact (s_one (s_ret (q_if (t_isN (q_var (i := 0) rfl (.inl rfl))) (q_tup q_anil ln_nil) (q_ix (q_var (i := 0) rfl (.inl rfl)) q_int))))
theorem ok_is_statement (T : Fx K mg) {fd : FuncData} (F : FnP K "is_statement" s_is_statement (He.ga K "is_statement") fd) : FnQ P w K mg base 6 (He.ga K "is_statement") fd ps_is_statement m_is_statement := by
  obtain ⟨fd_is_row, F_is_row⟩ := T.d_is_row
  obtain ⟨fd_are_names, F_are_names⟩ := T.d_are_names
  obtain ⟨fd_is_price, F_is_price⟩ := T.d_is_price
  obtain ⟨fd_count_parts, F_count_parts⟩ := T.d_count_parts
  obtain ⟨fd_items_of, F_items_of⟩ := T.d_items_of
  refine q_fn F.toFun sc_is_statement rfl fun cdv A outer s H E hr => ?_
  have NO : N_is_statement.Nodup := sc_is_statement.nd
  exact (s_cons (s_if (PW.pt (q_or (q_not (q_tv (q_call (ok_is_row T F_is_row) (hr.mono (by decide)) rfl T.g_is_row F_is_row.kp (bn_is_row F_is_row) (takes_of rfl rfl rfl rfl) (ln_cons (ln_cons (ln_cons ln_nil))) (q_acons (q_var (i := 0) rfl (.inl rfl)) (q_acons q_int (q_acons q_int q_anil)))))) (q_or (q_not (q_tv (q_call (ok_are_names T F_are_names) (hr.mono (by decide)) rfl T.g_are_names F_are_names.kp (bn_are_names F_are_names) (takes_of rfl rfl rfl rfl) (ln_cons ln_nil) (q_acons (q_ix (q_var (i := 0) rfl (.inl rfl)) q_int) q_anil)))) (q_or1 (q_not (q_tv (q_call (ok_is_row T F_is_row) (hr.mono (by decide)) rfl T.g_is_row F_is_row.kp (bn_is_row F_is_row) (takes_of rfl rfl rfl rfl) (ln_cons (ln_cons (ln_cons ln_nil))) (q_acons (q_ix (q_var (i := 0) rfl (.inl rfl)) q_int) (q_acons q_int (q_acons (q_glob (v := .int 12) rfl (T.i_MOST_CLAIMS).choose_spec ⟨_, rfl⟩ (fun _ => .int _)) q_anil)))))))))) (s_one (s_ret q_bl)) s_nil)
    (s_cons (s_if (q_not (q_tv (q_call (ok_is_price T F_is_price) (hr.mono (by decide)) rfl T.g_is_price F_is_price.kp (bn_is_price F_is_price) (takes_of rfl rfl rfl rfl) (ln_cons ln_nil) (q_acons (q_ix (q_var (i := 0) rfl (.inl rfl)) q_int) q_anil)))) (s_one (s_ret q_bl)) s_nil)
    (s_one (s_ret (q_notN (q_call (ok_count_parts T F_count_parts) (hr.mono (by decide)) rfl T.g_count_parts F_count_parts.kp (bn_count_parts F_count_parts) (takes_of rfl rfl rfl rfl) (ln_cons (ln_cons ln_nil)) (q_acons (q_len rfl T.z_len (qs_v (q_ix (q_var (i := 0) rfl (.inl rfl)) q_int))) (q_acons (q_fz (q_addN (q_fz (q_listOf rfl T.z_list (qs_v (q_ix (q_var (i := 0) rfl (.inl rfl)) q_int)))) (q_fz (q_lc (own := [("item", 1)]) rfl NO (go_n (by decide)) (i_val (q_call (ok_items_of T F_items_of) (hr.mono (by decide)) rfl T.g_items_of F_items_of.kp (bn_items_of F_items_of) (takes_of rfl rfl rfl rfl) (ln_cons ln_nil) (q_acons (q_ix (q_var (i := 0) rfl (.inl rfl)) q_int) q_anil))) (blk_of (by kernel_rfl)) (fun _ _ _ _ _ => (g_name (i := 1) (by decide) NO rfl (.inl rfl))) (fun _ _ _ _ _ => ts_nil) (fun _ _ _ _ _ => (q_ix (q_var (i := 1) rfl (.inl rfl)) q_int)))))) q_anil))))))))
theorem ok_need_statement (T : Fx K mg) {fd : FuncData} (F : FnP K "need_statement" s_need_statement (He.ga K "need_statement") fd) : FnQ P w K mg base 7 (He.ga K "need_statement") fd ps_need_statement m_need_statement := by
  obtain ⟨fd_is_statement, F_is_statement⟩ := T.d_is_statement
  refine q_fn F.toFun sc_need_statement rfl fun cdv A outer s H E hr => ?_
  have NO : N_need_statement.Nodup := sc_need_statement.nd
  exact (s_one (s_if (q_not (q_tv (q_call (ok_is_statement T F_is_statement) (hr.mono (by decide)) rfl T.g_is_statement F_is_statement.kp (bn_is_statement F_is_statement) (takes_of rfl rfl rfl rfl) (ln_cons ln_nil) (q_acons (q_var (i := 0) rfl (.inl rfl)) q_anil)))) (s_one (s_raise rfl (takes_of rfl rfl rfl rfl) T.c_BadStatement (pmk_own PySem.F.excBase_ValueError T.x_BadStatement.1 T.c_BadStatement T.x_BadStatement.2.1 (raises_own T.x_BadStatement.2.2.1 T.x_BadStatement.2.2.2) rfl))) s_nil))
theorem ok_is_name_row (T : Fx K mg) {fd : FuncData} (F : FnP K "is_name_row" s_is_name_row (He.ga K "is_name_row") fd) : FnQ P w K mg base 3 (He.ga K "is_name_row") fd ps_is_name_row m_is_name_row := by
  obtain ⟨fd_is_row, F_is_row⟩ := T.d_is_row
  obtain ⟨fd_within, F_within⟩ := T.d_within
  refine q_fn F.toFun sc_is_name_row rfl fun cdv A outer s H E hr => ?_
  have NO : N_is_name_row.Nodup := sc_is_name_row.nd
  exact (s_one (s_ret (q_andV (q_call (ok_is_row T F_is_row) (hr.mono (by decide)) rfl T.g_is_row F_is_row.kp (bn_is_row F_is_row) (takes_of rfl rfl rfl rfl) (ln_cons (ln_cons (ln_cons ln_nil))) (q_acons (q_var (i := 1) rfl (.inl rfl)) (q_acons (q_var (i := 0) rfl (.inl rfl)) (q_acons (q_var (i := 0) rfl (.inl rfl)) q_anil)))) (q_one (q_all rfl rfl T.z_all (l_new (q_lc (own := [("value", 2)]) rfl NO (go_n (by decide)) (i_val (q_var (i := 1) rfl (.inl rfl))) (blk_of (by kernel_rfl)) (fun _ _ _ _ _ => (g_name (i := 2) (by decide) NO rfl (.inl rfl))) (fun _ _ _ _ _ => ts_nil) (fun _ _ _ _ _ => (q_call (ok_within T F_within) (hr.mono (by decide)) rfl T.g_within F_within.kp (bn_within F_within) tk0 (ln_cons (ln_cons (ln_cons ln_nil))) (q_acons (q_var (i := 2) rfl (.inl rfl)) (q_acons q_int (q_acons q_int q_anil))))))))))))
theorem ok_need_row (T : Fx K mg) {fd : FuncData} (F : FnP K "need_row" s_need_row (He.ga K "need_row") fd) : FnQ P w K mg base 4 (He.ga K "need_row") fd ps_need_row m_need_row := by
  obtain ⟨fd_is_name_row, F_is_name_row⟩ := T.d_is_name_row
  refine q_fn F.toFun sc_need_row rfl fun cdv A outer s H E hr => ?_
  have NO : N_need_row.Nodup := sc_need_row.nd
  exact (s_one (s_if (q_not (q_tv (q_call (ok_is_name_row T F_is_name_row) (hr.mono (by decide)) rfl T.g_is_name_row F_is_name_row.kp (bn_is_name_row F_is_name_row) (takes_of rfl rfl rfl rfl) (ln_cons (ln_cons ln_nil)) (q_acons (q_var (i := 0) rfl (.inl rfl)) (q_acons (q_var (i := 1) rfl (.inl rfl)) q_anil))))) (s_one (s_raise rfl (takes_of rfl rfl rfl rfl) T.c_BadRow (pmk_own PySem.F.excBase_ValueError T.x_BadRow.1 T.c_BadRow T.x_BadRow.2.1 (raises_own T.x_BadRow.2.2.1 T.x_BadRow.2.2.2) rfl))) s_nil))
theorem ok_weighed (T : Fx K mg) {fd : FuncData} (F : FnP K "weighed" s_weighed (He.ga K "weighed") fd) : FnQ P w K mg base 1 (He.ga K "weighed") fd ps_weighed m_weighed := by
  refine q_fn F.toFun sc_weighed rfl fun cdv A outer s H E hr => ?_
  have NO : N_weighed.Nodup := sc_weighed.nd
  exact (s_cons (s_set NO (i := 1) rfl (.inl rfl) (q_ix (q_var (i := 0) rfl (.inl rfl)) q_int))
    (s_cons (s_if (t_eq hr.units (q_var (i := 1) rfl (.inl rfl)) q_str) (s_one (s_ret (q_tup (q_acons (q_fz (q_lc (own := [("one", 2)]) rfl NO (go_n (by decide)) (i_val (q_ix (q_var (i := 0) rfl (.inl rfl)) q_int)) (blk_of (by kernel_rfl)) (fun _ _ _ _ _ => (g_name (i := 2) (by decide) NO rfl (.inl rfl))) (fun _ _ _ _ _ => ts_nil) (fun _ _ _ _ _ => (q_tup (q_acons (q_var (i := 2) rfl (.inl rfl)) (q_acons q_int q_anil)) (ln_cons (ln_cons ln_nil)))))) (q_acons (q_len rfl T.z_len (qs_v (q_ix (q_var (i := 0) rfl (.inl rfl)) q_int))) q_anil)) (ln_cons (ln_cons ln_nil))))) s_nil)
    (s_cons (s_if (t_eq hr.units (q_var (i := 1) rfl (.inl rfl)) q_str) (s_one (s_ret (q_tup (q_acons (q_fz (q_lc (own := [("one", 2)]) rfl NO (go_n (by decide)) (i_val (q_ix (q_var (i := 0) rfl (.inl rfl)) q_int)) (blk_of (by kernel_rfl)) (fun _ _ _ _ _ => (g_name (i := 2) (by decide) NO rfl (.inl rfl))) (fun _ _ _ _ _ => ts_nil) (fun _ _ _ _ _ => (q_tup (q_acons (q_var (i := 2) rfl (.inl rfl)) (q_acons q_int q_anil)) (ln_cons (ln_cons ln_nil)))))) (q_acons q_int q_anil)) (ln_cons (ln_cons ln_nil))))) s_nil)
    (s_cons (s_if (t_eq hr.units (q_var (i := 1) rfl (.inl rfl)) q_str) (s_one (s_ret (q_tup (q_acons (q_fz (q_lst (q_acons (q_tup (q_acons (q_tup (q_acons q_str (q_acons (q_ix (q_var (i := 0) rfl (.inl rfl)) q_int) q_anil)) (ln_cons (ln_cons ln_nil))) (q_acons q_int q_anil)) (ln_cons (ln_cons ln_nil))) (q_acons (q_tup (q_acons (q_ix (q_var (i := 0) rfl (.inl rfl)) q_int) (q_acons q_int q_anil)) (ln_cons (ln_cons ln_nil))) q_anil)) (ln_cons (ln_cons ln_nil)))) (q_acons q_int q_anil)) (ln_cons (ln_cons ln_nil))))) s_nil)
    (s_cons (s_if (t_eq hr.units (q_var (i := 1) rfl (.inl rfl)) q_str) (s_one (s_ret (q_tup (q_acons (q_fz (q_lc (own := [("one", 2)]) rfl NO (go_n (by decide)) (i_val (q_ix (q_var (i := 0) rfl (.inl rfl)) q_int)) (blk_of (by kernel_rfl)) (fun _ _ _ _ _ => (g_name (i := 2) (by decide) NO rfl (.inl rfl))) (fun _ _ _ _ _ => ts_nil) (fun _ _ _ _ _ => (q_tup (q_acons (q_var (i := 2) rfl (.inl rfl)) (q_acons q_int q_anil)) (ln_cons (ln_cons ln_nil)))))) (q_acons (q_ix (q_var (i := 0) rfl (.inl rfl)) q_int) q_anil)) (ln_cons (ln_cons ln_nil))))) s_nil)
    (s_one (s_ret (q_tup (q_acons (q_fz (q_listOf rfl T.z_list (qs_v (q_ix (q_var (i := 0) rfl (.inl rfl)) q_int)))) (q_acons (q_ix (q_var (i := 0) rfl (.inl rfl)) q_int) q_anil)) (ln_cons (ln_cons ln_nil))))))))))
theorem okr_is_true (T : Fx K mg) {fd : FuncData} (F : FnP K "is_true" s_is_true (He.ga K "is_true") fd) (k : Nat) (hk : 1 ≤ k) (rec : FM) (R : FnQ P w K mg base k (He.ga K "is_true") fd ps_is_true rec) : FnQ P w K mg base (k + 1) (He.ga K "is_true") fd ps_is_true (runF 7 (b_is_true rec)) := by
  obtain ⟨fd_weighed, F_weighed⟩ := T.d_weighed
  refine q_fn F.toFun sc_is_true rfl fun cdv A outer s H E hr => ?_
  have NO : N_is_true.Nodup := sc_is_true.nd
  exact (s_cons (s_set NO (i := 2) rfl (.inl rfl) (q_ix (q_var (i := 0) rfl (.inl rfl)) q_int))
    (s_cons (s_if (t_in (q_var (i := 2) rfl (.inl rfl)) (q_tup (q_acons q_str (q_acons q_str q_anil)) (ln_cons (ln_cons ln_nil)))) (s_one (s_ret (q_eq hr.units (q_var (i := 2) rfl (.inl rfl)) q_str))) s_nil)
    (s_cons (s_if (t_eq hr.units (q_var (i := 2) rfl (.inl rfl)) q_str) (s_one (s_ret (q_eq hr.units (q_ix (q_var (i := 1) rfl (.inr (.inl rfl))) (q_ix (q_var (i := 0) rfl (.inl rfl)) q_int)) q_int))) s_nil)
    (s_cons (s_if (t_eq hr.units (q_var (i := 2) rfl (.inl rfl)) q_str) (s_one (s_ret (q_notV (q_call R (hr.mono (Nat.le_refl _)) rfl T.g_is_true F.kp (bn_is_true F) (takes_of rfl rfl rfl rfl) (ln_cons (ln_cons ln_nil)) (q_acons (q_ix (q_var (i := 0) rfl (.inl rfl)) q_int) (q_acons (q_var (i := 1) rfl (.inr (.inl rfl))) q_anil)))))) s_nil)
    (s_cons (s_if (t_eq hr.units (q_var (i := 2) rfl (.inl rfl)) q_str) (s_one (s_ret (q_eq hr.units (q_call R (hr.mono (Nat.le_refl _)) rfl T.g_is_true F.kp (bn_is_true F) (takes_of rfl rfl rfl rfl) (ln_cons (ln_cons ln_nil)) (q_acons (q_ix (q_var (i := 0) rfl (.inl rfl)) q_int) (q_acons (q_var (i := 1) rfl (.inr (.inl rfl))) q_anil))) (q_call R (hr.mono (Nat.le_refl _)) rfl T.g_is_true F.kp (bn_is_true F) (takes_of rfl rfl rfl rfl) (ln_cons (ln_cons ln_nil)) (q_acons (q_ix (q_var (i := 0) rfl (.inl rfl)) q_int) (q_acons (q_var (i := 1) rfl (.inr (.inl rfl))) q_anil)))))) s_nil)
    (s_cons (s_asg (own := [3, 4]) (q_call (ok_weighed T F_weighed) (hr.mono (by omega)) rfl T.g_weighed F_weighed.kp (bn_weighed F_weighed) (takes_of rfl rfl rfl rfl) (ln_cons ln_nil) (q_acons (q_var (i := 0) rfl (.inl rfl)) q_anil)) (g_tup rfl (gs_cons (g_name (i := 3) (by decide) NO rfl (.inl rfl)) (gs_cons (g_name (i := 4) (by decide) NO rfl (.inl rfl)) gs_nil))))
    (s_one (s_ret (q_cmp op_ge f_ge (q_sum rfl rfl T.z_sum (l_new (q_lc (own := [("one", 5), ("weight", 6)]) rfl NO (go_t (go_c (go_n (by decide)) (go_c (go_n (by decide)) go_nil))) (i_val (q_var (i := 3) rfl (.inl rfl))) (blk_of (by kernel_rfl)) (fun _ _ _ _ _ => (g_tup rfl (gs_cons (g_name (i := 5) (by decide) NO rfl (.inl rfl)) (gs_cons (g_name (i := 6) (by decide) NO rfl (.inl rfl)) gs_nil)))) (fun _ _ _ _ _ => (ts_one (q_tv (q_call R (hr.mono (Nat.le_refl _)) rfl T.g_is_true F.kp (bn_is_true F) tk0 (ln_cons (ln_cons ln_nil)) (q_acons (q_var (i := 5) rfl (.inl rfl)) (q_acons (q_var (i := 1) rfl (.inr (.inl rfl))) q_anil)))))) (fun _ _ _ _ _ => (q_var (i := 6) rfl (.inl rfl)))))) (q_var (i := 4) rfl (.inl rfl)) (nomark _))))))))))
theorem ok_is_true (T : Fx K mg) {fd : FuncData} (F : FnP K "is_true" s_is_true (He.ga K "is_true") fd) : FnQ P w K mg base 13 (He.ga K "is_true") fd ps_is_true m_is_true := by
  have go : ∀ n, FnQ P w K mg base (1 + n) (He.ga K "is_true") fd ps_is_true (mr_is_true n) := fun n => by
    induction n with
    | zero => exact fnq_bad
    | succ n ih => exact okr_is_true T F (1 + n) (by omega) _ ih
  exact go 12
theorem ok_truth (T : Fx K mg) {fd : FuncData} (F : FnP K "truth" s_truth (He.ga K "truth") fd) : FnQ P w K mg base 14 (He.ga K "truth") fd ps_truth m_truth := by
  obtain ⟨fd_is_part, F_is_part⟩ := T.d_is_part
  obtain ⟨fd_need_row, F_need_row⟩ := T.d_need_row
  obtain ⟨fd_is_true, F_is_true⟩ := T.d_is_true
  refine q_fn F.toFun sc_truth rfl fun cdv A outer s H E hr => ?_
  have NO : N_truth.Nodup := sc_truth.nd
  exact (s_cons (s_if (q_not (q_tv (q_call (ok_is_part T F_is_part) (hr.mono (by decide)) rfl T.g_is_part F_is_part.kp (bn_is_part F_is_part) (takes_of rfl rfl rfl rfl) (ln_cons (ln_cons ln_nil)) (q_acons (q_var (i := 0) rfl (.inl rfl)) (q_acons (q_var (i := 1) rfl (.inl rfl)) q_anil))))) (s_one (s_raise rfl (takes_of rfl rfl rfl rfl) T.c_BadPart (pmk_own PySem.F.excBase_ValueError T.x_BadPart.1 T.c_BadPart T.x_BadPart.2.1 (raises_own T.x_BadPart.2.2.1 T.x_BadPart.2.2.2) rfl))) s_nil)
    (s_cons (s_expr (q_call (ok_need_row T F_need_row) (hr.mono (by decide)) rfl T.g_need_row F_need_row.kp (bn_need_row F_need_row) (takes_of rfl rfl rfl rfl) (ln_cons (ln_cons ln_nil)) (q_acons (q_var (i := 0) rfl (.inl rfl)) (q_acons (q_var (i := 2) rfl (.inl rfl)) q_anil))))
    (s_one (s_ret (q_call (ok_is_true T F_is_true) (hr.mono (by decide)) rfl T.g_is_true F_is_true.kp (bn_is_true F_is_true) (takes_of rfl rfl rfl rfl) (ln_cons (ln_cons ln_nil)) (q_acons (q_var (i := 1) rfl (.inl rfl)) (q_acons (q_var (i := 2) rfl (.inl rfl)) q_anil)))))))
theorem ok_claims_at (T : Fx K mg) {fd : FuncData} (F : FnP K "claims_at" s_claims_at (He.ga K "claims_at") fd) : FnQ P w K mg base 14 (He.ga K "claims_at") fd ps_claims_at m_claims_at := by
  obtain ⟨fd_is_true, F_is_true⟩ := T.d_is_true
  refine q_fn F.toFun sc_claims_at rfl fun cdv A outer s H E hr => ?_
  have NO : N_claims_at.Nodup := sc_claims_at.nd
  exact (s_one (s_ret (q_fz (q_lc (own := [("k", 2), ("claim", 3)]) rfl NO (go_t (go_c (go_n (by decide)) (go_c (go_n (by decide)) go_nil))) (i_enumA rfl T.z_enumerate (q_ix (q_var (i := 0) rfl (.inl rfl)) q_int)) (blk_of (by kernel_rfl)) (fun _ _ _ _ _ => (g_tup rfl (gs_cons (g_name (i := 2) (by decide) NO rfl (.inl rfl)) (gs_cons (g_name (i := 3) (by decide) NO rfl (.inl rfl)) gs_nil)))) (fun _ _ _ _ _ => (ts_one (q_tv (q_call (ok_is_true T F_is_true) (hr.mono (by decide)) rfl T.g_is_true F_is_true.kp (bn_is_true F_is_true) tk0 (ln_cons (ln_cons ln_nil)) (q_acons (q_var (i := 3) rfl (.inl rfl)) (q_acons (q_var (i := 1) rfl (.inr (.inl rfl))) q_anil)))))) (fun _ _ _ _ _ => (q_var (i := 2) rfl (.inl rfl)))))))
theorem ok_claims_true (T : Fx K mg) {fd : FuncData} (F : FnP K "claims_true" s_claims_true (He.ga K "claims_true") fd) : FnQ P w K mg base 15 (He.ga K "claims_true") fd ps_claims_true m_claims_true := by
  obtain ⟨fd_need_statement, F_need_statement⟩ := T.d_need_statement
  obtain ⟨fd_need_row, F_need_row⟩ := T.d_need_row
  obtain ⟨fd_claims_at, F_claims_at⟩ := T.d_claims_at
  refine q_fn F.toFun sc_claims_true rfl fun cdv A outer s H E hr => ?_
  have NO : N_claims_true.Nodup := sc_claims_true.nd
  exact (s_cons (s_expr (q_call (ok_need_statement T F_need_statement) (hr.mono (by decide)) rfl T.g_need_statement F_need_statement.kp (bn_need_statement F_need_statement) (takes_of rfl rfl rfl rfl) (ln_cons ln_nil) (q_acons (q_var (i := 0) rfl (.inl rfl)) q_anil)))
    (s_cons (s_expr (q_call (ok_need_row T F_need_row) (hr.mono (by decide)) rfl T.g_need_row F_need_row.kp (bn_need_row F_need_row) (takes_of rfl rfl rfl rfl) (ln_cons (ln_cons ln_nil)) (q_acons (q_len rfl T.z_len (qs_v (q_ix (q_var (i := 0) rfl (.inl rfl)) q_int))) (q_acons (q_var (i := 1) rfl (.inl rfl)) q_anil))))
    (s_one (s_ret (q_tupL rfl T.z_tuple (l_val (q_call (ok_claims_at T F_claims_at) (hr.mono (by decide)) rfl T.g_claims_at F_claims_at.kp (bn_claims_at F_claims_at) (takes_of rfl rfl rfl rfl) (ln_cons (ln_cons ln_nil)) (q_acons (q_var (i := 0) rfl (.inl rfl)) (q_acons (q_var (i := 1) rfl (.inl rfl)) q_anil)))))))))
theorem ok_makes_true (T : Fx K mg) {fd : FuncData} (F : FnP K "makes_true" s_makes_true (He.ga K "makes_true") fd) : FnQ P w K mg base 15 (He.ga K "makes_true") fd ps_makes_true m_makes_true := by
  obtain ⟨fd_need_statement, F_need_statement⟩ := T.d_need_statement
  obtain ⟨fd_need_row, F_need_row⟩ := T.d_need_row
  obtain ⟨fd_claims_at, F_claims_at⟩ := T.d_claims_at
  refine q_fn F.toFun sc_makes_true rfl fun cdv A outer s H E hr => ?_
  have NO : N_makes_true.Nodup := sc_makes_true.nd
  exact (s_cons (s_expr (q_call (ok_need_statement T F_need_statement) (hr.mono (by decide)) rfl T.g_need_statement F_need_statement.kp (bn_need_statement F_need_statement) (takes_of rfl rfl rfl rfl) (ln_cons ln_nil) (q_acons (q_var (i := 0) rfl (.inl rfl)) q_anil)))
    (s_cons (s_expr (q_call (ok_need_row T F_need_row) (hr.mono (by decide)) rfl T.g_need_row F_need_row.kp (bn_need_row F_need_row) (takes_of rfl rfl rfl rfl) (ln_cons (ln_cons ln_nil)) (q_acons (q_len rfl T.z_len (qs_v (q_ix (q_var (i := 0) rfl (.inl rfl)) q_int))) (q_acons (q_var (i := 1) rfl (.inl rfl)) q_anil))))
    (s_one (s_ret (q_eq hr.units (q_len rfl T.z_len (qs_v (q_call (ok_claims_at T F_claims_at) (hr.mono (by decide)) rfl T.g_claims_at F_claims_at.kp (bn_claims_at F_claims_at) (takes_of rfl rfl rfl rfl) (ln_cons (ln_cons ln_nil)) (q_acons (q_var (i := 0) rfl (.inl rfl)) (q_acons (q_var (i := 1) rfl (.inl rfl)) q_anil))))) (q_len rfl T.z_len (qs_v (q_ix (q_var (i := 0) rfl (.inl rfl)) q_int))))))))
theorem ok_price_with (T : Fx K mg) {fd : FuncData} (F : FnP K "price_with" s_price_with (He.ga K "price_with") fd) : FnQ P w K mg base 14 (He.ga K "price_with") fd ps_price_with m_price_with := by
  obtain ⟨fd_is_true, F_is_true⟩ := T.d_is_true
  refine q_fn F.toFun sc_price_with rfl fun cdv A outer s H E hr => ?_
  have NO : N_price_with.Nodup := sc_price_with.nd
  exact (s_cons (s_set NO (i := 2) rfl (.inl rfl) (q_ix (q_var (i := 0) rfl (.inl rfl)) q_int))
    (s_cons (s_if (t_isN (q_var (i := 2) rfl (.inl rfl))) (s_one (s_ret q_int)) s_nil)
    (s_one (s_ret (q_add (q_ix (q_var (i := 2) rfl (.inl rfl)) q_int) (q_sum rfl rfl T.z_sum (l_new (q_lc (own := [("one", 3), ("weight", 4)]) rfl NO (go_t (go_c (go_n (by decide)) (go_c (go_n (by decide)) go_nil))) (i_val (q_ix (q_var (i := 2) rfl (.inl rfl)) q_int)) (blk_of (by kernel_rfl)) (fun _ _ _ _ _ => (g_tup rfl (gs_cons (g_name (i := 3) (by decide) NO rfl (.inl rfl)) (gs_cons (g_name (i := 4) (by decide) NO rfl (.inl rfl)) gs_nil)))) (fun _ _ _ _ _ => (ts_one (q_tv (q_call (ok_is_true T F_is_true) (hr.mono (by decide)) rfl T.g_is_true F_is_true.kp (bn_is_true F_is_true) tk0 (ln_cons (ln_cons ln_nil)) (q_acons (q_var (i := 3) rfl (.inl rfl)) (q_acons (q_var (i := 1) rfl (.inr (.inl rfl))) q_anil)))))) (fun _ _ _ _ _ => (q_var (i := 4) rfl (.inl rfl)))))))))))
theorem ok_statement_price (T : Fx K mg) {fd : FuncData} (F : FnP K "statement_price" s_statement_price (He.ga K "statement_price") fd) : FnQ P w K mg base 15 (He.ga K "statement_price") fd ps_statement_price m_statement_price := by
  obtain ⟨fd_need_statement, F_need_statement⟩ := T.d_need_statement
  obtain ⟨fd_need_row, F_need_row⟩ := T.d_need_row
  obtain ⟨fd_price_with, F_price_with⟩ := T.d_price_with
  refine q_fn F.toFun sc_statement_price rfl fun cdv A outer s H E hr => ?_
  have NO : N_statement_price.Nodup := sc_statement_price.nd
  exact (s_cons (s_expr (q_call (ok_need_statement T F_need_statement) (hr.mono (by decide)) rfl T.g_need_statement F_need_statement.kp (bn_need_statement F_need_statement) (takes_of rfl rfl rfl rfl) (ln_cons ln_nil) (q_acons (q_var (i := 0) rfl (.inl rfl)) q_anil)))
    (s_cons (s_expr (q_call (ok_need_row T F_need_row) (hr.mono (by decide)) rfl T.g_need_row F_need_row.kp (bn_need_row F_need_row) (takes_of rfl rfl rfl rfl) (ln_cons (ln_cons ln_nil)) (q_acons (q_len rfl T.z_len (qs_v (q_ix (q_var (i := 0) rfl (.inl rfl)) q_int))) (q_acons (q_var (i := 1) rfl (.inl rfl)) q_anil))))
    (s_one (s_ret (q_call (ok_price_with T F_price_with) (hr.mono (by decide)) rfl T.g_price_with F_price_with.kp (bn_price_with F_price_with) (takes_of rfl rfl rfl rfl) (ln_cons (ln_cons ln_nil)) (q_acons (q_var (i := 0) rfl (.inl rfl)) (q_acons (q_var (i := 1) rfl (.inl rfl)) q_anil)))))))
theorem ok__law_source (T : Fx K mg) {fd : FuncData} (F : FnP K "_law_source" s__law_source (He.ga K "_law_source") fd) : FnQ P w K mg base 1 (He.ga K "_law_source") fd ps__law_source m__law_source := by
  refine q_fn F.toFun sc__law_source rfl fun cdv A outer s H E hr => ?_
  have NO : N__law_source.Nodup := sc__law_source.nd
  exact (s_cons (s_setLc (i := 1) (own := [("cell", 4)]) rfl NO rfl rfl (by rfl) (go_n (by decide)) (i_val (q_cut (q_var (i := 0) rfl (.inl rfl)) p_none (p_some q_int))) (blk_of (by kernel_rfl)) (fun _ _ _ _ _ => (g_name (i := 4) (by decide) NO rfl (.inl rfl))) (fun _ _ _ _ _ => ts_nil) (fun _ _ _ _ _ => (q_op op_mod f_mod (q_toI rfl T.z_int (q_var (i := 4) rfl (.inl rfl))) (q_op op_pow f_pow q_int q_int))))
    (s_cons (s_frz 1 (s_setLcS (i := 2) (own := [("cell", 4)]) rfl NO rfl rfl (by rfl) (go_n (by decide)) (i_val (q_var (i := 1) rfl (.inl rfl))) (blk_of (by kernel_rfl)) (fun _ _ _ _ _ => (g_name (i := 4) (by decide) NO rfl (.inl rfl))) (fun _ _ _ _ _ => (ts_one (q_tc op_ge f_ge (q_var (i := 4) rfl (.inl rfl)) (q_op op_pow f_pow q_int q_int) (nomark _)))) (fun _ _ _ _ _ => (q_var (i := 4) rfl (.inl rfl)))))
    (s_cons (s_frz 1 (s_setLc (i := 3) (own := [("cell", 4)]) rfl NO rfl rfl (by rfl) (go_n (by decide)) (i_val (q_var (i := 1) rfl (.inl rfl))) (blk_of (by kernel_rfl)) (fun _ _ _ _ _ => (g_name (i := 4) (by decide) NO rfl (.inl rfl))) (fun _ _ _ _ _ => (ts_one (q_tc op_lt f_lt (q_var (i := 4) rfl (.inl rfl)) (q_op op_pow f_pow q_int q_int) (nomark _)))) (fun _ _ _ _ _ => (q_var (i := 4) rfl (.inl rfl)))))
    (s_one (s_frz 3 (s_retO (q_lst (q_acons (q_var (i := 2) rfl (.inl rfl)) (q_acons (q_var (i := 3) rfl (.inl rfl)) (q_acons q_int q_anil))) (ln_cons (ln_cons (ln_cons ln_nil))))))))))
theorem ok__law_draw (T : Fx K mg) {fd : FuncData} (F : FnP K "_law_draw" s__law_draw (He.ga K "_law_draw") fd) : FnQ P w K mg base 1 (He.ga K "_law_draw") fd ps__law_draw m__law_draw := by
  refine q_fn F.toFun sc__law_draw rfl fun cdv A outer s H E hr => ?_
  have NO : N__law_draw.Nodup := sc__law_draw.nd
  exact (s_cons (s_par3 (i := 2) (j := 3) (l := 4) rfl NO rfl rfl rfl (by decide) (by decide) (by decide) rfl rfl rfl (c_w (q_ix (q_var (i := 0) rfl (.inl rfl)) q_int)) (c_w (q_ix (q_var (i := 0) rfl (.inl rfl)) q_int)) (c_w (q_ix (q_var (i := 0) rfl (.inl rfl)) q_int)) (by rfl))
    (s_cons (s_setIx (q_add (q_var (i := 4) rfl (.inl rfl)) q_int) (q_var (i := 0) rfl (.inl rfl)) q_int)
    (s_cons (s_if (t_ne hr.units (q_var (i := 2) rfl (.inl rfl)) (q_fz (q_lst q_anil ln_nil))) (s_cons (s_set NO (i := 5) rfl (.inl rfl) (q_ix (q_var (i := 2) rfl (.inl rfl)) q_int))
    (s_cons (s_setIx (q_op op_fdivW f_div (q_var (i := 5) rfl (.inl rfl)) (q_var (i := 1) rfl (.inl rfl))) (q_var (i := 2) rfl (.inl rfl)) q_int)
    (s_cons (s_if (t_eq hr.units (q_ix (q_var (i := 2) rfl (.inl rfl)) q_int) q_int) (s_one (s_expr (q_popS (q_var (i := 2) rfl (.inl rfl)) q_int))) s_nil)
    (s_one (s_ret (q_op op_mod f_mod (q_toI rfl T.z_int (q_var (i := 5) rfl (.inl rfl))) (q_var (i := 1) rfl (.inl rfl)))))))) s_nil)
    (s_cons (s_set NO (i := 6) rfl (.inl rfl) (q_if (t_ne hr.units (q_var (i := 3) rfl (.inl rfl)) (q_fz (q_lst q_anil ln_nil))) (q_ix (q_var (i := 3) rfl (.inl rfl)) (q_op op_mod f_mod (q_var (i := 4) rfl (.inl rfl)) (q_len rfl T.z_len (qs_v (q_var (i := 3) rfl (.inl rfl)))))) q_int))
    (s_cons (s_set NO (i := 7) rfl (.inl rfl) (q_op op_mod f_mod (q_toI rfl T.z_int (q_mul (q_add (q_add (q_var (i := 6) rfl (.inl rfl)) (q_mul q_int (q_var (i := 4) rfl (.inl rfl)))) q_int) (q_add q_int (q_mul q_int (q_var (i := 4) rfl (.inl rfl)))))) q_int))
    (s_cons (s_set NO (i := 8) rfl (.inl rfl) (q_op op_mod f_mod (q_toI rfl T.z_int (q_mul (q_var (i := 7) rfl (.inl rfl)) (q_add (q_op op_mod f_mod (q_var (i := 7) rfl (.inl rfl)) q_int) q_int))) q_int))
    (s_one (s_ret (q_op op_mod f_mod (q_toI rfl T.z_int (q_op op_fdivW f_div (q_var (i := 8) rfl (.inl rfl)) q_int)) (q_var (i := 1) rfl (.inl rfl)))))))))))
theorem ok__law_rows (T : Fx K mg) {fd : FuncData} (F : FnP K "_law_rows" s__law_rows (He.ga K "_law_rows") fd) : FnQ P w K mg base 1 (He.ga K "_law_rows") fd ps__law_rows m__law_rows := by
  refine q_fn F.toFun sc__law_rows rfl fun cdv A outer s H E hr => ?_
  have NO : N__law_rows.Nodup := sc__law_rows.nd
  exact (s_cons (s_set NO (i := 1) rfl (.inl rfl) (q_fz (q_lst (q_acons (q_tup q_anil ln_nil) q_anil) (ln_cons ln_nil))))
    (s_cons (s_for (own := [2]) (passes_of rfl) rfl (i_rng1 rfl T.z_range (q_var (i := 0) rfl (.inl rfl))) (g_name (i := 2) (by decide) NO rfl (.inl rfl)) (s_cons (s_setO NO (i := 3) rfl (.inl rfl) (q_lst q_anil ln_nil))
    (s_cons (s_for (own := [4]) (passes_of rfl) rfl (i_val (q_var (i := 1) rfl (.inl rfl))) (g_name (i := 4) (by decide) NO rfl (.inl rfl)) (s_cons (s_exprX (x_app (i := 3) rfl (.inl rfl) (q_add (q_var (i := 4) rfl (.inl rfl)) (q_tup (q_acons q_int q_anil) (ln_cons ln_nil)))))
    (s_one (s_exprX (x_app (i := 3) rfl (.inl rfl) (q_add (q_var (i := 4) rfl (.inl rfl)) (q_tup (q_acons q_int q_anil) (ln_cons ln_nil))))))))
    (s_one (s_frz 3 (s_set NO (i := 1) rfl (.inl rfl) (q_var (i := 3) rfl (.inl rfl))))))))
    (s_one (s_ret (q_var (i := 1) rfl (.inl rfl))))))
theorem ok__law_int (T : Fx K mg) {fd : FuncData} (F : FnP K "_law_int" s__law_int (He.ga K "_law_int") fd) : FnQ P w K mg base 1 (He.ga K "_law_int") fd ps__law_int m__law_int := by
  refine q_fn F.toFun sc__law_int rfl fun cdv A outer s H E hr => ?_
  have NO : N__law_int.Nodup := sc__law_int.nd
  exact (s_one (s_ret (q_andV (q_isi (n := "int") rfl T.z_isinstance rfl T.z_int (by decide +kernel) (q_var (i := 0) rfl (.inl rfl))) (q_one (q_notV (q_isi (n := "bool") rfl T.z_isinstance rfl T.z_bool (by decide +kernel) (q_var (i := 0) rfl (.inl rfl))))))))
theorem ok__law_says (T : Fx K mg) {fd : FuncData} (F : FnP K "_law_says" s__law_says (He.ga K "_law_says") fd) : FnQ P w K mg base 1 (He.ga K "_law_says") fd ps__law_says m__law_says := by
  refine q_fn F.toFun sc__law_says rfl fun cdv A outer s H E hr => ?_
  have NO : N__law_says.Nodup := sc__law_says.nd
  exact (s_one (s_ret (q_andV (q_isi (n := "bool") rfl T.z_isinstance rfl T.z_bool (by decide +kernel) (q_var (i := 0) rfl (.inl rfl))) (q_one (q_eq hr.units (q_var (i := 0) rfl (.inl rfl)) (q_var (i := 1) rfl (.inl rfl)))))))
theorem ok__law_leaf (T : Fx K mg) {fd : FuncData} (F : FnP K "_law_leaf" s__law_leaf (He.ga K "_law_leaf") fd) : FnQ P w K mg base 2 (He.ga K "_law_leaf") fd ps__law_leaf m__law_leaf := by
  obtain ⟨fd__law_draw, F__law_draw⟩ := T.d__law_draw
  refine q_fn F.toFun sc__law_leaf rfl fun cdv A outer s H E hr => ?_
  have NO : N__law_leaf.Nodup := sc__law_leaf.nd
  exact (s_cons (s_set NO (i := 2) rfl (.inl rfl) (q_call (ok__law_draw T F__law_draw) (hr.mono (by decide)) rfl T.g__law_draw F__law_draw.kp (bn__law_draw F__law_draw) (takes_of rfl rfl rfl rfl) (ln_cons (ln_cons ln_nil)) (q_acons (q_var (i := 0) rfl (.inl rfl)) (q_acons q_int q_anil))))
    (s_cons (s_if (q_tc op_lt f_lt (q_var (i := 2) rfl (.inl rfl)) q_int (nomark _)) (s_one (s_ret (q_if (t_eq hr.units (q_var (i := 2) rfl (.inl rfl)) q_int) (q_tup (q_acons q_str q_anil) (ln_cons ln_nil)) (q_tup (q_acons q_str q_anil) (ln_cons ln_nil))))) s_nil)
    (s_one (s_ret (q_tup (q_acons q_str (q_acons (q_call (ok__law_draw T F__law_draw) (hr.mono (by decide)) rfl T.g__law_draw F__law_draw.kp (bn__law_draw F__law_draw) (takes_of rfl rfl rfl rfl) (ln_cons (ln_cons ln_nil)) (q_acons (q_var (i := 0) rfl (.inl rfl)) (q_acons (q_var (i := 1) rfl (.inl rfl)) q_anil))) q_anil)) (ln_cons (ln_cons ln_nil)))))))
theorem ok__law_number (T : Fx K mg) {fd : FuncData} (F : FnP K "_law_number" s__law_number (He.ga K "_law_number") fd) : FnQ P w K mg base 2 (He.ga K "_law_number") fd ps__law_number m__law_number := by
  obtain ⟨fd__law_draw, F__law_draw⟩ := T.d__law_draw
  refine q_fn F.toFun sc__law_number rfl fun cdv A outer s H E hr => ?_
  have NO : N__law_number.Nodup := sc__law_number.nd
  exact (s_one (s_ret (q_if (t_eq hr.units (q_call (ok__law_draw T F__law_draw) (hr.mono (by decide)) rfl T.g__law_draw F__law_draw.kp (bn__law_draw F__law_draw) (takes_of rfl rfl rfl rfl) (ln_cons (ln_cons ln_nil)) (q_acons (q_var (i := 0) rfl (.inl rfl)) (q_acons q_int q_anil))) q_int) (q_op op_sub f_sub (q_call (ok__law_draw T F__law_draw) (hr.mono (by decide)) rfl T.g__law_draw F__law_draw.kp (bn__law_draw F__law_draw) (takes_of rfl rfl rfl rfl) (ln_cons (ln_cons ln_nil)) (q_acons (q_var (i := 0) rfl (.inl rfl)) (q_acons q_int q_anil))) q_int) (q_op op_sub f_sub (q_call (ok__law_draw T F__law_draw) (hr.mono (by decide)) rfl T.g__law_draw F__law_draw.kp (bn__law_draw F__law_draw) (takes_of rfl rfl rfl rfl) (ln_cons (ln_cons ln_nil)) (q_acons (q_var (i := 0) rfl (.inl rfl)) (q_acons q_int q_anil))) q_int))))
theorem okr__law_part (T : Fx K mg) {fd : FuncData} (F : FnP K "_law_part" s__law_part (He.ga K "_law_part") fd) (k : Nat) (hk : 2 ≤ k) (rec : FM) (R : FnQ P w K mg base k (He.ga K "_law_part") fd ps__law_part rec) : FnQ P w K mg base (k + 1) (He.ga K "_law_part") fd ps__law_part (runF 11 (b__law_part rec)) := by
  obtain ⟨fd__law_draw, F__law_draw⟩ := T.d__law_draw
  obtain ⟨fd__law_leaf, F__law_leaf⟩ := T.d__law_leaf
  obtain ⟨fd__law_number, F__law_number⟩ := T.d__law_number
  refine q_fn F.toFun sc__law_part rfl fun cdv A outer s H E hr => ?_
  have NO : N__law_part.Nodup := sc__law_part.nd
  exact (s_cons (s_set NO (i := 4) rfl (.inl rfl) (q_call (ok__law_draw T F__law_draw) (hr.mono (by omega)) rfl T.g__law_draw F__law_draw.kp (bn__law_draw F__law_draw) (takes_of rfl rfl rfl rfl) (ln_cons (ln_cons ln_nil)) (q_acons (q_var (i := 0) rfl (.inr (.inl rfl))) (q_acons q_int q_anil))))
    (s_cons (s_if (PW.pt (q_or (t_eq hr.units (q_var (i := 2) rfl (.inr (.inl rfl))) q_int) (q_or (q_tc op_lt f_lt (q_var (i := 3) rfl (.inr (.inl rfl))) q_int (nomark _)) (q_or1 (q_tc op_lt f_lt (q_var (i := 4) rfl (.inl rfl)) q_int (nomark _)))))) (s_one (s_ret (q_call (ok__law_leaf T F__law_leaf) (hr.mono (by omega)) rfl T.g__law_leaf F__law_leaf.kp (bn__law_leaf F__law_leaf) (takes_of rfl rfl rfl rfl) (ln_cons (ln_cons ln_nil)) (q_acons (q_var (i := 0) rfl (.inr (.inl rfl))) (q_acons (q_var (i := 1) rfl (.inr (.inl rfl))) q_anil))))) s_nil)
    (s_cons (s_if (t_eq hr.units (q_var (i := 4) rfl (.inl rfl)) q_int) (s_one (s_ret (q_tup (q_acons q_str (q_acons (q_call R (hr.mono (Nat.le_refl _)) rfl T.g__law_part F.kp (bn__law_part F) (takes_of rfl rfl rfl rfl) (ln_cons (ln_cons (ln_cons (ln_cons ln_nil)))) (q_acons (q_var (i := 0) rfl (.inr (.inl rfl))) (q_acons (q_var (i := 1) rfl (.inr (.inl rfl))) (q_acons (q_op op_sub f_sub (q_var (i := 2) rfl (.inr (.inl rfl))) q_int) (q_acons (q_op op_sub f_sub (q_var (i := 3) rfl (.inr (.inl rfl))) q_int) q_anil))))) q_anil)) (ln_cons (ln_cons ln_nil))))) s_nil)
    (s_cons (s_if (q_tc op_lt f_lt (q_var (i := 4) rfl (.inl rfl)) q_int (nomark _)) (s_cons (s_set NO (i := 5) rfl (.inl rfl) (q_call R (hr.mono (Nat.le_refl _)) rfl T.g__law_part F.kp (bn__law_part F) (takes_of rfl rfl rfl rfl) (ln_cons (ln_cons (ln_cons (ln_cons ln_nil)))) (q_acons (q_var (i := 0) rfl (.inr (.inl rfl))) (q_acons (q_var (i := 1) rfl (.inr (.inl rfl))) (q_acons (q_op op_sub f_sub (q_var (i := 2) rfl (.inr (.inl rfl))) q_int) (q_acons (q_op op_fdivW f_div (q_op op_sub f_sub (q_var (i := 3) rfl (.inr (.inl rfl))) q_int) q_int) q_anil))))))
    (s_cons (s_set NO (i := 6) rfl (.inl rfl) (q_call R (hr.mono (Nat.le_refl _)) rfl T.g__law_part F.kp (bn__law_part F) (takes_of rfl rfl rfl rfl) (ln_cons (ln_cons (ln_cons (ln_cons ln_nil)))) (q_acons (q_var (i := 0) rfl (.inr (.inl rfl))) (q_acons (q_var (i := 1) rfl (.inr (.inl rfl))) (q_acons (q_op op_sub f_sub (q_var (i := 2) rfl (.inr (.inl rfl))) q_int) (q_acons (q_op op_fdivW f_div (q_op op_sub f_sub (q_var (i := 3) rfl (.inr (.inl rfl))) q_int) q_int) q_anil))))))
    (s_one (s_ret (q_tup (q_acons (q_if (t_eq hr.units (q_var (i := 4) rfl (.inl rfl)) q_int) q_str q_str) (q_acons (q_var (i := 5) rfl (.inl rfl)) (q_acons (q_var (i := 6) rfl (.inl rfl)) q_anil))) (ln_cons (ln_cons (ln_cons ln_nil)))))))) s_nil)
    (s_cons (s_set NO (i := 7) rfl (.inr rfl) (q_call (ok__law_draw T F__law_draw) (hr.mono (by omega)) rfl T.g__law_draw F__law_draw.kp (bn__law_draw F__law_draw) (takes_of rfl rfl rfl rfl) (ln_cons (ln_cons ln_nil)) (q_acons (q_var (i := 0) rfl (.inr (.inl rfl))) (q_acons (q_add (q_min2 rfl rfl T.z_min q_int (q_op op_sub f_sub (q_var (i := 3) rfl (.inr (.inl rfl))) q_int)) q_int) q_anil))))
    (s_cons (s_setLc (i := 8) (own := [("k", 9)]) rfl NO rfl rfl (by rfl) (go_n (by decide)) (i_rng1 rfl T.z_range (q_var (i := 7) rfl (.inr (.inl rfl)))) (blk_of (by kernel_rfl)) (fun _ _ _ _ _ => (g_name (i := 9) (by decide) NO rfl (.inl rfl))) (fun _ _ _ _ _ => ts_nil) (fun _ _ _ _ _ => (q_call R (hr.mono (Nat.le_refl _)) rfl T.g__law_part F.kp (bn__law_part F) tk0 (ln_cons (ln_cons (ln_cons (ln_cons ln_nil)))) (q_acons (q_var (i := 0) rfl (.inr (.inl rfl))) (q_acons (q_var (i := 1) rfl (.inr (.inl rfl))) (q_acons (q_op op_sub f_sub (q_var (i := 2) rfl (.inr (.inl rfl))) q_int) (q_acons (q_op op_fdivW f_div (q_op op_sub f_sub (q_var (i := 3) rfl (.inr (.inl rfl))) q_int) (q_max2 rfl rfl T.z_max q_int (q_var (i := 7) rfl (.inr (.inl rfl))))) q_anil)))))))
    (s_cons (s_if (q_tc op_lt f_lt (q_var (i := 4) rfl (.inl rfl)) q_int (nomark _)) (s_one (s_ret (q_tup (q_acons (q_if (t_eq hr.units (q_var (i := 4) rfl (.inl rfl)) q_int) q_str q_str) (q_acons (q_tupL rfl T.z_tuple (l_own (i := 8) rfl (.inl rfl))) q_anil)) (ln_cons (ln_cons ln_nil))))) s_nil)
    (s_cons (s_if (t_eq hr.units (q_var (i := 4) rfl (.inl rfl)) q_int) (s_one (s_ret (q_tup (q_acons q_str (q_acons (q_op op_sub f_sub (q_call (ok__law_draw T F__law_draw) (hr.mono (by omega)) rfl T.g__law_draw F__law_draw.kp (bn__law_draw F__law_draw) (takes_of rfl rfl rfl rfl) (ln_cons (ln_cons ln_nil)) (q_acons (q_var (i := 0) rfl (.inr (.inl rfl))) (q_acons (q_add (q_var (i := 7) rfl (.inr (.inl rfl))) q_int) q_anil))) q_int) (q_acons (q_tupL rfl T.z_tuple (l_own (i := 8) rfl (.inl rfl))) q_anil))) (ln_cons (ln_cons (ln_cons ln_nil)))))) s_nil)
    (s_one (s_frz 8 (s_ret (q_tup (q_acons q_str (q_acons (q_tupL rfl T.z_tuple (l_new (q_lc (own := [("part", 10)]) rfl NO (go_n (by decide)) (i_val (q_var (i := 8) rfl (.inl rfl))) (blk_of (by kernel_rfl)) (fun _ _ _ _ _ => (g_name (i := 10) (by decide) NO rfl (.inl rfl))) (fun _ _ _ _ _ => ts_nil) (fun _ _ _ _ _ => (q_tup (q_acons (q_var (i := 10) rfl (.inl rfl)) (q_acons (q_call (ok__law_number T F__law_number) (hr.mono (by omega)) rfl T.g__law_number F__law_number.kp (bn__law_number F__law_number) tk0 (ln_cons ln_nil) (q_acons (q_var (i := 0) rfl (.inr (.inl rfl))) q_anil)) q_anil)) (ln_cons (ln_cons ln_nil))))))) (q_acons (q_call (ok__law_number T F__law_number) (hr.mono (by omega)) rfl T.g__law_number F__law_number.kp (bn__law_number F__law_number) (takes_of rfl rfl rfl rfl) (ln_cons ln_nil) (q_acons (q_var (i := 0) rfl (.inr (.inl rfl))) q_anil)) q_anil))) (ln_cons (ln_cons (ln_cons ln_nil)))))))))))))))
theorem ok__law_part (T : Fx K mg) {fd : FuncData} (F : FnP K "_law_part" s__law_part (He.ga K "_law_part") fd) : FnQ P w K mg base 8 (He.ga K "_law_part") fd ps__law_part m__law_part := by
  have go : ∀ n, FnQ P w K mg base (2 + n) (He.ga K "_law_part") fd ps__law_part (mr__law_part n) := fun n => by
    induction n with
    | zero => exact fnq_bad
    | succ n ih => exact okr__law_part T F (2 + n) (by omega) _ ih
  exact go 6
theorem ok__law_names (T : Fx K mg) {fd : FuncData} (F : FnP K "_law_names" s__law_names (He.ga K "_law_names") fd) : FnQ P w K mg base 2 (He.ga K "_law_names") fd ps__law_names m__law_names := by
  obtain ⟨fd__law_draw, F__law_draw⟩ := T.d__law_draw
  refine q_fn F.toFun sc__law_names rfl fun cdv A outer s H E hr => ?_
  have NO : N__law_names.Nodup := sc__law_names.nd
  exact (s_cons (s_set NO (i := 2) rfl (.inr rfl) (q_fz (q_lst (q_acons q_str (q_acons q_str (q_acons q_str (q_acons q_str (q_acons q_str (q_acons q_str (q_acons q_str q_anil))))))) (ln_cons (ln_cons (ln_cons (ln_cons (ln_cons (ln_cons (ln_cons ln_nil))))))))))
    (s_one (s_ret (q_tupL rfl T.z_tuple (l_new (q_lc (own := [("k", 3)]) rfl NO (go_n (by decide)) (i_rng1 rfl T.z_range (q_var (i := 1) rfl (.inl rfl))) (blk_of (by kernel_rfl)) (fun _ _ _ _ _ => (g_name (i := 3) (by decide) NO rfl (.inl rfl))) (fun _ _ _ _ _ => ts_nil) (fun _ _ _ _ _ => (q_addZ (q_ixZ q_str (q_var (i := 3) rfl (.inl rfl))) (q_ixZ (q_var (i := 2) rfl (.inr (.inl rfl))) (q_call (ok__law_draw T F__law_draw) (hr.mono (by decide)) rfl T.g__law_draw F__law_draw.kp (bn__law_draw F__law_draw) tk0 (ln_cons (ln_cons ln_nil)) (q_acons (q_var (i := 0) rfl (.inr (.inl rfl))) (q_acons q_int q_anil))))))))))))
theorem ok__law_statement (T : Fx K mg) {fd : FuncData} (F : FnP K "_law_statement" s__law_statement (He.ga K "_law_statement") fd) : FnQ P w K mg base 9 (He.ga K "_law_statement") fd ps__law_statement m__law_statement := by
  obtain ⟨fd__law_draw, F__law_draw⟩ := T.d__law_draw
  obtain ⟨fd__law_part, F__law_part⟩ := T.d__law_part
  obtain ⟨fd__law_names, F__law_names⟩ := T.d__law_names
  obtain ⟨fd__law_number, F__law_number⟩ := T.d__law_number
  refine q_fn F.toFun sc__law_statement rfl fun cdv A outer s H E hr => ?_
  have NO : N__law_statement.Nodup := sc__law_statement.nd
  exact (s_cons (s_asg (own := [3, 4]) (q_tup (q_acons (q_add q_int (q_call (ok__law_draw T F__law_draw) (hr.mono (by decide)) rfl T.g__law_draw F__law_draw.kp (bn__law_draw F__law_draw) (takes_of rfl rfl rfl rfl) (ln_cons (ln_cons ln_nil)) (q_acons (q_var (i := 0) rfl (.inr (.inl rfl))) (q_acons (q_var (i := 1) rfl (.inl rfl)) q_anil)))) (q_acons (q_call (ok__law_draw T F__law_draw) (hr.mono (by decide)) rfl T.g__law_draw F__law_draw.kp (bn__law_draw F__law_draw) (takes_of rfl rfl rfl rfl) (ln_cons (ln_cons ln_nil)) (q_acons (q_var (i := 0) rfl (.inr (.inl rfl))) (q_acons (q_add (q_var (i := 2) rfl (.inl rfl)) q_int) q_anil))) q_anil)) (ln_cons (ln_cons ln_nil))) (g_tup rfl (gs_cons (g_name (i := 3) (by decide) NO rfl (.inr rfl)) (gs_cons (g_name (i := 4) (by decide) NO rfl (.inl rfl)) gs_nil))))
    (s_cons (s_set NO (i := 5) rfl (.inr rfl) (q_op op_fdivW f_div q_int (q_max2 rfl rfl T.z_max q_int (q_var (i := 4) rfl (.inl rfl)))))
    (s_cons (s_set NO (i := 6) rfl (.inl rfl) (q_tupL rfl T.z_tuple (l_new (q_lc (own := [("k", 8)]) rfl NO (go_n (by decide)) (i_rng1 rfl T.z_range (q_var (i := 4) rfl (.inl rfl))) (blk_of (by kernel_rfl)) (fun _ _ _ _ _ => (g_name (i := 8) (by decide) NO rfl (.inl rfl))) (fun _ _ _ _ _ => ts_nil) (fun _ _ _ _ _ => (q_call (ok__law_part T F__law_part) (hr.mono (by decide)) rfl T.g__law_part F__law_part.kp (bn__law_part F__law_part) tk0 (ln_cons (ln_cons (ln_cons (ln_cons ln_nil)))) (q_acons (q_var (i := 0) rfl (.inr (.inl rfl))) (q_acons (q_var (i := 3) rfl (.inr (.inl rfl))) (q_acons q_int (q_acons (q_var (i := 5) rfl (.inr (.inl rfl))) q_anil))))))))))
    (s_cons (s_if (t_eq hr.units (q_call (ok__law_draw T F__law_draw) (hr.mono (by decide)) rfl T.g__law_draw F__law_draw.kp (bn__law_draw F__law_draw) (takes_of rfl rfl rfl rfl) (ln_cons (ln_cons ln_nil)) (q_acons (q_var (i := 0) rfl (.inr (.inl rfl))) (q_acons q_int q_anil))) q_int) (s_one (s_ret (q_tup (q_acons (q_call (ok__law_names T F__law_names) (hr.mono (by decide)) rfl T.g__law_names F__law_names.kp (bn__law_names F__law_names) (takes_of rfl rfl rfl rfl) (ln_cons (ln_cons ln_nil)) (q_acons (q_var (i := 0) rfl (.inr (.inl rfl))) (q_acons (q_var (i := 3) rfl (.inr (.inl rfl))) q_anil))) (q_acons (q_var (i := 6) rfl (.inl rfl)) (q_acons q_non q_anil))) (ln_cons (ln_cons (ln_cons ln_nil)))))) s_nil)
    (s_cons (s_setLc (i := 7) (own := [("k", 8)]) rfl NO rfl rfl (by rfl) (go_n (by decide)) (i_rng1 rfl T.z_range (q_call (ok__law_draw T F__law_draw) (hr.mono (by decide)) rfl T.g__law_draw F__law_draw.kp (bn__law_draw F__law_draw) (takes_of rfl rfl rfl rfl) (ln_cons (ln_cons ln_nil)) (q_acons (q_var (i := 0) rfl (.inr (.inl rfl))) (q_acons q_int q_anil)))) (blk_of (by kernel_rfl)) (fun _ _ _ _ _ => (g_name (i := 8) (by decide) NO rfl (.inl rfl))) (fun _ _ _ _ _ => ts_nil) (fun _ _ _ _ _ => (q_tup (q_acons (q_call (ok__law_part T F__law_part) (hr.mono (by decide)) rfl T.g__law_part F__law_part.kp (bn__law_part F__law_part) tk0 (ln_cons (ln_cons (ln_cons (ln_cons ln_nil)))) (q_acons (q_var (i := 0) rfl (.inr (.inl rfl))) (q_acons (q_var (i := 3) rfl (.inr (.inl rfl))) (q_acons q_int (q_acons q_int q_anil))))) (q_acons (q_call (ok__law_number T F__law_number) (hr.mono (by decide)) rfl T.g__law_number F__law_number.kp (bn__law_number F__law_number) tk0 (ln_cons ln_nil) (q_acons (q_var (i := 0) rfl (.inr (.inl rfl))) q_anil)) q_anil)) (ln_cons (ln_cons ln_nil)))))
    (s_one (s_ret (q_tup (q_acons (q_call (ok__law_names T F__law_names) (hr.mono (by decide)) rfl T.g__law_names F__law_names.kp (bn__law_names F__law_names) (takes_of rfl rfl rfl rfl) (ln_cons (ln_cons ln_nil)) (q_acons (q_var (i := 0) rfl (.inr (.inl rfl))) (q_acons (q_var (i := 3) rfl (.inr (.inl rfl))) q_anil))) (q_acons (q_var (i := 6) rfl (.inl rfl)) (q_acons (q_tup (q_acons (q_tupL rfl T.z_tuple (l_own (i := 7) rfl (.inl rfl))) (q_acons (q_call (ok__law_number T F__law_number) (hr.mono (by decide)) rfl T.g__law_number F__law_number.kp (bn__law_number F__law_number) (takes_of rfl rfl rfl rfl) (ln_cons ln_nil) (q_acons (q_var (i := 0) rfl (.inr (.inl rfl))) q_anil)) q_anil)) (ln_cons (ln_cons ln_nil))) q_anil))) (ln_cons (ln_cons (ln_cons ln_nil)))))))))))
theorem okr__law_truth (T : Fx K mg) {fd : FuncData} (F : FnP K "_law_truth" s__law_truth (He.ga K "_law_truth") fd) (k : Nat) (hk : 0 ≤ k) (rec : FM) (R : FnQ P w K mg base k (He.ga K "_law_truth") fd ps__law_truth rec) : FnQ P w K mg base (k + 1) (He.ga K "_law_truth") fd ps__law_truth (runF 5 (b__law_truth rec)) := by
  refine q_fn F.toFun sc__law_truth rfl fun cdv A outer s H E hr => ?_
  have NO : N__law_truth.Nodup := sc__law_truth.nd
  exact (s_cons (s_set NO (i := 2) rfl (.inl rfl) (q_ix (q_var (i := 0) rfl (.inl rfl)) q_int))
    (s_cons (s_if (t_in (q_var (i := 2) rfl (.inl rfl)) (q_tup (q_acons q_str (q_acons q_str q_anil)) (ln_cons (ln_cons ln_nil)))) (s_one (s_ret (q_eq hr.units (q_var (i := 2) rfl (.inl rfl)) q_str))) s_nil)
    (s_cons (s_if (t_eq hr.units (q_var (i := 2) rfl (.inl rfl)) q_str) (s_one (s_ret (q_eq hr.units (q_ix (q_var (i := 1) rfl (.inr (.inl rfl))) (q_ix (q_var (i := 0) rfl (.inl rfl)) q_int)) q_int))) s_nil)
    (s_cons (s_if (t_eq hr.units (q_var (i := 2) rfl (.inl rfl)) q_str) (s_one (s_ret (q_notV (q_call R (hr.mono (Nat.le_refl _)) rfl T.g__law_truth F.kp (bn__law_truth F) (takes_of rfl rfl rfl rfl) (ln_cons (ln_cons ln_nil)) (q_acons (q_ix (q_var (i := 0) rfl (.inl rfl)) q_int) (q_acons (q_var (i := 1) rfl (.inr (.inl rfl))) q_anil)))))) s_nil)
    (s_cons (s_if (t_eq hr.units (q_var (i := 2) rfl (.inl rfl)) q_str) (s_one (s_ret (q_all rfl rfl T.z_all (l_new (q_lc (own := [("one", 3)]) rfl NO (go_n (by decide)) (i_val (q_ix (q_var (i := 0) rfl (.inl rfl)) q_int)) (blk_of (by kernel_rfl)) (fun _ _ _ _ _ => (g_name (i := 3) (by decide) NO rfl (.inl rfl))) (fun _ _ _ _ _ => ts_nil) (fun _ _ _ _ _ => (q_call R (hr.mono (Nat.le_refl _)) rfl T.g__law_truth F.kp (bn__law_truth F) tk0 (ln_cons (ln_cons ln_nil)) (q_acons (q_var (i := 3) rfl (.inl rfl)) (q_acons (q_var (i := 1) rfl (.inr (.inl rfl))) q_anil))))))))) s_nil)
    (s_cons (s_if (t_eq hr.units (q_var (i := 2) rfl (.inl rfl)) q_str) (s_one (s_ret (q_any rfl rfl T.z_any (l_new (q_lc (own := [("one", 3)]) rfl NO (go_n (by decide)) (i_val (q_ix (q_var (i := 0) rfl (.inl rfl)) q_int)) (blk_of (by kernel_rfl)) (fun _ _ _ _ _ => (g_name (i := 3) (by decide) NO rfl (.inl rfl))) (fun _ _ _ _ _ => ts_nil) (fun _ _ _ _ _ => (q_call R (hr.mono (Nat.le_refl _)) rfl T.g__law_truth F.kp (bn__law_truth F) tk0 (ln_cons (ln_cons ln_nil)) (q_acons (q_var (i := 3) rfl (.inl rfl)) (q_acons (q_var (i := 1) rfl (.inr (.inl rfl))) q_anil))))))))) s_nil)
    (s_cons (s_if (t_eq hr.units (q_var (i := 2) rfl (.inl rfl)) q_str) (s_one (s_ret (q_orV (q_notV (q_call R (hr.mono (Nat.le_refl _)) rfl T.g__law_truth F.kp (bn__law_truth F) (takes_of rfl rfl rfl rfl) (ln_cons (ln_cons ln_nil)) (q_acons (q_ix (q_var (i := 0) rfl (.inl rfl)) q_int) (q_acons (q_var (i := 1) rfl (.inr (.inl rfl))) q_anil)))) (q_one (q_call R (hr.mono (Nat.le_refl _)) rfl T.g__law_truth F.kp (bn__law_truth F) (takes_of rfl rfl rfl rfl) (ln_cons (ln_cons ln_nil)) (q_acons (q_ix (q_var (i := 0) rfl (.inl rfl)) q_int) (q_acons (q_var (i := 1) rfl (.inr (.inl rfl))) q_anil))))))) s_nil)
    (s_cons (s_if (t_eq hr.units (q_var (i := 2) rfl (.inl rfl)) q_str) (s_one (s_ret (q_eq hr.units (q_call R (hr.mono (Nat.le_refl _)) rfl T.g__law_truth F.kp (bn__law_truth F) (takes_of rfl rfl rfl rfl) (ln_cons (ln_cons ln_nil)) (q_acons (q_ix (q_var (i := 0) rfl (.inl rfl)) q_int) (q_acons (q_var (i := 1) rfl (.inr (.inl rfl))) q_anil))) (q_call R (hr.mono (Nat.le_refl _)) rfl T.g__law_truth F.kp (bn__law_truth F) (takes_of rfl rfl rfl rfl) (ln_cons (ln_cons ln_nil)) (q_acons (q_ix (q_var (i := 0) rfl (.inl rfl)) q_int) (q_acons (q_var (i := 1) rfl (.inr (.inl rfl))) q_anil)))))) s_nil)
    (s_cons (s_if (t_eq hr.units (q_var (i := 2) rfl (.inl rfl)) q_str) (s_one (s_ret (q_cmp op_ge f_ge (q_len rfl T.z_len (qs_l (l_new (q_lc (own := [("one", 3)]) rfl NO (go_n (by decide)) (i_val (q_ix (q_var (i := 0) rfl (.inl rfl)) q_int)) (blk_of (by kernel_rfl)) (fun _ _ _ _ _ => (g_name (i := 3) (by decide) NO rfl (.inl rfl))) (fun _ _ _ _ _ => (ts_one (q_tv (q_call R (hr.mono (Nat.le_refl _)) rfl T.g__law_truth F.kp (bn__law_truth F) tk0 (ln_cons (ln_cons ln_nil)) (q_acons (q_var (i := 3) rfl (.inl rfl)) (q_acons (q_var (i := 1) rfl (.inr (.inl rfl))) q_anil)))))) (fun _ _ _ _ _ => (q_var (i := 3) rfl (.inl rfl))))))) (q_ix (q_var (i := 0) rfl (.inl rfl)) q_int) (nomark _)))) s_nil)
    (s_one (s_ret (q_cmp op_ge f_ge (q_sum rfl rfl T.z_sum (l_new (q_lc (own := [("one", 3), ("weight", 4)]) rfl NO (go_t (go_c (go_n (by decide)) (go_c (go_n (by decide)) go_nil))) (i_val (q_ix (q_var (i := 0) rfl (.inl rfl)) q_int)) (blk_of (by kernel_rfl)) (fun _ _ _ _ _ => (g_tup rfl (gs_cons (g_name (i := 3) (by decide) NO rfl (.inl rfl)) (gs_cons (g_name (i := 4) (by decide) NO rfl (.inl rfl)) gs_nil)))) (fun _ _ _ _ _ => (ts_one (q_tv (q_call R (hr.mono (Nat.le_refl _)) rfl T.g__law_truth F.kp (bn__law_truth F) tk0 (ln_cons (ln_cons ln_nil)) (q_acons (q_var (i := 3) rfl (.inl rfl)) (q_acons (q_var (i := 1) rfl (.inr (.inl rfl))) q_anil)))))) (fun _ _ _ _ _ => (q_var (i := 4) rfl (.inl rfl)))))) (q_ix (q_var (i := 0) rfl (.inl rfl)) q_int) (nomark _)))))))))))))
theorem ok__law_truth (T : Fx K mg) {fd : FuncData} (F : FnP K "_law_truth" s__law_truth (He.ga K "_law_truth") fd) : FnQ P w K mg base 12 (He.ga K "_law_truth") fd ps__law_truth m__law_truth := by
  have go : ∀ n, FnQ P w K mg base (0 + n) (He.ga K "_law_truth") fd ps__law_truth (mr__law_truth n) := fun n => by
    induction n with
    | zero => exact fnq_bad
    | succ n ih => exact okr__law_truth T F (0 + n) (by omega) _ ih
  exact go 12
theorem ok__law_true_claims (T : Fx K mg) {fd : FuncData} (F : FnP K "_law_true_claims" s__law_true_claims (He.ga K "_law_true_claims") fd) : FnQ P w K mg base 13 (He.ga K "_law_true_claims") fd ps__law_true_claims m__law_true_claims := by
  obtain ⟨fd__law_truth, F__law_truth⟩ := T.d__law_truth
  refine q_fn F.toFun sc__law_true_claims rfl fun cdv A outer s H E hr => ?_
  have NO : N__law_true_claims.Nodup := sc__law_true_claims.nd
  exact (s_one (s_ret (q_tupL rfl T.z_tuple (l_new (q_lc (own := [("index", 2), ("claim", 3)]) rfl NO (go_t (go_c (go_n (by decide)) (go_c (go_n (by decide)) go_nil))) (i_enumA rfl T.z_enumerate (q_ix (q_var (i := 0) rfl (.inl rfl)) q_int)) (blk_of (by kernel_rfl)) (fun _ _ _ _ _ => (g_tup rfl (gs_cons (g_name (i := 2) (by decide) NO rfl (.inl rfl)) (gs_cons (g_name (i := 3) (by decide) NO rfl (.inl rfl)) gs_nil)))) (fun _ _ _ _ _ => (ts_one (q_tv (q_call (ok__law_truth T F__law_truth) (hr.mono (by decide)) rfl T.g__law_truth F__law_truth.kp (bn__law_truth F__law_truth) tk0 (ln_cons (ln_cons ln_nil)) (q_acons (q_var (i := 3) rfl (.inl rfl)) (q_acons (q_var (i := 1) rfl (.inr (.inl rfl))) q_anil)))))) (fun _ _ _ _ _ => (q_var (i := 2) rfl (.inl rfl))))))))
theorem ok__law_fits (T : Fx K mg) {fd : FuncData} (F : FnP K "_law_fits" s__law_fits (He.ga K "_law_fits") fd) : FnQ P w K mg base 13 (He.ga K "_law_fits") fd ps__law_fits m__law_fits := by
  obtain ⟨fd__law_truth, F__law_truth⟩ := T.d__law_truth
  refine q_fn F.toFun sc__law_fits rfl fun cdv A outer s H E hr => ?_
  have NO : N__law_fits.Nodup := sc__law_fits.nd
  exact (s_one (s_ret (q_all rfl rfl T.z_all (l_new (q_lc (own := [("claim", 2)]) rfl NO (go_n (by decide)) (i_val (q_ix (q_var (i := 0) rfl (.inl rfl)) q_int)) (blk_of (by kernel_rfl)) (fun _ _ _ _ _ => (g_name (i := 2) (by decide) NO rfl (.inl rfl))) (fun _ _ _ _ _ => ts_nil) (fun _ _ _ _ _ => (q_call (ok__law_truth T F__law_truth) (hr.mono (by decide)) rfl T.g__law_truth F__law_truth.kp (bn__law_truth F__law_truth) tk0 (ln_cons (ln_cons ln_nil)) (q_acons (q_var (i := 2) rfl (.inl rfl)) (q_acons (q_var (i := 1) rfl (.inr (.inl rfl))) q_anil)))))))))
theorem ok__law_cost (T : Fx K mg) {fd : FuncData} (F : FnP K "_law_cost" s__law_cost (He.ga K "_law_cost") fd) : FnQ P w K mg base 13 (He.ga K "_law_cost") fd ps__law_cost m__law_cost := by
  obtain ⟨fd__law_truth, F__law_truth⟩ := T.d__law_truth
  refine q_fn F.toFun sc__law_cost rfl fun cdv A outer s H E hr => ?_
  have NO : N__law_cost.Nodup := sc__law_cost.nd
  exact (s_cons (s_if (t_isN (q_ix (q_var (i := 0) rfl (.inl rfl)) q_int)) (s_one (s_ret q_int)) s_nil)
    (s_one (s_ret (q_add (q_ix (q_ix (q_var (i := 0) rfl (.inl rfl)) q_int) q_int) (q_sum rfl rfl T.z_sum (l_new (q_lc (own := [("one", 2), ("weight", 3)]) rfl NO (go_t (go_c (go_n (by decide)) (go_c (go_n (by decide)) go_nil))) (i_val (q_ix (q_ix (q_var (i := 0) rfl (.inl rfl)) q_int) q_int)) (blk_of (by kernel_rfl)) (fun _ _ _ _ _ => (g_tup rfl (gs_cons (g_name (i := 2) (by decide) NO rfl (.inl rfl)) (gs_cons (g_name (i := 3) (by decide) NO rfl (.inl rfl)) gs_nil)))) (fun _ _ _ _ _ => (ts_one (q_tv (q_call (ok__law_truth T F__law_truth) (hr.mono (by decide)) rfl T.g__law_truth F__law_truth.kp (bn__law_truth F__law_truth) tk0 (ln_cons (ln_cons ln_nil)) (q_acons (q_var (i := 2) rfl (.inl rfl)) (q_acons (q_var (i := 1) rfl (.inr (.inl rfl))) q_anil)))))) (fun _ _ _ _ _ => (q_var (i := 3) rfl (.inl rfl))))))))))
theorem ok__law_word (T : Fx K mg) {fd : FuncData} (F : FnP K "_law_word" s__law_word (He.ga K "_law_word") fd) : FnQ P w K mg base 16 (He.ga K "_law_word") fd ps__law_word m__law_word := by
  obtain ⟨fd_truth, F_truth⟩ := T.d_truth
  obtain ⟨fd_claims_true, F_claims_true⟩ := T.d_claims_true
  obtain ⟨fd_makes_true, F_makes_true⟩ := T.d_makes_true
  obtain ⟨fd_statement_price, F_statement_price⟩ := T.d_statement_price
  refine q_fn F.toFun sc__law_word rfl fun cdv A outer s H E hr => ?_
  have NO : N__law_word.Nodup := sc__law_word.nd
  exact (s_cons (s_set NO (i := 4) rfl (.inl rfl) q_str)
    (s_cons (s_try (ds := ["BadNumber", "BadPart", "BadRow", "BadStatement"]) (cs := ["SumError"]) rfl rfl NO (takes_of rfl rfl rfl rfl) (su__law_word_243 T) (by decide) (fun W pn xe tk1 pw1 => (s_one (s_if (t_eq hr.units (q_var (i := 0) rfl (.inl rfl)) q_int) (s_one (s_expr (q_call (ok_truth T F_truth) (hr.mono (by decide)) rfl T.g_truth F_truth.kp (bn_truth F_truth) tk1 (ln_cons (ln_cons (ln_cons ln_nil))) (q_acons (q_var (i := 1) rfl (.inl rfl)) (q_acons (q_var (i := 2) rfl (.inl rfl)) (q_acons (q_var (i := 3) rfl (.inl rfl)) q_anil)))))) (s_one (s_if (t_eq hr.units (q_var (i := 0) rfl (.inl rfl)) q_int) (s_one (s_expr (q_call (ok_claims_true T F_claims_true) (hr.mono (by decide)) rfl T.g_claims_true F_claims_true.kp (bn_claims_true F_claims_true) tk1 (ln_cons (ln_cons ln_nil)) (q_acons (q_var (i := 1) rfl (.inl rfl)) (q_acons (q_var (i := 2) rfl (.inl rfl)) q_anil))))) (s_one (s_if (t_eq hr.units (q_var (i := 0) rfl (.inl rfl)) q_int) (s_one (s_expr (q_call (ok_makes_true T F_makes_true) (hr.mono (by decide)) rfl T.g_makes_true F_makes_true.kp (bn_makes_true F_makes_true) tk1 (ln_cons (ln_cons ln_nil)) (q_acons (q_var (i := 1) rfl (.inl rfl)) (q_acons (q_var (i := 2) rfl (.inl rfl)) q_anil))))) (s_one (s_expr (q_call (ok_statement_price T F_statement_price) (hr.mono (by decide)) rfl T.g_statement_price F_statement_price.kp (bn_statement_price F_statement_price) tk1 (ln_cons (ln_cons ln_nil)) (q_acons (q_var (i := 1) rfl (.inl rfl)) (q_acons (q_var (i := 2) rfl (.inl rfl)) q_anil)))))))))))) (HdF.named rfl T.c_SumError (by decide) (i := 5) rfl rfl (fun c => (if h0 : c = "BadNumber" then (fun h0 : c = "BadNumber" => by subst h0; exact .inr ⟨[(4, .str "other"), (4, .str "number")], [(4, .str "other"), (4, .str "number")], if_pos rfl, (.cons (fun _ => .str _) (.cons (fun _ => .str _) .nil)), fun a o D pn hc hz hf => by cases hc.symm.trans T.c_BadNumber; exact es_to (es_cons (es_set (j := 4) (by decide) NO rfl (.inl rfl) (ee_c pe_str)) (es_cons (es_if (et_v (ee_isi (T.w_BadNumber) hz hf rfl (.inl rfl) T.k_BadNumber_BadNumber rfl T.z_isinstance rfl T.c_BadNumber)) (es_cons (es_set (j := 4) (by decide) NO rfl (.inl rfl) (ee_c pe_str)) es_nil) (es_cons (es_if (et_v (ee_isi (T.w_BadNumber) hz hf rfl (.inl rfl) T.k_BadNumber_BadPart rfl T.z_isinstance rfl T.c_BadPart)) (es_cons (es_set (j := 4) (by decide) NO rfl (.inl rfl) (ee_c pe_str)) es_nil) (es_cons (es_if (et_v (ee_isi (T.w_BadNumber) hz hf rfl (.inl rfl) T.k_BadNumber_BadRow rfl T.z_isinstance rfl T.c_BadRow)) (es_cons (es_set (j := 4) (by decide) NO rfl (.inl rfl) (ee_c pe_str)) es_nil) (es_cons (es_if (et_v (ee_isi (T.w_BadNumber) hz hf rfl (.inl rfl) T.k_BadNumber_BadStatement rfl T.z_isinstance rfl T.c_BadStatement)) (es_cons (es_set (j := 4) (by decide) NO rfl (.inl rfl) (ee_c pe_str)) es_nil) es_nil) es_nil)) es_nil)) es_nil)) es_nil)) (by rfl)⟩) h0 else (if h1 : c = "BadPart" then (fun h1 : c = "BadPart" => by subst h1; exact .inr ⟨[(4, .str "other"), (4, .str "part")], [(4, .str "other"), (4, .str "part")], (if_neg (by decide)).trans (if_pos rfl), (.cons (fun _ => .str _) (.cons (fun _ => .str _) .nil)), fun a o D pn hc hz hf => by cases hc.symm.trans T.c_BadPart; exact es_to (es_cons (es_set (j := 4) (by decide) NO rfl (.inl rfl) (ee_c pe_str)) (es_cons (es_if (et_v (ee_isi (T.w_BadPart) hz hf rfl (.inl rfl) T.k_BadPart_BadNumber rfl T.z_isinstance rfl T.c_BadNumber)) (es_cons (es_set (j := 4) (by decide) NO rfl (.inl rfl) (ee_c pe_str)) es_nil) (es_cons (es_if (et_v (ee_isi (T.w_BadPart) hz hf rfl (.inl rfl) T.k_BadPart_BadPart rfl T.z_isinstance rfl T.c_BadPart)) (es_cons (es_set (j := 4) (by decide) NO rfl (.inl rfl) (ee_c pe_str)) es_nil) (es_cons (es_if (et_v (ee_isi (T.w_BadPart) hz hf rfl (.inl rfl) T.k_BadPart_BadRow rfl T.z_isinstance rfl T.c_BadRow)) (es_cons (es_set (j := 4) (by decide) NO rfl (.inl rfl) (ee_c pe_str)) es_nil) (es_cons (es_if (et_v (ee_isi (T.w_BadPart) hz hf rfl (.inl rfl) T.k_BadPart_BadStatement rfl T.z_isinstance rfl T.c_BadStatement)) (es_cons (es_set (j := 4) (by decide) NO rfl (.inl rfl) (ee_c pe_str)) es_nil) es_nil) es_nil)) es_nil)) es_nil)) es_nil)) (by rfl)⟩) h1 else (if h2 : c = "BadRow" then (fun h2 : c = "BadRow" => by subst h2; exact .inr ⟨[(4, .str "other"), (4, .str "row")], [(4, .str "other"), (4, .str "row")], (if_neg (by decide)).trans ((if_neg (by decide)).trans (if_pos rfl)), (.cons (fun _ => .str _) (.cons (fun _ => .str _) .nil)), fun a o D pn hc hz hf => by cases hc.symm.trans T.c_BadRow; exact es_to (es_cons (es_set (j := 4) (by decide) NO rfl (.inl rfl) (ee_c pe_str)) (es_cons (es_if (et_v (ee_isi (T.w_BadRow) hz hf rfl (.inl rfl) T.k_BadRow_BadNumber rfl T.z_isinstance rfl T.c_BadNumber)) (es_cons (es_set (j := 4) (by decide) NO rfl (.inl rfl) (ee_c pe_str)) es_nil) (es_cons (es_if (et_v (ee_isi (T.w_BadRow) hz hf rfl (.inl rfl) T.k_BadRow_BadPart rfl T.z_isinstance rfl T.c_BadPart)) (es_cons (es_set (j := 4) (by decide) NO rfl (.inl rfl) (ee_c pe_str)) es_nil) (es_cons (es_if (et_v (ee_isi (T.w_BadRow) hz hf rfl (.inl rfl) T.k_BadRow_BadRow rfl T.z_isinstance rfl T.c_BadRow)) (es_cons (es_set (j := 4) (by decide) NO rfl (.inl rfl) (ee_c pe_str)) es_nil) (es_cons (es_if (et_v (ee_isi (T.w_BadRow) hz hf rfl (.inl rfl) T.k_BadRow_BadStatement rfl T.z_isinstance rfl T.c_BadStatement)) (es_cons (es_set (j := 4) (by decide) NO rfl (.inl rfl) (ee_c pe_str)) es_nil) es_nil) es_nil)) es_nil)) es_nil)) es_nil)) (by rfl)⟩) h2 else (if h3 : c = "BadStatement" then (fun h3 : c = "BadStatement" => by subst h3; exact .inr ⟨[(4, .str "other"), (4, .str "statement")], [(4, .str "other"), (4, .str "statement")], (if_neg (by decide)).trans ((if_neg (by decide)).trans ((if_neg (by decide)).trans (if_pos rfl))), (.cons (fun _ => .str _) (.cons (fun _ => .str _) .nil)), fun a o D pn hc hz hf => by cases hc.symm.trans T.c_BadStatement; exact es_to (es_cons (es_set (j := 4) (by decide) NO rfl (.inl rfl) (ee_c pe_str)) (es_cons (es_if (et_v (ee_isi (T.w_BadStatement) hz hf rfl (.inl rfl) T.k_BadStatement_BadNumber rfl T.z_isinstance rfl T.c_BadNumber)) (es_cons (es_set (j := 4) (by decide) NO rfl (.inl rfl) (ee_c pe_str)) es_nil) (es_cons (es_if (et_v (ee_isi (T.w_BadStatement) hz hf rfl (.inl rfl) T.k_BadStatement_BadPart rfl T.z_isinstance rfl T.c_BadPart)) (es_cons (es_set (j := 4) (by decide) NO rfl (.inl rfl) (ee_c pe_str)) es_nil) (es_cons (es_if (et_v (ee_isi (T.w_BadStatement) hz hf rfl (.inl rfl) T.k_BadStatement_BadRow rfl T.z_isinstance rfl T.c_BadRow)) (es_cons (es_set (j := 4) (by decide) NO rfl (.inl rfl) (ee_c pe_str)) es_nil) (es_cons (es_if (et_v (ee_isi (T.w_BadStatement) hz hf rfl (.inl rfl) T.k_BadStatement_BadStatement rfl T.z_isinstance rfl T.c_BadStatement)) (es_cons (es_set (j := 4) (by decide) NO rfl (.inl rfl) (ee_c pe_str)) es_nil) es_nil) es_nil)) es_nil)) es_nil)) es_nil)) (by rfl)⟩) h3 else .inl (by rw [if_neg h0, if_neg h1, if_neg h2, if_neg h3])))))) HdF.nil))
    (s_one (s_ret (q_var (i := 4) rfl (.inl rfl))))))
theorem ok__law_wrong_rows (T : Fx K mg) {fd : FuncData} (F : FnP K "_law_wrong_rows" s__law_wrong_rows (He.ga K "_law_wrong_rows") fd) : FnQ P w K mg base 1 (He.ga K "_law_wrong_rows") fd ps__law_wrong_rows m__law_wrong_rows := by
  refine q_fn F.toFun sc__law_wrong_rows rfl fun cdv A outer s H E hr => ?_
  have NO : N__law_wrong_rows.Nodup := sc__law_wrong_rows.nd
  exact (s_one (s_ret (q_fz (q_lst (q_acons (q_mulT (q_tup (q_acons q_int q_anil) (ln_cons ln_nil)) (q_add (q_var (i := 0) rfl (.inl rfl)) q_int)) (q_acons (q_mulT (q_tup (q_acons q_int q_anil) (ln_cons ln_nil)) (q_op op_sub f_sub (q_var (i := 0) rfl (.inl rfl)) q_int)) (q_acons (q_fz (q_rep (q_lst (q_acons q_int q_anil) (ln_cons ln_nil)) (q_var (i := 0) rfl (.inl rfl)))) (q_acons (q_add (q_tup (q_acons q_int q_anil) (ln_cons ln_nil)) (q_mulT (q_tup (q_acons q_int q_anil) (ln_cons ln_nil)) (q_op op_sub f_sub (q_var (i := 0) rfl (.inl rfl)) q_int))) (q_acons (q_add (q_tup (q_acons q_bl q_anil) (ln_cons ln_nil)) (q_mulT (q_tup (q_acons q_int q_anil) (ln_cons ln_nil)) (q_op op_sub f_sub (q_var (i := 0) rfl (.inl rfl)) q_int))) (q_acons q_non (q_acons (q_mulT (q_tup (q_acons (q_un un_neg f_neg q_int) q_anil) (ln_cons ln_nil)) (q_var (i := 0) rfl (.inl rfl))) q_anil))))))) (ln_cons (ln_cons (ln_cons (ln_cons (ln_cons (ln_cons (ln_cons ln_nil)))))))))))
theorem ok__law_errors (T : Fx K mg) {fd : FuncData} (F : FnP K "_law_errors" s__law_errors (He.ga K "_law_errors") fd) : FnQ P w K mg base 17 (He.ga K "_law_errors") fd ps__law_errors m__law_errors := by
  obtain ⟨fd__law_wrong_rows, F__law_wrong_rows⟩ := T.d__law_wrong_rows
  obtain ⟨fd__law_word, F__law_word⟩ := T.d__law_word
  refine q_fn F.toFun sc__law_errors rfl fun cdv A outer s H E hr => ?_
  have NO : N__law_errors.Nodup := sc__law_errors.nd
  exact (s_cons (s_asg (own := [1, 2]) (q_tup (q_acons (q_len rfl T.z_len (qs_v (q_ix (q_var (i := 0) rfl (.inr (.inl rfl))) q_int))) (q_acons (q_mulT (q_tup (q_acons q_int q_anil) (ln_cons ln_nil)) (q_len rfl T.z_len (qs_v (q_ix (q_var (i := 0) rfl (.inr (.inl rfl))) q_int)))) q_anil)) (ln_cons (ln_cons ln_nil))) (g_tup rfl (gs_cons (g_name (i := 1) (by decide) NO rfl (.inl rfl)) (gs_cons (g_name (i := 2) (by decide) NO rfl (.inr rfl)) gs_nil))))
    (s_cons (s_set NO (i := 3) rfl (.inr rfl) (q_tup (q_acons (q_ix (q_var (i := 0) rfl (.inr (.inl rfl))) q_int) (q_acons (q_add (q_ix (q_var (i := 0) rfl (.inr (.inl rfl))) q_int) (q_tup (q_acons (q_tup (q_acons q_str (q_acons (q_var (i := 1) rfl (.inl rfl)) q_anil)) (ln_cons (ln_cons ln_nil))) q_anil) (ln_cons ln_nil))) (q_acons (q_ix (q_var (i := 0) rfl (.inr (.inl rfl))) q_int) q_anil))) (ln_cons (ln_cons (ln_cons ln_nil)))))
    (s_cons (s_for (own := [4]) (passes_of rfl) rfl (i_val (q_call (ok__law_wrong_rows T F__law_wrong_rows) (hr.mono (by decide)) rfl T.g__law_wrong_rows F__law_wrong_rows.kp (bn__law_wrong_rows F__law_wrong_rows) (takes_of rfl rfl rfl rfl) (ln_cons ln_nil) (q_acons (q_var (i := 1) rfl (.inl rfl)) q_anil))) (g_name (i := 4) (by decide) NO rfl (.inr rfl)) (s_cons (s_if (PW.pt (q_or (t_ne hr.units (q_call (ok__law_word T F__law_word) (hr.mono (by decide)) rfl T.g__law_word F__law_word.kp (bn__law_word F__law_word) (takes_of rfl rfl rfl rfl) (ln_cons (ln_cons (ln_cons (ln_cons ln_nil)))) (q_acons q_int (q_acons (q_var (i := 1) rfl (.inl rfl)) (q_acons (q_tup (q_acons q_str q_anil) (ln_cons ln_nil)) (q_acons (q_var (i := 4) rfl (.inr (.inl rfl))) q_anil))))) q_str) (q_or1 (t_ne hr.units (q_call (ok__law_word T F__law_word) (hr.mono (by decide)) rfl T.g__law_word F__law_word.kp (bn__law_word F__law_word) (takes_of rfl rfl rfl rfl) (ln_cons (ln_cons (ln_cons (ln_cons ln_nil)))) (q_acons q_int (q_acons (q_var (i := 1) rfl (.inl rfl)) (q_acons (q_tup (q_acons q_str (q_acons (q_var (i := 1) rfl (.inl rfl)) q_anil)) (ln_cons (ln_cons ln_nil))) (q_acons (q_var (i := 4) rfl (.inr (.inl rfl))) q_anil))))) q_str)))) (s_one (s_ret q_bl)) s_nil)
    (s_cons (s_if (t_ne hr.units (q_call (ok__law_word T F__law_word) (hr.mono (by decide)) rfl T.g__law_word F__law_word.kp (bn__law_word F__law_word) (takes_of rfl rfl rfl rfl) (ln_cons (ln_cons (ln_cons (ln_cons ln_nil)))) (q_acons q_int (q_acons q_int (q_acons (q_tup (q_acons q_str (q_acons (q_var (i := 1) rfl (.inl rfl)) q_anil)) (ln_cons (ln_cons ln_nil))) (q_acons (q_var (i := 4) rfl (.inr (.inl rfl))) q_anil))))) q_str) (s_one (s_ret q_bl)) s_nil)
    (s_cons (s_if (t_ne hr.units (q_fz (q_lc (own := [("kind", 5)]) rfl NO (go_n (by decide)) (i_val (q_tup (q_acons q_int (q_acons q_int (q_acons q_int q_anil))) (ln_cons (ln_cons (ln_cons ln_nil))))) (blk_of (by kernel_rfl)) (fun _ _ _ _ _ => (g_name (i := 5) (by decide) NO rfl (.inl rfl))) (fun _ _ _ _ _ => ts_nil) (fun _ _ _ _ _ => (q_call (ok__law_word T F__law_word) (hr.mono (by decide)) rfl T.g__law_word F__law_word.kp (bn__law_word F__law_word) tk0 (ln_cons (ln_cons (ln_cons (ln_cons ln_nil)))) (q_acons (q_var (i := 5) rfl (.inl rfl)) (q_acons (q_var (i := 0) rfl (.inr (.inl rfl))) (q_acons (q_var (i := 4) rfl (.inr (.inl rfl))) (q_acons q_non q_anil)))))))) (q_fz (q_lst (q_acons q_str (q_acons q_str (q_acons q_str q_anil))) (ln_cons (ln_cons (ln_cons ln_nil)))))) (s_one (s_ret q_bl)) s_nil)
    (s_one (s_if (t_ne hr.units (q_fz (q_lc (own := [("kind", 5)]) rfl NO (go_n (by decide)) (i_val (q_tup (q_acons q_int (q_acons q_int (q_acons q_int q_anil))) (ln_cons (ln_cons (ln_cons ln_nil))))) (blk_of (by kernel_rfl)) (fun _ _ _ _ _ => (g_name (i := 5) (by decide) NO rfl (.inl rfl))) (fun _ _ _ _ _ => ts_nil) (fun _ _ _ _ _ => (q_call (ok__law_word T F__law_word) (hr.mono (by decide)) rfl T.g__law_word F__law_word.kp (bn__law_word F__law_word) tk0 (ln_cons (ln_cons (ln_cons (ln_cons ln_nil)))) (q_acons (q_var (i := 5) rfl (.inl rfl)) (q_acons (q_var (i := 3) rfl (.inr (.inl rfl))) (q_acons (q_var (i := 4) rfl (.inr (.inl rfl))) (q_acons q_non q_anil)))))))) (q_fz (q_lst (q_acons q_str (q_acons q_str (q_acons q_str q_anil))) (ln_cons (ln_cons (ln_cons ln_nil)))))) (s_one (s_ret q_bl)) s_nil))))))
    (s_one (s_ret (q_eq hr.units (q_fz (q_lc (own := [("kind", 5)]) rfl NO (go_n (by decide)) (i_val (q_tup (q_acons q_int (q_acons q_int (q_acons q_int q_anil))) (ln_cons (ln_cons (ln_cons ln_nil))))) (blk_of (by kernel_rfl)) (fun _ _ _ _ _ => (g_name (i := 5) (by decide) NO rfl (.inl rfl))) (fun _ _ _ _ _ => ts_nil) (fun _ _ _ _ _ => (q_call (ok__law_word T F__law_word) (hr.mono (by decide)) rfl T.g__law_word F__law_word.kp (bn__law_word F__law_word) tk0 (ln_cons (ln_cons (ln_cons (ln_cons ln_nil)))) (q_acons (q_var (i := 5) rfl (.inl rfl)) (q_acons (q_var (i := 3) rfl (.inr (.inl rfl))) (q_acons (q_var (i := 2) rfl (.inr (.inl rfl))) (q_acons q_non q_anil)))))))) (q_fz (q_lst (q_acons q_str (q_acons q_str (q_acons q_str q_anil))) (ln_cons (ln_cons (ln_cons ln_nil)))))))))))
theorem ok_law (T : Fx K mg) {fd : FuncData} (F : FnP K "law" s_law (He.ga K "law") fd) : FnQ P w K mg base 18 (He.ga K "law") fd ps_law m_law := by
  obtain ⟨fd__law_source, F__law_source⟩ := T.d__law_source
  obtain ⟨fd__law_statement, F__law_statement⟩ := T.d__law_statement
  obtain ⟨fd__law_rows, F__law_rows⟩ := T.d__law_rows
  obtain ⟨fd__law_true_claims, F__law_true_claims⟩ := T.d__law_true_claims
  obtain ⟨fd_statement_price, F_statement_price⟩ := T.d_statement_price
  obtain ⟨fd_claims_true, F_claims_true⟩ := T.d_claims_true
  obtain ⟨fd__law_says, F__law_says⟩ := T.d__law_says
  obtain ⟨fd_makes_true, F_makes_true⟩ := T.d_makes_true
  obtain ⟨fd__law_fits, F__law_fits⟩ := T.d__law_fits
  obtain ⟨fd__law_int, F__law_int⟩ := T.d__law_int
  obtain ⟨fd__law_cost, F__law_cost⟩ := T.d__law_cost
  obtain ⟨fd_truth, F_truth⟩ := T.d_truth
  obtain ⟨fd__law_truth, F__law_truth⟩ := T.d__law_truth
  obtain ⟨fd__law_errors, F__law_errors⟩ := T.d__law_errors
  refine q_fn F.toFun sc_law rfl fun cdv A outer s H E hr => ?_
  have NO : N_law.Nodup := sc_law.nd
  exact (s_cons (s_set NO (i := 1) rfl (.inl rfl) (q_sto (q_callO (ok__law_source T F__law_source) (hr.mono (by decide)) rfl T.g__law_source F__law_source.kp (bn__law_source F__law_source) (takes_of rfl rfl rfl rfl) (ln_cons ln_nil) (q_acons (q_var (i := 0) rfl (.inl rfl)) q_anil))))
    (s_cons (s_set NO (i := 2) rfl (.inl rfl) (q_call (ok__law_statement T F__law_statement) (hr.mono (by decide)) rfl T.g__law_statement F__law_statement.kp (bn__law_statement F__law_statement) (takes_of rfl rfl rfl rfl) (ln_cons (ln_cons (ln_cons ln_nil))) (q_acons (q_var (i := 1) rfl (.inl rfl)) (q_acons q_int (q_acons q_int q_anil)))))
    (s_cons (s_set NO (i := 3) rfl (.inl rfl) (q_len rfl T.z_len (qs_v (q_ix (q_var (i := 2) rfl (.inl rfl)) q_int))))
    (s_cons (s_for (own := [4]) (passes_of rfl) rfl (i_val (q_call (ok__law_rows T F__law_rows) (hr.mono (by decide)) rfl T.g__law_rows F__law_rows.kp (bn__law_rows F__law_rows) (takes_of rfl rfl rfl rfl) (ln_cons ln_nil) (q_acons (q_var (i := 3) rfl (.inl rfl)) q_anil))) (g_name (i := 4) (by decide) NO rfl (.inl rfl)) (s_cons (s_par (i := 5) (j := 6) rfl NO rfl rfl (by decide) rfl rfl (c_w (q_call (ok__law_true_claims T F__law_true_claims) (hr.mono (by decide)) rfl T.g__law_true_claims F__law_true_claims.kp (bn__law_true_claims F__law_true_claims) (takes_of rfl rfl rfl rfl) (ln_cons (ln_cons ln_nil)) (q_acons (q_var (i := 2) rfl (.inl rfl)) (q_acons (q_var (i := 4) rfl (.inl rfl)) q_anil)))) (c_w (q_call (ok_statement_price T F_statement_price) (hr.mono (by decide)) rfl T.g_statement_price F_statement_price.kp (bn_statement_price F_statement_price) (takes_of rfl rfl rfl rfl) (ln_cons (ln_cons ln_nil)) (q_acons (q_var (i := 2) rfl (.inl rfl)) (q_acons (q_var (i := 4) rfl (.inl rfl)) q_anil)))) (by rfl))
    (s_cons (s_if (PW.pt (q_or (t_ne hr.units (q_call (ok_claims_true T F_claims_true) (hr.mono (by decide)) rfl T.g_claims_true F_claims_true.kp (bn_claims_true F_claims_true) (takes_of rfl rfl rfl rfl) (ln_cons (ln_cons ln_nil)) (q_acons (q_var (i := 2) rfl (.inl rfl)) (q_acons (q_var (i := 4) rfl (.inl rfl)) q_anil))) (q_var (i := 5) rfl (.inl rfl))) (q_or1 (q_not (q_tv (q_call (ok__law_says T F__law_says) (hr.mono (by decide)) rfl T.g__law_says F__law_says.kp (bn__law_says F__law_says) (takes_of rfl rfl rfl rfl) (ln_cons (ln_cons ln_nil)) (q_acons (q_call (ok_makes_true T F_makes_true) (hr.mono (by decide)) rfl T.g_makes_true F_makes_true.kp (bn_makes_true F_makes_true) (takes_of rfl rfl rfl rfl) (ln_cons (ln_cons ln_nil)) (q_acons (q_var (i := 2) rfl (.inl rfl)) (q_acons (q_var (i := 4) rfl (.inl rfl)) q_anil))) (q_acons (q_call (ok__law_fits T F__law_fits) (hr.mono (by decide)) rfl T.g__law_fits F__law_fits.kp (bn__law_fits F__law_fits) (takes_of rfl rfl rfl rfl) (ln_cons (ln_cons ln_nil)) (q_acons (q_var (i := 2) rfl (.inl rfl)) (q_acons (q_var (i := 4) rfl (.inl rfl)) q_anil))) q_anil)))))))) (s_one (s_ret q_bl)) s_nil)
    (s_cons (s_if (PW.pt (q_or (q_not (q_tv (q_call (ok__law_int T F__law_int) (hr.mono (by decide)) rfl T.g__law_int F__law_int.kp (bn__law_int F__law_int) (takes_of rfl rfl rfl rfl) (ln_cons ln_nil) (q_acons (q_var (i := 6) rfl (.inl rfl)) q_anil)))) (q_or1 (t_ne hr.units (q_var (i := 6) rfl (.inl rfl)) (q_call (ok__law_cost T F__law_cost) (hr.mono (by decide)) rfl T.g__law_cost F__law_cost.kp (bn__law_cost F__law_cost) (takes_of rfl rfl rfl rfl) (ln_cons (ln_cons ln_nil)) (q_acons (q_var (i := 2) rfl (.inl rfl)) (q_acons (q_var (i := 4) rfl (.inl rfl)) q_anil))))))) (s_one (s_ret q_bl)) s_nil)
    (s_one (s_for (own := [7]) (passes_of rfl) rfl (i_val (q_ix (q_var (i := 2) rfl (.inl rfl)) q_int)) (g_name (i := 7) (by decide) NO rfl (.inl rfl)) (s_one (s_if (q_not (q_tv (q_call (ok__law_says T F__law_says) (hr.mono (by decide)) rfl T.g__law_says F__law_says.kp (bn__law_says F__law_says) (takes_of rfl rfl rfl rfl) (ln_cons (ln_cons ln_nil)) (q_acons (q_call (ok_truth T F_truth) (hr.mono (by decide)) rfl T.g_truth F_truth.kp (bn_truth F_truth) (takes_of rfl rfl rfl rfl) (ln_cons (ln_cons (ln_cons ln_nil))) (q_acons (q_var (i := 3) rfl (.inl rfl)) (q_acons (q_var (i := 7) rfl (.inl rfl)) (q_acons (q_var (i := 4) rfl (.inl rfl)) q_anil)))) (q_acons (q_call (ok__law_truth T F__law_truth) (hr.mono (by decide)) rfl T.g__law_truth F__law_truth.kp (bn__law_truth F__law_truth) (takes_of rfl rfl rfl rfl) (ln_cons (ln_cons ln_nil)) (q_acons (q_var (i := 7) rfl (.inl rfl)) (q_acons (q_var (i := 4) rfl (.inl rfl)) q_anil))) q_anil))))) (s_one (s_ret q_bl)) s_nil))))))))
    (s_one (s_ret (q_call (ok__law_errors T F__law_errors) (hr.mono (by decide)) rfl T.g__law_errors F__law_errors.kp (bn__law_errors F__law_errors) (takes_of rfl rfl rfl rfl) (ln_cons ln_nil) (q_acons (q_var (i := 2) rfl (.inl rfl)) q_anil))))))))
end
end L2.Q.P
namespace L2.Q.P
open PySem PySem.Spec PyProof.Rows
def fns : List He.DefD := [topD "is_int" s_is_int, topD "within" s_within, topD "is_row" s_is_row, topD "is_ascending" s_is_ascending, topD "is_low_name" s_is_low_name, topD "are_names" s_are_names, topD "is_weighted" s_is_weighted, topD "parts_within" s_parts_within, topD "count_parts" s_count_parts, topD "is_part" s_is_part, topD "is_price" s_is_price, topD "items_of" s_items_of, topD "is_statement" s_is_statement, topD "need_statement" s_need_statement, topD "is_name_row" s_is_name_row, topD "need_row" s_need_row, topD "weighed" s_weighed, topD "is_true" s_is_true, topD "truth" s_truth, topD "claims_at" s_claims_at, topD "claims_true" s_claims_true, topD "makes_true" s_makes_true, topD "price_with" s_price_with, topD "statement_price" s_statement_price, topD "_law_source" s__law_source, topD "_law_draw" s__law_draw, topD "_law_rows" s__law_rows, topD "_law_int" s__law_int, topD "_law_says" s__law_says, topD "_law_leaf" s__law_leaf, topD "_law_number" s__law_number, topD "_law_part" s__law_part, topD "_law_names" s__law_names, topD "_law_statement" s__law_statement, topD "_law_truth" s__law_truth, topD "_law_true_claims" s__law_true_claims, topD "_law_fits" s__law_fits, topD "_law_cost" s__law_cost, topD "_law_word" s__law_word, topD "_law_wrong_rows" s__law_wrong_rows, topD "_law_errors" s__law_errors, topD "law" s_law]
def fcs : List FbT := [fcFree "isinstance", fcFree "bool", fcFree "int", fcFree "len", fcFree "tuple", fcFree "zip", fcFree "all", fcFree "str", fcFree "list", fcFree "sum", fcFree "enumerate", fcFree "range", fcFree "min", fcFree "max", fcFree "any", fcInt "LONGEST_NAME" 10, fcInt "MOST_NAMES" 10, fcInt "MOST_WEIGHT" 1000, fcInt "MOST_LEAST" 100, fcInt "MOST_PARTS" 32, fcInt "MOST_DEEP" 8, fcInt "MOST_CLAIMS" 12, fcStr "SMALL_LETTERS" "abcdefghijklmnopqrstuvwxyz", fcStr "DIGITS" "0123456789", fcGlo "OTHER_WORDS", fcStrs "OTHER_WORDS" ["names", "claim", "price", "from"], fcGlo "PART_WORDS", fcStrs "PART_WORDS" ["true", "false", "not", "and", "or", "implies", "iff", "atleast", "sum"], fcGlo "is_int", fcGlo "within", fcGlo "is_row", fcGlo "is_ascending", fcGlo "is_low_name", fcGlo "are_names", fcGlo "is_weighted", fcGlo "parts_within", fcGlo "count_parts", fcGlo "is_part", fcGlo "is_price", fcGlo "items_of", fcGlo "is_statement", fcGlo "need_statement", fcGlo "is_name_row", fcGlo "need_row", fcGlo "weighed", fcGlo "is_true", fcGlo "truth", fcGlo "claims_at", fcGlo "claims_true", fcGlo "makes_true", fcGlo "price_with", fcGlo "statement_price", fcGlo "_law_source", fcGlo "_law_draw", fcGlo "_law_rows", fcGlo "_law_int", fcGlo "_law_says", fcGlo "_law_leaf", fcGlo "_law_number", fcGlo "_law_part", fcGlo "_law_names", fcGlo "_law_statement", fcGlo "_law_truth", fcGlo "_law_true_claims", fcGlo "_law_fits", fcGlo "_law_cost", fcGlo "_law_word", fcGlo "_law_wrong_rows", fcGlo "_law_errors", fcGlo "law", fcGlo "BadNumber", fcExc "BadNumber", fcGlo "BadStatement", fcExc "BadStatement", fcGlo "BadRow", fcExc "BadRow", fcGlo "BadPart", fcExc "BadPart", fcGlo "SumError", fcExc "SumError", fcEx "BadStatement", fcEx "BadRow", fcEx "BadPart", fcEx "BadNumber", fcSub "BadNumber" "SumError" true, fcSub "BadPart" "SumError" true, fcSub "BadRow" "SumError" true, fcSub "BadStatement" "SumError" true, fcIs "BadStatement" "BadNumber" false, fcIs "BadStatement" "BadPart" false, fcIs "BadStatement" "BadRow" false, fcIs "BadStatement" "BadStatement" true, fcIs "BadRow" "BadNumber" false, fcIs "BadRow" "BadPart" false, fcIs "BadRow" "BadRow" true, fcIs "BadRow" "BadStatement" false, fcIs "BadPart" "BadNumber" false, fcIs "BadPart" "BadPart" true, fcIs "BadPart" "BadRow" false, fcIs "BadPart" "BadStatement" false, fcIs "BadNumber" "BadNumber" true, fcIs "BadNumber" "BadPart" false, fcIs "BadNumber" "BadRow" false, fcIs "BadNumber" "BadStatement" false]
theorem fx_ok {K : PySem.W.Frag} {h : Heap} {mg : Str → Option Value} (X : K.In h) (G : h.Ns mainGlobals mg) (c : SaysB fcs fns K) : Fx K mg := by
  constructor
  · exact He.free_ok X G (c.fact 0 rfl)
  · exact He.free_ok X G (c.fact 1 rfl)
  · exact He.free_ok X G (c.fact 2 rfl)
  · exact He.free_ok X G (c.fact 3 rfl)
  · exact He.free_ok X G (c.fact 4 rfl)
  · exact He.free_ok X G (c.fact 5 rfl)
  · exact He.free_ok X G (c.fact 6 rfl)
  · exact He.free_ok X G (c.fact 7 rfl)
  · exact He.free_ok X G (c.fact 8 rfl)
  · exact He.free_ok X G (c.fact 9 rfl)
  · exact He.free_ok X G (c.fact 10 rfl)
  · exact He.free_ok X G (c.fact 11 rfl)
  · exact He.free_ok X G (c.fact 12 rfl)
  · exact He.free_ok X G (c.fact 13 rfl)
  · exact He.free_ok X G (c.fact 14 rfl)
  · exact He.int_ok X G (c.fact 15 rfl)
  · exact He.int_ok X G (c.fact 16 rfl)
  · exact He.int_ok X G (c.fact 17 rfl)
  · exact He.int_ok X G (c.fact 18 rfl)
  · exact He.int_ok X G (c.fact 19 rfl)
  · exact He.int_ok X G (c.fact 20 rfl)
  · exact He.int_ok X G (c.fact 21 rfl)
  · exact He.str_ok X G (c.fact 22 rfl)
  · exact He.str_ok X G (c.fact 23 rfl)
  · exact He.glo_ok X G (c.fact 24 rfl)
  · exact fcStrs_ok (ss := ["names", "claim", "price", "from"]) (by decide) (c.fact 25 rfl)
  · exact He.glo_ok X G (c.fact 26 rfl)
  · exact fcStrs_ok (ss := ["true", "false", "not", "and", "or", "implies", "iff", "atleast", "sum"]) (by decide) (c.fact 27 rfl)
  · exact He.glo_ok X G (c.fact 28 rfl)
  · exact He.glo_ok X G (c.fact 29 rfl)
  · exact He.glo_ok X G (c.fact 30 rfl)
  · exact He.glo_ok X G (c.fact 31 rfl)
  · exact He.glo_ok X G (c.fact 32 rfl)
  · exact He.glo_ok X G (c.fact 33 rfl)
  · exact He.glo_ok X G (c.fact 34 rfl)
  · exact He.glo_ok X G (c.fact 35 rfl)
  · exact He.glo_ok X G (c.fact 36 rfl)
  · exact He.glo_ok X G (c.fact 37 rfl)
  · exact He.glo_ok X G (c.fact 38 rfl)
  · exact He.glo_ok X G (c.fact 39 rfl)
  · exact He.glo_ok X G (c.fact 40 rfl)
  · exact He.glo_ok X G (c.fact 41 rfl)
  · exact He.glo_ok X G (c.fact 42 rfl)
  · exact He.glo_ok X G (c.fact 43 rfl)
  · exact He.glo_ok X G (c.fact 44 rfl)
  · exact He.glo_ok X G (c.fact 45 rfl)
  · exact He.glo_ok X G (c.fact 46 rfl)
  · exact He.glo_ok X G (c.fact 47 rfl)
  · exact He.glo_ok X G (c.fact 48 rfl)
  · exact He.glo_ok X G (c.fact 49 rfl)
  · exact He.glo_ok X G (c.fact 50 rfl)
  · exact He.glo_ok X G (c.fact 51 rfl)
  · exact He.glo_ok X G (c.fact 52 rfl)
  · exact He.glo_ok X G (c.fact 53 rfl)
  · exact He.glo_ok X G (c.fact 54 rfl)
  · exact He.glo_ok X G (c.fact 55 rfl)
  · exact He.glo_ok X G (c.fact 56 rfl)
  · exact He.glo_ok X G (c.fact 57 rfl)
  · exact He.glo_ok X G (c.fact 58 rfl)
  · exact He.glo_ok X G (c.fact 59 rfl)
  · exact He.glo_ok X G (c.fact 60 rfl)
  · exact He.glo_ok X G (c.fact 61 rfl)
  · exact He.glo_ok X G (c.fact 62 rfl)
  · exact He.glo_ok X G (c.fact 63 rfl)
  · exact He.glo_ok X G (c.fact 64 rfl)
  · exact He.glo_ok X G (c.fact 65 rfl)
  · exact He.glo_ok X G (c.fact 66 rfl)
  · exact He.glo_ok X G (c.fact 67 rfl)
  · exact He.glo_ok X G (c.fact 68 rfl)
  · exact He.glo_ok X G (c.fact 69 rfl)
  · exact He.glo_ok X G (c.fact 70 rfl)
  · exact He.exc_ok (c.fact 71 rfl)
  · exact He.glo_ok X G (c.fact 72 rfl)
  · exact He.exc_ok (c.fact 73 rfl)
  · exact He.glo_ok X G (c.fact 74 rfl)
  · exact He.exc_ok (c.fact 75 rfl)
  · exact He.glo_ok X G (c.fact 76 rfl)
  · exact He.exc_ok (c.fact 77 rfl)
  · exact He.glo_ok X G (c.fact 78 rfl)
  · exact He.exc_ok (c.fact 79 rfl)
  · exact fcEx_ok (c.fact 80 rfl)
  · exact fcEx_ok (c.fact 81 rfl)
  · exact fcEx_ok (c.fact 82 rfl)
  · exact fcEx_ok (c.fact 83 rfl)
  · exact of_decide_eq_true (c.fact 84 rfl)
  · exact of_decide_eq_true (c.fact 85 rfl)
  · exact of_decide_eq_true (c.fact 86 rfl)
  · exact of_decide_eq_true (c.fact 87 rfl)
  · exact of_decide_eq_true (c.fact 88 rfl)
  · exact of_decide_eq_true (c.fact 89 rfl)
  · exact of_decide_eq_true (c.fact 90 rfl)
  · exact of_decide_eq_true (c.fact 91 rfl)
  · exact of_decide_eq_true (c.fact 92 rfl)
  · exact of_decide_eq_true (c.fact 93 rfl)
  · exact of_decide_eq_true (c.fact 94 rfl)
  · exact of_decide_eq_true (c.fact 95 rfl)
  · exact of_decide_eq_true (c.fact 96 rfl)
  · exact of_decide_eq_true (c.fact 97 rfl)
  · exact of_decide_eq_true (c.fact 98 rfl)
  · exact of_decide_eq_true (c.fact 99 rfl)
  · exact of_decide_eq_true (c.fact 100 rfl)
  · exact of_decide_eq_true (c.fact 101 rfl)
  · exact of_decide_eq_true (c.fact 102 rfl)
  · exact of_decide_eq_true (c.fact 103 rfl)
  · exact c.def_ 0 (d := topD "is_int" s_is_int) rfl
  · exact c.def_ 1 (d := topD "within" s_within) rfl
  · exact c.def_ 2 (d := topD "is_row" s_is_row) rfl
  · exact c.def_ 3 (d := topD "is_ascending" s_is_ascending) rfl
  · exact c.def_ 4 (d := topD "is_low_name" s_is_low_name) rfl
  · exact c.def_ 5 (d := topD "are_names" s_are_names) rfl
  · exact c.def_ 6 (d := topD "is_weighted" s_is_weighted) rfl
  · exact c.def_ 7 (d := topD "parts_within" s_parts_within) rfl
  · exact c.def_ 8 (d := topD "count_parts" s_count_parts) rfl
  · exact c.def_ 9 (d := topD "is_part" s_is_part) rfl
  · exact c.def_ 10 (d := topD "is_price" s_is_price) rfl
  · exact c.def_ 11 (d := topD "items_of" s_items_of) rfl
  · exact c.def_ 12 (d := topD "is_statement" s_is_statement) rfl
  · exact c.def_ 13 (d := topD "need_statement" s_need_statement) rfl
  · exact c.def_ 14 (d := topD "is_name_row" s_is_name_row) rfl
  · exact c.def_ 15 (d := topD "need_row" s_need_row) rfl
  · exact c.def_ 16 (d := topD "weighed" s_weighed) rfl
  · exact c.def_ 17 (d := topD "is_true" s_is_true) rfl
  · exact c.def_ 18 (d := topD "truth" s_truth) rfl
  · exact c.def_ 19 (d := topD "claims_at" s_claims_at) rfl
  · exact c.def_ 20 (d := topD "claims_true" s_claims_true) rfl
  · exact c.def_ 21 (d := topD "makes_true" s_makes_true) rfl
  · exact c.def_ 22 (d := topD "price_with" s_price_with) rfl
  · exact c.def_ 23 (d := topD "statement_price" s_statement_price) rfl
  · exact c.def_ 24 (d := topD "_law_source" s__law_source) rfl
  · exact c.def_ 25 (d := topD "_law_draw" s__law_draw) rfl
  · exact c.def_ 26 (d := topD "_law_rows" s__law_rows) rfl
  · exact c.def_ 27 (d := topD "_law_int" s__law_int) rfl
  · exact c.def_ 28 (d := topD "_law_says" s__law_says) rfl
  · exact c.def_ 29 (d := topD "_law_leaf" s__law_leaf) rfl
  · exact c.def_ 30 (d := topD "_law_number" s__law_number) rfl
  · exact c.def_ 31 (d := topD "_law_part" s__law_part) rfl
  · exact c.def_ 32 (d := topD "_law_names" s__law_names) rfl
  · exact c.def_ 33 (d := topD "_law_statement" s__law_statement) rfl
  · exact c.def_ 34 (d := topD "_law_truth" s__law_truth) rfl
  · exact c.def_ 35 (d := topD "_law_true_claims" s__law_true_claims) rfl
  · exact c.def_ 36 (d := topD "_law_fits" s__law_fits) rfl
  · exact c.def_ 37 (d := topD "_law_cost" s__law_cost) rfl
  · exact c.def_ 38 (d := topD "_law_word" s__law_word) rfl
  · exact c.def_ 39 (d := topD "_law_wrong_rows" s__law_wrong_rows) rfl
  · exact c.def_ 40 (d := topD "_law_errors" s__law_errors) rfl
  · exact c.def_ 41 (d := topD "law" s_law) rfl
def loose0 : List Str := ["is_int", "within", "is_row", "is_ascending", "is_low_name", "are_names", "is_weighted", "parts_within", "count_parts", "is_part", "is_price", "items_of", "is_statement", "need_statement", "is_name_row", "need_row", "weighed", "is_true", "truth", "claims_at"]
def loose1 : List Str := ["claims_true", "makes_true", "price_with", "statement_price", "_law_source", "_law_draw", "_law_rows", "_law_int", "_law_says", "_law_leaf", "_law_number", "_law_part", "_law_names", "_law_statement", "_law_truth", "_law_true_claims", "_law_fits", "_law_cost", "_law_word", "_law_wrong_rows"]
def loose2 : List Str := ["_law_errors", "MOST_NAMES", "MOST_CLAIMS", "MOST_PARTS", "MOST_DEEP", "MOST_WEIGHT", "MOST_LEAST", "LONGEST_NAME", "SMALL_LETTERS", "DIGITS", "PART_WORDS", "OTHER_WORDS", "SumError", "BadRow", "BadNumber", "BadPart", "BadStatement"]
abbrev loose : List Str := loose0 ++ loose1 ++ loose2
abbrev R : PySem.W.OpenRow := PySem.W.OpenLaw.row PySem.Challenge.rw_sumsworn_k56_truth_claims_and_prices_of
abbrev hk : PySem.W.Hook := hookB 5 fcs fns
def ob (s : PySem.W.SharedT) : He.AlD := obsBG 5 fcs fns (HandSHeadRun.getT s)
theorem ob_eq (s : PySem.W.SharedT) : ob s = hk.obs s.abs := obsBG_eq (HandSHeadRun.getT_eq s)
theorem run (w : World) : HandSHeadRun.RunEq R (PySem.W.view R.prog [61]) hk ob 20000 loose w := by
  intro os
  kernel_rfl
theorem holds_of (hm : ∀ ns : List Int, ns.length ≤ 63 → (∀ z ∈ ns, Builtin.Int.intBits z ≤ 1048576) → ∃ S, m_law [.d (.list (ns.map .int))] [] = .ok (.w (.d (.bool true))) S) : PySem.Challenge.rw_sumsworn_k56_truth_claims_and_prices_of.Holds := by
  w_on; o_law
  refine HandSHeadRun.head_any (r := PySem.W.OpenLaw.row PySem.Challenge.rw_sumsworn_k56_truth_claims_and_prices_of) (q := PySem.W.view (PySem.W.OpenLaw.row PySem.Challenge.rw_sumsworn_k56_truth_claims_and_prices_of).prog [61]) (H := hk) (ob := ob) (M := 20000) (loose := loose) (d := HandSHeadRun.topDef (PySem.W.OpenLaw.row PySem.Challenge.rw_sumsworn_k56_truth_claims_and_prices_of).prog 61) (kwd := []) ob_eq
    (by kernel_rfl) (fun s => by kernel_rfl) run (by kernel_rfl) (by kernel_rfl) (by kernel_rfl) (by rfl) (by first | assumption | decide +kernel) (by decide +kernel) ⟨rfl, rfl, rfl, rfl, rfl, by decide +kernel⟩ ?hw ?hc
  case hw => w_witness2
  case hc =>
    refine walk_ofEB (l := PySem.Challenge.rw_sumsworn_k56_truth_claims_and_prices_of) (n := 63) (k := 18) (x := "script") rfl (by decide) (by kernel_rfl) ⟨rfl, by decide, by decide⟩ ?F
    intro w mg fa h Y G hmg0
    obtain ⟨K, KX, c⟩ := Y
    have hmg : mg ("law" : Str) = some (.ref fa) := by
      have e : (HandSHeadRun.topDef (PySem.W.OpenLaw.row PySem.Challenge.rw_sumsworn_k56_truth_claims_and_prices_of).prog 61).name = ("law" : Str) := by kernel_rfl
      rw [← e]
      exact hmg0
    have T := fx_ok KX G c
    obtain ⟨fd, F⟩ := T.d_law
    cases hmg.symm.trans T.g_law
    have b := FunD.bindsA (ps := ["script"]) F fun _ _ _ _ _ _ us hl => match us, hl with | [_], _ => rfl
    exact ⟨K, fd, spLawQ K mg m_law, KX, fun s u => b s [u] rfl, fun H a ns hl hb _ hS => law_sp hm H a ns hl hb hS, fun base _ _ => ok_law T F⟩
end L2.Q.P
namespace L2.Q.P
open PySem PySem.Spec PyProof.Rows
/-! small judges -/
def intB (d : PyData) : Bool := match d with
  | .int _ => true
  | _ => false
theorem is_int_ok (d : PyData) (S : List Ob) : m_is_int [.d d] S = .ok (.w (.d (.bool (intB d)))) S := by
  cases d <;> simp [m_is_int, b_is_int, start0, isInt, isBool, intB]
def rowB (d : PyData) (lo hi : Int) : Bool := match d with
  | .tuple xs => decide (lo ≤ (xs.length : Int)) && decide ((xs.length : Int) ≤ hi)
  | _ => false
theorem is_row_ok (d : PyData) (lo hi : Int) (S : List Ob) : m_is_row [.d d, .d (.int lo), .d (.int hi)] S = .ok (.w (.d (.bool (rowB d lo hi)))) S := by
  cases d with
  | tuple xs =>
    by_cases h : lo ≤ (xs.length : Int)
    · simp [m_is_row, b_is_row, start0, isTup, rowB, h]
    · simp [m_is_row, b_is_row, start0, isTup, rowB, h]
  | _ => simp [m_is_row, b_is_row, start0, isTup, rowB]
end L2.Q.P
namespace L2.Q.P
open PySem PySem.Spec PyProof.Rows
/-! within -/
def inB (d : PyData) (lo hi : Int) : Bool := match d with
  | .int i => decide (lo ≤ i) && decide (i ≤ hi)
  | _ => false
theorem within_ok (d : PyData) (lo hi : Int) (S : List Ob) : m_within [.d d, .d (.int lo), .d (.int hi)] S = .ok (.w (.d (.bool (inB d lo hi)))) S := by
  cases d with
  | int i =>
    by_cases h : lo ≤ i
    · simp [m_within, b_within, start0, is_int_ok, intB, inB, h]
    · simp [m_within, b_within, start0, is_int_ok, intB, inB, h]
  | _ => simp [m_within, b_within, start0, is_int_ok, intB, inB]
end L2.Q.P
namespace L2.Q.P
open PySem PySem.Spec PyProof.Rows
/-! what a comprehension of judgements gives -/
theorem lc_judge (fe : FE) (j : PyData → Bool) (i : Nat) (ρ : List Sl) (S : List Ob) (ds : List PyData) (h : ∀ d ∈ ds, fe (ρ.set i (.w (.d d))) S = .ok (.d (.bool (j d))) S) :
    lcL (gN i) (fun _ S => .ok true S) fe ρ (ds.map .d) S = .ok ((ds.map j).map fun b => .d (.bool b)) S := by
  induction ds with
  | nil => rfl
  | cons d r ih =>
    have ih := ih fun z hz => h z (List.mem_cons_of_mem _ hz)
    rw [List.map_cons]
    unfold lcL
    simp only [e_gN, h d (List.mem_cons_self ..), if_true, ih, e_ok, List.map_cons]
theorem all_map_id {γ : Type} (j : γ → Bool) (ds : List γ) : (ds.map j).all id = ds.all j := by rw [List.all_map]; rfl
end L2.Q.P
namespace L2.Q.P
open PySem PySem.Spec PyProof.Rows
/-! comprehensions with tests -/
/-- a comprehension with a test, over things as they are told -/
theorem lc_sel {α : Type} (g : FG) (t : FB) (fe : FE) (ρ : List Sl) (S : List Ob) (w : α → W) (p : α → Bool) (y : α → W) (xs : List α) (h : ∀ a ∈ xs, ∃ ρ1, g (w a) ρ = some ρ1 ∧ t ρ1 S = .ok (p a) S ∧ (p a = true → fe ρ1 S = .ok (y a) S)) :
    lcL g t fe ρ (xs.map w) S = .ok ((xs.filter p).map y) S := by
  induction xs with
  | nil => rfl
  | cons a r ih =>
    obtain ⟨ρ1, h1, h2, h3⟩ := h a (List.mem_cons_self ..)
    have ih := ih fun z hz => h z (List.mem_cons_of_mem _ hz)
    rw [List.map_cons]
    unfold lcL
    simp only [h1, h2]
    cases hp : p a with
    | true => simp only [h3 hp, if_true, ih, e_ok, List.filter_cons_of_pos hp, List.map_cons]
    | false => simp only [Bool.false_eq_true, if_false, ih]; rw [List.filter_cons_of_neg (by rw [hp]; exact Bool.false_ne_true)]
theorem none_left {α : Type} (p : α → Bool) (xs : List α) : (xs.filter fun a => !p a).isEmpty = xs.all p := by
  induction xs with
  | nil => rfl
  | cons a r ih =>
    cases h : p a with
    | true => rw [List.filter_cons_of_neg (by simp [h]), ih]; simp [h]
    | false => rw [List.filter_cons_of_pos (by simp [h])]; simp [h]
theorem eq_nil (neg : Bool) (ds : List PyData) (S : List Ob) (h : ∀ d ∈ ds, shp 60 d) : oEqS neg (.d (.list ds)) (.d (.list [])) S = .ok (.d (.bool (neg ^^ ds.isEmpty))) S := by
  rw [e_eqD neg _ _ (shaped_of (shp_mono (shp_list h) (by omega))) (shaped_of (shp_mono (shp_list (k := 0) (ds := []) (by simp)) (by omega))), eqv_nil]
end L2.Q.P
namespace L2.Q.P
open PySem PySem.Spec PyProof.Rows
/-! texts compared -/
theorem str_cmp (neg : Bool) (s t : Str) (S : List Ob) (hs : SeqAt.shaped (.str s) = true) (ht : SeqAt.shaped (.str t) = true) : oEqS neg (.d (.str s)) (.d (.str t)) S = .ok (.d (.bool (neg ^^ decide (s = t)))) S := by
  rw [e_eqD neg _ _ hs ht]
  have : PyData.eqv (.str s) (.str t) = decide (s = t) := by
    show (s == t) = decide (s = t)
    rw [Bool.eq_iff_iff]; simp
  rw [this]
theorem inD_str (w : Str) (ws : List Str) : inD (.str w) (ws.map .str) = decide (w ∈ ws) := by
  unfold inD
  rw [List.any_map, Bool.eq_iff_iff, List.any_eq_true, decide_eq_true_eq]
  constructor
  · rintro ⟨j, h, e⟩
    have e : eqV (.str j) (.str w) = true := e
    simp [eqV] at e
    subst e
    exact h
  · intro h
    refine ⟨w, h, ?_⟩
    show eqV (.str w) (.str w) = true
    simp [eqV]
theorem in_two (w a b : Str) (S : List Ob) : oInZ (.d (.str w)) (.d (.tuple [.str a, .str b])) S = .ok (.d (.bool (decide (w = a ∨ w = b)))) S := by
  rw [e_inZt rfl rfl]
  have := inD_str w [a, b]
  rw [show [PyData.str a, .str b] = [a, b].map .str from rfl, this]
  simp
end L2.Q.P
namespace L2.Q.P
open PySem PySem.Spec PyProof.Rows
/-! the parts within a thing of a part's form -/
def wtB (d : PyData) : Bool := rowB d 2 2 && (match d with | .tuple [_, y] => inB y (-1000) 1000 | _ => false)
def fstD (d : PyData) : PyData := match d with
  | .tuple (x :: _) => x
  | _ => .none
def kids (n : Int) (d : PyData) : Option (List PyData) := match d with
  | .tuple (.str w :: r) =>
    if w = "true" ∨ w = "false" then (match r with | [] => some [] | _ => none)
    else if w = "name" then (match r with | [x] => if inB x 0 (n - 1) = true then some [] else none | _ => none)
    else if w = "not" then (match r with | [x] => some [x] | _ => none)
    else if w = "implies" ∨ w = "iff" then (match r with | [x, y] => some [x, y] | _ => none)
    else if w = "and" ∨ w = "or" then (match r with | [.tuple xs] => some xs | _ => none)
    else if w = "atleast" then (match r with | [x, .tuple xs] => if inB x (-100) 100 = true then some xs else none | _ => none)
    else if w = "sum" then (match r with | [.tuple xs, y] => if (inB y (-1000) 1000 && xs.all wtB) = true then some (xs.map fstD) else none | _ => none)
    else none
  | _ => none
def kidsD : Option (List PyData) → PyData
  | none => .none
  | some ds => .list ds
theorem wt_two {d : PyData} (h : wtB d = true) : ∃ a y, d = .tuple [a, y] := by
  unfold wtB rowB at h
  split at h
  · rename_i ds
    rw [Bool.and_eq_true, Bool.and_eq_true, decide_eq_true_eq, decide_eq_true_eq] at h
    match ds, h with
    | [a, y], _ => exact ⟨a, y, rfl⟩
    | [], h => simp at h
    | [_], h => simp at h
    | _ :: _ :: _ :: _, h => simp only [List.length_cons] at h; omega
  · cases h
theorem is_weighted_ok (d : PyData) (S : List Ob) : m_is_weighted [.d d] S = .ok (.w (.d (.bool (wtB d)))) S := by
  have r := is_row_ok d 2 2 S
  cases h : rowB d 2 2 with
  | false =>
    rw [h] at r
    have : wtB d = false := by unfold wtB; rw [h]; rfl
    rw [this]
    simp [m_is_weighted, b_is_weighted, start0, r]
  | true =>
    rw [h] at r
    have : ∃ a y, d = .tuple [a, y] := by
      unfold rowB at h
      split at h
      · rename_i ds
        rw [Bool.and_eq_true, decide_eq_true_eq, decide_eq_true_eq] at h
        match ds, h with
        | [a, y], _ => exact ⟨a, y, rfl⟩
        | [], h => simp at h
        | [_], h => simp at h
        | _ :: _ :: _ :: _, h => simp only [List.length_cons] at h; omega
      · cases h
    obtain ⟨a, y, rfl⟩ := this
    have w := within_ok y (-1000) 1000 S
    have : wtB (.tuple [a, y]) = inB y (-1000) 1000 := by unfold wtB; rw [h]; rfl
    rw [this]
    have w : m_within [.d y, .d (.int (-1000)), .d (.int 1000)] S = .ok (.w (.d (.bool (inB y (-1000) 1000)))) S := w
    simp [m_is_weighted, b_is_weighted, start0, r, w]
end L2.Q.P
namespace L2.Q.P
open PySem PySem.Spec PyProof.Rows
/-! items of what is well shaped -/
theorem shp_in {k : Nat} : ∀ {xs : List PyData}, PyData.canLayAll0 xs = true → PyData.depthAll xs ≤ k → ∀ x ∈ xs, shp k x
  | y :: r, h, d, x, hx => by
    have h : (PyData.canLay0 y && PyData.canLayAll0 r) = true := by simpa [PyData.canLayAll0] using h
    have d : max (PyData.depth y) (PyData.depthAll r) ≤ k := by simpa [PyData.depthAll] using d
    obtain ⟨h1, h2⟩ := Bool.and_eq_true_iff.mp h
    rcases List.mem_cons.mp hx with rfl | hx
    · exact ⟨h1, by omega⟩
    · exact shp_in h2 (by omega) x hx
theorem shp_items {k : Nat} {xs : List PyData} (h : shp k (.tuple xs)) : ∀ x ∈ xs, shp k x := by
  have h1 : PyData.canLayAll0 xs = true := by simpa [PyData.canLay0] using h.1
  have h2 : PyData.depthAll xs + 1 ≤ k := by simpa [PyData.depth] using h.2
  exact shp_in h1 (by omega)
theorem shp_sub {k : Nat} {xs : List PyData} (h : shp (k + 1) (.tuple xs)) : ∀ x ∈ xs, shp k x := by
  have h1 : PyData.canLayAll0 xs = true := by simpa [PyData.canLay0] using h.1
  have h2 : PyData.depthAll xs + 1 ≤ k + 1 := by simpa [PyData.depth] using h.2
  exact shp_in h1 (by omega)
end L2.Q.P
namespace L2.Q.P
open PySem PySem.Spec PyProof.Rows
/-! the parts within: printed by wip/tools/mkpart.py -/
theorem pw_sh : SeqAt.shaped (.str "name") = true ∧ SeqAt.shaped (.str "not") = true ∧ SeqAt.shaped (.str "atleast") = true ∧ SeqAt.shaped (.str "sum") = true := by decide +kernel
theorem fz_list (ρ : List Sl) (S : List Ob) (fa : FA) (xs : List PyData) (h : fa ρ S = .ok (xs.map .d) S) : fFz (fNewL fa) ρ S = .ok (.d (.list xs)) S := by
  rw [e_Fz, e_NewL, h, e_ok, e_ok, e_frz, e_datsm]; rfl
section
variable (n : Int) (w : Str)
theorem all_wt (xs : List PyData) (y : PyData) (S : List Ob) : fAll (fItO (fLc (fIt (fBin oIxZ (fVar 1) (fC (.int 1)))) [4] (gN 4) (fun _ S => .ok true S) e_parts_within_0)) [.w (.d (.int n)), .w (.d (.tuple [.str w, .tuple xs, y])), .w (.d (.str w)), .w (.d (.int 3)), .un] S = .ok (.d (.bool (xs.all wtB))) S := by
  have src : fIt (fBin oIxZ (fVar 1) (fC (.int 1))) [.w (.d (.int n)), .w (.d (.tuple [.str w, .tuple xs, y])), .w (.d (.str w)), .w (.d (.int 3)), .un] S = .ok (xs.map .d) S := rfl
  have lc := lc_judge e_parts_within_0 wtB 4 [.w (.d (.int n)), .w (.d (.tuple [.str w, .tuple xs, y])), .w (.d (.str w)), .w (.d (.int 3)), .un] S xs fun d _ => by simp [e_parts_within_0, is_weighted_ok]
  rw [e_All, e_ItO, e_Lc _ _ _ src rfl, show unset [Sl.w (.d (.int n)), .w (.d (.tuple [.str w, .tuple xs, y])), .w (.d (.str w)), .w (.d (.int 3)), .un] [4] = [.w (.d (.int n)), .w (.d (.tuple [.str w, .tuple xs, y])), .w (.d (.str w)), .w (.d (.int 3)), .un] from rfl, lc, e_ok, e_ok, e_lstOf, e_ok]
  rw [e_onB, all_map_id]
theorem fst_wt (xs : List PyData) (y : PyData) (S : List Ob) (h : xs.all wtB = true) : fFz (fLc (fIt (fBin oIxZ (fVar 1) (fC (.int 1)))) [4] (gN 4) (fun _ S => .ok true S) e_parts_within_1) [.w (.d (.int n)), .w (.d (.tuple [.str w, .tuple xs, y])), .w (.d (.str w)), .w (.d (.int 3)), .un] S = .ok (.d (.list (xs.map fstD))) S := by
  have src : fIt (fBin oIxZ (fVar 1) (fC (.int 1))) [.w (.d (.int n)), .w (.d (.tuple [.str w, .tuple xs, y])), .w (.d (.str w)), .w (.d (.int 3)), .un] S = .ok (xs.map .d) S := rfl
  have hall := List.all_eq_true.mp h
  have lc := lc_sel (gN 4) (fun _ S => .ok true S) e_parts_within_1 [.w (.d (.int n)), .w (.d (.tuple [.str w, .tuple xs, y])), .w (.d (.str w)), .w (.d (.int 3)), .un] S (fun x : PyData => .d x) (fun _ => true) (fun x => .d (fstD x)) xs fun x hx => by
    obtain ⟨a, b, rfl⟩ := wt_two (hall x hx)
    exact ⟨[.w (.d (.int n)), .w (.d (.tuple [.str w, .tuple xs, y])), .w (.d (.str w)), .w (.d (.int 3)), .w (.d (.tuple [a, b]))], rfl, rfl, fun _ => rfl⟩
  rw [List.filter_eq_self.mpr (fun _ _ => rfl)] at lc
  rw [e_Fz, e_Lc (xs := xs.map .d) _ _ _ src rfl, show unset [Sl.w (.d (.int n)), .w (.d (.tuple [.str w, .tuple xs, y])), .w (.d (.str w)), .w (.d (.int 3)), .un] [4] = [.w (.d (.int n)), .w (.d (.tuple [.str w, .tuple xs, y])), .w (.d (.str w)), .w (.d (.int 3)), .un] from rfl, lc, e_ok, e_ok]
  have : (xs.map fun x => W.d (fstD x)) = (xs.map fstD).map .d := by rw [List.map_map]; rfl
  rw [this, e_frz, e_datsm]
  rfl
variable (hw : SeqAt.shaped (.str w) = true) (S : List Ob)
include hw
theorem parts_nil : m_parts_within [.d (.int n), .d (.tuple [.str w])] S = .ok (.w (.d (kidsD (kids n (.tuple [.str w]))))) S := by
  have c1 := fun S => str_cmp false w "name" S hw pw_sh.1
  have c2 := fun S => str_cmp false w "not" S hw pw_sh.2.1
  have c3 := fun S => str_cmp false w "atleast" S hw pw_sh.2.2.1
  have c4 := fun S => str_cmp true w "sum" S hw pw_sh.2.2.2
  have ix0 : ∀ S, oIxZ (.d (.tuple [.str w])) (.d (.int 0)) S = .ok (.d (.str w)) S := fun S => rfl
  by_cases htf : w = "true" ∨ w = "false"
  · have ftf : ∀ S, oInZ (.d (.str w)) (.d (.tuple [.str "true", .str "false"])) S = .ok (.d (.bool true)) S := fun S => by rw [in_two, decide_eq_true htf]
    have kd : kids n (.tuple [.str w]) = some [] := by
          unfold kids
          dsimp only
          rw [if_pos htf]
          all_goals (first | rfl | (cases x <;> rfl) | (cases x <;> cases y <;> rfl))
    rw [kd]
    simp [m_parts_within, b_parts_within, start0, isStr, ix0, kidsD, is_row_ok, rowB, ftf]
  by_cases hnm : w = "name"
  · have ftf : ∀ S, oInZ (.d (.str w)) (.d (.tuple [.str "true", .str "false"])) S = .ok (.d (.bool false)) S := fun S => by rw [in_two, decide_eq_false htf]
    have fnm : ∀ S, oEqS false (.d (.str w)) (.d (.str "name")) S = .ok (.d (.bool true)) S := fun S => by rw [c1, decide_eq_true hnm]; rfl
    have kd : kids n (.tuple [.str w]) = none := by
          unfold kids
          dsimp only
          rw [if_neg htf, if_pos hnm]
          all_goals (first | rfl | (cases x <;> rfl) | (cases x <;> cases y <;> rfl))
    rw [kd]
    simp [m_parts_within, b_parts_within, start0, isStr, ix0, kidsD, is_row_ok, rowB, ftf, fnm]
  by_cases hnt : w = "not"
  · have ftf : ∀ S, oInZ (.d (.str w)) (.d (.tuple [.str "true", .str "false"])) S = .ok (.d (.bool false)) S := fun S => by rw [in_two, decide_eq_false htf]
    have fnm : ∀ S, oEqS false (.d (.str w)) (.d (.str "name")) S = .ok (.d (.bool false)) S := fun S => by rw [c1, decide_eq_false hnm]; rfl
    have fnt : ∀ S, oEqS false (.d (.str w)) (.d (.str "not")) S = .ok (.d (.bool true)) S := fun S => by rw [c2, decide_eq_true hnt]; rfl
    have kd : kids n (.tuple [.str w]) = none := by
          unfold kids
          dsimp only
          rw [if_neg htf, if_neg hnm, if_pos hnt]
          all_goals (first | rfl | (cases x <;> rfl) | (cases x <;> cases y <;> rfl))
    rw [kd]
    simp [m_parts_within, b_parts_within, start0, isStr, ix0, kidsD, is_row_ok, rowB, ftf, fnm, fnt]
  by_cases him : w = "implies" ∨ w = "iff"
  · have ftf : ∀ S, oInZ (.d (.str w)) (.d (.tuple [.str "true", .str "false"])) S = .ok (.d (.bool false)) S := fun S => by rw [in_two, decide_eq_false htf]
    have fnm : ∀ S, oEqS false (.d (.str w)) (.d (.str "name")) S = .ok (.d (.bool false)) S := fun S => by rw [c1, decide_eq_false hnm]; rfl
    have fnt : ∀ S, oEqS false (.d (.str w)) (.d (.str "not")) S = .ok (.d (.bool false)) S := fun S => by rw [c2, decide_eq_false hnt]; rfl
    have fim : ∀ S, oInZ (.d (.str w)) (.d (.tuple [.str "implies", .str "iff"])) S = .ok (.d (.bool true)) S := fun S => by rw [in_two, decide_eq_true him]
    have kd : kids n (.tuple [.str w]) = none := by
          unfold kids
          dsimp only
          rw [if_neg htf, if_neg hnm, if_neg hnt, if_pos him]
          all_goals (first | rfl | (cases x <;> rfl) | (cases x <;> cases y <;> rfl))
    rw [kd]
    simp [m_parts_within, b_parts_within, start0, isStr, ix0, kidsD, is_row_ok, rowB, ftf, fnm, fnt, fim]
  by_cases han : w = "and" ∨ w = "or"
  · have ftf : ∀ S, oInZ (.d (.str w)) (.d (.tuple [.str "true", .str "false"])) S = .ok (.d (.bool false)) S := fun S => by rw [in_two, decide_eq_false htf]
    have fnm : ∀ S, oEqS false (.d (.str w)) (.d (.str "name")) S = .ok (.d (.bool false)) S := fun S => by rw [c1, decide_eq_false hnm]; rfl
    have fnt : ∀ S, oEqS false (.d (.str w)) (.d (.str "not")) S = .ok (.d (.bool false)) S := fun S => by rw [c2, decide_eq_false hnt]; rfl
    have fim : ∀ S, oInZ (.d (.str w)) (.d (.tuple [.str "implies", .str "iff"])) S = .ok (.d (.bool false)) S := fun S => by rw [in_two, decide_eq_false him]
    have fan : ∀ S, oInZ (.d (.str w)) (.d (.tuple [.str "and", .str "or"])) S = .ok (.d (.bool true)) S := fun S => by rw [in_two, decide_eq_true han]
    have kd : kids n (.tuple [.str w]) = none := by
          unfold kids
          dsimp only
          rw [if_neg htf, if_neg hnm, if_neg hnt, if_neg him, if_pos han]
          all_goals (first | rfl | (cases x <;> rfl) | (cases x <;> cases y <;> rfl))
    rw [kd]
    simp [m_parts_within, b_parts_within, start0, isStr, ix0, kidsD, is_row_ok, rowB, ftf, fnm, fnt, fim, fan]
  by_cases hal : w = "atleast"
  · have ftf : ∀ S, oInZ (.d (.str w)) (.d (.tuple [.str "true", .str "false"])) S = .ok (.d (.bool false)) S := fun S => by rw [in_two, decide_eq_false htf]
    have fnm : ∀ S, oEqS false (.d (.str w)) (.d (.str "name")) S = .ok (.d (.bool false)) S := fun S => by rw [c1, decide_eq_false hnm]; rfl
    have fnt : ∀ S, oEqS false (.d (.str w)) (.d (.str "not")) S = .ok (.d (.bool false)) S := fun S => by rw [c2, decide_eq_false hnt]; rfl
    have fim : ∀ S, oInZ (.d (.str w)) (.d (.tuple [.str "implies", .str "iff"])) S = .ok (.d (.bool false)) S := fun S => by rw [in_two, decide_eq_false him]
    have fan : ∀ S, oInZ (.d (.str w)) (.d (.tuple [.str "and", .str "or"])) S = .ok (.d (.bool false)) S := fun S => by rw [in_two, decide_eq_false han]
    have fal : ∀ S, oEqS false (.d (.str w)) (.d (.str "atleast")) S = .ok (.d (.bool true)) S := fun S => by rw [c3, decide_eq_true hal]; rfl
    have kd : kids n (.tuple [.str w]) = none := by
          unfold kids
          dsimp only
          rw [if_neg htf, if_neg hnm, if_neg hnt, if_neg him, if_neg han, if_pos hal]
          all_goals (first | rfl | (cases x <;> rfl) | (cases x <;> cases y <;> rfl))
    rw [kd]
    simp [m_parts_within, b_parts_within, start0, isStr, ix0, kidsD, is_row_ok, rowB, ftf, fnm, fnt, fim, fan, fal]
  by_cases hsm : w = "sum"
  · have ftf : ∀ S, oInZ (.d (.str w)) (.d (.tuple [.str "true", .str "false"])) S = .ok (.d (.bool false)) S := fun S => by rw [in_two, decide_eq_false htf]
    have fnm : ∀ S, oEqS false (.d (.str w)) (.d (.str "name")) S = .ok (.d (.bool false)) S := fun S => by rw [c1, decide_eq_false hnm]; rfl
    have fnt : ∀ S, oEqS false (.d (.str w)) (.d (.str "not")) S = .ok (.d (.bool false)) S := fun S => by rw [c2, decide_eq_false hnt]; rfl
    have fim : ∀ S, oInZ (.d (.str w)) (.d (.tuple [.str "implies", .str "iff"])) S = .ok (.d (.bool false)) S := fun S => by rw [in_two, decide_eq_false him]
    have fan : ∀ S, oInZ (.d (.str w)) (.d (.tuple [.str "and", .str "or"])) S = .ok (.d (.bool false)) S := fun S => by rw [in_two, decide_eq_false han]
    have fal : ∀ S, oEqS false (.d (.str w)) (.d (.str "atleast")) S = .ok (.d (.bool false)) S := fun S => by rw [c3, decide_eq_false hal]; rfl
    have fsm : ∀ S, oEqS true (.d (.str w)) (.d (.str "sum")) S = .ok (.d (.bool false)) S := fun S => by rw [c4, decide_eq_true hsm]; rfl
    have kd : kids n (.tuple [.str w]) = none := by
          unfold kids
          dsimp only
          rw [if_neg htf, if_neg hnm, if_neg hnt, if_neg him, if_neg han, if_neg hal, if_pos hsm]
          all_goals (first | rfl | (cases x <;> rfl) | (cases x <;> cases y <;> rfl))
    rw [kd]
    simp [m_parts_within, b_parts_within, start0, isStr, ix0, kidsD, is_row_ok, rowB, ftf, fnm, fnt, fim, fan, fal, fsm]
  have ftf : ∀ S, oInZ (.d (.str w)) (.d (.tuple [.str "true", .str "false"])) S = .ok (.d (.bool false)) S := fun S => by rw [in_two, decide_eq_false htf]
  have fnm : ∀ S, oEqS false (.d (.str w)) (.d (.str "name")) S = .ok (.d (.bool false)) S := fun S => by rw [c1, decide_eq_false hnm]; rfl
  have fnt : ∀ S, oEqS false (.d (.str w)) (.d (.str "not")) S = .ok (.d (.bool false)) S := fun S => by rw [c2, decide_eq_false hnt]; rfl
  have fim : ∀ S, oInZ (.d (.str w)) (.d (.tuple [.str "implies", .str "iff"])) S = .ok (.d (.bool false)) S := fun S => by rw [in_two, decide_eq_false him]
  have fan : ∀ S, oInZ (.d (.str w)) (.d (.tuple [.str "and", .str "or"])) S = .ok (.d (.bool false)) S := fun S => by rw [in_two, decide_eq_false han]
  have fal : ∀ S, oEqS false (.d (.str w)) (.d (.str "atleast")) S = .ok (.d (.bool false)) S := fun S => by rw [c3, decide_eq_false hal]; rfl
  have fsm : ∀ S, oEqS true (.d (.str w)) (.d (.str "sum")) S = .ok (.d (.bool true)) S := fun S => by rw [c4, decide_eq_false hsm]; rfl
  have kd : kids n (.tuple [.str w]) = none := by
        unfold kids
        dsimp only
        rw [if_neg htf, if_neg hnm, if_neg hnt, if_neg him, if_neg han, if_neg hal, if_neg hsm]
        all_goals (first | rfl | (cases x <;> rfl) | (cases x <;> cases y <;> rfl))
  rw [kd]
  simp [m_parts_within, b_parts_within, start0, isStr, ix0, kidsD, is_row_ok, rowB, ftf, fnm, fnt, fim, fan, fal, fsm]
theorem parts_one (x : PyData) : m_parts_within [.d (.int n), .d (.tuple [.str w, x])] S = .ok (.w (.d (kidsD (kids n (.tuple [.str w, x]))))) S := by
  have c1 := fun S => str_cmp false w "name" S hw pw_sh.1
  have c2 := fun S => str_cmp false w "not" S hw pw_sh.2.1
  have c3 := fun S => str_cmp false w "atleast" S hw pw_sh.2.2.1
  have c4 := fun S => str_cmp true w "sum" S hw pw_sh.2.2.2
  have ix0 : ∀ S, oIxZ (.d (.tuple [.str w, x])) (.d (.int 0)) S = .ok (.d (.str w)) S := fun S => rfl
  have ix1 : ∀ S, oIxZ (.d (.tuple [.str w, x])) (.d (.int 1)) S = .ok (.d x) S := fun S => rfl
  by_cases htf : w = "true" ∨ w = "false"
  · have ftf : ∀ S, oInZ (.d (.str w)) (.d (.tuple [.str "true", .str "false"])) S = .ok (.d (.bool true)) S := fun S => by rw [in_two, decide_eq_true htf]
    have kd : kids n (.tuple [.str w, x]) = none := by
          unfold kids
          dsimp only
          rw [if_pos htf]
          all_goals (first | rfl | (cases x <;> rfl) | (cases x <;> cases y <;> rfl))
    rw [kd]
    simp [m_parts_within, b_parts_within, start0, isStr, ix0, kidsD, is_row_ok, rowB, ftf, ix1]
  by_cases hnm : w = "name"
  · have ftf : ∀ S, oInZ (.d (.str w)) (.d (.tuple [.str "true", .str "false"])) S = .ok (.d (.bool false)) S := fun S => by rw [in_two, decide_eq_false htf]
    have fnm : ∀ S, oEqS false (.d (.str w)) (.d (.str "name")) S = .ok (.d (.bool true)) S := fun S => by rw [c1, decide_eq_true hnm]; rfl
    have wi := within_ok x 0 (n - 1) S
    cases hb : inB x 0 (n - 1) with
    | true =>
      rw [hb] at wi
      have kd : kids n (.tuple [.str w, x]) = some [] := by
            unfold kids
            dsimp only
            rw [if_neg htf, if_pos hnm, hb]; rfl
      rw [kd]
      simp [m_parts_within, b_parts_within, start0, isStr, ix0, kidsD, is_row_ok, rowB, ftf, fnm, ix1, wi]
    | false =>
      rw [hb] at wi
      have kd : kids n (.tuple [.str w, x]) = none := by
            unfold kids
            dsimp only
            rw [if_neg htf, if_pos hnm, hb]; rfl
      rw [kd]
      simp [m_parts_within, b_parts_within, start0, isStr, ix0, kidsD, is_row_ok, rowB, ftf, fnm, ix1, wi]
  by_cases hnt : w = "not"
  · have ftf : ∀ S, oInZ (.d (.str w)) (.d (.tuple [.str "true", .str "false"])) S = .ok (.d (.bool false)) S := fun S => by rw [in_two, decide_eq_false htf]
    have fnm : ∀ S, oEqS false (.d (.str w)) (.d (.str "name")) S = .ok (.d (.bool false)) S := fun S => by rw [c1, decide_eq_false hnm]; rfl
    have fnt : ∀ S, oEqS false (.d (.str w)) (.d (.str "not")) S = .ok (.d (.bool true)) S := fun S => by rw [c2, decide_eq_true hnt]; rfl
    have kd : kids n (.tuple [.str w, x]) = some [x] := by
          unfold kids
          dsimp only
          rw [if_neg htf, if_neg hnm, if_pos hnt]
          all_goals (first | rfl | (cases x <;> rfl) | (cases x <;> cases y <;> rfl))
    rw [kd]
    simp [m_parts_within, b_parts_within, start0, isStr, ix0, kidsD, is_row_ok, rowB, ftf, fnm, fnt, ix1]
  by_cases him : w = "implies" ∨ w = "iff"
  · have ftf : ∀ S, oInZ (.d (.str w)) (.d (.tuple [.str "true", .str "false"])) S = .ok (.d (.bool false)) S := fun S => by rw [in_two, decide_eq_false htf]
    have fnm : ∀ S, oEqS false (.d (.str w)) (.d (.str "name")) S = .ok (.d (.bool false)) S := fun S => by rw [c1, decide_eq_false hnm]; rfl
    have fnt : ∀ S, oEqS false (.d (.str w)) (.d (.str "not")) S = .ok (.d (.bool false)) S := fun S => by rw [c2, decide_eq_false hnt]; rfl
    have fim : ∀ S, oInZ (.d (.str w)) (.d (.tuple [.str "implies", .str "iff"])) S = .ok (.d (.bool true)) S := fun S => by rw [in_two, decide_eq_true him]
    have kd : kids n (.tuple [.str w, x]) = none := by
          unfold kids
          dsimp only
          rw [if_neg htf, if_neg hnm, if_neg hnt, if_pos him]
          all_goals (first | rfl | (cases x <;> rfl) | (cases x <;> cases y <;> rfl))
    rw [kd]
    simp [m_parts_within, b_parts_within, start0, isStr, ix0, kidsD, is_row_ok, rowB, ftf, fnm, fnt, fim, ix1]
  by_cases han : w = "and" ∨ w = "or"
  · have ftf : ∀ S, oInZ (.d (.str w)) (.d (.tuple [.str "true", .str "false"])) S = .ok (.d (.bool false)) S := fun S => by rw [in_two, decide_eq_false htf]
    have fnm : ∀ S, oEqS false (.d (.str w)) (.d (.str "name")) S = .ok (.d (.bool false)) S := fun S => by rw [c1, decide_eq_false hnm]; rfl
    have fnt : ∀ S, oEqS false (.d (.str w)) (.d (.str "not")) S = .ok (.d (.bool false)) S := fun S => by rw [c2, decide_eq_false hnt]; rfl
    have fim : ∀ S, oInZ (.d (.str w)) (.d (.tuple [.str "implies", .str "iff"])) S = .ok (.d (.bool false)) S := fun S => by rw [in_two, decide_eq_false him]
    have fan : ∀ S, oInZ (.d (.str w)) (.d (.tuple [.str "and", .str "or"])) S = .ok (.d (.bool true)) S := fun S => by rw [in_two, decide_eq_true han]
    cases x with
    | tuple xs =>
      have fz := fun (ρ : List Sl) (fa : FA) (h : fa ρ S = .ok (xs.map .d) S) => fz_list ρ S fa xs h
      have kd : kids n (.tuple [.str w, .tuple xs]) = some xs := by
            unfold kids
            dsimp only
            rw [if_neg htf, if_neg hnm, if_neg hnt, if_neg him, if_pos han]
            all_goals (first | rfl | (cases x <;> rfl) | (cases x <;> cases y <;> rfl))
      rw [kd]
      simp [m_parts_within, b_parts_within, start0, isStr, ix0, kidsD, is_row_ok, rowB, ftf, fnm, fnt, fim, fan, ix1, isTup]
    | _ =>
      rw [show kids n _ = none from by unfold kids; dsimp only; rw [if_neg htf, if_neg hnm, if_neg hnt, if_neg him, if_pos han]]
      simp [m_parts_within, b_parts_within, start0, isStr, ix0, kidsD, is_row_ok, rowB, ftf, fnm, fnt, fim, fan, ix1, isTup]
  by_cases hal : w = "atleast"
  · have ftf : ∀ S, oInZ (.d (.str w)) (.d (.tuple [.str "true", .str "false"])) S = .ok (.d (.bool false)) S := fun S => by rw [in_two, decide_eq_false htf]
    have fnm : ∀ S, oEqS false (.d (.str w)) (.d (.str "name")) S = .ok (.d (.bool false)) S := fun S => by rw [c1, decide_eq_false hnm]; rfl
    have fnt : ∀ S, oEqS false (.d (.str w)) (.d (.str "not")) S = .ok (.d (.bool false)) S := fun S => by rw [c2, decide_eq_false hnt]; rfl
    have fim : ∀ S, oInZ (.d (.str w)) (.d (.tuple [.str "implies", .str "iff"])) S = .ok (.d (.bool false)) S := fun S => by rw [in_two, decide_eq_false him]
    have fan : ∀ S, oInZ (.d (.str w)) (.d (.tuple [.str "and", .str "or"])) S = .ok (.d (.bool false)) S := fun S => by rw [in_two, decide_eq_false han]
    have fal : ∀ S, oEqS false (.d (.str w)) (.d (.str "atleast")) S = .ok (.d (.bool true)) S := fun S => by rw [c3, decide_eq_true hal]; rfl
    have kd : kids n (.tuple [.str w, x]) = none := by
          unfold kids
          dsimp only
          rw [if_neg htf, if_neg hnm, if_neg hnt, if_neg him, if_neg han, if_pos hal]
          all_goals (first | rfl | (cases x <;> rfl) | (cases x <;> cases y <;> rfl))
    rw [kd]
    simp [m_parts_within, b_parts_within, start0, isStr, ix0, kidsD, is_row_ok, rowB, ftf, fnm, fnt, fim, fan, fal, ix1]
  by_cases hsm : w = "sum"
  · have ftf : ∀ S, oInZ (.d (.str w)) (.d (.tuple [.str "true", .str "false"])) S = .ok (.d (.bool false)) S := fun S => by rw [in_two, decide_eq_false htf]
    have fnm : ∀ S, oEqS false (.d (.str w)) (.d (.str "name")) S = .ok (.d (.bool false)) S := fun S => by rw [c1, decide_eq_false hnm]; rfl
    have fnt : ∀ S, oEqS false (.d (.str w)) (.d (.str "not")) S = .ok (.d (.bool false)) S := fun S => by rw [c2, decide_eq_false hnt]; rfl
    have fim : ∀ S, oInZ (.d (.str w)) (.d (.tuple [.str "implies", .str "iff"])) S = .ok (.d (.bool false)) S := fun S => by rw [in_two, decide_eq_false him]
    have fan : ∀ S, oInZ (.d (.str w)) (.d (.tuple [.str "and", .str "or"])) S = .ok (.d (.bool false)) S := fun S => by rw [in_two, decide_eq_false han]
    have fal : ∀ S, oEqS false (.d (.str w)) (.d (.str "atleast")) S = .ok (.d (.bool false)) S := fun S => by rw [c3, decide_eq_false hal]; rfl
    have fsm : ∀ S, oEqS true (.d (.str w)) (.d (.str "sum")) S = .ok (.d (.bool false)) S := fun S => by rw [c4, decide_eq_true hsm]; rfl
    have kd : kids n (.tuple [.str w, x]) = none := by
          unfold kids
          dsimp only
          rw [if_neg htf, if_neg hnm, if_neg hnt, if_neg him, if_neg han, if_neg hal, if_pos hsm]
          all_goals (first | rfl | (cases x <;> rfl) | (cases x <;> cases y <;> rfl))
    rw [kd]
    simp [m_parts_within, b_parts_within, start0, isStr, ix0, kidsD, is_row_ok, rowB, ftf, fnm, fnt, fim, fan, fal, fsm, ix1]
  have ftf : ∀ S, oInZ (.d (.str w)) (.d (.tuple [.str "true", .str "false"])) S = .ok (.d (.bool false)) S := fun S => by rw [in_two, decide_eq_false htf]
  have fnm : ∀ S, oEqS false (.d (.str w)) (.d (.str "name")) S = .ok (.d (.bool false)) S := fun S => by rw [c1, decide_eq_false hnm]; rfl
  have fnt : ∀ S, oEqS false (.d (.str w)) (.d (.str "not")) S = .ok (.d (.bool false)) S := fun S => by rw [c2, decide_eq_false hnt]; rfl
  have fim : ∀ S, oInZ (.d (.str w)) (.d (.tuple [.str "implies", .str "iff"])) S = .ok (.d (.bool false)) S := fun S => by rw [in_two, decide_eq_false him]
  have fan : ∀ S, oInZ (.d (.str w)) (.d (.tuple [.str "and", .str "or"])) S = .ok (.d (.bool false)) S := fun S => by rw [in_two, decide_eq_false han]
  have fal : ∀ S, oEqS false (.d (.str w)) (.d (.str "atleast")) S = .ok (.d (.bool false)) S := fun S => by rw [c3, decide_eq_false hal]; rfl
  have fsm : ∀ S, oEqS true (.d (.str w)) (.d (.str "sum")) S = .ok (.d (.bool true)) S := fun S => by rw [c4, decide_eq_false hsm]; rfl
  have kd : kids n (.tuple [.str w, x]) = none := by
        unfold kids
        dsimp only
        rw [if_neg htf, if_neg hnm, if_neg hnt, if_neg him, if_neg han, if_neg hal, if_neg hsm]
        all_goals (first | rfl | (cases x <;> rfl) | (cases x <;> cases y <;> rfl))
  rw [kd]
  simp [m_parts_within, b_parts_within, start0, isStr, ix0, kidsD, is_row_ok, rowB, ftf, fnm, fnt, fim, fan, fal, fsm, ix1]
theorem parts_two (x y : PyData) : m_parts_within [.d (.int n), .d (.tuple [.str w, x, y])] S = .ok (.w (.d (kidsD (kids n (.tuple [.str w, x, y]))))) S := by
  have c1 := fun S => str_cmp false w "name" S hw pw_sh.1
  have c2 := fun S => str_cmp false w "not" S hw pw_sh.2.1
  have c3 := fun S => str_cmp false w "atleast" S hw pw_sh.2.2.1
  have c4 := fun S => str_cmp true w "sum" S hw pw_sh.2.2.2
  have ix0 : ∀ S, oIxZ (.d (.tuple [.str w, x, y])) (.d (.int 0)) S = .ok (.d (.str w)) S := fun S => rfl
  have ix1 : ∀ S, oIxZ (.d (.tuple [.str w, x, y])) (.d (.int 1)) S = .ok (.d x) S := fun S => rfl
  have ix2 : ∀ S, oIxZ (.d (.tuple [.str w, x, y])) (.d (.int 2)) S = .ok (.d y) S := fun S => rfl
  by_cases htf : w = "true" ∨ w = "false"
  · have ftf : ∀ S, oInZ (.d (.str w)) (.d (.tuple [.str "true", .str "false"])) S = .ok (.d (.bool true)) S := fun S => by rw [in_two, decide_eq_true htf]
    have kd : kids n (.tuple [.str w, x, y]) = none := by
          unfold kids
          dsimp only
          rw [if_pos htf]
          all_goals (first | rfl | (cases x <;> rfl) | (cases x <;> cases y <;> rfl))
    rw [kd]
    simp [m_parts_within, b_parts_within, start0, isStr, ix0, kidsD, is_row_ok, rowB, ftf, ix1, ix2]
  by_cases hnm : w = "name"
  · have ftf : ∀ S, oInZ (.d (.str w)) (.d (.tuple [.str "true", .str "false"])) S = .ok (.d (.bool false)) S := fun S => by rw [in_two, decide_eq_false htf]
    have fnm : ∀ S, oEqS false (.d (.str w)) (.d (.str "name")) S = .ok (.d (.bool true)) S := fun S => by rw [c1, decide_eq_true hnm]; rfl
    have kd : kids n (.tuple [.str w, x, y]) = none := by
          unfold kids
          dsimp only
          rw [if_neg htf, if_pos hnm]
          all_goals (first | rfl | (cases x <;> rfl) | (cases x <;> cases y <;> rfl))
    rw [kd]
    simp [m_parts_within, b_parts_within, start0, isStr, ix0, kidsD, is_row_ok, rowB, ftf, fnm, ix1, ix2]
  by_cases hnt : w = "not"
  · have ftf : ∀ S, oInZ (.d (.str w)) (.d (.tuple [.str "true", .str "false"])) S = .ok (.d (.bool false)) S := fun S => by rw [in_two, decide_eq_false htf]
    have fnm : ∀ S, oEqS false (.d (.str w)) (.d (.str "name")) S = .ok (.d (.bool false)) S := fun S => by rw [c1, decide_eq_false hnm]; rfl
    have fnt : ∀ S, oEqS false (.d (.str w)) (.d (.str "not")) S = .ok (.d (.bool true)) S := fun S => by rw [c2, decide_eq_true hnt]; rfl
    have kd : kids n (.tuple [.str w, x, y]) = none := by
          unfold kids
          dsimp only
          rw [if_neg htf, if_neg hnm, if_pos hnt]
          all_goals (first | rfl | (cases x <;> rfl) | (cases x <;> cases y <;> rfl))
    rw [kd]
    simp [m_parts_within, b_parts_within, start0, isStr, ix0, kidsD, is_row_ok, rowB, ftf, fnm, fnt, ix1, ix2]
  by_cases him : w = "implies" ∨ w = "iff"
  · have ftf : ∀ S, oInZ (.d (.str w)) (.d (.tuple [.str "true", .str "false"])) S = .ok (.d (.bool false)) S := fun S => by rw [in_two, decide_eq_false htf]
    have fnm : ∀ S, oEqS false (.d (.str w)) (.d (.str "name")) S = .ok (.d (.bool false)) S := fun S => by rw [c1, decide_eq_false hnm]; rfl
    have fnt : ∀ S, oEqS false (.d (.str w)) (.d (.str "not")) S = .ok (.d (.bool false)) S := fun S => by rw [c2, decide_eq_false hnt]; rfl
    have fim : ∀ S, oInZ (.d (.str w)) (.d (.tuple [.str "implies", .str "iff"])) S = .ok (.d (.bool true)) S := fun S => by rw [in_two, decide_eq_true him]
    have kd : kids n (.tuple [.str w, x, y]) = some [x, y] := by
          unfold kids
          dsimp only
          rw [if_neg htf, if_neg hnm, if_neg hnt, if_pos him]
          all_goals (first | rfl | (cases x <;> rfl) | (cases x <;> cases y <;> rfl))
    rw [kd]
    simp [m_parts_within, b_parts_within, start0, isStr, ix0, kidsD, is_row_ok, rowB, ftf, fnm, fnt, fim, ix1, ix2]
  by_cases han : w = "and" ∨ w = "or"
  · have ftf : ∀ S, oInZ (.d (.str w)) (.d (.tuple [.str "true", .str "false"])) S = .ok (.d (.bool false)) S := fun S => by rw [in_two, decide_eq_false htf]
    have fnm : ∀ S, oEqS false (.d (.str w)) (.d (.str "name")) S = .ok (.d (.bool false)) S := fun S => by rw [c1, decide_eq_false hnm]; rfl
    have fnt : ∀ S, oEqS false (.d (.str w)) (.d (.str "not")) S = .ok (.d (.bool false)) S := fun S => by rw [c2, decide_eq_false hnt]; rfl
    have fim : ∀ S, oInZ (.d (.str w)) (.d (.tuple [.str "implies", .str "iff"])) S = .ok (.d (.bool false)) S := fun S => by rw [in_two, decide_eq_false him]
    have fan : ∀ S, oInZ (.d (.str w)) (.d (.tuple [.str "and", .str "or"])) S = .ok (.d (.bool true)) S := fun S => by rw [in_two, decide_eq_true han]
    have kd : kids n (.tuple [.str w, x, y]) = none := by
          unfold kids
          dsimp only
          rw [if_neg htf, if_neg hnm, if_neg hnt, if_neg him, if_pos han]
          all_goals (first | rfl | (cases x <;> rfl) | (cases x <;> cases y <;> rfl))
    rw [kd]
    simp [m_parts_within, b_parts_within, start0, isStr, ix0, kidsD, is_row_ok, rowB, ftf, fnm, fnt, fim, fan, ix1, ix2]
  by_cases hal : w = "atleast"
  · have ftf : ∀ S, oInZ (.d (.str w)) (.d (.tuple [.str "true", .str "false"])) S = .ok (.d (.bool false)) S := fun S => by rw [in_two, decide_eq_false htf]
    have fnm : ∀ S, oEqS false (.d (.str w)) (.d (.str "name")) S = .ok (.d (.bool false)) S := fun S => by rw [c1, decide_eq_false hnm]; rfl
    have fnt : ∀ S, oEqS false (.d (.str w)) (.d (.str "not")) S = .ok (.d (.bool false)) S := fun S => by rw [c2, decide_eq_false hnt]; rfl
    have fim : ∀ S, oInZ (.d (.str w)) (.d (.tuple [.str "implies", .str "iff"])) S = .ok (.d (.bool false)) S := fun S => by rw [in_two, decide_eq_false him]
    have fan : ∀ S, oInZ (.d (.str w)) (.d (.tuple [.str "and", .str "or"])) S = .ok (.d (.bool false)) S := fun S => by rw [in_two, decide_eq_false han]
    have fal : ∀ S, oEqS false (.d (.str w)) (.d (.str "atleast")) S = .ok (.d (.bool true)) S := fun S => by rw [c3, decide_eq_true hal]; rfl
    have wi : m_within [.d x, .d (.int (-100)), .d (.int 100)] S = .ok (.w (.d (.bool (inB x (-100) 100)))) S := within_ok x (-100) 100 S
    cases hb : inB x (-100) 100 with
    | true =>
      rw [hb] at wi
      cases y with
      | tuple xs =>
        rw [show kids n (.tuple [.str w, x, .tuple xs]) = some xs from by unfold kids; dsimp only; rw [if_neg htf, if_neg hnm, if_neg hnt, if_neg him, if_neg han, if_pos hal, hb, if_pos rfl]]
        simp [m_parts_within, b_parts_within, start0, isStr, ix0, kidsD, is_row_ok, rowB, ftf, fnm, fnt, fim, fan, fal, ix1, ix2, isTup, wi]
      | _ =>
        rw [show kids n _ = none from by unfold kids; dsimp only; rw [if_neg htf, if_neg hnm, if_neg hnt, if_neg him, if_neg han, if_pos hal]]
        simp [m_parts_within, b_parts_within, start0, isStr, ix0, kidsD, is_row_ok, rowB, ftf, fnm, fnt, fim, fan, fal, ix1, ix2, isTup, wi]
    | false =>
      rw [hb] at wi
      rw [show kids n (.tuple [.str w, x, y]) = none from by unfold kids; dsimp only; rw [if_neg htf, if_neg hnm, if_neg hnt, if_neg him, if_neg han, if_pos hal]; cases y <;> (try rfl) <;> (simp only [hb]; rfl)]
      simp [m_parts_within, b_parts_within, start0, isStr, ix0, kidsD, is_row_ok, rowB, ftf, fnm, fnt, fim, fan, fal, ix1, ix2, wi]
  by_cases hsm : w = "sum"
  · have ftf : ∀ S, oInZ (.d (.str w)) (.d (.tuple [.str "true", .str "false"])) S = .ok (.d (.bool false)) S := fun S => by rw [in_two, decide_eq_false htf]
    have fnm : ∀ S, oEqS false (.d (.str w)) (.d (.str "name")) S = .ok (.d (.bool false)) S := fun S => by rw [c1, decide_eq_false hnm]; rfl
    have fnt : ∀ S, oEqS false (.d (.str w)) (.d (.str "not")) S = .ok (.d (.bool false)) S := fun S => by rw [c2, decide_eq_false hnt]; rfl
    have fim : ∀ S, oInZ (.d (.str w)) (.d (.tuple [.str "implies", .str "iff"])) S = .ok (.d (.bool false)) S := fun S => by rw [in_two, decide_eq_false him]
    have fan : ∀ S, oInZ (.d (.str w)) (.d (.tuple [.str "and", .str "or"])) S = .ok (.d (.bool false)) S := fun S => by rw [in_two, decide_eq_false han]
    have fal : ∀ S, oEqS false (.d (.str w)) (.d (.str "atleast")) S = .ok (.d (.bool false)) S := fun S => by rw [c3, decide_eq_false hal]; rfl
    have fsm : ∀ S, oEqS true (.d (.str w)) (.d (.str "sum")) S = .ok (.d (.bool false)) S := fun S => by rw [c4, decide_eq_true hsm]; rfl
    have wi : m_within [.d y, .d (.int (-1000)), .d (.int 1000)] S = .ok (.w (.d (.bool (inB y (-1000) 1000)))) S := within_ok y (-1000) 1000 S
    cases hb : inB y (-1000) 1000 with
    | false =>
      rw [hb] at wi
      rw [show kids n (.tuple [.str w, x, y]) = none from by unfold kids; dsimp only; rw [if_neg htf, if_neg hnm, if_neg hnt, if_neg him, if_neg han, if_neg hal, if_pos hsm]; cases x <;> (try rfl) <;> (simp only [hb, Bool.false_and]; rfl)]
      simp [m_parts_within, b_parts_within, start0, isStr, ix0, kidsD, is_row_ok, rowB, ftf, fnm, fnt, fim, fan, fal, fsm, ix1, ix2, wi]
    | true =>
      rw [hb] at wi
      cases x with
      | tuple xs =>
        have al := all_wt n w xs y S
        have ls := fst_wt n w xs y S
        have ix1 : ∀ S, oIxZ (.d (.tuple [.str w, .tuple xs, y])) (.d (.int 1)) S = .ok (.d (.tuple xs)) S := fun S => rfl
        cases hq : xs.all wtB with
        | true =>
          rw [hq] at al
          rw [show kids n (.tuple [.str w, .tuple xs, y]) = some (xs.map fstD) from by unfold kids; dsimp only; rw [if_neg htf, if_neg hnm, if_neg hnt, if_neg him, if_neg han, if_neg hal, if_pos hsm, hb, hq]; rfl]
          have ls := ls hq
          simp [m_parts_within, b_parts_within, start0, isStr, ix0, kidsD, is_row_ok, rowB, ftf, fnm, fnt, fim, fan, fal, fsm, ix1, ix2, isTup, wi, al, ls, -e_All, -e_Fz]
        | false =>
          rw [hq] at al
          rw [show kids n (.tuple [.str w, .tuple xs, y]) = none from by unfold kids; dsimp only; rw [if_neg htf, if_neg hnm, if_neg hnt, if_neg him, if_neg han, if_neg hal, if_pos hsm, hb, hq]; rfl]
          simp [m_parts_within, b_parts_within, start0, isStr, ix0, kidsD, is_row_ok, rowB, ftf, fnm, fnt, fim, fan, fal, fsm, ix1, ix2, isTup, wi, al, -e_All]
      | _ =>
        rw [show kids n _ = none from by unfold kids; dsimp only; rw [if_neg htf, if_neg hnm, if_neg hnt, if_neg him, if_neg han, if_neg hal, if_pos hsm]]
        simp [m_parts_within, b_parts_within, start0, isStr, ix0, kidsD, is_row_ok, rowB, ftf, fnm, fnt, fim, fan, fal, fsm, ix1, ix2, isTup, wi]
  have ftf : ∀ S, oInZ (.d (.str w)) (.d (.tuple [.str "true", .str "false"])) S = .ok (.d (.bool false)) S := fun S => by rw [in_two, decide_eq_false htf]
  have fnm : ∀ S, oEqS false (.d (.str w)) (.d (.str "name")) S = .ok (.d (.bool false)) S := fun S => by rw [c1, decide_eq_false hnm]; rfl
  have fnt : ∀ S, oEqS false (.d (.str w)) (.d (.str "not")) S = .ok (.d (.bool false)) S := fun S => by rw [c2, decide_eq_false hnt]; rfl
  have fim : ∀ S, oInZ (.d (.str w)) (.d (.tuple [.str "implies", .str "iff"])) S = .ok (.d (.bool false)) S := fun S => by rw [in_two, decide_eq_false him]
  have fan : ∀ S, oInZ (.d (.str w)) (.d (.tuple [.str "and", .str "or"])) S = .ok (.d (.bool false)) S := fun S => by rw [in_two, decide_eq_false han]
  have fal : ∀ S, oEqS false (.d (.str w)) (.d (.str "atleast")) S = .ok (.d (.bool false)) S := fun S => by rw [c3, decide_eq_false hal]; rfl
  have fsm : ∀ S, oEqS true (.d (.str w)) (.d (.str "sum")) S = .ok (.d (.bool true)) S := fun S => by rw [c4, decide_eq_false hsm]; rfl
  have kd : kids n (.tuple [.str w, x, y]) = none := by
        unfold kids
        dsimp only
        rw [if_neg htf, if_neg hnm, if_neg hnt, if_neg him, if_neg han, if_neg hal, if_neg hsm]
        all_goals (first | rfl | (cases x <;> rfl) | (cases x <;> cases y <;> rfl))
  rw [kd]
  simp [m_parts_within, b_parts_within, start0, isStr, ix0, kidsD, is_row_ok, rowB, ftf, fnm, fnt, fim, fan, fal, fsm, ix1, ix2]
end
end L2.Q.P
namespace L2.Q.P
open PySem PySem.Spec PyProof.Rows
theorem kids_long (n : Int) (w : Str) (x y z : PyData) (r : List PyData) : kids n (.tuple (.str w :: x :: y :: z :: r)) = none := by
  unfold kids
  dsimp only
  split
  · rfl
  split
  · rfl
  split
  · rfl
  split
  · rfl
  split
  · cases x <;> rfl
  split
  · cases y <;> rfl
  split
  · cases x <;> rfl
  rfl
theorem shaped_w {k : Nat} {w : Str} {r : List PyData} (h : shp k (.tuple (.str w :: r))) (hk : k ≤ 60) : SeqAt.shaped (.str w) = true :=
  shaped_of (shp_mono (shp_items h (.str w) (List.mem_cons_self ..)) (by omega))
theorem parts_within_ok (n : Int) {d : PyData} (hs : shp 60 d) (S : List Ob) : m_parts_within [.d (.int n), .d d] S = .ok (.w (.d (kidsD (kids n d)))) S := by
  cases d with
  | tuple ds =>
    match ds with
    | [] => simp [m_parts_within, b_parts_within, start0, is_row_ok, rowB, kids, kidsD]
    | x :: r =>
      cases x with
      | str w =>
        have hw := shaped_w hs (by omega)
        match r with
        | [] => exact parts_nil n w hw S
        | [x] => exact parts_one n w hw S x
        | [x, y] => exact parts_two n w hw S x y
        | x :: y :: z :: r =>
          rw [kids_long]
          have : rowB (.tuple (.str w :: x :: y :: z :: r)) 1 3 = false := by
            simp only [rowB, Bool.and_eq_false_iff, decide_eq_false_iff_not, List.length_cons]; omega
          have e := is_row_ok (.tuple (.str w :: x :: y :: z :: r)) 1 3 S
          rw [this] at e
          simp [m_parts_within, b_parts_within, start0, e, kidsD]
      | _ =>
        have ix : ∀ x : PyData, oIxZ (.d (.tuple (x :: r))) (.d (.int 0)) S = .ok (.d x) S := fun x => by
          show oIx (.d (.tuple (x :: r))) (.d (.int 0)) S = _
          rw [e_ixT]
          have := atI_nat (xs := x :: r) (k := 0) (z := x) rfl
          rw [show ((0 : Nat) : Int) = 0 from rfl] at this
          rw [this]
        have e := fun x : PyData => is_row_ok (.tuple (x :: r)) 1 3 S
        have kn : ∀ x : PyData, isStr x = false → kids n (.tuple (x :: r)) = none := fun x h => by
          cases x <;> first | rfl | cases h
        rw [kn _ rfl]
        simp only [kidsD]
        cases hb : rowB (.tuple (PyData.none :: r)) 1 3 with
        | true =>
          have hb' : ∀ x : PyData, rowB (.tuple (x :: r)) 1 3 = true := fun x => hb
          simp [m_parts_within, b_parts_within, start0, e, hb', ix, isStr]
        | false =>
          have hb' : ∀ x : PyData, rowB (.tuple (x :: r)) 1 3 = false := fun x => hb
          simp [m_parts_within, b_parts_within, start0, e, hb']
  | _ => simp [m_parts_within, b_parts_within, start0, is_row_ok, rowB, kids, kidsD]
/-! shapes of the parts within -/
theorem kids_shp {n : Int} {d : PyData} {k : Nat} (hs : shp k d) {ds : List PyData} (h : kids n d = some ds) : ∀ x ∈ ds, shp k x := by
  unfold kids at h
  split at h
  · rename_i w r
    have it := shp_items hs
    have tu : ∀ xs : List PyData, PyData.tuple xs ∈ r → ∀ x ∈ xs, shp k x := fun xs hx => shp_items (it _ (List.mem_cons_of_mem _ hx))
    split at h
    · split at h
      · cases h; intro x hx; cases hx
      · cases h
    split at h
    · split at h
      · split at h
        · cases h; intro x hx; cases hx
        · cases h
      · cases h
    split at h
    · split at h
      · cases h; intro x hx; exact it x (List.mem_cons_of_mem _ hx)
      · cases h
    split at h
    · split at h
      · cases h; intro x hx; exact it x (List.mem_cons_of_mem _ hx)
      · cases h
    split at h
    · split at h
      · cases h; exact tu _ (by simp)
      · cases h
    split at h
    · split at h
      · split at h
        · cases h; exact tu _ (by simp)
        · cases h
      · cases h
    split at h
    · split at h
      · split at h
        · rename_i xs y hq
          cases h
          intro x hx
          obtain ⟨z, hz, rfl⟩ := List.mem_map.mp hx
          have hzs := tu xs (by simp) z hz
          obtain ⟨a, b, rfl⟩ := wt_two (List.all_eq_true.mp (Bool.and_eq_true_iff.mp hq).2 z hz)
          exact shp_items hzs a (by simp)
        · cases h
      · cases h
    · cases h
  · cases h
end L2.Q.P
namespace L2.Q.P
open PySem PySem.Spec PyProof.Rows
/-! parts counted -/
def cntF (n : Int) : Nat → PyData → Nat
  | 0, _ => 99
  | r + 1, d => match kids n d with
    | none => 99
    | some ds => 1 + (ds.map (cntF n r)).sum
theorem cntF_pos (n : Int) (r : Nat) (d : PyData) : 1 ≤ cntF n r d := by
  cases r with
  | zero => show 1 ≤ 99; omega
  | succ r =>
    unfold cntF
    split <;> omega
theorem sum_ints {α : Type} (f : α → Nat) (xs : List α) : (xs.map fun x => ((f x : Nat) : Int)).sum = ((xs.map f).sum : Nat) := by
  induction xs with
  | nil => rfl
  | cons x r ih => rw [List.map_cons, List.map_cons, List.sum_cons, List.sum_cons, ih]; omega
/-! the program's count -/
abbrev Wt := List (PyData × Nat)
def wD (e : PyData × Nat) : PyData := .tuple [e.1, .int e.2]
def tot (n : Int) (W : Wt) : Nat := (W.map fun e => cntF n (9 - e.2) e.1).sum
theorem tot_app (n : Int) (V W : Wt) : tot n (V ++ W) = tot n V + tot n W := by unfold tot; rw [List.map_append, List.sum_append]
theorem tot_len (n : Int) (W : Wt) : W.length ≤ tot n W := by
  induction W with
  | nil => simp [tot]
  | cons e r ih =>
    have := cntF_pos n (9 - e.2) e.1
    unfold tot at ih ⊢
    simp only [List.map_cons, List.sum_cons, List.length_cons]
    omega
abbrev wW (W : Wt) : Sl := .own (.lst (W.map fun e => .d (wD e)))
abbrev rhoC (n : Int) (D : PyData) (found : Nat) (W : Wt) (x4 x5 x6 : Sl) : List Sl := [.w (.d (.int n)), .w (.d D), .w (.d (.int found)), wW W, x4, x5, x6, .un]
theorem wait_ne (n : Int) (D : PyData) (found : Nat) (V : Wt) (hW : ∀ e ∈ V, shp 60 e.1) (x4 x5 x6 : Sl) (S : List Ob) : t_count_parts_0 (rhoC n D found V x4 x5 x6) S = .ok (!V.isEmpty) S := by
  have h1 := shaped_of (shp_mono (shp_list (k := 61) (ds := V.map wD) fun d hd => by
    obtain ⟨e, he, rfl⟩ := List.mem_map.mp hd
    exact shp_tup fun d hd => by
      simp only [List.mem_cons, List.not_mem_nil, or_false] at hd
      rcases hd with rfl | rfl
      · exact hW e he
      · exact shp_int _ _) (by omega))
  have h2 := shaped_of (shp_mono (shp_list (k := 0) (ds := []) (by simp)) (by omega))
  have e : cmpO true (V.map fun e => W.d (wD e)) (.d (.list [])) S = .ok (.d (.bool (!V.isEmpty))) S := by
    have : (V.map fun e => W.d (wD e)) = (V.map wD).map .d := by rw [List.map_map]; rfl
    unfold cmpO
    rw [this, e_datsm]
    dsimp only
    rw [h1, h2, eqv_nil]
    cases V <;> rfl
  unfold t_count_parts_0
  rw [e_T, e_CmpO]
  show (cmpO true (V.map fun e => W.d (wD e)) (.d (.list [])) S).bind toB = _
  rw [e]
  rfl
end L2.Q.P
namespace L2.Q.P
open PySem PySem.Spec PyProof.Rows
section
variable (n : Int) (D : PyData)
theorem count_turn (found : Nat) (V : Wt) (d : PyData) (dp : Nat) (hd : shp 60 d) (hv : V.length < 10000) (x4 x5 x6 : Sl) (S : List Ob) :
    ∃ y4 y5 y6, l_count_parts_0 (rhoC n D found (V ++ [(d, dp)]) x4 x5 x6) S =
    (match kids n d with
    | some ds => if dp ≤ 8 ∧ found + 1 + V.length + ds.length ≤ 32 then .nx (rhoC n D (found + 1) (V ++ ds.map fun x => (x, dp + 1)) y4 y5 y6) S else .rt (.w (.d .none)) S
    | none => .rt (.w (.d .none)) S) := by
  have pw := parts_within_ok n hd S
  have last : ((V ++ [(d, dp)]).map fun e => W.d (wD e))[((V ++ [(d, dp)]).map fun e => W.d (wD e)).length - 1]? = some (.d (wD (d, dp))) := by simp
  have dl : ((V ++ [(d, dp)]).map fun e => W.d (wD e)).dropLast = V.map fun e => W.d (wD e) := by simp
  have x0 : (fAsgX (gT 2 (gsC (gN 4) (gsC (gN 5) gsN))) (fPop 3)) (rhoC n D found (V ++ [(d, dp)]) x4 x5 x6) S = .nx (rhoC n D found V (.w (.d d)) (.w (.d (.int dp))) x6) S := by
    have p : fPop 3 (rhoC n D found (V ++ [(d, dp)]) x4 x5 x6) S = .ok (.d (wD (d, dp)), rhoC n D found V x4 x5 x6) S := by
      rw [e_Pop]
      show (match some (wW (V ++ [(d, dp)])) with | some (.own (.lst xs)) => (match xs[xs.length - 1]? with | some y => Res.ok (y, (rhoC n D found (V ++ [(d, dp)]) x4 x5 x6).set 3 (.own (.lst xs.dropLast))) S | none => .bad) | _ => .bad) = _
      dsimp only
      rw [last, dl]
      rfl
    rw [e_AsgX, p]
    rfl
  have x1 : (fSet 6 (fCall m_parts_within (fCons (fVar 0) (fCons (fVar 4) fNil)))) (rhoC n D found V (.w (.d d)) (.w (.d (.int dp))) x6) S = .nx (rhoC n D found V (.w (.d d)) (.w (.d (.int dp))) (.w (.d (kidsD (kids n d))))) S := by
    simp [pw]
  have x2 : (fAug 2 (oI yes fun i j => .int (i + j)) (fC (.int 1))) (rhoC n D found V (.w (.d d)) (.w (.d (.int dp))) (.w (.d (kidsD (kids n d))))) S = .nx (rhoC n D (found + 1) V (.w (.d d)) (.w (.d (.int dp))) (.w (.d (kidsD (kids n d))))) S := by
    simp [rhoC]
  refine ⟨.w (.d d), .w (.d (.int dp)), .w (.d (kidsD (kids n d))), ?_⟩
  unfold l_count_parts_0
  rw [e_Seq, x0, e_thenN, e_Seq, x1, e_thenN, e_Seq, x2, e_thenN, e_Seq]
  cases hk : kids n d with
  | none =>
    dsimp only
    have x3 : (fIfS (fOr (fT (fUn oIsN (fVar 6))) (fOr (fT (fBin oGt (fVar 5) (fC (.int 8)))) (fT (fBin oGt (fBin oAddA (fBin oAddA (fVar 2) (fLen (fOwn 3))) (fLen (fIt (fVar 6)))) (fC (.int 32)))))) (fRet (fC .none)) fNx) (rhoC n D (found + 1) V (.w (.d d)) (.w (.d (.int dp))) (.w (.d (kidsD none)))) S = .rt (.w (.d .none)) S := by
      simp [kidsD, isNon]
    rw [x3]; rfl
  | some ds =>
    dsimp only
    have ln : ((V.map fun e => W.d (wD e)).length : Int) = V.length := by rw [List.length_map]
    have x3 : (fIfS (fOr (fT (fUn oIsN (fVar 6))) (fOr (fT (fBin oGt (fVar 5) (fC (.int 8)))) (fT (fBin oGt (fBin oAddA (fBin oAddA (fVar 2) (fLen (fOwn 3))) (fLen (fIt (fVar 6)))) (fC (.int 32)))))) (fRet (fC .none)) fNx) (rhoC n D (found + 1) V (.w (.d d)) (.w (.d (.int dp))) (.w (.d (kidsD (some ds))))) S = (if dp ≤ 8 ∧ found + 1 + V.length + ds.length ≤ 32 then .nx (rhoC n D (found + 1) V (.w (.d d)) (.w (.d (.int dp))) (.w (.d (kidsD (some ds))))) S else .rt (.w (.d .none)) S) := by
      by_cases q1 : (8 : Int) < dp
      · rw [if_neg (by omega)]
        simp [kidsD, isNon, q1]
      · by_cases q2 : (32 : Int) < (found : Int) + 1 + V.length + ds.length
        · rw [if_neg (by omega)]
          simp [kidsD, isNon, q1, q2, -List.map_map]
        · rw [if_pos (by omega)]
          simp [kidsD, isNon, q1, q2, -List.map_map]
    rw [x3]
    by_cases q : dp ≤ 8 ∧ found + 1 + V.length + ds.length ≤ 32
    · rw [if_pos q, if_pos q, e_thenN]
      let ρ := rhoC n D (found + 1) V (.w (.d d)) (.w (.d (.int dp))) (.w (.d (kidsD (some ds))))
      have src : (fIt (fVar 6)) ρ S = .ok (ds.map fun x => .d x) S := rfl
      have lc := lc_sel (gN 7) (fun _ S => .ok true S) e_count_parts_1 ρ S (fun x : PyData => .d x) (fun _ => true) (fun x => .d (wD (x, dp + 1))) ds fun x _ => ⟨ρ.set 7 (.w (.d x)), rfl, rfl, fun _ => rfl⟩
      rw [List.filter_eq_self.mpr (fun _ _ => rfl)] at lc
      have h3 : ρ[3]? = some (.own (.lst (V.map fun e => .d (wD e)))) := rfl
      show (fDropX (fExt 3 (fLc (fIt (fVar 6)) [7] (gN 7) (fun _ S => .ok true S) e_count_parts_1))) ρ S = _
      rw [e_DropX, e_Ext h3, e_Lc _ _ _ src rfl, show unset ρ [7] = ρ from rfl, lc, e_ok, e_ok]
      dsimp only
      rw [if_pos (by rw [List.length_map, List.length_map]; omega), e_flok]
      show Fl.nx (ρ.set 3 _) S = _
      unfold rhoC wW
      rw [List.map_append, List.map_map]
      rfl
    · rw [if_neg q, if_neg q]; rfl
theorem tot_kids (n : Int) (ds : List PyData) (dp : Nat) (h : dp ≤ 8) : tot n (ds.map fun x => (x, dp + 1)) = (ds.map (cntF n (8 - dp))).sum := by
  unfold tot
  rw [List.map_map]
  congr 1
  refine List.map_congr_left fun x _ => ?_
  show cntF n (9 - (dp + 1)) x = _
  rw [show 9 - (dp + 1) = 8 - dp by omega]
theorem count_loop : ∀ (k fuel found : Nat) (V : Wt) (x4 x5 x6 : Sl) (S : List Ob), found + k = 32 → k + 2 ≤ fuel → (∀ e ∈ V, shp 60 e.1) → V.length < 9000 →
    ∃ y4 y5 y6, whileN t_count_parts_0 l_count_parts_0 fuel (rhoC n D found V x4 x5 x6) S = (if found + tot n V ≤ 32 then .nx (rhoC n D (found + tot n V) [] y4 y5 y6) S else .rt (.w (.d .none)) S)
  | k, 0, found, V, x4, x5, x6, S, hf, hk, _, _ => by omega
  | k, fuel + 1, found, V, x4, x5, x6, S, hf, hk, hV, hl => by
    rw [while_succ, wait_ne n D found V hV x4 x5 x6 S, e_flok]
    by_cases hE : V = []
    · subst hE
      refine ⟨x4, x5, x6, ?_⟩
      rw [if_neg (by simp), if_pos (by simp [tot]; omega)]
      rfl
    · obtain ⟨U, e, rfl⟩ : ∃ U e, V = U ++ [e] := ⟨V.dropLast, V.getLast hE, (List.dropLast_concat_getLast hE).symm⟩
      obtain ⟨d, dp⟩ := e
      have hd := hV (d, dp) (by simp)
      rw [List.length_append, List.length_singleton] at hl
      obtain ⟨y4, y5, y6, e1⟩ := count_turn n D found U d dp hd (by omega) x4 x5 x6 S
      rw [if_pos (by simp), e1]
      have tl := tot_len n U
      have te : tot n [(d, dp)] = cntF n (9 - dp) d := by simp [tot]
      rw [tot_app, te]
      cases hk' : kids n d with
      | none =>
        have c : cntF n (9 - dp) d = 99 := by
          cases 9 - dp with
          | zero => rfl
          | succ r => unfold cntF; rw [hk']
        dsimp only
        refine ⟨x4, x5, x6, ?_⟩
        rw [c, if_neg (by omega)]
        rfl
      | some ds =>
        dsimp only
        by_cases q : dp ≤ 8 ∧ found + 1 + U.length + ds.length ≤ 32
        · have c : cntF n (9 - dp) d = 1 + tot n (ds.map fun x => (x, dp + 1)) := by
            rw [tot_kids n ds dp q.1, show 9 - dp = (8 - dp) + 1 by omega]
            show (match kids n d with | none => 99 | some ds => 1 + (ds.map (cntF n (8 - dp))).sum) = _
            rw [hk']
          have hds := kids_shp hd hk'
          obtain ⟨z4, z5, z6, e2⟩ := count_loop (k - 1) fuel (found + 1) (U ++ ds.map fun x => (x, dp + 1)) y4 y5 y6 S (by omega) (by omega) (fun e he => by
            rcases List.mem_append.mp he with he | he
            · exact hV e (List.mem_append_left _ he)
            · obtain ⟨x, hx, rfl⟩ := List.mem_map.mp he
              exact hds x hx) (by rw [List.length_append, List.length_map]; omega)
          refine ⟨z4, z5, z6, ?_⟩
          rw [if_pos q, e_turnN, e2, tot_app, c, show found + 1 + (tot n U + tot n (ds.map fun x => (x, dp + 1))) = found + (tot n U + (1 + tot n (ds.map fun x => (x, dp + 1)))) by omega]
        · refine ⟨x4, x5, x6, ?_⟩
          rw [if_neg q]
          have : ¬ (found + (tot n U + cntF n (9 - dp) d) ≤ 32) := by
            by_cases q1 : dp ≤ 8
            · have c : cntF n (9 - dp) d = 1 + tot n (ds.map fun x => (x, dp + 1)) := by
                rw [tot_kids n ds dp q1, show 9 - dp = (8 - dp) + 1 by omega]
                show (match kids n d with | none => 99 | some ds => 1 + (ds.map (cntF n (8 - dp))).sum) = _
                rw [hk']
              have := tot_len n (ds.map fun x => (x, dp + 1))
              rw [List.length_map] at this
              omega
            · have c : cntF n (9 - dp) d = 99 := by rw [show 9 - dp = 0 by omega]; rfl
              omega
          rw [if_neg this]
          rfl
theorem count_parts_ok (things : List PyData) (hs : ∀ d ∈ things, shp 60 d) (hl : things.length < 9000) (S : List Ob) : m_count_parts [.d (.int n), .d (.list things)] S = .ok (.w (.d (if (things.map (cntF n 8)).sum ≤ 32 then .int ((things.map (cntF n 8)).sum : Nat) else .none))) S := by
  have st : start0 8 [W.d (.int n), .d (.list things)] = [.w (.d (.int n)), .w (.d (.list things)), .un, .un, .un, .un, .un, .un] := rfl
  let ρ : List Sl := [.w (.d (.int n)), .w (.d (.list things)), .un, .un, .un, .un, .un, .un]
  have src : fIt (fVar 1) ρ S = .ok (things.map fun x => .d x) S := rfl
  have lc := lc_sel (gN 4) (fun _ S => .ok true S) e_count_parts_0 ρ S (fun x : PyData => .d x) (fun _ => true) (fun x => .d (wD (x, 1))) things fun x _ => ⟨ρ.set 4 (.w (.d x)), rfl, rfl, fun _ => rfl⟩
  rw [List.filter_eq_self.mpr (fun _ _ => rfl)] at lc
  have L0 : fLc (fIt (fVar 1)) [4] (gN 4) (fun _ S => .ok true S) e_count_parts_0 ρ S = .ok (.lst (things.map fun x => .d (wD (x, 1)))) S := by
    rw [e_Lc _ _ _ src rfl, show unset ρ [4] = ρ from rfl, lc]; rfl
  have x0 : (fPar 2 3 (fCw (fC (.int 0))) (fCo (fLc (fIt (fVar 1)) [4] (gN 4) (fun _ S => .ok true S) e_count_parts_0))) ρ S = .nx (rhoC n (.list things) 0 (things.map fun x => (x, 1)) .un .un .un) S := by
    have : (things.map fun x => W.d (wD (x, 1))) = ((things.map fun x => (x, 1)).map fun e => W.d (wD e)) := by rw [List.map_map]; rfl
    rw [this] at L0
    simp [L0, rhoC, ρ]
  obtain ⟨y4, y5, y6, e⟩ := count_loop n (.list things) 32 fuelW 0 (things.map fun x => (x, 1)) .un .un .un S (by omega) (by decide) (fun e he => by
    obtain ⟨x, hx, rfl⟩ := List.mem_map.mp he
    exact hs x hx) (by rw [List.length_map]; exact hl)
  have tt : tot n (things.map fun x => (x, 1)) = (things.map (cntF n 8)).sum := by
    unfold tot; rw [List.map_map]; rfl
  rw [Nat.zero_add, tt] at e
  unfold m_count_parts b_count_parts
  rw [e_runF, st, e_Seq, x0, e_thenN, e_Seq, e_While, e]
  by_cases q : (things.map (cntF n 8)).sum ≤ 32
  · rw [if_pos q, if_pos q, e_thenN]; rfl
  · rw [if_neg q, if_neg q]; rfl
theorem is_part_ok {n : Int} (h1 : 1 ≤ n) (h2 : n ≤ 10) {d : PyData} (hs : shp 60 d) (S : List Ob) : m_is_part [.d (.int n), .d d] S = .ok (.w (.d (.bool (decide (cntF n 8 d ≤ 32))))) S := by
  have c := count_parts_ok n [d] (fun x hx => by simp at hx; subst hx; exact hs) (by simp) S
  have e : ([d].map (cntF n 8)).sum = cntF n 8 d := by simp
  rw [e] at c
  have w := within_ok (.int n) 1 10 S
  have w : m_within [.d (.int n), .d (.int 1), .d (.int 10)] S = .ok (.w (.d (.bool true))) S := by rw [w]; simp [inB, h1, h2]
  by_cases q : cntF n 8 d ≤ 32
  · rw [if_pos q] at c
    rw [decide_eq_true q]
    simp [m_is_part, b_is_part, start0, w, c, isNon]
  · rw [if_neg q] at c
    rw [decide_eq_false q]
    simp [m_is_part, b_is_part, start0, w, c, isNon]
end
end L2.Q.P
namespace L2.Q.P
open PySem PySem.Spec PyProof.Rows
/-! sizes, places -/
theorem log2_bits (z : Int) : z.natAbs.log2 ≤ Builtin.Int.intBits z := by
  unfold Builtin.Int.intBits
  split
  · rename_i h; have h : z.natAbs = 0 := by first | exact h | simpa using h
    rw [h]; decide
  · omega
theorem log2_small {i : Int} {k : Nat} (h : i.natAbs < 2 ^ k) (hk : 0 < k) : i.natAbs.log2 < k := PySem.Flt.log2_lt_of hk h
theorem mulC_of {i j : Int} (a b : Nat) (ha : i.natAbs < 2 ^ a) (hb : j.natAbs < 2 ^ b) (h0 : 0 < a) (h1 : 0 < b) (h : a + b ≤ 100000000) : mulC i j = true := by
  have x := log2_small ha h0
  have y := log2_small hb h1
  unfold mulC
  exact decide_eq_true (by omega)
theorem mulC_log {i j : Int} (h : i.natAbs.log2 + j.natAbs.log2 < 100000000) : mulC i j = true := decide_eq_true h
theorem divC_of {i j : Int} (h : 0 < j) (h2 : j < 2 ^ 8000) : divC i j = true := by
  have hb : j.natAbs < 2 ^ 8000 := by omega
  have y := log2_small hb (by omega)
  unfold divC
  rw [decide_eq_true h, decide_eq_true (show j.natAbs.log2 < 9000 by omega)]
  rfl
theorem modC_of {i j : Int} (h : 0 < j) : modC i j = true := decide_eq_true h
theorem pow6 : powC 10 6 = true := by decide +kernel
theorem pow18 : powC 10 18 = true := by decide +kernel
theorem pow60 : powC 10 60 = true := by decide +kernel
@[simp] theorem ix0 (n : Nat) : ixN (n + 1) 0 = some 0 := by unfold ixN; simp
@[simp] theorem ix1 (n : Nat) : ixN (n + 2) 1 = some 1 := by unfold ixN; rw [if_pos (by omega), if_pos (by omega)]; rfl
@[simp] theorem ix2 (n : Nat) : ixN (n + 3) 2 = some 2 := by unfold ixN; rw [if_pos (by omega), if_pos (by omega)]; rfl
end L2.Q.P
namespace L2.Q.P
open PySem PySem.Spec PyProof.Rows
/-! the deck of great and small cells -/
def DQ (g sm : List Int) (t : Int) (R : List Ob) : List Ob := .lst (g.map fun i => .d (.int i)) :: .lst [.ref 0, .d (.list (sm.map .int)), .d (.int t)] :: R
/-- n: so many draws may come -/
structure DqOk (g sm : List Int) (t : Int) (n : Nat) : Prop where
  gl : g.length ≤ 63
  gb : ∀ x ∈ g, 0 ≤ x ∧ x < 10 ^ 60
  sl : sm.length ≤ 63
  sb : ∀ x ∈ sm, 0 ≤ x ∧ x < 10 ^ 18
  t0 : 0 ≤ t
  t1 : t + n ≤ 2 ^ 40
def DqR (R : List Ob) (n : Nat) (S : List Ob) : Prop := ∃ g sm t, S = DQ g sm t R ∧ DqOk g sm t n
def Dq (n : Nat) (S : List Ob) : Prop := ∃ R, DqR R n S
theorem DqR.le {R : List Ob} {n k : Nat} {S : List Ob} (h : DqR R n S) (l : k ≤ n) : DqR R k S := by
  obtain ⟨g, sm, t, e, h⟩ := h
  exact ⟨g, sm, t, e, h.gl, h.gb, h.sl, h.sb, h.t0, by have := h.t1; omega⟩
theorem Dq.le {n k : Nat} {S : List Ob} (h : Dq n S) (l : k ≤ n) : Dq k S := by
  obtain ⟨R, h⟩ := h
  exact ⟨R, h.le l⟩
theorem Dq.more {n : Nat} {S : List Ob} (h : Dq n S) (o : Ob) : Dq n (S ++ [o]) := by
  obtain ⟨R, g, sm, t, rfl, h⟩ := h
  exact ⟨R ++ [o], g, sm, t, rfl, h⟩
theorem Dq.two {n : Nat} {S : List Ob} (h : Dq n S) : 2 ≤ S.length := by
  obtain ⟨R, g, sm, t, rfl, h⟩ := h
  simp [DQ]
/-- another object of the store, written -/
theorem DqR.put {R : List Ob} {n : Nat} {S : List Ob} (h : DqR R n S) {j : Nat} (o : Ob) (hj : 2 ≤ j) : ∃ R', DqR R' n (S.set j o) := by
  obtain ⟨g, sm, t, rfl, h⟩ := h
  obtain ⟨k, rfl⟩ : ∃ k, j = k + 2 := ⟨j - 2, by omega⟩
  exact ⟨R.set k o, g, sm, t, rfl, h⟩
theorem Dq.put {n : Nat} {S : List Ob} (h : Dq n S) {j : Nat} (o : Ob) (hj : 2 ≤ j) : Dq n (S.set j o) := by
  obtain ⟨R, h⟩ := h
  exact h.put o hj
section
variable (R : List Ob) (g sm : List Int) (t : Int)
@[simp] theorem DQ_0 : (DQ g sm t R)[0]? = some (.lst (g.map fun i => .d (.int i))) := rfl
@[simp] theorem DQ_1 : (DQ g sm t R)[1]? = some (.lst [.ref 0, .d (.list (sm.map .int)), .d (.int t)]) := rfl
@[simp] theorem DQ_s1 (t' : Int) : (DQ g sm t R).set 1 (.lst [.ref 0, .d (.list (sm.map .int)), .d (.int t')]) = DQ g sm t' R := rfl
@[simp] theorem DQ_s0 (g' : List Int) : (DQ g sm t R).set 0 (.lst (g'.map fun i => .d (.int i))) = DQ g' sm t R := rfl
theorem asD_great : asD (.ref 0) (DQ g sm t R) = some (.list (g.map .int)) := by
  show (dats (g.map fun i => .d (.int i))).map PyData.list = _
  rw [dats_ints]; rfl
theorem great_ne : oEqS true (.ref 0) (.d (.list [])) (DQ g sm t R) = .ok (.d (.bool (!g.isEmpty))) (DQ g sm t R) := by
  rw [e_eqS true (asD_great R g sm t) rfl (shp_mono (shp_ints g) (by omega)) (show shp 64 (.list []) from shp_mono (shp_ints []) (by omega)), eqv_nil]
  cases g <;> rfl
theorem small_ne (S : List Ob) : oEqS true (.d (.list (sm.map .int))) (.d (.list [])) S = .ok (.d (.bool (!sm.isEmpty))) S := by
  rw [e_eqS true rfl rfl (shp_mono (shp_ints sm) (by omega)) (show shp 64 (.list []) from shp_mono (shp_ints []) (by omega)), eqv_nil]
  cases sm <;> rfl
end
theorem popQ (R : List Ob) (c : Int) (g sm : List Int) (t : Int) (h : g.length < 100) : popSt (.ref 0) (.d (.int 0)) (DQ (c :: g) sm t R) = .ok (.d (.int c)) (DQ g sm t R) := by
  unfold popSt
  simp only [DQ_0, List.length_map, List.map_cons, List.length_cons, ix0, List.getElem?_cons_zero, List.eraseIdx_cons_zero]
  rw [if_pos (by omega)]
  rfl
theorem ix_nth (n : Nat) (k : Int) (h0 : 0 ≤ k) (h1 : k < n) : ixN n k = some k.toNat := by
  unfold ixN
  rw [if_pos h0, if_pos (by omega)]
theorem atI_in {α : Type} {xs : List α} {v : Int} (h0 : 0 ≤ v) (h1 : v < xs.length) : ∃ d, atI xs v = some d ∧ d ∈ xs := by
  have hk : v.toNat < xs.length := by omega
  have := atI_nat (List.getElem?_eq_getElem hk)
  rw [show ((v.toNat : Nat) : Int) = v by omega] at this
  exact ⟨_, this, List.getElem_mem hk⟩
theorem drawR_ok {R : List Ob} {n : Nat} {S : List Ob} (hS : DqR R (n + 1) S) {many : Int} (hm : 0 < many) (hm2 : many < 2 ^ 8000) : ∃ v S', m__law_draw [.ref 1, .d (.int many)] S = .ok (.w (.d (.int v))) S' ∧ 0 ≤ v ∧ v < many ∧ DqR R n S' := by
  obtain ⟨g, sm, t, rfl, h⟩ := hS
  have k1 : ∀ i, modC i many = true := fun i => modC_of hm
  have k2 : ∀ i, divC i many = true := fun i => divC_of hm hm2
  have t0 := h.t0
  have t1 := h.t1
  cases g with
  | cons c g =>
    have hl : g.length < 100 := by have := h.gl; simp at this; omega
    have hc := h.gb c (List.mem_cons_self ..)
    have kq : ∀ g', g'.length ≤ g.length + 1 → (∀ x ∈ g', 0 ≤ x ∧ x < 10 ^ 60) → DqOk g' sm (t + 1) n := fun g' l b => ⟨by have := h.gl; simp at this; omega, b, h.sl, h.sb, by omega, by omega⟩
    have ne : ∀ t, oEqS true (.ref 0) (.d (.list [])) (DQ (c :: g) sm t R) = .ok (.d (.bool true)) (DQ (c :: g) sm t R) := fun t => great_ne R (c :: g) sm t
    have p0 : ∀ x t, popSt (.ref 0) (.d (.int 0)) (DQ (x :: g) sm t R) = .ok (.d (.int x)) (DQ g sm t R) := fun x t => popQ R x g sm t hl
    have s0 : ∀ (x y t : Int), (DQ (x :: g) sm t R).set 0 (.lst (.d (.int y) :: g.map fun i => .d (.int i))) = DQ (y :: g) sm t R := fun _ _ _ => rfl
    have z0 : ∀ (x t : Int), (DQ (x :: g) sm t R)[0]? = some (.lst (.d (.int x) :: g.map fun i => .d (.int i))) := fun _ _ => rfl
    by_cases q : c / many = 0
    · refine ⟨c % many, DQ g sm (t + 1) R, ?_, Int.emod_nonneg _ (by omega), Int.emod_lt_of_pos _ hm, g, sm, t + 1, rfl, kq g (by omega) fun x hx => h.gb x (List.mem_cons_of_mem _ hx)⟩
      simp [m__law_draw, b__law_draw, start0, ne, z0, s0, k1, k2, q, p0]
    · refine ⟨c % many, DQ (c / many :: g) sm (t + 1) R, ?_, Int.emod_nonneg _ (by omega), Int.emod_lt_of_pos _ hm, c / many :: g, sm, t + 1, rfl, kq _ (by simp) fun x hx => ?_⟩
      · simp [m__law_draw, b__law_draw, start0, ne, z0, s0, k1, k2, q, p0]
      · rcases List.mem_cons.mp hx with rfl | hx
        · have := Int.ediv_le_self many hc.1
          exact ⟨Int.ediv_nonneg hc.1 (by omega), by omega⟩
        · exact h.gb x (List.mem_cons_of_mem _ hx)
  | nil =>
    have ne : ∀ t, oEqS true (.ref 0) (.d (.list [])) (DQ [] sm t R) = .ok (.d (.bool false)) (DQ [] sm t R) := fun t => great_ne R [] sm t
    have z0 : ∀ t, (DQ [] sm t R)[0]? = some (.lst []) := fun _ => rfl
    have kq : DqOk [] sm (t + 1) n := ⟨h.gl, h.gb, h.sl, h.sb, by omega, by omega⟩
    -- what is left of the small branch
    have fin : ∀ cell : Int, 0 ≤ cell → cell < 10 ^ 18 → ∃ v, (mulC 17 t && (mulC 2 t && mulC (cell + 17 * t + 3) (69621 + 2 * t))) = true ∧ mulC ((cell + 17 * t + 3) * (69621 + 2 * t) % 2147483647) ((cell + 17 * t + 3) * (69621 + 2 * t) % 2147483647 % 9973 + 11) = true ∧
        v = ((cell + 17 * t + 3) * (69621 + 2 * t) % 2147483647) * ((cell + 17 * t + 3) * (69621 + 2 * t) % 2147483647 % 9973 + 11) % 2147483629 / 5 % many := fun cell c0 c1 => by
      have m1 : mulC 17 t = true := mulC_of 10 50 (by decide) (by omega) (by omega) (by omega) (by omega)
      have m2 : mulC 2 t = true := mulC_of 10 50 (by decide) (by omega) (by omega) (by omega) (by omega)
      have m3 : mulC (cell + 17 * t + 3) (69621 + 2 * t) = true := mulC_of 70 70 (by omega) (by omega) (by omega) (by omega) (by omega)
      have f0 := Int.emod_nonneg ((cell + 17 * t + 3) * (69621 + 2 * t)) (show (2147483647 : Int) ≠ 0 by omega)
      have f1 := Int.emod_lt_of_pos ((cell + 17 * t + 3) * (69621 + 2 * t)) (show (0 : Int) < 2147483647 by omega)
      generalize (cell + 17 * t + 3) * (69621 + 2 * t) % 2147483647 = f at f0 f1 ⊢
      have m4 : mulC f (f % 9973 + 11) = true := mulC_of 40 40 (by omega) (by omega) (by omega) (by omega) (by omega)
      exact ⟨_, by rw [m1, m2, m3]; rfl, m4, rfl⟩
    have a1 : ∀ i, modC i 2147483647 = true := fun i => modC_of (by omega)
    have a2 : ∀ i, modC i 9973 = true := fun i => modC_of (by omega)
    have a3 : ∀ i, modC i 2147483629 = true := fun i => modC_of (by omega)
    have a4 : ∀ i, divC i 5 = true := fun i => divC_of (by omega) (by omega)
    cases sm with
    | nil =>
      have sn : ∀ S, oEqS true (.d (.list [])) (.d (.list [])) S = .ok (.d (.bool false)) S := fun S => small_ne [] S
      obtain ⟨v, m1, m4, ev⟩ := fin 5 (by omega) (by omega)
      rw [Bool.and_eq_true, Bool.and_eq_true] at m1
      obtain ⟨m1, m2, m3⟩ := m1
      refine ⟨v, DQ [] [] (t + 1) R, ?_, by rw [ev]; exact Int.emod_nonneg _ (by omega), by rw [ev]; exact Int.emod_lt_of_pos _ hm, [], [], t + 1, rfl, kq⟩
      have s1 : ∀ (t t' : Int), (DQ [] [] t R).set 1 (.lst [.ref 0, .d (.list []), .d (.int t')]) = DQ [] [] t' R := fun _ _ => rfl
      have z1 : ∀ t, (DQ [] [] t R)[1]? = some (.lst [.ref 0, .d (.list []), .d (.int t)]) := fun _ => rfl
      simp [m__law_draw, b__law_draw, start0, ne, z0, z1, s1, sn, m1, m2, m3, m4, a1, a2, a3, a4, k1, ← ev]
    | cons c sm =>
      have sn : ∀ S, oEqS true (.d (.list ((c :: sm).map .int))) (.d (.list [])) S = .ok (.d (.bool true)) S := fun S => small_ne (c :: sm) S
      have b0 := Int.emod_nonneg t (show ((c :: sm).length : Int) ≠ 0 by simp only [List.length_cons]; omega)
      have b1 := Int.emod_lt_of_pos t (show (0 : Int) < (c :: sm).length by simp)
      have a5 : modC t ((c :: sm).length : Int) = true := modC_of (by simp)
      obtain ⟨d, hd, hm'⟩ := atI_in (xs := (c :: sm).map PyData.int) b0 (by rw [List.length_map]; exact b1)
      obtain ⟨x, hx, rfl⟩ := List.mem_map.mp hm'
      have hx' := h.sb x hx
      obtain ⟨v, m1, m4, ev⟩ := fin x hx'.1 hx'.2
      rw [Bool.and_eq_true, Bool.and_eq_true] at m1
      obtain ⟨m1, m2, m3⟩ := m1
      refine ⟨v, DQ [] (c :: sm) (t + 1) R, ?_, by rw [ev]; exact Int.emod_nonneg _ (by omega), by rw [ev]; exact Int.emod_lt_of_pos _ hm, [], c :: sm, t + 1, rfl, kq⟩
      have ll : ((c :: sm).map PyData.int).length = (c :: sm).length := List.length_map ..
      generalize c :: sm = sm' at ne z0 sn a5 hd ll ⊢
      simp [m__law_draw, b__law_draw, start0, ne, z0, sn, m1, m2, m3, m4, a1, a2, a3, a4, a5, hd, k1, ← ev]
theorem draw_ok {n : Nat} {S : List Ob} (hS : Dq (n + 1) S) {many : Int} (hm : 0 < many) (hm2 : many < 2 ^ 8000) : ∃ v S', m__law_draw [.ref 1, .d (.int many)] S = .ok (.w (.d (.int v))) S' ∧ 0 ≤ v ∧ v < many ∧ Dq n S' := by
  obtain ⟨R, h⟩ := hS
  obtain ⟨v, S', e, a, b, d⟩ := drawR_ok h hm hm2
  exact ⟨v, S', e, a, b, R, d⟩
end L2.Q.P
namespace L2.Q.P
open PySem PySem.Spec PyProof.Rows
/-! lists: places, cuts, ranges -/
theorem at_mem {α : Type} {xs : List α} {v : Int} (h0 : 0 ≤ v) (h1 : v < xs.length) : ∃ d, atI xs v = some d ∧ d ∈ xs := by
  have hk : v.toNat < xs.length := by omega
  have := atI_nat (List.getElem?_eq_getElem hk)
  rw [show ((v.toNat : Nat) : Int) = v by omega] at this
  exact ⟨_, this, List.getElem_mem hk⟩
theorem cut_len {α : Type} (xs : List α) (lo hi : Option Int) : (cut xs lo hi).length ≤ xs.length := by unfold cut; simp; omega
theorem addT_ok {xs ys : List PyData} {S : List Ob} (h : xs.length + ys.length ≤ 16777216) : oAddA (.d (.tuple xs)) (.d (.tuple ys)) S = .ok (.d (.tuple (xs ++ ys))) S := by rw [e_addT, if_pos h]
theorem str_eq (s : Str) (S : List Ob) (h : SeqAt.shaped (.str s) = true) : oEqS false (.d (.str s)) (.d (.str s)) S = .ok (.d (.bool true)) S := by
  rw [e_eqD false _ _ h h]
  have : PyData.eqv (.str s) (.str s) = true := by simp [PyData.eqv]
  rw [this]; rfl
theorem str_ne (s : Str) (S : List Ob) (h : SeqAt.shaped (.str s) = true) : oEqS true (.d (.str s)) (.d (.str s)) S = .ok (.d (.bool false)) S := by
  rw [e_eqD true _ _ h h]
  have : PyData.eqv (.str s) (.str s) = true := by simp [PyData.eqv]
  rw [this]; rfl
theorem rngL_cons (a : Int) (n : Nat) : rngL a (n + 1) = .d (.int a) :: rngL (a + 1) n := by
  unfold rngL
  rw [List.range_succ_eq_map, List.map_cons, List.map_map]
  congr 1
  · simp
  · apply List.map_congr_left
    intro i _
    simp only [Function.comp, Nat.succ_eq_add_one]
    congr 2
    omega
theorem p8000 {i : Int} (h : i ≤ 16777216) : i < 2 ^ 8000 := by
  have h1 : (2 : Int) ^ 25 ≤ 2 ^ 8000 := by exact_mod_cast Nat.pow_le_pow_right (by omega) (by omega)
  have h2 : (16777216 : Int) < 2 ^ 25 := by decide
  omega
end L2.Q.P
namespace L2.Q.P
open PySem PySem.Spec PyProof.Rows
theorem source_ok (ns : List Int) (hl : ns.length ≤ 63) : ∃ g sm, m__law_source [.d (.list (ns.map .int))] [] = .ok (.own (.lst [.ref 0, .d (.list (sm.map .int)), .d (.int 0)])) [.lst (g.map fun i => .d (.int i))] ∧ DqOk g sm 0 (2 ^ 40) := by
  have hc : cut (ns.map PyData.int) none (some 63) = ns.map .int := by
    unfold cut
    have : HT.sIx (ns.map PyData.int).length (ns.map PyData.int).length (some 63) = (ns.map PyData.int).length := by
      have := HT.sIx_nat (ns.map PyData.int).length (ns.map PyData.int).length 63
      rw [show ((63 : Nat) : Int) = 63 from rfl] at this
      rw [this]; simp; omega
    rw [this, HT.sIx_none]
    simp
    exact List.take_of_length_le (by simp)
  let cs := ns.map fun z => z % 10 ^ 60
  have cb : ∀ x ∈ cs, 0 ≤ x ∧ x < 10 ^ 60 := fun x hx => by
    obtain ⟨z, _, rfl⟩ := List.mem_map.mp hx
    exact ⟨Int.emod_nonneg _ (by decide), Int.emod_lt_of_pos _ (by decide)⟩
  have cl : cs.length = ns.length := by simp [cs]
  let W0 : W := .d (.list (ns.map .int))
  have st : start0 5 [W0] = [.w W0, .un, .un, .un, .un] := rfl
  have lc := lc_pure (gN 4) (fun _ S => .ok true S) e__law_source_0 [.w W0, .un, .un, .un, .un] [] (fun _ => true) (fun x => match x with | .d (.int z) => .d (.int (z % 10 ^ 60)) | x => x) ((ns.map PyData.int).map .d) fun x hx => by
    obtain ⟨d, hd, rfl⟩ := List.mem_map.mp hx
    obtain ⟨z, _, rfl⟩ := List.mem_map.mp hd
    have km : modC z 1000000000000000000000000000000000000000000000000000000000000 = true := modC_of (by decide)
    exact ⟨_, rfl, rfl, fun _ => by simp [e__law_source_0, pow60, km]⟩
  rw [List.filter_eq_self.mpr (fun _ _ => rfl), List.map_map, List.map_map] at lc
  have lc : lcL (gN 4) (fun _ S => .ok true S) e__law_source_0 [.w W0, .un, .un, .un, .un] ((ns.map PyData.int).map .d) [] = .ok (cs.map fun i => .d (.int i)) [] := by
    rw [List.map_map]
    refine lc.trans ?_
    show _ = Res.ok ((ns.map fun z => z % 10 ^ 60).map fun i => W.d (.int i)) []
    rw [List.map_map]
    rfl
  have x0 : fSetO 1 (fLc (fIt (fCut (fVar 0) fNoP (fP (fC (.int 63))))) [4] (gN 4) (fun _ S => .ok true S) e__law_source_0) [.w W0, .un, .un, .un, .un] [] = .nx [.w W0, .own (.lst (cs.map fun i => .d (.int i))), .un, .un, .un] [] := by
    have src : fIt (fCut (fVar 0) fNoP (fP (fC (.int 63)))) [.w W0, .un, .un, .un, .un] [] = .ok ((ns.map PyData.int).map .d) [] := by simp [W0, hc]
    rw [e_SetO, e_Lc _ _ _ src rfl, show unset [Sl.w W0, .un, .un, .un, .un] [4] = [.w W0, .un, .un, .un, .un] from rfl, lc]
    rfl
  let C : W := .d (.list (cs.map .int))
  have sel : ∀ (t : FB) (fe : FE) (p : Int → Bool) (g3 : Sl) (g2 : Sl) (S : List Ob), (∀ z : Int, ∀ ρ S, ρ[4]? = some (.w (.d (.int z))) → t ρ S = .ok (p z) S ∧ fe ρ S = .ok (.d (.int z)) S) → lcL (gN 4) t fe [.w W0, .w C, g2, g3, .un] (cs.map fun i => .d (.int i)) S = .ok ((cs.filter p).map fun i => .d (.int i)) S := fun t fe p g3 g2 S h => by
    exact lc_sel (gN 4) t fe [.w W0, .w C, g2, g3, .un] S (fun z : Int => .d (.int z)) p (fun z => .d (.int z)) cs fun z _ => ⟨[.w W0, .w C, g2, g3, .w (.d (.int z))], rfl, (h z _ S rfl).1, fun _ => (h z _ S rfl).2⟩
  have l1 := sel t__law_source_0 e__law_source_1 (fun z => decide (10 ^ 18 ≤ z)) .un .un [] fun z ρ S h => ⟨by simp [t__law_source_0, h, pow18], by simp [e__law_source_1, h]⟩
  have l2 := sel t__law_source_1 e__law_source_2 (fun z => decide (z < 10 ^ 18)) .un (.w (.ref 0)) [.lst ((cs.filter fun z => decide (10 ^ 18 ≤ z)).map fun i => .d (.int i))] fun z ρ S h => ⟨by simp [t__law_source_1, h, pow18], by simp [e__law_source_2, h]⟩
  have src2 : ∀ (g2 g3 : Sl) S, fIt (fVar 1) [.w W0, .w C, g2, g3, .un] S = .ok (cs.map fun i => .d (.int i)) S := fun g2 g3 S => by
    show (Res.ok ((cs.map PyData.int).map W.d) S) = _
    rw [List.map_map]; rfl
  have fz : frz (.lst (cs.map fun i => .d (.int i))) = some C := by
    rw [e_frz, dats_ints]; rfl
  have x1 : fFrz 1 (fSet 2 (fSto (fLc (fIt (fVar 1)) [4] (gN 4) t__law_source_0 e__law_source_1))) [.w W0, .own (.lst (cs.map fun i => .d (.int i))), .un, .un, .un] [] = .nx [.w W0, .w C, .w (.ref 0), .un, .un] [.lst ((cs.filter fun z => decide (10 ^ 18 ≤ z)).map fun i => .d (.int i))] := by
    rw [e_Frz]
    simp only [List.getElem?_cons_succ, List.getElem?_cons_zero, fz, List.set_cons_succ, List.set_cons_zero]
    rw [e_Set, show fSto (fLc (fIt (fVar 1)) [4] (gN 4) t__law_source_0 e__law_source_1) [.w W0, .w C, .un, .un, .un] [] = (fLc (fIt (fVar 1)) [4] (gN 4) t__law_source_0 e__law_source_1 [.w W0, .w C, .un, .un, .un] []).bind fun o S1 => .ok (.ref S1.length) (S1 ++ [o]) from rfl]
    rw [e_Lc _ _ _ (src2 .un .un []) rfl, show unset [Sl.w W0, .w C, .un, .un, .un] [4] = [.w W0, .w C, .un, .un, .un] from rfl, l1]
    rfl
  have x2 : fFrz 1 (fSetO 3 (fLc (fIt (fVar 1)) [4] (gN 4) t__law_source_1 e__law_source_2)) [.w W0, .w C, .w (.ref 0), .un, .un] [.lst ((cs.filter fun z => decide (10 ^ 18 ≤ z)).map fun i => .d (.int i))] = .nx [.w W0, .w C, .w (.ref 0), .own (.lst ((cs.filter fun z => decide (z < 10 ^ 18)).map fun i => .d (.int i))), .un] [.lst ((cs.filter fun z => decide (10 ^ 18 ≤ z)).map fun i => .d (.int i))] := by
    rw [e_Frz]
    simp only [List.getElem?_cons_succ, List.getElem?_cons_zero]
    rw [e_SetO, e_Lc _ _ _ (src2 _ _ _) rfl, show unset [Sl.w W0, .w C, .w (.ref 0), .un, .un] [4] = [.w W0, .w C, .w (.ref 0), .un, .un] from rfl, l2]
    rfl
  refine ⟨cs.filter fun z => decide (10 ^ 18 ≤ z), cs.filter fun z => decide (z < 10 ^ 18), ?_, ⟨?_, fun x hx => cb x (List.mem_filter.mp hx).1, ?_, fun x hx => ⟨(cb x (List.mem_filter.mp hx).1).1, of_decide_eq_true (List.mem_filter.mp hx).2⟩, by omega, by omega⟩⟩
  · unfold m__law_source b__law_source
    rw [e_runF, st, e_Seq, x0, e_thenN, e_Seq, x1, e_thenN, e_Seq, x2, e_thenN]
    have fz2 : frz (.lst ((cs.filter fun z => decide (z < 10 ^ 18)).map fun i => .d (.int i))) = some (.d (.list ((cs.filter fun z => decide (z < 10 ^ 18)).map .int))) := by
      rw [e_frz, dats_ints]; rfl
    rw [e_Frz]
    simp only [List.getElem?_cons_succ, List.getElem?_cons_zero, fz2, List.set_cons_succ, List.set_cons_zero]
    rfl
  · exact Nat.le_trans (List.length_filter_le _ _) (by omega)
  · exact Nat.le_trans (List.length_filter_le _ _) (by omega)
end L2.Q.P
namespace L2.Q.P
open PySem PySem.Spec PyProof.Rows
theorem lc_drawnS {α : Type} (D : α → W) (P : α → Prop) (fe : FE) (ρ : List Sl) (i c : Nat) (he : ∀ w S n, Dq (n + c) S → ∃ a S', fe (ρ.set i (.w w)) S = .ok (D a) S' ∧ P a ∧ Dq n S') :
    ∀ (xs : List W) (S : List Ob) (n : Nat), Dq (n + c * xs.length) S → ∃ (as : List α) (S' : List Ob), lcL (gN i) (fun _ S => .ok true S) fe ρ xs S = .ok (as.map D) S' ∧ (∀ a ∈ as, P a) ∧ as.length = xs.length ∧ Dq n S'
  | [], S, n, hS => ⟨[], S, rfl, by simp, rfl, hS.le (by simp)⟩
  | w :: r, S, n, hS => by
    obtain ⟨a, S1, e, ha, d1⟩ := he w S (n + c * r.length) (hS.le (by rw [List.length_cons, Nat.mul_succ]; omega))
    obtain ⟨as, S2, e2, h2, l2, d2⟩ := lc_drawnS D P fe ρ i c he r S1 n d1
    refine ⟨a :: as, S2, ?_, ?_, by simp [l2], d2⟩
    · unfold lcL
      simp only [e_gN, if_true, e, e_ok, e2, List.map_cons]
    · intro x hx
      rcases List.mem_cons.mp hx with rfl | hx
      · exact ha
      · exact h2 x hx
end L2.Q.P
namespace L2.Q.P
open PySem PySem.Spec PyProof.Rows
/-! drawn parts -/
structure Pg (n : Int) (dp : Nat) (B : Int) (p : PyData) : Prop where
  sh : shp (1 + 3 * dp) p
  ct : ∀ r, dp + 1 ≤ r → (cntF n r p : Int) ≤ B
theorem Pg.le {n : Int} {dp dp' : Nat} {B B' : Int} {p : PyData} (h : Pg n dp B p) (l : dp ≤ dp') (m : B ≤ B') : Pg n dp' B' p := ⟨shp_mono h.sh (by omega), fun r hr => Int.le_trans (h.ct r (by omega)) m⟩
def cst : Nat → Nat
  | 0 => 3
  | d + 1 => 3 * cst d + 12
theorem cst_pos (d : Nat) : 3 ≤ cst d := by
  induction d with
  | zero => decide
  | succ d ih => unfold cst; omega
def shB2 (d : PyData) : Bool := PyData.canLay0 d && decide (PyData.depth d = 0)
theorem words_shp : ∀ w ∈ (["true", "false", "name", "not", "implies", "iff", "and", "or", "atleast", "sum"] : List Str), ∀ k, shp k (.str w) := by
  have : (["true", "false", "name", "not", "implies", "iff", "and", "or", "atleast", "sum"] : List Str).all (fun w => PyData.canLay0 (.str w)) = true := by decide +kernel
  intro w hw k
  exact ⟨List.all_eq_true.mp this w hw, Nat.zero_le _⟩
theorem leaf_kids (n : Int) (r : Nat) (p : PyData) (h : kids n p = some []) (hr : 1 ≤ r) : cntF n r p = 1 := by
  cases r with
  | zero => omega
  | succ r =>
    show (match kids n p with | none => 99 | some ds => 1 + (ds.map (cntF n r)).sum) = 1
    rw [h]; rfl
theorem leaf_ok {n : Int} (h1 : 1 ≤ n) (h2 : n ≤ 10) {k : Nat} {S : List Ob} (hS : Dq (k + 2) S) : ∃ p S', m__law_leaf [.ref 1, .d (.int n)] S = .ok (.w (.d p)) S' ∧ Pg n 0 1 p ∧ Dq k S' := by
  obtain ⟨kd, S1, e1, a1, b1, d1⟩ := draw_ok (n := k + 1) hS (many := 10) (by omega) (by omega)
  have lf : ∀ p, shp 1 p → kids n p = some [] → Pg n 0 1 p := fun p hs hk => ⟨hs, fun r hr => by rw [leaf_kids n r p hk (by omega)]; omega⟩
  by_cases q : kd < 2
  · by_cases q0 : kd = 0
    · subst q0
      exact ⟨.tuple [.str "true"], S1, by simp [m__law_leaf, b__law_leaf, start0, e1], lf _ (shp_tup fun d hd => by simp at hd; subst hd; exact words_shp _ (by simp) _) (by unfold kids; simp), d1.le (by omega)⟩
    · exact ⟨.tuple [.str "false"], S1, by simp [m__law_leaf, b__law_leaf, start0, e1, q, q0], lf _ (shp_tup fun d hd => by simp at hd; subst hd; exact words_shp _ (by simp) _) (by unfold kids; simp), d1.le (by omega)⟩
  · obtain ⟨v, S2, e2, a2, b2, d2⟩ := draw_ok d1 (many := n) (by omega) (by omega)
    have hb : inB (.int v) 0 (n - 1) = true := by simp [inB]; omega
    have nt : ¬ (("name" : Str) = "true" ∨ ("name" : Str) = "false") := by decide +kernel
    exact ⟨.tuple [.str "name", .int v], S2, by simp [m__law_leaf, b__law_leaf, start0, e1, q, e2], lf _ (shp_tup fun d hd => by
      simp only [List.mem_cons, List.not_mem_nil, or_false] at hd
      rcases hd with rfl | rfl
      · exact words_shp _ (by simp) _
      · exact shp_int _ _) (by unfold kids; dsimp only; rw [if_neg nt, if_pos rfl, hb]; rfl), d2⟩
theorem number_ok {k : Nat} {S : List Ob} (hS : Dq (k + 2) S) : ∃ v S', m__law_number [.ref 1] S = .ok (.w (.d (.int v))) S' ∧ -1000 ≤ v ∧ v ≤ 1000 ∧ Dq k S' := by
  obtain ⟨q, S1, e1, a1, b1, d1⟩ := draw_ok (n := k + 1) hS (many := 6) (by omega) (by omega)
  by_cases h : q = 0
  · subst h
    obtain ⟨v, S2, e2, a2, b2, d2⟩ := draw_ok d1 (many := 2001) (by omega) (by omega)
    exact ⟨v - 1000, S2, by simp [m__law_number, b__law_number, start0, e1, e2], by omega, by omega, d2⟩
  · obtain ⟨v, S2, e2, a2, b2, d2⟩ := draw_ok d1 (many := 9) (by omega) (by omega)
    exact ⟨v - 4, S2, by simp [m__law_number, b__law_number, start0, e1, h, e2], by omega, by omega, d2⟩
theorem kids_not (n : Int) (p : PyData) : kids n (.tuple [.str "not", p]) = some [p] := by
  have a : ¬ (("not" : Str) = "true" ∨ ("not" : Str) = "false") := by decide +kernel
  have b : ¬ (("not" : Str) = "name") := by decide +kernel
  unfold kids; dsimp only; rw [if_neg a, if_neg b, if_pos rfl]
theorem kids_imp (n : Int) (w : Str) (hw : w = "implies" ∨ w = "iff") (p q : PyData) : kids n (.tuple [.str w, p, q]) = some [p, q] := by
  have a : ¬ (w = "true" ∨ w = "false") := by rcases hw with rfl | rfl <;> decide +kernel
  have b : ¬ (w = "name") := by rcases hw with rfl | rfl <;> decide +kernel
  have c : ¬ (w = "not") := by rcases hw with rfl | rfl <;> decide +kernel
  unfold kids; dsimp only; rw [if_neg a, if_neg b, if_neg c, if_pos hw]
theorem kids_and (n : Int) (w : Str) (hw : w = "and" ∨ w = "or") (xs : List PyData) : kids n (.tuple [.str w, .tuple xs]) = some xs := by
  have a : ¬ (w = "true" ∨ w = "false") := by rcases hw with rfl | rfl <;> decide +kernel
  have b : ¬ (w = "name") := by rcases hw with rfl | rfl <;> decide +kernel
  have c : ¬ (w = "not") := by rcases hw with rfl | rfl <;> decide +kernel
  have d : ¬ (w = "implies" ∨ w = "iff") := by rcases hw with rfl | rfl <;> decide +kernel
  unfold kids; dsimp only; rw [if_neg a, if_neg b, if_neg c, if_neg d, if_pos hw]
theorem kids_least (n v : Int) (h0 : -100 ≤ v) (h1 : v ≤ 100) (xs : List PyData) : kids n (.tuple [.str "atleast", .int v, .tuple xs]) = some xs := by
  have a : ¬ (("atleast" : Str) = "true" ∨ ("atleast" : Str) = "false") := by decide +kernel
  have b : ¬ (("atleast" : Str) = "name") := by decide +kernel
  have c : ¬ (("atleast" : Str) = "not") := by decide +kernel
  have d : ¬ (("atleast" : Str) = "implies" ∨ ("atleast" : Str) = "iff") := by decide +kernel
  have e : ¬ (("atleast" : Str) = "and" ∨ ("atleast" : Str) = "or") := by decide +kernel
  have f : inB (.int v) (-100) 100 = true := by simp [inB]; omega
  unfold kids; dsimp only; rw [if_neg a, if_neg b, if_neg c, if_neg d, if_neg e, if_pos rfl, f]; rfl
def itD (x : PyData × Int) : PyData := .tuple [x.1, .int x.2]
theorem wt_it {x : PyData × Int} (h0 : -1000 ≤ x.2) (h1 : x.2 ≤ 1000) : wtB (itD x) = true := by
  unfold wtB itD
  simp [rowB, inB]
  omega
theorem kids_sum (n v : Int) (h0 : -1000 ≤ v) (h1 : v ≤ 1000) (xs : List (PyData × Int)) (hx : ∀ x ∈ xs, -1000 ≤ x.2 ∧ x.2 ≤ 1000) : kids n (.tuple [.str "sum", .tuple (xs.map itD), .int v]) = some (xs.map (·.1)) := by
  have a : ¬ (("sum" : Str) = "true" ∨ ("sum" : Str) = "false") := by decide +kernel
  have b : ¬ (("sum" : Str) = "name") := by decide +kernel
  have c : ¬ (("sum" : Str) = "not") := by decide +kernel
  have d : ¬ (("sum" : Str) = "implies" ∨ ("sum" : Str) = "iff") := by decide +kernel
  have e : ¬ (("sum" : Str) = "and" ∨ ("sum" : Str) = "or") := by decide +kernel
  have f : ¬ (("sum" : Str) = "atleast") := by decide +kernel
  have g : inB (.int v) (-1000) 1000 = true := by simp [inB]; omega
  have w : (xs.map itD).all wtB = true := by
    rw [List.all_map, List.all_eq_true]
    exact fun x h => wt_it (hx x h).1 (hx x h).2
  have z : (xs.map itD).map fstD = xs.map (·.1) := by rw [List.map_map]; rfl
  unfold kids; dsimp only; rw [if_neg a, if_neg b, if_neg c, if_neg d, if_neg e, if_neg f, if_pos rfl, g, w, z]; rfl
theorem Pg.of {n : Int} {dp : Nat} {B C : Int} {p : PyData} {ds : List PyData} (hk : kids n p = some ds) (hp : ∀ d ∈ ds, Pg n dp C d) (hs : shp (1 + 3 * (dp + 1)) p) (hB : 1 + ds.length * C ≤ B) : Pg n (dp + 1) B p := by
  refine ⟨hs, fun r hr => ?_⟩
  obtain ⟨r, rfl⟩ : ∃ q, r = q + 1 := ⟨r - 1, by omega⟩
  have e : cntF n (r + 1) p = 1 + (ds.map (cntF n r)).sum := by
    show (match kids n p with | none => 99 | some ds => 1 + (ds.map (cntF n r)).sum) = _
    rw [hk]
  have go : ∀ ds : List PyData, (∀ d ∈ ds, Pg n dp C d) → (((ds.map (cntF n r)).sum : Nat) : Int) ≤ ds.length * C := fun ds h => by
    induction ds with
    | nil => simp
    | cons d t ih =>
      have := ih fun x hx => h x (List.mem_cons_of_mem _ hx)
      have := (h d (List.mem_cons_self ..)).ct r (by omega)
      rw [List.map_cons, List.sum_cons, List.length_cons, Int.natCast_add, Int.natCast_add, Int.add_mul]
      omega
  have := go ds hp
  rw [e]
  omega
theorem tup_sh {k : Nat} {ds : List PyData} (h : ∀ d ∈ ds, shp k d) : shp (k + 1) (.tuple ds) := shp_tup h
theorem two_sh {k : Nat} {w : Str} (hw : w ∈ (["true", "false", "name", "not", "implies", "iff", "and", "or", "atleast", "sum"] : List Str)) {ds : List PyData} (h : ∀ d ∈ ds, shp k d) : shp (k + 1) (.tuple (.str w :: ds)) := shp_tup fun d hd => by
  rcases List.mem_cons.mp hd with rfl | hd
  · exact words_shp _ hw _
  · exact h d hd
theorem div_le {b v : Int} (hb : 0 ≤ b) (hv : 1 ≤ v) : v * (b / v) ≤ b := Int.mul_ediv_self_le (by omega)
/-- what is told of a drawn part of so much depth -/
def PartOk (n : Int) (dp f : Nat) : Prop := ∀ (b : Int) (k : Nat) (S : List Ob), 0 ≤ b → b ≤ 100 → Dq (k + cst dp) S →
    ∃ p S', mr__law_part f [.ref 1, .d (.int n), .d (.int dp), .d (.int b)] S = .ok (.w (.d p)) S' ∧ Pg n dp (if b < 1 then 1 else b) p ∧ Dq k S'
theorem br_leaf {n : Int} (h1 : 1 ≤ n) (h2 : n ≤ 10) {f k : Nat} {D b kd : Int} (hl : D = 0 ∨ b < 3 ∨ kd < 2) {S : List Ob} (hS : Dq (k + 2) S) : ∃ p S', (fIfS (fOr (fT (fBin (oEqS false) (fVar 2) (fC (.int 0)))) (fOr (fT (fBin oLt (fVar 3) (fC (.int 3)))) (fT (fBin oLt (fVar 4) (fC (.int 2)))))) (fRet (fCall m__law_leaf (fCons (fVar 0) (fCons (fVar 1) fNil)))) fNx) [.w (.ref 1), .w (.d (.int n)), .w (.d (.int D)), .w (.d (.int b)), .w (.d (.int kd)), .un, .un, .un, .un, .un, .un] S = .rt (.w (.d p)) S' ∧ Pg n 0 1 p ∧ Dq k S' := by
  obtain ⟨p, S2, e2, hp, d2⟩ := leaf_ok h1 h2 hS
  refine ⟨p, S2, ?_, hp, d2⟩
  by_cases q1 : D = 0
  · simp [q1, e2]
  · by_cases q2 : b < 3
    · simp [q1, q2, e2]
    · have q3 : kd < 2 := by omega
      simp [q1, q2, q3, e2]
theorem br_not {n : Int} {q f : Nat} (hp : PartOk n q f) {k : Nat} {D b : Int} (hD : D - 1 = q) (hb : 3 ≤ b) (hb2 : b ≤ 100) {S : List Ob} (hS : Dq (k + cst q) S) : ∃ p S', (fIfS (fT (fBin (oEqS false) (fVar 4) (fC (.int 2)))) (fRet (fTup (fCons (fC (.str "not")) (fCons (fCall (mr__law_part f) (fCons (fVar 0) (fCons (fVar 1) (fCons (fBin oSub (fVar 2) (fC (.int 1))) (fCons (fBin oSub (fVar 3) (fC (.int 1))) fNil))))) fNil)))) fNx) [.w (.ref 1), .w (.d (.int n)), .w (.d (.int D)), .w (.d (.int b)), .w (.d (.int 2)), .un, .un, .un, .un, .un, .un] S = .rt (.w (.d p)) S' ∧ Pg n (q + 1) b p ∧ Dq k S' := by
  obtain ⟨p, S2, e, g, d⟩ := hp (b - 1) k S (by omega) (by omega) hS
  rw [if_neg (by omega)] at g
  refine ⟨.tuple [.str "not", p], S2, by simp [hD, e], Pg.of (ds := [p]) (C := b - 1) (kids_not n p) (fun d hd => by simp at hd; subst hd; exact g) ?_ (by simp; omega), d⟩
  exact two_sh (k := 3 + 3 * q) (by simp) (fun d hd => by simp at hd; subst hd; exact shp_mono g.sh (by omega)) |> (fun h => shp_mono h (by omega))
theorem br_imp {n : Int} {q f : Nat} (hp : PartOk n q f) {k : Nat} {D b kd : Int} (hD : D - 1 = q) (hb : 3 ≤ b) (hb2 : b ≤ 100) (k2 : 2 < kd) (k5 : kd < 5) {S : List Ob} (hS : Dq (k + cst q + cst q) S) : ∃ p S', (fIfS (fT (fBin oLt (fVar 4) (fC (.int 5)))) (fSeq (fSet 5 (fCall (mr__law_part f) (fCons (fVar 0) (fCons (fVar 1) (fCons (fBin oSub (fVar 2) (fC (.int 1))) (fCons (fBin oDiv (fBin oSub (fVar 3) (fC (.int 1))) (fC (.int 2))) fNil)))))) (fSeq (fSet 6 (fCall (mr__law_part f) (fCons (fVar 0) (fCons (fVar 1) (fCons (fBin oSub (fVar 2) (fC (.int 1))) (fCons (fBin oDiv (fBin oSub (fVar 3) (fC (.int 1))) (fC (.int 2))) fNil)))))) (fRet (fTup (fCons (fIf (fT (fBin (oEqS false) (fVar 4) (fC (.int 3)))) (fC (.str "implies")) (fC (.str "iff"))) (fCons (fVar 5) (fCons (fVar 6) fNil))))))) fNx) [.w (.ref 1), .w (.d (.int n)), .w (.d (.int D)), .w (.d (.int b)), .w (.d (.int kd)), .un, .un, .un, .un, .un, .un] S = .rt (.w (.d p)) S' ∧ Pg n (q + 1) b p ∧ Dq k S' := by
  have dv : divC (b - 1) 2 = true := divC_of (by omega) (by omega)
  obtain ⟨p1, S1, e1, g1, d1⟩ := hp ((b - 1) / 2) (k + cst q) S (by omega) (by omega) hS
  obtain ⟨p2, S2, e2, g2, d2⟩ := hp ((b - 1) / 2) k S1 (by omega) (by omega) d1
  rw [if_neg (by omega)] at g1 g2
  have fin : ∀ w : Str, w = "implies" ∨ w = "iff" → Pg n (q + 1) b (.tuple [.str w, p1, p2]) := fun w hw => by
    refine Pg.of (ds := [p1, p2]) (C := (b - 1) / 2) (kids_imp n w hw p1 p2) (fun d hd => by
      simp only [List.mem_cons, List.not_mem_nil, or_false] at hd
      rcases hd with rfl | rfl
      · exact g1
      · exact g2) ?_ (by simp only [List.length_cons, List.length_nil]; omega)
    exact two_sh (k := 3 + 3 * q) (by rcases hw with rfl | rfl <;> simp) (fun d hd => by
      simp only [List.mem_cons, List.not_mem_nil, or_false] at hd
      rcases hd with rfl | rfl
      · exact shp_mono g1.sh (by omega)
      · exact shp_mono g2.sh (by omega)) |> (fun h => shp_mono h (by omega))
  by_cases q3 : kd = 3
  · exact ⟨_, S2, by simp [q3, hD, dv, e1, e2], fin "implies" (Or.inl rfl), d2⟩
  · exact ⟨_, S2, by simp [q3, k5, hD, dv, e1, e2], fin "iff" (Or.inr rfl), d2⟩
theorem many_ok {n : Int} {q f : Nat} (hp : PartOk n q f) {k : Nat} {D b kd : Int} (hD : D - 1 = q) (hb : 3 ≤ b) (hb2 : b ≤ 100) {c : Nat} (hc : c ≤ 3) (hcb : (c : Int) ≤ b - 1) {S : List Ob} (hS : Dq (k + 3 * cst q) S) :
    ∃ (ps : List PyData) (S' : List Ob), (fSetO 8 (fLc (fRng1 (fVar 7)) [9] (gN 9) (fun _ S => .ok true S) (e__law_part_0 (mr__law_part f)))) [.w (.ref 1), .w (.d (.int n)), .w (.d (.int D)), .w (.d (.int b)), .w (.d (.int kd)), .un, .un, .w (.d (.int (c : Int))), .un, .un, .un] S = .nx [.w (.ref 1), .w (.d (.int n)), .w (.d (.int D)), .w (.d (.int b)), .w (.d (.int kd)), .un, .un, .w (.d (.int (c : Int))), .own (.lst (ps.map .d)), .un, .un] S' ∧ ps.length = c ∧ (∀ p ∈ ps, Pg n q (if c = 0 then 0 else (b - 1) / c) p) ∧ Dq k S' := by
  have hm : (if 1 < (c : Int) then (c : Int) else 1) = (if c = 0 then (1 : Int) else (c : Int)) := by split <;> split <;> omega
  have dv : divC (b - 1) (if c = 0 then (1 : Int) else (c : Int)) = true := divC_of (by split <;> omega) (p8000 (by split <;> omega))
  obtain ⟨ps, S1, e1, hg, hl, d1⟩ := lc_drawnS (fun p : PyData => W.d p) (Pg n q (if c = 0 then (b - 1) else (b - 1) / c)) (e__law_part_0 (mr__law_part f)) [.w (.ref 1), .w (.d (.int n)), .w (.d (.int D)), .w (.d (.int b)), .w (.d (.int kd)), .un, .un, .w (.d (.int (c : Int))), .un, .un, .un] 9 (cst q) (fun w S n' hS => by
    have bb : 1 ≤ (if c = 0 then (b - 1) else (b - 1) / c) ∧ (if c = 0 then (b - 1) else (b - 1) / c) ≤ b - 1 := by
      by_cases hc0 : c = 0
      · rw [if_pos hc0]; omega
      · rw [if_neg hc0]
        constructor
        · exact (Int.le_ediv_iff_mul_le (by omega)).mpr (by omega)
        · exact Int.ediv_le_self _ (by omega)
    have eb : (b - 1) / (if c = 0 then (1 : Int) else (c : Int)) = if c = 0 then (b - 1) else (b - 1) / c := by split <;> simp
    generalize (if c = 0 then (b - 1) else (b - 1) / c) = C' at bb eb ⊢
    obtain ⟨p, S2, e, g, d⟩ := hp C' n' S (by omega) (by omega) hS
    rw [if_neg (by omega)] at g
    refine ⟨p, S2, ?_, g, d⟩
    generalize (if c = 0 then (1 : Int) else (c : Int)) = M at dv hm eb
    simp [e__law_part_0, hD, hm, dv, eb, e]) (rngL 0 c) S k (hS.le (by rw [rngL, List.length_map, List.length_range, Nat.mul_comm]; have := Nat.mul_le_mul_right (cst q) hc; omega))
  rw [show (rngL 0 c).length = c by simp [rngL]] at hl
  refine ⟨ps, S1, ?_, hl, fun p hpp => ?_, d1⟩
  · have r : fRng1 (fVar 7) [.w (.ref 1), .w (.d (.int n)), .w (.d (.int D)), .w (.d (.int b)), .w (.d (.int kd)), .un, .un, .w (.d (.int (c : Int))), .un, .un, .un] S = .ok (rngL 0 c) S := by
      have h1 : ¬ (16777216 : Int) < c := by omega
      simp only [e_Rng1, e_var, List.getElem?_cons_succ, List.getElem?_cons_zero, e_ok, e_rng1, Int.toNat_natCast]
      rw [if_pos (by omega)]
    rw [e_SetO, e_Lc (h := r) (ho := rfl)]
    have u : unset [.w (.ref 1), .w (.d (.int n)), .w (.d (.int D)), .w (.d (.int b)), .w (.d (.int kd)), .un, .un, .w (.d (.int (c : Int))), .un, .un, .un] [9] = [.w (.ref 1), .w (.d (.int n)), .w (.d (.int D)), .w (.d (.int b)), .w (.d (.int kd)), .un, .un, .w (.d (.int (c : Int))), .un, .un, .un] := rfl
    rw [u, e1, e_ok, e_flok]
    rfl
  · have h0 : c ≠ 0 := by
      intro h0
      rw [h0] at hl
      rw [List.length_eq_zero_iff.mp hl] at hpp
      simp at hpp
    have := hg p hpp
    rw [if_neg h0] at this ⊢
    exact this
theorem br_and {n : Int} {q f : Nat} {k : Nat} {D b kd : Int} {c : Nat} {ps : List PyData} (hb : 3 ≤ b) (k2 : 4 < kd) (k5 : kd < 7) (hl : ps.length = c) (hcb : (c : Int) ≤ b - 1) (hp : ∀ p ∈ ps, Pg n q (if c = 0 then 0 else (b - 1) / c) p) {S : List Ob} : ∃ p, (fIfS (fT (fBin oLt (fVar 4) (fC (.int 7)))) (fRet (fTup (fCons (fIf (fT (fBin (oEqS false) (fVar 4) (fC (.int 5)))) (fC (.str "and")) (fC (.str "or"))) (fCons (fTupL (fOwn 8)) fNil)))) fNx) [.w (.ref 1), .w (.d (.int n)), .w (.d (.int D)), .w (.d (.int b)), .w (.d (.int kd)), .un, .un, .w (.d (.int (c : Int))), .own (.lst (ps.map .d)), .un, .un] S = .rt (.w (.d p)) S ∧ Pg n (q + 1) b p := by
  have cc : ps.length * (if c = 0 then 0 else (b - 1) / c) ≤ b - 1 := by
    rw [hl]
    split
    · omega
    · exact div_le (by omega) (by omega)
  have hw : ∀ w : Str, w = "and" ∨ w = "or" → Pg n (q + 1) b (.tuple [.str w, .tuple ps]) := fun w hw => by
    refine Pg.of (kids_and n w hw ps) hp ?_ (by omega)
    exact two_sh (k := 3 + 3 * q) (by rcases hw with rfl | rfl <;> simp) (fun d hd => by
      simp only [List.mem_cons, List.not_mem_nil, or_false] at hd
      subst hd
      exact shp_mono (shp_tup fun p h => (hp p h).sh) (by omega)) |> (fun h => shp_mono h (by omega))
  by_cases q3 : kd = 5
  · exact ⟨.tuple [.str "and", .tuple ps], by simp [q3], hw _ (Or.inl rfl)⟩
  · exact ⟨.tuple [.str "or", .tuple ps], by simp [q3, k5], hw _ (Or.inr rfl)⟩
theorem br_least {n : Int} {q f : Nat} {k : Nat} {D b : Int} {c : Nat} (hc3 : c ≤ 3) {ps : List PyData} (hb : 3 ≤ b) (hl : ps.length = c) (hcb : (c : Int) ≤ b - 1) (hp : ∀ p ∈ ps, Pg n q (if c = 0 then 0 else (b - 1) / c) p) {S : List Ob} (hS : Dq (k + 1) S) : ∃ p S', (fIfS (fT (fBin (oEqS false) (fVar 4) (fC (.int 7)))) (fRet (fTup (fCons (fC (.str "atleast")) (fCons (fBin oSub (fCall m__law_draw (fCons (fVar 0) (fCons (fBin oAddA (fVar 7) (fC (.int 3))) fNil))) (fC (.int 1))) (fCons (fTupL (fOwn 8)) fNil))))) fNx) [.w (.ref 1), .w (.d (.int n)), .w (.d (.int D)), .w (.d (.int b)), .w (.d (.int 7)), .un, .un, .w (.d (.int (c : Int))), .own (.lst (ps.map .d)), .un, .un] S = .rt (.w (.d p)) S' ∧ Pg n (q + 1) b p ∧ Dq k S' := by
  have cc : ps.length * (if c = 0 then 0 else (b - 1) / c) ≤ b - 1 := by
    rw [hl]
    split
    · omega
    · exact div_le (by omega) (by omega)
  obtain ⟨v, S1, e1, v0, v1, d1⟩ := draw_ok hS (many := (c : Int) + 3) (by omega) (p8000 (by omega))
  refine ⟨.tuple [.str "atleast", .int (v - 1), .tuple ps], S1, ?_, ?_, d1⟩
  · simp [e1]
  · refine Pg.of (kids_least n (v - 1) (by omega) (by omega) ps) hp ?_ (by omega)
    exact two_sh (k := 3 + 3 * q) (by simp) (fun d hd => by
      simp only [List.mem_cons, List.not_mem_nil, or_false] at hd
      rcases hd with rfl | rfl
      · exact shp_int _ _
      · exact shp_mono (shp_tup fun p h => (hp p h).sh) (by omega)) |> (fun h => shp_mono h (by omega))
/-- parts with numbers -/
theorem items_ok (fe : FE) (ρ : List Sl) (i : Nat) (he : ∀ (p : PyData) S n, Dq (n + 2) S → ∃ v S', fe (ρ.set i (.w (.d p))) S = .ok (.d (.tuple [p, .int v])) S' ∧ (-1000 ≤ v ∧ v ≤ 1000) ∧ Dq n S') :
    ∀ (ps : List PyData) (S : List Ob) (n : Nat), Dq (n + 2 * ps.length) S → ∃ (xs : List (PyData × Int)) (S' : List Ob), lcL (gN i) (fun _ S => .ok true S) fe ρ (ps.map .d) S = .ok ((xs.map itD).map .d) S' ∧ xs.map (·.1) = ps ∧ (∀ x ∈ xs, -1000 ≤ x.2 ∧ x.2 ≤ 1000) ∧ Dq n S'
  | [], S, n, hS => ⟨[], S, rfl, rfl, by simp, hS.le (by simp)⟩
  | p :: r, S, n, hS => by
    obtain ⟨v, S1, e, hv, d1⟩ := he p S (n + 2 * r.length) (hS.le (by rw [List.length_cons, Nat.mul_succ]; omega))
    obtain ⟨xs, S2, e2, hx, h2, d2⟩ := items_ok fe ρ i he r S1 n d1
    refine ⟨(p, v) :: xs, S2, ?_, by simp [hx], ?_, d2⟩
    · rw [List.map_cons]
      unfold lcL
      simp only [e_gN, if_true, e, e_ok, e2, List.map_cons, itD]
    · intro x h
      rcases List.mem_cons.mp h with rfl | h
      · exact hv
      · exact h2 x h
theorem br_sum {n : Int} {q f : Nat} {k : Nat} {D b kd : Int} {c : Nat} (hc3 : c ≤ 3) {ps : List PyData} (hb : 3 ≤ b) (hl : ps.length = c) (hcb : (c : Int) ≤ b - 1) (hp : ∀ p ∈ ps, Pg n q (if c = 0 then 0 else (b - 1) / c) p) {S : List Ob} (hS : Dq (k + 8) S) : ∃ p S', (fFrz 8 (fRet (fTup (fCons (fC (.str "sum")) (fCons (fTupL (fItO (fLc (fIt (fVar 8)) [10] (gN 10) (fun _ S => .ok true S) (e__law_part_1 (mr__law_part f))))) (fCons (fCall m__law_number (fCons (fVar 0) fNil)) fNil)))))) [.w (.ref 1), .w (.d (.int n)), .w (.d (.int D)), .w (.d (.int b)), .w (.d (.int kd)), .un, .un, .w (.d (.int (c : Int))), .own (.lst (ps.map .d)), .un, .un] S = .rt (.w (.d p)) S' ∧ Pg n (q + 1) b p ∧ Dq k S' := by
  have cc : ps.length * (if c = 0 then 0 else (b - 1) / c) ≤ b - 1 := by
    rw [hl]
    split
    · omega
    · exact div_le (by omega) (by omega)
  obtain ⟨xs, S1, e1, hx, hv, d1⟩ := items_ok (e__law_part_1 (mr__law_part f)) [.w (.ref 1), .w (.d (.int n)), .w (.d (.int D)), .w (.d (.int b)), .w (.d (.int kd)), .un, .un, .w (.d (.int (c : Int))), .w (.d (.list ps)), .un, .un] 10 (fun p S n' hS => by
    obtain ⟨v, S2, e, v0, v1, d⟩ := number_ok hS
    exact ⟨v, S2, by simp [e__law_part_1, e], ⟨v0, v1⟩, d⟩) ps S (k + 2) (hS.le (by omega))
  obtain ⟨v, S2, e2, v0, v1, d2⟩ := number_ok d1
  refine ⟨.tuple [.str "sum", .tuple (xs.map itD), .int v], S2, ?_, ?_, d2⟩
  · have l1 : fLc (fIt (fVar 8)) [10] (gN 10) (fun _ S => .ok true S) (e__law_part_1 (mr__law_part f)) [.w (.ref 1), .w (.d (.int n)), .w (.d (.int D)), .w (.d (.int b)), .w (.d (.int kd)), .un, .un, .w (.d (.int (c : Int))), .w (.d (.list ps)), .un, .un] S = .ok (.lst ((xs.map itD).map .d)) S1 := by
      have r : fIt (fVar 8) [.w (.ref 1), .w (.d (.int n)), .w (.d (.int D)), .w (.d (.int b)), .w (.d (.int kd)), .un, .un, .w (.d (.int (c : Int))), .w (.d (.list ps)), .un, .un] S = .ok (ps.map .d) S := rfl
      rw [e_Lc (h := r) (ho := rfl)]
      have u : unset [.w (.ref 1), .w (.d (.int n)), .w (.d (.int D)), .w (.d (.int b)), .w (.d (.int kd)), .un, .un, .w (.d (.int (c : Int))), .w (.d (.list ps)), .un, .un] [10] = [.w (.ref 1), .w (.d (.int n)), .w (.d (.int D)), .w (.d (.int b)), .w (.d (.int kd)), .un, .un, .w (.d (.int (c : Int))), .w (.d (.list ps)), .un, .un] := rfl
      rw [u, e1, e_ok]
    rw [e_Frz]
    have g8 : ([.w (.ref 1), .w (.d (.int n)), .w (.d (.int D)), .w (.d (.int b)), .w (.d (.int kd)), .un, .un, .w (.d (.int (c : Int))), .own (.lst (ps.map .d)), .un, .un] : List Sl)[8]? = some (.own (.lst (ps.map .d))) := rfl
    rw [g8]
    dsimp only
    rw [show frz (.lst (ps.map .d)) = some (.d (.list ps)) by rw [e_frz, dats_map]; rfl]
    dsimp only
    rw [show ([.w (.ref 1), .w (.d (.int n)), .w (.d (.int D)), .w (.d (.int b)), .w (.d (.int kd)), .un, .un, .w (.d (.int (c : Int))), .own (.lst (ps.map .d)), .un, .un] : List Sl).set 8 (.w (.d (.list ps))) = [.w (.ref 1), .w (.d (.int n)), .w (.d (.int D)), .w (.d (.int b)), .w (.d (.int kd)), .un, .un, .w (.d (.int (c : Int))), .w (.d (.list ps)), .un, .un] from rfl]
    have t1 : (fTupL (fItO (fLc (fIt (fVar 8)) [10] (gN 10) (fun _ S => .ok true S) (e__law_part_1 (mr__law_part f))))) [.w (.ref 1), .w (.d (.int n)), .w (.d (.int D)), .w (.d (.int b)), .w (.d (.int kd)), .un, .un, .w (.d (.int (c : Int))), .w (.d (.list ps)), .un, .un] S = .ok (.d (.tuple (xs.map itD))) S1 := by
      rw [e_TupL, e_ItO, l1, e_ok, e_lstOf, e_ok, e_mkTup, dats_map]
    have t2 : fCall m__law_number (fCons (fVar 0) fNil) [.w (.ref 1), .w (.d (.int n)), .w (.d (.int D)), .w (.d (.int b)), .w (.d (.int kd)), .un, .un, .w (.d (.int (c : Int))), .w (.d (.list ps)), .un, .un] S1 = .ok (.d (.int v)) S2 := by
      simp [e2]
    rw [e_Ret, e_Tup, e_Cons, e_c, e_ok, e_Cons, t1, e_ok, e_Cons, t2]
    rfl
  · have hk := kids_sum n v v0 v1 xs hv
    rw [hx] at hk
    refine Pg.of hk hp ?_ (by omega)
    exact two_sh (k := 3 + 3 * q) (by simp) (fun d hd => by
      simp only [List.mem_cons, List.not_mem_nil, or_false] at hd
      rcases hd with rfl | rfl
      · refine shp_mono (shp_tup (k := 2 + 3 * q) fun p h => ?_) (by omega)
        obtain ⟨x, hm, rfl⟩ := List.mem_map.mp h
        have h' : x.1 ∈ ps := by rw [← hx]; exact List.mem_map.mpr ⟨x, hm, rfl⟩
        refine shp_mono (shp_tup (k := 1 + 3 * q) fun d hd => ?_) (by omega)
        simp only [List.mem_cons, List.not_mem_nil, or_false] at hd
        rcases hd with rfl | rfl
        · exact (hp _ h').sh
        · exact shp_int _ _
      · exact shp_int _ _) |> (fun h => shp_mono h (by omega))
theorem part_ok {n : Int} (h1 : 1 ≤ n) (h2 : n ≤ 10) : ∀ (dp fuel : Nat), dp < fuel → PartOk n dp fuel
  | dp, 0, h => by omega
  | dp, f + 1, hf => fun b k S b0 b1 hS => by
    have cp := cst_pos dp
    obtain ⟨kd, S1, e1, k0, k1, d1⟩ := draw_ok (n := k + cst dp - 1) (hS.le (by omega)) (many := 10) (by omega) (by omega)
    obtain ⟨D, hD⟩ : ∃ D : Int, D = (dp : Int) := ⟨_, rfl⟩
    rw [← hD]
    have st : start0 11 [W.ref 1, .d (.int n), .d (.int D), .d (.int b)] = [.w (.ref 1), .w (.d (.int n)), .w (.d (.int D)), .w (.d (.int b)), .un, .un, .un, .un, .un, .un, .un] := rfl
    have x0 : ((fSet 4 (fCall m__law_draw (fCons (fVar 0) (fCons (fC (.int 10)) fNil))))) [.w (.ref 1), .w (.d (.int n)), .w (.d (.int D)), .w (.d (.int b)), .un, .un, .un, .un, .un, .un, .un] S = .nx [.w (.ref 1), .w (.d (.int n)), .w (.d (.int D)), .w (.d (.int b)), .w (.d (.int kd)), .un, .un, .un, .un, .un, .un] S1 := by
      simp [e1]
    show ∃ p S', runF 11 (b__law_part (mr__law_part f)) _ S = _ ∧ _ ∧ _
    unfold b__law_part
    rw [e_runF, st, e_Seq, x0, e_thenN]
    by_cases hleaf : D = 0 ∨ b < 3 ∨ kd < 2
    · obtain ⟨p, S2, e2, hp, d2⟩ := br_leaf (f := f) h1 h2 hleaf (k := k) (d1.le (by omega))
      refine ⟨p, S2, ?_, hp.le (by omega) (by split <;> omega), d2⟩
      rw [e_Seq, e2]; rfl
    · obtain ⟨q, rfl⟩ : ∃ q, dp = q + 1 := ⟨dp - 1, by omega⟩
      have q1 : ¬ D = 0 := by omega
      have q2 : ¬ b < 3 := by omega
      have q3 : ¬ kd < 2 := by omega
      have hc : cst (q + 1) = 3 * cst q + 12 := rfl
      have cq := cst_pos q
      have ed : D - 1 = q := by omega
      have part := part_ok h1 h2 q f (by omega)
      have x1 : ((fIfS (fOr (fT (fBin (oEqS false) (fVar 2) (fC (.int 0)))) (fOr (fT (fBin oLt (fVar 3) (fC (.int 3)))) (fT (fBin oLt (fVar 4) (fC (.int 2)))))) (fRet (fCall m__law_leaf (fCons (fVar 0) (fCons (fVar 1) fNil)))) fNx)) [.w (.ref 1), .w (.d (.int n)), .w (.d (.int D)), .w (.d (.int b)), .w (.d (.int kd)), .un, .un, .un, .un, .un, .un] S1 = .nx [.w (.ref 1), .w (.d (.int n)), .w (.d (.int D)), .w (.d (.int b)), .w (.d (.int kd)), .un, .un, .un, .un, .un, .un] S1 := by simp [q1, q2, q3]
      rw [e_Seq, x1, e_thenN, if_neg (by omega), e_Seq]
      by_cases k2 : kd = 2
      · subst k2
        obtain ⟨p, S2, e2, hp, d2⟩ := br_not part (k := k) ed (by omega) b1 (d1.le (by omega))
        exact ⟨p, S2, by rw [e2]; rfl, hp, d2⟩
      have x2 : ((fIfS (fT (fBin (oEqS false) (fVar 4) (fC (.int 2)))) (fRet (fTup (fCons (fC (.str "not")) (fCons (fCall (mr__law_part f) (fCons (fVar 0) (fCons (fVar 1) (fCons (fBin oSub (fVar 2) (fC (.int 1))) (fCons (fBin oSub (fVar 3) (fC (.int 1))) fNil))))) fNil)))) fNx)) [.w (.ref 1), .w (.d (.int n)), .w (.d (.int D)), .w (.d (.int b)), .w (.d (.int kd)), .un, .un, .un, .un, .un, .un] S1 = .nx [.w (.ref 1), .w (.d (.int n)), .w (.d (.int D)), .w (.d (.int b)), .w (.d (.int kd)), .un, .un, .un, .un, .un, .un] S1 := by simp [k2]
      rw [x2, e_thenN, e_Seq]
      by_cases k5 : kd < 5
      · obtain ⟨p, S2, e2, hp, d2⟩ := br_imp part (k := k) (kd := kd) ed (by omega) b1 (by omega) k5 (d1.le (by omega))
        exact ⟨p, S2, by rw [e2]; rfl, hp, d2⟩
      have x3 : ((fIfS (fT (fBin oLt (fVar 4) (fC (.int 5)))) (fSeq (fSet 5 (fCall (mr__law_part f) (fCons (fVar 0) (fCons (fVar 1) (fCons (fBin oSub (fVar 2) (fC (.int 1))) (fCons (fBin oDiv (fBin oSub (fVar 3) (fC (.int 1))) (fC (.int 2))) fNil)))))) (fSeq (fSet 6 (fCall (mr__law_part f) (fCons (fVar 0) (fCons (fVar 1) (fCons (fBin oSub (fVar 2) (fC (.int 1))) (fCons (fBin oDiv (fBin oSub (fVar 3) (fC (.int 1))) (fC (.int 2))) fNil)))))) (fRet (fTup (fCons (fIf (fT (fBin (oEqS false) (fVar 4) (fC (.int 3)))) (fC (.str "implies")) (fC (.str "iff"))) (fCons (fVar 5) (fCons (fVar 6) fNil))))))) fNx)) [.w (.ref 1), .w (.d (.int n)), .w (.d (.int D)), .w (.d (.int b)), .w (.d (.int kd)), .un, .un, .un, .un, .un, .un] S1 = .nx [.w (.ref 1), .w (.d (.int n)), .w (.d (.int D)), .w (.d (.int b)), .w (.d (.int kd)), .un, .un, .un, .un, .un, .un] S1 := by simp [k5]
      rw [x3, e_thenN, e_Seq]
      obtain ⟨cI, S2, e2, c0, c1, d2⟩ := draw_ok (n := k + 3 * cst q + 8) (d1.le (by omega)) (many := (if b - 1 < 3 then b - 1 else 3) + 1) (by split <;> omega) (p8000 (by split <;> omega))
      obtain ⟨c, rfl⟩ : ∃ c : Nat, cI = c := ⟨cI.toNat, by omega⟩
      have x4 : ((fSet 7 (fCall m__law_draw (fCons (fVar 0) (fCons (fBin oAddA (fBin oMin (fC (.int 3)) (fBin oSub (fVar 3) (fC (.int 1)))) (fC (.int 1))) fNil))))) [.w (.ref 1), .w (.d (.int n)), .w (.d (.int D)), .w (.d (.int b)), .w (.d (.int kd)), .un, .un, .un, .un, .un, .un] S1 = .nx [.w (.ref 1), .w (.d (.int n)), .w (.d (.int D)), .w (.d (.int b)), .w (.d (.int kd)), .un, .un, .w (.d (.int (c : Int))), .un, .un, .un] S2 := by simp [e2]
      have c3 : c ≤ 3 := by split at c1 <;> omega
      have cb : (c : Int) ≤ b - 1 := by split at c1 <;> omega
      rw [x4, e_thenN, e_Seq]
      obtain ⟨ps, S3, e3, hl, hps, d3⟩ := many_ok part (k := k + 8) (kd := kd) ed (by omega) b1 c3 cb (S := S2) (d2.le (by omega))
      rw [e3, e_thenN, e_Seq]
      by_cases k7 : kd < 7
      · obtain ⟨p, e4, hp⟩ := br_and (f := f) (k := k) (D := D) (b := b) (S := S3) (by omega) (by omega) k7 hl cb hps
        exact ⟨p, S3, by rw [e4]; rfl, hp, d3.le (by omega)⟩
      have x6 : ((fIfS (fT (fBin oLt (fVar 4) (fC (.int 7)))) (fRet (fTup (fCons (fIf (fT (fBin (oEqS false) (fVar 4) (fC (.int 5)))) (fC (.str "and")) (fC (.str "or"))) (fCons (fTupL (fOwn 8)) fNil)))) fNx)) [.w (.ref 1), .w (.d (.int n)), .w (.d (.int D)), .w (.d (.int b)), .w (.d (.int kd)), .un, .un, .w (.d (.int (c : Int))), .own (.lst (ps.map .d)), .un, .un] S3 = .nx [.w (.ref 1), .w (.d (.int n)), .w (.d (.int D)), .w (.d (.int b)), .w (.d (.int kd)), .un, .un, .w (.d (.int (c : Int))), .own (.lst (ps.map .d)), .un, .un] S3 := by simp [k7]
      rw [x6, e_thenN, e_Seq]
      by_cases k8 : kd = 7
      · subst k8
        obtain ⟨p, S4, e4, hp, d4⟩ := br_least (f := f) (k := k) (D := D) (b := b) c3 (S := S3) (by omega) hl cb hps (d3.le (by omega))
        exact ⟨p, S4, by rw [e4]; rfl, hp, d4⟩
      have x7 : ((fIfS (fT (fBin (oEqS false) (fVar 4) (fC (.int 7)))) (fRet (fTup (fCons (fC (.str "atleast")) (fCons (fBin oSub (fCall m__law_draw (fCons (fVar 0) (fCons (fBin oAddA (fVar 7) (fC (.int 3))) fNil))) (fC (.int 1))) (fCons (fTupL (fOwn 8)) fNil))))) fNx)) [.w (.ref 1), .w (.d (.int n)), .w (.d (.int D)), .w (.d (.int b)), .w (.d (.int kd)), .un, .un, .w (.d (.int (c : Int))), .own (.lst (ps.map .d)), .un, .un] S3 = .nx [.w (.ref 1), .w (.d (.int n)), .w (.d (.int D)), .w (.d (.int b)), .w (.d (.int kd)), .un, .un, .w (.d (.int (c : Int))), .own (.lst (ps.map .d)), .un, .un] S3 := by simp [k8]
      rw [x7, e_thenN]
      obtain ⟨p, S4, e4, hp, d4⟩ := br_sum (f := f) (k := k) (D := D) (b := b) (kd := kd) c3 (S := S3) (by omega) hl cb hps (d3.le (by omega))
      exact ⟨p, S4, by rw [e4]; rfl, hp, d4⟩
end L2.Q.P
namespace L2.Q.P
open PySem PySem.Spec PyProof.Rows
/-! things near parts -/
def nots : Nat → PyData → PyData
  | 0, d => d
  | k + 1, d => nots k (.tuple [.str "not", d])
structure shL (k : Nat) (ds : List PyData) : Prop where
  m : ∀ d ∈ ds, shp k d
theorem sh_nil {k : Nat} : shL k [] := ⟨fun d h => by simp at h⟩
theorem sh_cons {k : Nat} {d : PyData} {ds : List PyData} (h : shp k d) (g : shL k ds) : shL k (d :: ds) := ⟨fun x hx => by
  rcases List.mem_cons.mp hx with rfl | hx
  · exact h
  · exact g.m x hx⟩
theorem sh_app {k : Nat} {ds es : List PyData} (h : shL k ds) (g : shL k es) : shL k (ds ++ es) := ⟨fun x hx => by
  rcases List.mem_append.mp hx with hx | hx
  · exact h.m x hx
  · exact g.m x hx⟩
theorem sh_tup {k : Nat} {ds : List PyData} (h : shL k ds) : shp (k + 1) (.tuple ds) := shp_tup h.m
theorem sh_list {k : Nat} {ds : List PyData} (h : shL k ds) : shp (k + 1) (.list ds) := shp_list h.m
theorem sh_str {k : Nat} {s : Str} (h : PyData.canLay0 (.str s) = true) : shp k (.str s) := ⟨h, Nat.zero_le _⟩
theorem sh_bool {k : Nat} {b : Bool} : shp k (.bool b) := ⟨rfl, Nat.zero_le _⟩
theorem sh_none {k : Nat} : shp k .none := ⟨rfl, Nat.zero_le _⟩
theorem nots_sh : ∀ (j : Nat) {k : Nat} {d : PyData}, shp k d → shp (k + j) (nots j d)
  | 0, k, d, h => h
  | j + 1, k, d, h => by
    have := nots_sh j (k := k + 1) (d := .tuple [.str "not", d]) (sh_tup (by repeat' first | exact sh_nil | exact shp_int _ _ | exact sh_bool | exact sh_none | exact sh_str (by decide +kernel) | assumption | apply sh_cons | apply sh_app | apply sh_tup | apply sh_list))
    exact shp_mono this (by omega)
end L2.Q.P
namespace L2.Q.P
open PySem PySem.Spec PyProof.Rows
/-! names -/
def lowD (d : PyData) : Bool := match m_is_low_name [.d d] [] with
  | .ok (.w (.d (.bool b))) _ => b
  | _ => false
structure Low (d : PyData) : Prop where
  a : ∀ S, m_is_low_name [.d d] S = .ok (.w (.d (.bool (lowD d)))) S
  s : lowD d = true → ∃ s, d = .str s
  h : ∀ k, shp k d
def hd (k : Nat) : Str := (["b", "d", "f", "h", "j", "l", "n", "p", "r", "t"] : List Str).getD k ""
def tl (j : Nat) : Str := (["", "1", "a2", "zz", "q9z", "0000", "x"] : List Str).getD j ""
def nm (k j : Nat) : Str := hd k ++ tl j
def AllL (P : PyData → Prop) (ds : List PyData) : Prop := ∀ d ∈ ds, P d
theorem al_nil {P : PyData → Prop} : AllL P [] := fun d h => by simp at h
theorem al_cons {P : PyData → Prop} {d : PyData} {ds : List PyData} (h : P d) (g : AllL P ds) : AllL P (d :: ds) := fun x hx => by
  rcases List.mem_cons.mp hx with rfl | hx
  · exact h
  · exact g x hx
theorem lw0_0 : Low (.str "b") ∧ lowD (.str "b") = true := ⟨⟨fun S => by kernel_rfl, fun _ => ⟨_, rfl⟩, fun k => sh_str (by decide +kernel)⟩, by kernel_rfl⟩
theorem lw0_1 : Low (.str "b1") ∧ lowD (.str "b1") = true := ⟨⟨fun S => by kernel_rfl, fun _ => ⟨_, rfl⟩, fun k => sh_str (by decide +kernel)⟩, by kernel_rfl⟩
theorem lw0_2 : Low (.str "ba2") ∧ lowD (.str "ba2") = true := ⟨⟨fun S => by kernel_rfl, fun _ => ⟨_, rfl⟩, fun k => sh_str (by decide +kernel)⟩, by kernel_rfl⟩
theorem lw0_3 : Low (.str "bzz") ∧ lowD (.str "bzz") = true := ⟨⟨fun S => by kernel_rfl, fun _ => ⟨_, rfl⟩, fun k => sh_str (by decide +kernel)⟩, by kernel_rfl⟩
theorem lw0_4 : Low (.str "bq9z") ∧ lowD (.str "bq9z") = true := ⟨⟨fun S => by kernel_rfl, fun _ => ⟨_, rfl⟩, fun k => sh_str (by decide +kernel)⟩, by kernel_rfl⟩
theorem lw0_5 : Low (.str "b0000") ∧ lowD (.str "b0000") = true := ⟨⟨fun S => by kernel_rfl, fun _ => ⟨_, rfl⟩, fun k => sh_str (by decide +kernel)⟩, by kernel_rfl⟩
theorem lw0_6 : Low (.str "bx") ∧ lowD (.str "bx") = true := ⟨⟨fun S => by kernel_rfl, fun _ => ⟨_, rfl⟩, fun k => sh_str (by decide +kernel)⟩, by kernel_rfl⟩
theorem lw1_0 : Low (.str "d") ∧ lowD (.str "d") = true := ⟨⟨fun S => by kernel_rfl, fun _ => ⟨_, rfl⟩, fun k => sh_str (by decide +kernel)⟩, by kernel_rfl⟩
theorem lw1_1 : Low (.str "d1") ∧ lowD (.str "d1") = true := ⟨⟨fun S => by kernel_rfl, fun _ => ⟨_, rfl⟩, fun k => sh_str (by decide +kernel)⟩, by kernel_rfl⟩
theorem lw1_2 : Low (.str "da2") ∧ lowD (.str "da2") = true := ⟨⟨fun S => by kernel_rfl, fun _ => ⟨_, rfl⟩, fun k => sh_str (by decide +kernel)⟩, by kernel_rfl⟩
theorem lw1_3 : Low (.str "dzz") ∧ lowD (.str "dzz") = true := ⟨⟨fun S => by kernel_rfl, fun _ => ⟨_, rfl⟩, fun k => sh_str (by decide +kernel)⟩, by kernel_rfl⟩
theorem lw1_4 : Low (.str "dq9z") ∧ lowD (.str "dq9z") = true := ⟨⟨fun S => by kernel_rfl, fun _ => ⟨_, rfl⟩, fun k => sh_str (by decide +kernel)⟩, by kernel_rfl⟩
theorem lw1_5 : Low (.str "d0000") ∧ lowD (.str "d0000") = true := ⟨⟨fun S => by kernel_rfl, fun _ => ⟨_, rfl⟩, fun k => sh_str (by decide +kernel)⟩, by kernel_rfl⟩
theorem lw1_6 : Low (.str "dx") ∧ lowD (.str "dx") = true := ⟨⟨fun S => by kernel_rfl, fun _ => ⟨_, rfl⟩, fun k => sh_str (by decide +kernel)⟩, by kernel_rfl⟩
theorem lw2_0 : Low (.str "f") ∧ lowD (.str "f") = true := ⟨⟨fun S => by kernel_rfl, fun _ => ⟨_, rfl⟩, fun k => sh_str (by decide +kernel)⟩, by kernel_rfl⟩
theorem lw2_1 : Low (.str "f1") ∧ lowD (.str "f1") = true := ⟨⟨fun S => by kernel_rfl, fun _ => ⟨_, rfl⟩, fun k => sh_str (by decide +kernel)⟩, by kernel_rfl⟩
theorem lw2_2 : Low (.str "fa2") ∧ lowD (.str "fa2") = true := ⟨⟨fun S => by kernel_rfl, fun _ => ⟨_, rfl⟩, fun k => sh_str (by decide +kernel)⟩, by kernel_rfl⟩
theorem lw2_3 : Low (.str "fzz") ∧ lowD (.str "fzz") = true := ⟨⟨fun S => by kernel_rfl, fun _ => ⟨_, rfl⟩, fun k => sh_str (by decide +kernel)⟩, by kernel_rfl⟩
theorem lw2_4 : Low (.str "fq9z") ∧ lowD (.str "fq9z") = true := ⟨⟨fun S => by kernel_rfl, fun _ => ⟨_, rfl⟩, fun k => sh_str (by decide +kernel)⟩, by kernel_rfl⟩
theorem lw2_5 : Low (.str "f0000") ∧ lowD (.str "f0000") = true := ⟨⟨fun S => by kernel_rfl, fun _ => ⟨_, rfl⟩, fun k => sh_str (by decide +kernel)⟩, by kernel_rfl⟩
theorem lw2_6 : Low (.str "fx") ∧ lowD (.str "fx") = true := ⟨⟨fun S => by kernel_rfl, fun _ => ⟨_, rfl⟩, fun k => sh_str (by decide +kernel)⟩, by kernel_rfl⟩
theorem lw3_0 : Low (.str "h") ∧ lowD (.str "h") = true := ⟨⟨fun S => by kernel_rfl, fun _ => ⟨_, rfl⟩, fun k => sh_str (by decide +kernel)⟩, by kernel_rfl⟩
theorem lw3_1 : Low (.str "h1") ∧ lowD (.str "h1") = true := ⟨⟨fun S => by kernel_rfl, fun _ => ⟨_, rfl⟩, fun k => sh_str (by decide +kernel)⟩, by kernel_rfl⟩
theorem lw3_2 : Low (.str "ha2") ∧ lowD (.str "ha2") = true := ⟨⟨fun S => by kernel_rfl, fun _ => ⟨_, rfl⟩, fun k => sh_str (by decide +kernel)⟩, by kernel_rfl⟩
theorem lw3_3 : Low (.str "hzz") ∧ lowD (.str "hzz") = true := ⟨⟨fun S => by kernel_rfl, fun _ => ⟨_, rfl⟩, fun k => sh_str (by decide +kernel)⟩, by kernel_rfl⟩
theorem lw3_4 : Low (.str "hq9z") ∧ lowD (.str "hq9z") = true := ⟨⟨fun S => by kernel_rfl, fun _ => ⟨_, rfl⟩, fun k => sh_str (by decide +kernel)⟩, by kernel_rfl⟩
theorem lw3_5 : Low (.str "h0000") ∧ lowD (.str "h0000") = true := ⟨⟨fun S => by kernel_rfl, fun _ => ⟨_, rfl⟩, fun k => sh_str (by decide +kernel)⟩, by kernel_rfl⟩
theorem lw3_6 : Low (.str "hx") ∧ lowD (.str "hx") = true := ⟨⟨fun S => by kernel_rfl, fun _ => ⟨_, rfl⟩, fun k => sh_str (by decide +kernel)⟩, by kernel_rfl⟩
theorem lw4_0 : Low (.str "j") ∧ lowD (.str "j") = true := ⟨⟨fun S => by kernel_rfl, fun _ => ⟨_, rfl⟩, fun k => sh_str (by decide +kernel)⟩, by kernel_rfl⟩
theorem lw4_1 : Low (.str "j1") ∧ lowD (.str "j1") = true := ⟨⟨fun S => by kernel_rfl, fun _ => ⟨_, rfl⟩, fun k => sh_str (by decide +kernel)⟩, by kernel_rfl⟩
theorem lw4_2 : Low (.str "ja2") ∧ lowD (.str "ja2") = true := ⟨⟨fun S => by kernel_rfl, fun _ => ⟨_, rfl⟩, fun k => sh_str (by decide +kernel)⟩, by kernel_rfl⟩
theorem lw4_3 : Low (.str "jzz") ∧ lowD (.str "jzz") = true := ⟨⟨fun S => by kernel_rfl, fun _ => ⟨_, rfl⟩, fun k => sh_str (by decide +kernel)⟩, by kernel_rfl⟩
theorem lw4_4 : Low (.str "jq9z") ∧ lowD (.str "jq9z") = true := ⟨⟨fun S => by kernel_rfl, fun _ => ⟨_, rfl⟩, fun k => sh_str (by decide +kernel)⟩, by kernel_rfl⟩
theorem lw4_5 : Low (.str "j0000") ∧ lowD (.str "j0000") = true := ⟨⟨fun S => by kernel_rfl, fun _ => ⟨_, rfl⟩, fun k => sh_str (by decide +kernel)⟩, by kernel_rfl⟩
theorem lw4_6 : Low (.str "jx") ∧ lowD (.str "jx") = true := ⟨⟨fun S => by kernel_rfl, fun _ => ⟨_, rfl⟩, fun k => sh_str (by decide +kernel)⟩, by kernel_rfl⟩
theorem lw5_0 : Low (.str "l") ∧ lowD (.str "l") = true := ⟨⟨fun S => by kernel_rfl, fun _ => ⟨_, rfl⟩, fun k => sh_str (by decide +kernel)⟩, by kernel_rfl⟩
theorem lw5_1 : Low (.str "l1") ∧ lowD (.str "l1") = true := ⟨⟨fun S => by kernel_rfl, fun _ => ⟨_, rfl⟩, fun k => sh_str (by decide +kernel)⟩, by kernel_rfl⟩
theorem lw5_2 : Low (.str "la2") ∧ lowD (.str "la2") = true := ⟨⟨fun S => by kernel_rfl, fun _ => ⟨_, rfl⟩, fun k => sh_str (by decide +kernel)⟩, by kernel_rfl⟩
theorem lw5_3 : Low (.str "lzz") ∧ lowD (.str "lzz") = true := ⟨⟨fun S => by kernel_rfl, fun _ => ⟨_, rfl⟩, fun k => sh_str (by decide +kernel)⟩, by kernel_rfl⟩
theorem lw5_4 : Low (.str "lq9z") ∧ lowD (.str "lq9z") = true := ⟨⟨fun S => by kernel_rfl, fun _ => ⟨_, rfl⟩, fun k => sh_str (by decide +kernel)⟩, by kernel_rfl⟩
theorem lw5_5 : Low (.str "l0000") ∧ lowD (.str "l0000") = true := ⟨⟨fun S => by kernel_rfl, fun _ => ⟨_, rfl⟩, fun k => sh_str (by decide +kernel)⟩, by kernel_rfl⟩
theorem lw5_6 : Low (.str "lx") ∧ lowD (.str "lx") = true := ⟨⟨fun S => by kernel_rfl, fun _ => ⟨_, rfl⟩, fun k => sh_str (by decide +kernel)⟩, by kernel_rfl⟩
theorem lw6_0 : Low (.str "n") ∧ lowD (.str "n") = true := ⟨⟨fun S => by kernel_rfl, fun _ => ⟨_, rfl⟩, fun k => sh_str (by decide +kernel)⟩, by kernel_rfl⟩
theorem lw6_1 : Low (.str "n1") ∧ lowD (.str "n1") = true := ⟨⟨fun S => by kernel_rfl, fun _ => ⟨_, rfl⟩, fun k => sh_str (by decide +kernel)⟩, by kernel_rfl⟩
theorem lw6_2 : Low (.str "na2") ∧ lowD (.str "na2") = true := ⟨⟨fun S => by kernel_rfl, fun _ => ⟨_, rfl⟩, fun k => sh_str (by decide +kernel)⟩, by kernel_rfl⟩
theorem lw6_3 : Low (.str "nzz") ∧ lowD (.str "nzz") = true := ⟨⟨fun S => by kernel_rfl, fun _ => ⟨_, rfl⟩, fun k => sh_str (by decide +kernel)⟩, by kernel_rfl⟩
theorem lw6_4 : Low (.str "nq9z") ∧ lowD (.str "nq9z") = true := ⟨⟨fun S => by kernel_rfl, fun _ => ⟨_, rfl⟩, fun k => sh_str (by decide +kernel)⟩, by kernel_rfl⟩
theorem lw6_5 : Low (.str "n0000") ∧ lowD (.str "n0000") = true := ⟨⟨fun S => by kernel_rfl, fun _ => ⟨_, rfl⟩, fun k => sh_str (by decide +kernel)⟩, by kernel_rfl⟩
theorem lw6_6 : Low (.str "nx") ∧ lowD (.str "nx") = true := ⟨⟨fun S => by kernel_rfl, fun _ => ⟨_, rfl⟩, fun k => sh_str (by decide +kernel)⟩, by kernel_rfl⟩
theorem lw7_0 : Low (.str "p") ∧ lowD (.str "p") = true := ⟨⟨fun S => by kernel_rfl, fun _ => ⟨_, rfl⟩, fun k => sh_str (by decide +kernel)⟩, by kernel_rfl⟩
theorem lw7_1 : Low (.str "p1") ∧ lowD (.str "p1") = true := ⟨⟨fun S => by kernel_rfl, fun _ => ⟨_, rfl⟩, fun k => sh_str (by decide +kernel)⟩, by kernel_rfl⟩
theorem lw7_2 : Low (.str "pa2") ∧ lowD (.str "pa2") = true := ⟨⟨fun S => by kernel_rfl, fun _ => ⟨_, rfl⟩, fun k => sh_str (by decide +kernel)⟩, by kernel_rfl⟩
theorem lw7_3 : Low (.str "pzz") ∧ lowD (.str "pzz") = true := ⟨⟨fun S => by kernel_rfl, fun _ => ⟨_, rfl⟩, fun k => sh_str (by decide +kernel)⟩, by kernel_rfl⟩
theorem lw7_4 : Low (.str "pq9z") ∧ lowD (.str "pq9z") = true := ⟨⟨fun S => by kernel_rfl, fun _ => ⟨_, rfl⟩, fun k => sh_str (by decide +kernel)⟩, by kernel_rfl⟩
theorem lw7_5 : Low (.str "p0000") ∧ lowD (.str "p0000") = true := ⟨⟨fun S => by kernel_rfl, fun _ => ⟨_, rfl⟩, fun k => sh_str (by decide +kernel)⟩, by kernel_rfl⟩
theorem lw7_6 : Low (.str "px") ∧ lowD (.str "px") = true := ⟨⟨fun S => by kernel_rfl, fun _ => ⟨_, rfl⟩, fun k => sh_str (by decide +kernel)⟩, by kernel_rfl⟩
theorem lw8_0 : Low (.str "r") ∧ lowD (.str "r") = true := ⟨⟨fun S => by kernel_rfl, fun _ => ⟨_, rfl⟩, fun k => sh_str (by decide +kernel)⟩, by kernel_rfl⟩
theorem lw8_1 : Low (.str "r1") ∧ lowD (.str "r1") = true := ⟨⟨fun S => by kernel_rfl, fun _ => ⟨_, rfl⟩, fun k => sh_str (by decide +kernel)⟩, by kernel_rfl⟩
theorem lw8_2 : Low (.str "ra2") ∧ lowD (.str "ra2") = true := ⟨⟨fun S => by kernel_rfl, fun _ => ⟨_, rfl⟩, fun k => sh_str (by decide +kernel)⟩, by kernel_rfl⟩
theorem lw8_3 : Low (.str "rzz") ∧ lowD (.str "rzz") = true := ⟨⟨fun S => by kernel_rfl, fun _ => ⟨_, rfl⟩, fun k => sh_str (by decide +kernel)⟩, by kernel_rfl⟩
theorem lw8_4 : Low (.str "rq9z") ∧ lowD (.str "rq9z") = true := ⟨⟨fun S => by kernel_rfl, fun _ => ⟨_, rfl⟩, fun k => sh_str (by decide +kernel)⟩, by kernel_rfl⟩
theorem lw8_5 : Low (.str "r0000") ∧ lowD (.str "r0000") = true := ⟨⟨fun S => by kernel_rfl, fun _ => ⟨_, rfl⟩, fun k => sh_str (by decide +kernel)⟩, by kernel_rfl⟩
theorem lw8_6 : Low (.str "rx") ∧ lowD (.str "rx") = true := ⟨⟨fun S => by kernel_rfl, fun _ => ⟨_, rfl⟩, fun k => sh_str (by decide +kernel)⟩, by kernel_rfl⟩
theorem lw9_0 : Low (.str "t") ∧ lowD (.str "t") = true := ⟨⟨fun S => by kernel_rfl, fun _ => ⟨_, rfl⟩, fun k => sh_str (by decide +kernel)⟩, by kernel_rfl⟩
theorem lw9_1 : Low (.str "t1") ∧ lowD (.str "t1") = true := ⟨⟨fun S => by kernel_rfl, fun _ => ⟨_, rfl⟩, fun k => sh_str (by decide +kernel)⟩, by kernel_rfl⟩
theorem lw9_2 : Low (.str "ta2") ∧ lowD (.str "ta2") = true := ⟨⟨fun S => by kernel_rfl, fun _ => ⟨_, rfl⟩, fun k => sh_str (by decide +kernel)⟩, by kernel_rfl⟩
theorem lw9_3 : Low (.str "tzz") ∧ lowD (.str "tzz") = true := ⟨⟨fun S => by kernel_rfl, fun _ => ⟨_, rfl⟩, fun k => sh_str (by decide +kernel)⟩, by kernel_rfl⟩
theorem lw9_4 : Low (.str "tq9z") ∧ lowD (.str "tq9z") = true := ⟨⟨fun S => by kernel_rfl, fun _ => ⟨_, rfl⟩, fun k => sh_str (by decide +kernel)⟩, by kernel_rfl⟩
theorem lw9_5 : Low (.str "t0000") ∧ lowD (.str "t0000") = true := ⟨⟨fun S => by kernel_rfl, fun _ => ⟨_, rfl⟩, fun k => sh_str (by decide +kernel)⟩, by kernel_rfl⟩
theorem lw9_6 : Low (.str "tx") ∧ lowD (.str "tx") = true := ⟨⟨fun S => by kernel_rfl, fun _ => ⟨_, rfl⟩, fun k => sh_str (by decide +kernel)⟩, by kernel_rfl⟩
def nms : List PyData := [.str "b", .str "b1", .str "ba2", .str "bzz", .str "bq9z", .str "b0000", .str "bx", .str "d", .str "d1", .str "da2", .str "dzz", .str "dq9z", .str "d0000", .str "dx", .str "f", .str "f1", .str "fa2", .str "fzz", .str "fq9z", .str "f0000", .str "fx", .str "h", .str "h1", .str "ha2", .str "hzz", .str "hq9z", .str "h0000", .str "hx", .str "j", .str "j1", .str "ja2", .str "jzz", .str "jq9z", .str "j0000", .str "jx", .str "l", .str "l1", .str "la2", .str "lzz", .str "lq9z", .str "l0000", .str "lx", .str "n", .str "n1", .str "na2", .str "nzz", .str "nq9z", .str "n0000", .str "nx", .str "p", .str "p1", .str "pa2", .str "pzz", .str "pq9z", .str "p0000", .str "px", .str "r", .str "r1", .str "ra2", .str "rzz", .str "rq9z", .str "r0000", .str "rx", .str "t", .str "t1", .str "ta2", .str "tzz", .str "tq9z", .str "t0000", .str "tx"]
theorem nms_low : AllL (fun d => Low d ∧ lowD d = true) nms := al_cons lw0_0 (al_cons lw0_1 (al_cons lw0_2 (al_cons lw0_3 (al_cons lw0_4 (al_cons lw0_5 (al_cons lw0_6 (al_cons lw1_0 (al_cons lw1_1 (al_cons lw1_2 (al_cons lw1_3 (al_cons lw1_4 (al_cons lw1_5 (al_cons lw1_6 (al_cons lw2_0 (al_cons lw2_1 (al_cons lw2_2 (al_cons lw2_3 (al_cons lw2_4 (al_cons lw2_5 (al_cons lw2_6 (al_cons lw3_0 (al_cons lw3_1 (al_cons lw3_2 (al_cons lw3_3 (al_cons lw3_4 (al_cons lw3_5 (al_cons lw3_6 (al_cons lw4_0 (al_cons lw4_1 (al_cons lw4_2 (al_cons lw4_3 (al_cons lw4_4 (al_cons lw4_5 (al_cons lw4_6 (al_cons lw5_0 (al_cons lw5_1 (al_cons lw5_2 (al_cons lw5_3 (al_cons lw5_4 (al_cons lw5_5 (al_cons lw5_6 (al_cons lw6_0 (al_cons lw6_1 (al_cons lw6_2 (al_cons lw6_3 (al_cons lw6_4 (al_cons lw6_5 (al_cons lw6_6 (al_cons lw7_0 (al_cons lw7_1 (al_cons lw7_2 (al_cons lw7_3 (al_cons lw7_4 (al_cons lw7_5 (al_cons lw7_6 (al_cons lw8_0 (al_cons lw8_1 (al_cons lw8_2 (al_cons lw8_3 (al_cons lw8_4 (al_cons lw8_5 (al_cons lw8_6 (al_cons lw9_0 (al_cons lw9_1 (al_cons lw9_2 (al_cons lw9_3 (al_cons lw9_4 (al_cons lw9_5 (al_cons lw9_6 (al_nil))))))))))))))))))))))))))))))))))))))))))))))))))))))))))))))))))))))
theorem nm_mem : ∀ k, k < 10 → ∀ j, j < 7 → PyData.str (nm k j) ∈ nms := by
  have h : ((List.range 10).all fun k => (List.range 7).all fun j => nms.any fun d => match d with | .str s => decide (s = nm k j) | _ => false) = true := by decide +kernel
  intro k hk j hj
  have h1 := List.all_eq_true.mp h k (List.mem_range.mpr hk)
  have h2 := List.all_eq_true.mp h1 j (List.mem_range.mpr hj)
  obtain ⟨d, hd, h3⟩ := List.any_eq_true.mp h2
  split at h3
  · rw [of_decide_eq_true h3] at hd; exact hd
  · cases h3
theorem nm_low {k j : Nat} (hk : k < 10) (hj : j < 7) : Low (.str (nm k j)) ∧ lowD (.str (nm k j)) = true := nms_low _ (nm_mem k hk j hj)
/-- names as they are drawn -/
def NmL : Nat → List Str → Prop
  | _, [] => True
  | a, s :: r => a < 10 ∧ (∃ j, j < 7 ∧ s = nm a j) ∧ NmL (a + 1) r
def ltS (a b : Str) : Bool := decide (a.cps.toList < b.cps.toList)
def ascS (ss : List Str) : Bool := (ss.zip ss.tail).all fun x => ltS x.1 x.2
theorem nm_lt : ∀ k, k < 9 → ∀ i, i < 7 → ∀ j, j < 7 → ltS (nm k i) (nm (k + 1) j) = true := by
  have h : ((List.range 9).all fun k => (List.range 7).all fun i => (List.range 7).all fun j => ltS (nm k i) (nm (k + 1) j)) = true := by decide +kernel
  intro k hk i hi j hj
  exact List.all_eq_true.mp (List.all_eq_true.mp (List.all_eq_true.mp h k (List.mem_range.mpr hk)) i (List.mem_range.mpr hi)) j (List.mem_range.mpr hj)
theorem NmL.asc : ∀ (ss : List Str) (a : Nat), NmL a ss → ascS ss = true
  | [], a, _ => rfl
  | [s], a, _ => rfl
  | s :: t :: r, a, h => by
    obtain ⟨h1, ⟨i, hi, rfl⟩, h3⟩ := h
    have ih := NmL.asc (t :: r) (a + 1) h3
    obtain ⟨h4, ⟨j, hj, rfl⟩, h5⟩ := h3
    unfold ascS at ih ⊢
    simp only [List.tail_cons, List.zip_cons_cons, List.all_cons, Bool.and_eq_true] at ih ⊢
    exact ⟨nm_lt a (by omega) i hi j hj, ih⟩
theorem NmL.low : ∀ (ss : List Str) (a : Nat), NmL a ss → ∀ s ∈ ss, Low (.str s) ∧ lowD (.str s) = true
  | [], a, _, s, hs => by simp at hs
  | t :: r, a, ⟨h1, ⟨j, hj, e⟩, h3⟩, s, hs => by
    rcases List.mem_cons.mp hs with rfl | hs
    · rw [e]; exact nm_low h1 hj
    · exact NmL.low r (a + 1) h3 s hs
theorem ix_head {a : Nat} (h : a < 10) (S : List Ob) : oIxZ (.d (.str "bdfhjlnprt")) (.d (.int (a : Int))) S = .ok (.d (.str (hd a))) S := by
  have : a = 0 ∨ a = 1 ∨ a = 2 ∨ a = 3 ∨ a = 4 ∨ a = 5 ∨ a = 6 ∨ a = 7 ∨ a = 8 ∨ a = 9 := by omega
  rcases this with rfl | rfl | rfl | rfl | rfl | rfl | rfl | rfl | rfl | rfl <;> kernel_rfl
theorem ix_tail {a : Nat} (h : a < 7) (S : List Ob) : oIxZ (.d (.list [.str "", .str "1", .str "a2", .str "zz", .str "q9z", .str "0000", .str "x"])) (.d (.int (a : Int))) S = .ok (.d (.str (tl a))) S := by
  have : a = 0 ∨ a = 1 ∨ a = 2 ∨ a = 3 ∨ a = 4 ∨ a = 5 ∨ a = 6 := by omega
  rcases this with rfl | rfl | rfl | rfl | rfl | rfl | rfl <;> kernel_rfl
theorem add_nm {a j : Nat} (ha : a < 10) (hj : j < 7) (S : List Ob) : oAddZ (.d (.str (hd a))) (.d (.str (tl j))) S = .ok (.d (.str (nm a j))) S := by
  have h : ((List.range 10).all fun k => (List.range 7).all fun j => decide ((hd k).length + (tl j).length ≤ 5)) = true := by decide +kernel
  have h1 := of_decide_eq_true (List.all_eq_true.mp (List.all_eq_true.mp h a (List.mem_range.mpr ha)) j (List.mem_range.mpr hj))
  show (if (hd a).length + (tl j).length ≤ 16777216 then _ else _) = _
  rw [if_pos (by omega)]
  rfl
abbrev rhoM (n : Int) : List Sl := [.w (.ref 1), .w (.d (.int n)), .w (.d (.list [.str "", .str "1", .str "a2", .str "zz", .str "q9z", .str "0000", .str "x"])), .un]
theorem names_lc (n : Int) : ∀ (m a : Nat) (S : List Ob) (k : Nat), a + m ≤ 10 → Dq (k + m) S → ∃ (ss : List Str) (S' : List Ob), lcL (gN 3) (fun _ S => .ok true S) e__law_names_0 (rhoM n) (rngL a m) S = .ok (ss.map fun s => .d (.str s)) S' ∧ NmL a ss ∧ ss.length = m ∧ Dq k S'
  | 0, a, S, k, h, hS => ⟨[], S, rfl, trivial, rfl, hS⟩
  | m + 1, a, S, k, h, hS => by
    obtain ⟨v, S1, e1, v0, v1, d1⟩ := draw_ok (n := k + m) hS (many := 7) (by omega) (by omega)
    obtain ⟨j, rfl⟩ : ∃ j : Nat, v = j := ⟨v.toNat, by omega⟩
    obtain ⟨ss, S2, e2, h2, l2, d2⟩ := names_lc n m (a + 1) S1 k (by omega) d1
    refine ⟨nm a j :: ss, S2, ?_, ⟨by omega, ⟨j, by omega, rfl⟩, h2⟩, by simp [l2], d2⟩
    have e : e__law_names_0 ((rhoM n).set 3 (.w (.d (.int (a : Int))))) S = .ok (.d (.str (nm a j))) S1 := by
      have i1 := ix_head (a := a) (by omega)
      have i2 := ix_tail (a := j) (by omega)
      have i3 := add_nm (a := a) (j := j) (by omega) (by omega)
      simp [e__law_names_0, e1, i1, i2, i3]
    rw [rngL_cons]
    unfold lcL
    rw [show ((a : Int) + 1) = ((a + 1 : Nat) : Int) by omega]
    simp only [e_gN, if_true, e, e_ok, e2, List.map_cons]
theorem names_ok {n : Nat} (h2 : n ≤ 10) {k : Nat} {S : List Ob} (hS : Dq (k + n) S) : ∃ (ss : List Str) (S' : List Ob), m__law_names [.ref 1, .d (.int (n : Int))] S = .ok (.w (.d (.tuple (ss.map .str)))) S' ∧ NmL 0 ss ∧ ss.length = n ∧ Dq k S' := by
  obtain ⟨ss, S1, e1, h1, l1, d1⟩ := names_lc n n 0 S k (by omega) hS
  refine ⟨ss, S1, ?_, h1, l1, d1⟩
  have st : start0 4 [W.ref 1, .d (.int (n : Int))] = [.w (.ref 1), .w (.d (.int (n : Int))), .un, .un] := rfl
  have r : fRng1 (fVar 1) (rhoM n) S = .ok (rngL 0 n) S := by
    simp only [e_Rng1, e_var, List.getElem?_cons_succ, List.getElem?_cons_zero, e_ok, e_rng1, Int.toNat_natCast]
    rw [if_pos (by omega)]
  unfold m__law_names b__law_names
  rw [e_runF, st, e_Seq]
  have x0 : (fSet 2 (fFz (fNewL (fCons (fC (.str "")) (fCons (fC (.str "1")) (fCons (fC (.str "a2")) (fCons (fC (.str "zz")) (fCons (fC (.str "q9z")) (fCons (fC (.str "0000")) (fCons (fC (.str "x")) fNil)))))))))) [.w (.ref 1), .w (.d (.int (n : Int))), .un, .un] S = .nx (rhoM n) S := rfl
  rw [x0, e_thenN, e_Ret, e_TupL, e_ItO, e_Lc (h := r) (ho := rfl)]
  have u : unset (rhoM n) [3] = rhoM n := rfl
  rw [show ((0 : Nat) : Int) = 0 from rfl] at e1
  rw [u, e1, e_ok, e_ok, e_lstOf, e_ok, e_mkTup, e_datsf]
  rfl
end L2.Q.P
namespace L2.Q.P
open PySem PySem.Spec PyProof.Rows
/-! statements judged, both ways -/
def strD (d : PyData) : Str := match d with | .str s => s | _ => ""
def itT (d : PyData) : List PyData := match d with | .tuple (.tuple I :: _) => I | _ => []
def tupL (d : PyData) : List PyData := match d with | .tuple xs => xs | _ => []
def nmB (d : PyData) : Bool := match d with
  | .tuple N => decide (1 ≤ N.length) && decide (N.length ≤ 10) && N.all lowD && ascS (N.map strD)
  | _ => false
def clB (d : PyData) : Bool := match d with
  | .tuple C => decide (C.length ≤ 12)
  | _ => false
def prB (d : PyData) : Bool := match d with
  | .none => true
  | .tuple [.tuple I, x] => I.all wtB && inB x (-1000) 1000
  | _ => false
def totB (a b c : PyData) : Bool := decide (((tupL b ++ (itT c).map fstD).map (cntF (tupL a).length 8)).sum ≤ 32)
def stB (d : PyData) : Bool := match d with
  | .tuple [a, b, c] => nmB a && (clB b && (prB c && totB a b c))
  | _ => false
theorem filt {α : Type} (l : List α) : (l.filter fun _ => true) = l := List.filter_eq_self.mpr fun _ _ => rfl
theorem cut_one {α : Type} (xs : List α) : cut xs (some 1) none = xs.drop 1 := by
  unfold cut
  rw [show HT.sIx xs.length 0 (some 1) = min 1 xs.length from HT.sIx_nat xs.length 0 1, HT.sIx_none]
  cases xs with
  | nil => rfl
  | cons x r => simp
theorem zipD_strs : ∀ xs ys : List Str, zipD (xs.map .str) (ys.map .str) = (xs.zip ys).map fun q => .d (.tuple [.str q.1, .str q.2])
  | [], _ => by simp [zipD]
  | _ :: _, [] => by simp [zipD]
  | x :: r, y :: s => by simp [zipD, zipD_strs r s]
theorem asc_gen (ss : List Str) (hl : ss.length ≤ 1000) (i a b : Nat) (fe : FE) (ρ : List Sl) (S : List Ob) (hv : fVar i ρ S = .ok (.d (.tuple (ss.map .str))) S) (ho : ([a, b].any fun j => isOwn ρ[j]?) = false)
    (he : ∀ x y, fe (((unset ρ [a, b]).set a (.w (.d (.str x)))).set b (.w (.d (.str y)))) S = .ok (.d (.bool (ltS x y))) S) :
    fAll (fItO (fLc (fZip (fVar i) (fCut (fVar i) (fP (fC (.int 1))) fNoP)) [a, b] (gT 2 (gsC (gN a) (gsC (gN b) gsN))) (fun _ S => .ok true S) fe)) ρ S = .ok (.d (.bool (ascS ss))) S := by
  have z : fZip (fVar i) (fCut (fVar i) (fP (fC (.int 1))) fNoP) ρ S = .ok ((ss.zip (ss.drop 1)).map fun q => .d (.tuple [.str q.1, .str q.2])) S := by
    unfold fZip
    simp only [hv, e_ok, e_Cut, e_P, e_c, e_NoP, e_cutT]
    rw [cut_one, ← List.map_drop]
    unfold zipV
    dsimp only
    rw [if_pos (by rw [List.length_map]; omega), zipD_strs]
  have e := lc_sel (gT 2 (gsC (gN a) (gsC (gN b) gsN))) (fun _ S => .ok true S) fe (unset ρ [a, b]) S (fun q : Str × Str => W.d (.tuple [.str q.1, .str q.2])) (fun _ => true) (fun q => .d (.bool (ltS q.1 q.2))) (ss.zip (ss.drop 1)) fun q _ => ⟨((unset ρ [a, b]).set a (.w (.d (.str q.1)))).set b (.w (.d (.str q.2))), rfl, rfl, fun _ => he q.1 q.2⟩
  rw [e_All, e_ItO, e_Lc (h := z) (ho := ho), e, e_ok, e_ok, e_lstOf, e_ok]
  have : ∀ l : List (Str × Str), ((l.filter fun _ => true).map fun q => W.d (.bool (ltS q.1 q.2))) = (l.map fun q => ltS q.1 q.2).map fun b => .d (.bool b) := fun l => by rw [filt, List.map_map]; rfl
  rw [this, e_onB, all_map_id]
  unfold ascS
  rw [List.drop_one]
theorem ascending_ok (ss : List Str) (hl : ss.length ≤ 1000) (S : List Ob) : m_is_ascending [.d (.tuple (ss.map .str))] S = .ok (.w (.d (.bool (ascS ss)))) S := by
  have st : start0 3 [W.d (.tuple (ss.map .str))] = [.w (.d (.tuple (ss.map .str))), .un, .un] := rfl
  unfold m_is_ascending b_is_ascending
  rw [e_runF, st, e_Ret, asc_gen ss hl 0 1 2 e_is_ascending_0 _ S rfl rfl (fun x y => by
    show e_is_ascending_0 [.w (.d (.tuple (ss.map .str))), .w (.d (.str x)), .w (.d (.str y))] S = _
    simp [e_is_ascending_0, ltS])]
  rfl
theorem low_strs : ∀ {N : List PyData}, (∀ d ∈ N, Low d) → N.all lowD = true → N = (N.map strD).map .str
  | [], _, _ => rfl
  | d :: r, h, q => by
    rw [List.all_cons, Bool.and_eq_true] at q
    obtain ⟨s, hs⟩ := (h d (List.mem_cons_self ..)).s q.1
    have := low_strs (fun x hx => h x (List.mem_cons_of_mem _ hx)) q.2
    rw [List.map_cons, List.map_cons, ← this, hs]
    rfl
theorem are_names_ok {d : PyData} (hd : ∀ N, d = .tuple N → ∀ x ∈ N, Low x) (S : List Ob) : m_are_names [.d d] S = .ok (.w (.d (.bool (nmB d)))) S := by
  have r := is_row_ok d 1 10 S
  cases hr : rowB d 1 10 with
  | false =>
    rw [hr] at r
    have n : nmB d = false := by
      unfold rowB at hr
      unfold nmB
      split at hr
      · try dsimp only
        rw [Bool.and_eq_false_iff, decide_eq_false_iff_not, decide_eq_false_iff_not] at hr
        rcases hr with hr | hr
        · rw [decide_eq_false (by omega)]; rfl
        · rw [decide_eq_false (p := _ ≤ 10) (by omega), Bool.and_false]; rfl
      · cases d <;> first | rfl | (rename_i h; exact absurd rfl (h _))
    rw [n]
    simp [m_are_names, b_are_names, start0, r]
  | true =>
    rw [hr] at r
    obtain ⟨N, rfl, l1, l2⟩ : ∃ N, d = .tuple N ∧ 1 ≤ N.length ∧ N.length ≤ 10 := by
      unfold rowB at hr
      split at hr
      · rename_i N
        rw [Bool.and_eq_true, decide_eq_true_eq, decide_eq_true_eq] at hr
        exact ⟨N, rfl, by omega, by omega⟩
      · cases hr
    have hN := hd N rfl
    have n : nmB (.tuple N) = (N.all lowD && ascS (N.map strD)) := by unfold nmB; dsimp only; rw [decide_eq_true l1, decide_eq_true l2]; rfl
    rw [n]
    have e1 : fAll (fItO (fLc (fIt (fVar 0)) [1] (gN 1) (fun _ S => .ok true S) e_are_names_0)) [.w (.d (.tuple N)), .un] S = .ok (.d (.bool (N.all lowD))) S := by
      have src : fIt (fVar 0) [.w (.d (.tuple N)), .un] S = .ok (N.map .d) S := rfl
      rw [e_All, e_ItO, e_Lc (h := src) (ho := rfl)]
      have u : unset [.w (.d (.tuple N)), .un] [1] = [.w (.d (.tuple N)), .un] := rfl
      rw [u, lc_judge e_are_names_0 lowD 1 _ S N (fun d hd => by
        show e_are_names_0 [.w (.d (.tuple N)), .w (.d d)] S = _
        simp [e_are_names_0, (hN d hd).a]), e_ok, e_ok, e_lstOf, e_ok, e_onB, all_map_id]
    cases q : N.all lowD with
    | false => rw [q] at e1; simp [m_are_names, b_are_names, start0, r, e1, -e_All]
    | true =>
      rw [q] at e1
      have e2 := ascending_ok (N.map strD) (by rw [List.length_map]; omega) S
      rw [← low_strs hN q] at e2
      simp [m_are_names, b_are_names, start0, r, e1, e2, -e_All]
theorem is_price_ok (d : PyData) (S : List Ob) : m_is_price [.d d] S = .ok (.w (.d (.bool (prB d)))) S := by
  have r := is_row_ok d 2 2 S
  by_cases hn : d = .none
  · subst hn; rfl
  have nn : isNon (.d d) = false := by cases d <;> first | rfl | exact absurd rfl hn
  cases hr : rowB d 2 2 with
  | false =>
    rw [hr] at r
    have n : prB d = false := by
      unfold prB
      split
      · exact absurd rfl hn
      · exact absurd hr (by simp [rowB])
      · cases d <;> first | rfl | (rename_i h; exact absurd rfl (h _))
    rw [n]
    simp [m_is_price, b_is_price, start0, r, nn]
  | true =>
    rw [hr] at r
    obtain ⟨x, y, rfl⟩ : ∃ x y, d = .tuple [x, y] := by
      unfold rowB at hr
      split at hr
      · rename_i N
        rw [Bool.and_eq_true, decide_eq_true_eq, decide_eq_true_eq] at hr
        match N, hr with
        | [a, y], _ => exact ⟨a, y, rfl⟩
        | [], h => simp at h
        | [_], h => simp at h
        | _ :: _ :: _ :: _, h => simp only [List.length_cons] at h; omega
      · cases hr
    cases x with
    | tuple I =>
      have e1 : fAll (fItO (fLc (fIt (fBin oIx (fVar 0) (fC (.int 0)))) [1] (gN 1) (fun _ S => .ok true S) e_is_price_0)) [.w (.d (.tuple [.tuple I, y])), .un] S = .ok (.d (.bool (I.all wtB))) S := by
        have src : fIt (fBin oIx (fVar 0) (fC (.int 0))) [.w (.d (.tuple [.tuple I, y])), .un] S = .ok (I.map .d) S := by simp
        rw [e_All, e_ItO, e_Lc (h := src) (ho := rfl)]
        have u : unset [.w (.d (.tuple [.tuple I, y])), .un] [1] = [.w (.d (.tuple [.tuple I, y])), .un] := rfl
        rw [u, lc_judge e_is_price_0 wtB 1 _ S I (fun d _ => by
          show e_is_price_0 [.w (.d (.tuple [.tuple I, y])), .w (.d d)] S = _
          simp [e_is_price_0, is_weighted_ok]), e_ok, e_ok, e_lstOf, e_ok, e_onB, all_map_id]
      have w : m_within [.d y, .d (.int (-1000)), .d (.int 1000)] S = .ok (.w (.d (.bool (inB y (-1000) 1000)))) S := within_ok y (-1000) 1000 S
      cases q : I.all wtB with
      | false => rw [q] at e1; simp [m_is_price, b_is_price, start0, r, nn, e1, -e_All, prB, q, isTup]
      | true => rw [q] at e1; simp [m_is_price, b_is_price, start0, r, nn, e1, -e_All, prB, q, isTup, w]
    | _ => simp [m_is_price, b_is_price, start0, r, nn, prB, isTup]
theorem items_of_ok {d : PyData} (h : prB d = true) (S : List Ob) : m_items_of [.d d] S = .ok (.w (.d (.tuple (itT d)))) S := by
  unfold prB at h
  split at h
  · rfl
  · simp [m_items_of, b_items_of, start0, isNon, itT]
  · cases h
theorem itT_wt {d : PyData} (h : prB d = true) : ∀ x ∈ itT d, ∃ a y, x = .tuple [a, y] := by
  unfold prB at h
  split at h
  · intro x hx; simp [itT] at hx
  · intro x hx
    rw [Bool.and_eq_true] at h
    exact wt_two (List.all_eq_true.mp h.1 x hx)
  · cases h
/-- statements and things near them -/
structure Tm (d : PyData) : Prop where
  sh : shp 60 d
  nm : ∀ N b c, d = .tuple [.tuple N, b, c] → ∀ x ∈ N, Low x
  it : ∀ a b c, d = .tuple [a, b, c] → (itT c).length ≤ 1000
theorem parts_sh {a b c : PyData} (h : shp 60 (.tuple [a, b, c])) (hp : prB c = true) : ∀ d ∈ tupL b ++ (itT c).map fstD, shp 60 d := by
  intro d hd
  have it := shp_items h
  rcases List.mem_append.mp hd with hd | hd
  · have hb := it b (by simp)
    cases b with
    | tuple C => exact shp_items hb d hd
    | _ => simp [tupL] at hd
  · obtain ⟨x, hx, rfl⟩ := List.mem_map.mp hd
    obtain ⟨u, v, rfl⟩ := itT_wt hp x hx
    have hc := it c (by simp)
    unfold itT at hx
    split at hx
    · exact shp_items (shp_items (shp_items hc _ (List.mem_cons_self ..)) _ hx) u (by simp)
    · simp at hx
theorem fst_ix {x : PyData} (h : ∃ a y, x = .tuple [a, y]) (S : List Ob) : oIx (.d x) (.d (.int 0)) S = .ok (.d (fstD x)) S := by
  obtain ⟨a, y, rfl⟩ := h
  rw [e_ixT, e_at0]
  rfl
theorem is_statement_ok {d : PyData} (hT : Tm d) (S : List Ob) : m_is_statement [.d d] S = .ok (.w (.d (.bool (stB d)))) S := by
  have r := is_row_ok d 3 3 S
  cases hr : rowB d 3 3 with
  | false =>
    rw [hr] at r
    have n : stB d = false := by
      unfold stB
      split
      · exact absurd hr (by simp [rowB])
      · cases d <;> first | rfl | (rename_i h; exact absurd rfl (h _))
    rw [n]
    simp [m_is_statement, b_is_statement, start0, r]
  | true =>
    rw [hr] at r
    obtain ⟨a, b, c, rfl⟩ : ∃ a b c, d = .tuple [a, b, c] := by
      unfold rowB at hr
      split at hr
      · rename_i N
        rw [Bool.and_eq_true, decide_eq_true_eq, decide_eq_true_eq] at hr
        match N, hr with
        | [a, b, c], _ => exact ⟨a, b, c, rfl⟩
        | [], h => simp at h
        | [_], h => simp at h
        | [_, _], h => simp at h
        | _ :: _ :: _ :: _ :: _, h => simp only [List.length_cons] at h; omega
      · cases hr
    have e1 := are_names_ok (d := a) (fun N hN => hT.nm N b c (by rw [hN])) S
    have e2 := is_row_ok b 0 12 S
    have e2' : rowB b 0 12 = clB b := by
      unfold rowB clB
      cases b with
      | tuple C => simp; omega
      | _ => rfl
    rw [e2'] at e2
    have e3 := is_price_ok c S
    have sb : stB (.tuple [a, b, c]) = (nmB a && (clB b && (prB c && totB a b c))) := rfl
    rw [sb]
    cases q1 : nmB a with
    | false => rw [q1] at e1; simp [m_is_statement, b_is_statement, start0, r, e1]
    | true =>
    rw [q1] at e1
    cases q2 : clB b with
    | false => rw [q2] at e2; simp [m_is_statement, b_is_statement, start0, r, e1, e2]
    | true =>
    rw [q2] at e2
    cases q3 : prB c with
    | false => rw [q3] at e3; simp [m_is_statement, b_is_statement, start0, r, e1, e2, e3]
    | true =>
    rw [q3] at e3
    cases a with
    | tuple N =>
      cases b with
      | tuple C =>
        have lC : C.length ≤ 12 := of_decide_eq_true q2
        have lI := hT.it _ _ c rfl
        have i1 := items_of_ok q3 S
        have ps := parts_sh hT.sh q3
        have cp := count_parts_ok (N.length : Int) (C ++ (itT c).map fstD) ps (by rw [List.length_append, List.length_map]; omega) S
        have tb : totB (.tuple N) (.tuple C) c = decide (((C ++ (itT c).map fstD).map (cntF N.length 8)).sum ≤ 32) := rfl
        rw [tb]
        have x1 : (fFz (fNewL (fIt (fBin oIx (fVar 0) (fC (.int 1)))))) [.w (.d (.tuple [.tuple N, .tuple C, c])), .un] S = .ok (.d (.list C)) S := by simp
        have x2 : (fFz (fLc (fIt (fCall m_items_of (fCons (fBin oIx (fVar 0) (fC (.int 2))) fNil))) [1] (gN 1) (fun _ S => .ok true S) e_is_statement_0)) [.w (.d (.tuple [.tuple N, .tuple C, c])), .un] S = .ok (.d (.list ((itT c).map fstD))) S := by
          have src : fIt (fCall m_items_of (fCons (fBin oIx (fVar 0) (fC (.int 2))) fNil)) [.w (.d (.tuple [.tuple N, .tuple C, c])), .un] S = .ok ((itT c).map .d) S := by simp [i1]
          rw [e_Fz, e_Lc (h := src) (ho := rfl)]
          have u : unset [.w (.d (.tuple [.tuple N, .tuple C, c])), .un] [1] = [.w (.d (.tuple [.tuple N, .tuple C, c])), .un] := rfl
          rw [u, lc_sel (gN 1) (fun _ S => .ok true S) e_is_statement_0 _ S W.d (fun _ => true) (fun x => W.d (fstD x)) (itT c) fun x hx => ⟨[.w (.d (.tuple [.tuple N, .tuple C, c])), .w (.d x)], rfl, rfl, fun _ => by
            have f := fst_ix (itT_wt q3 x hx) S
            simp only [e_is_statement_0, e_bin, e_var, List.getElem?_cons_succ, List.getElem?_cons_zero, e_ok, e_c, f]⟩]
          rw [filt, e_ok, e_ok, e_frz, e_datsf]
          rfl
        have x3 : (fFz (fAddN (fFz (fNewL (fIt (fBin oIx (fVar 0) (fC (.int 1)))))) (fFz (fLc (fIt (fCall m_items_of (fCons (fBin oIx (fVar 0) (fC (.int 2))) fNil))) [1] (gN 1) (fun _ S => .ok true S) e_is_statement_0)))) [.w (.d (.tuple [.tuple N, .tuple C, c])), .un] S = .ok (.d (.list (C ++ (itT c).map fstD))) S := by
          rw [e_Fz, e_AddN, x1, e_ok, x2, e_ok, e_addN, if_pos (by rw [List.length_map]; omega), e_ok, e_frz, dats_map]
          rfl
        have x4 : (fLen (fIt (fBin oIx (fVar 0) (fC (.int 0))))) [.w (.d (.tuple [.tuple N, .tuple C, c])), .un] S = .ok (.d (.int N.length)) S := by simp
        generalize ht : ((C ++ (itT c).map fstD).map (cntF N.length 8)).sum = t at cp ⊢
        by_cases q : t ≤ 32
        · rw [if_pos q] at cp
          rw [decide_eq_true q]
          simp [m_is_statement, b_is_statement, start0, r, e1, e2, e3, x3, x4, -e_Fz, -e_AddN, -e_Len, cp, isNon]
        · rw [if_neg q] at cp
          rw [decide_eq_false q]
          simp [m_is_statement, b_is_statement, start0, r, e1, e2, e3, x3, x4, -e_Fz, -e_AddN, -e_Len, cp, isNon]
      | _ => cases q2
    | _ => cases q1
end L2.Q.P
namespace L2.Q.P
open PySem PySem.Spec PyProof.Rows
/-! drawn statements -/
structure St (M : Int) (n : Nat) (ss : List Str) (C : List PyData) (P : PyData) : Prop where
  n1 : 1 ≤ n
  n6 : (n : Int) ≤ M
  nl : NmL 0 ss
  sl : ss.length = n
  cl : C.length ≤ 5
  cp : ∃ b : Int, 1 ≤ b ∧ C.length * b ≤ 24 ∧ ∀ p ∈ C, Pg n 3 b p
  pr : P = .none ∨ ∃ (xs : List (PyData × Int)) (v : Int), P = .tuple [.tuple (xs.map itD), .int v] ∧ xs.length ≤ 2 ∧ (∀ x ∈ xs, Pg n 1 3 x.1 ∧ -1000 ≤ x.2 ∧ x.2 ≤ 1000) ∧ -1000 ≤ v ∧ v ≤ 1000
theorem sum_le {n : Int} {dp : Nat} {b : Int} (hd : dp + 1 ≤ 8) : ∀ C : List PyData, (∀ p ∈ C, Pg n dp b p) → (((C.map (cntF n 8)).sum : Nat) : Int) ≤ C.length * b
  | [], _ => by simp
  | p :: r, h => by
    have ih := sum_le (n := n) (b := b) hd r fun x hx => h x (List.mem_cons_of_mem _ hx)
    have := (h p (List.mem_cons_self ..)).ct 8 (by omega)
    rw [List.map_cons, List.sum_cons, List.length_cons, Int.natCast_add, Int.natCast_add, Int.add_mul]
    omega
theorem sum_leL {n : Int} {dp : Nat} {b : Int} (hd : dp + 1 ≤ 8) : ∀ xs : List (PyData × Int), (∀ x ∈ xs, Pg n dp b x.1) → ((((xs.map (·.1)).map (cntF n 8)).sum : Nat) : Int) ≤ xs.length * b := fun xs h => by
  have := sum_le (n := n) (b := b) hd (xs.map (·.1)) fun p hp => by
    obtain ⟨x, hx, rfl⟩ := List.mem_map.mp hp
    exact h x hx
  rw [List.length_map] at this
  exact this
theorem map_strD (ss : List Str) : (ss.map PyData.str).map strD = ss := by rw [List.map_map]; exact List.map_id ss
theorem fst_itD (xs : List (PyData × Int)) : (xs.map itD).map fstD = xs.map (·.1) := by rw [List.map_map]; rfl
theorem St.good {M : Int} {n : Nat} {ss : List Str} {C : List PyData} {P : PyData} (h : St M n ss C P) (hM : M ≤ 10) : stB (.tuple [.tuple (ss.map .str), .tuple C, P]) = true := by
  have nb : nmB (.tuple (ss.map .str)) = true := by
    have l := h.sl
    have n1 := h.n1
    have n6 := h.n6
    unfold nmB
    dsimp only
    rw [List.length_map, l, decide_eq_true n1, decide_eq_true (show n ≤ 10 by omega), map_strD, NmL.asc ss 0 h.nl]
    rw [show (ss.map PyData.str).all lowD = true from by
      rw [List.all_map, List.all_eq_true]
      exact fun s hs => (NmL.low ss 0 h.nl s hs).2]
    rfl
  have cb : clB (.tuple C) = true := decide_eq_true (by have := h.cl; omega)
  have key : prB P = true ∧ (((((itT P).map fstD).map (cntF n 8)).sum : Nat) : Int) ≤ 6 := by
    rcases h.pr with rfl | ⟨xs, v, rfl, xl, hx, v0, v1⟩
    · exact ⟨rfl, by simp [itT]⟩
    · constructor
      · show ((xs.map itD).all wtB && inB (.int v) (-1000) 1000) = true
        rw [Bool.and_eq_true]
        constructor
        · rw [List.all_map, List.all_eq_true]
          exact fun x h => wt_it (hx x h).2.1 (hx x h).2.2
        · simp [inB]; omega
      · have := sum_leL (n := n) (b := 3) (dp := 1) (by omega) xs fun x h => (hx x h).1
        show ((((xs.map itD).map fstD).map (cntF n 8)).sum : Int) ≤ 6
        rw [fst_itD]
        omega
  obtain ⟨b, b1, bl, hC⟩ := h.cp
  have cs := sum_le (n := n) (b := b) (dp := 3) (by omega) C hC
  have tb : totB (.tuple (ss.map .str)) (.tuple C) P = true := by
    unfold totB
    have l : (tupL (.tuple (ss.map .str))).length = n := by show (ss.map PyData.str).length = n; rw [List.length_map, h.sl]
    rw [l]
    show decide (((C ++ (itT P).map fstD).map (cntF n 8)).sum ≤ 32) = true
    rw [List.map_append, List.sum_append]
    have := key.2
    exact decide_eq_true (by omega)
  show (nmB _ && (clB _ && (prB P && totB _ _ P))) = true
  rw [nb, cb, key.1, tb]
  rfl
theorem pr_sh {M : Int} {n : Nat} {ss : List Str} {C : List PyData} {P : PyData} (h : St M n ss C P) : shp 20 P := by
  rcases h.pr with rfl | ⟨xs, v, rfl, xl, hx, v0, v1⟩
  · exact sh_none
  · refine sh_tup (sh_cons (sh_tup ⟨fun d hd => ?_⟩) (sh_cons (shp_int _ _) sh_nil))
    obtain ⟨x, hm, rfl⟩ := List.mem_map.mp hd
    exact sh_tup (sh_cons (shp_mono (hx x hm).1.sh (by omega)) (sh_cons (shp_int _ _) sh_nil))
theorem pr_it {M : Int} {n : Nat} {ss : List Str} {C : List PyData} {P : PyData} (h : St M n ss C P) : (itT P).length ≤ 2 := by
  rcases h.pr with rfl | ⟨xs, v, rfl, xl, hx, v0, v1⟩
  · simp [itT]
  · show (xs.map itD).length ≤ 2
    rw [List.length_map]; exact xl
theorem statement_drawn {M : Int} (hM : 1 ≤ M) (hM2 : M ≤ 10) {k : Nat} {S : List Ob} (hS : Dq (k + 2000) S) : ∃ (n : Nat) (ss : List Str) (C : List PyData) (P : PyData) (S' : List Ob),
    m__law_statement [.ref 1, .d (.int M), .d (.int 5)] S = .ok (.w (.d (.tuple [.tuple (ss.map .str), .tuple C, P]))) S' ∧ St M n ss C P ∧ Dq k S' := by
  have st : start0 9 [W.ref 1, .d (.int M), .d (.int 5)] = [.w (.ref 1), .w (.d (.int M)), .w (.d (.int 5)), .un, .un, .un, .un, .un, .un] := rfl
  obtain ⟨v, S1, e1, v0, v1, d1⟩ := draw_ok (n := k + 1999) hS (many := M) (by omega) (p8000 (by omega))
  obtain ⟨cI, S2, e2, c0, c1, d2⟩ := draw_ok (n := k + 1998) d1 (many := 6) (by omega) (p8000 (by omega))
  obtain ⟨n, hn⟩ : ∃ n : Nat, 1 + v = n := ⟨(1 + v).toNat, by omega⟩
  obtain ⟨c, rfl⟩ : ∃ c : Nat, cI = c := ⟨cI.toNat, by omega⟩
  have x0 : ((fAsg (gT 2 (gsC (gN 3) (gsC (gN 4) gsN))) (fTup (fCons (fBin oAddA (fC (.int 1)) (fCall m__law_draw (fCons (fVar 0) (fCons (fVar 1) fNil)))) (fCons (fCall m__law_draw (fCons (fVar 0) (fCons (fBin oAddA (fVar 2) (fC (.int 1))) fNil))) fNil))))) [.w (.ref 1), .w (.d (.int M)), .w (.d (.int 5)), .un, .un, .un, .un, .un, .un] S = .nx [.w (.ref 1), .w (.d (.int M)), .w (.d (.int 5)), .w (.d (.int (n : Int))), .w (.d (.int (c : Int))), .un, .un, .un, .un] S2 := by simp [e1, e2, hn]
  obtain ⟨b, hb⟩ : ∃ b : Int, b = 24 / (if 1 < (c : Int) then (c : Int) else 1) := ⟨_, rfl⟩
  have bb : 1 ≤ b ∧ b ≤ 24 ∧ c * b ≤ 24 := by
    have : c = 0 ∨ c = 1 ∨ c = 2 ∨ c = 3 ∨ c = 4 ∨ c = 5 := by omega
    rcases this with rfl | rfl | rfl | rfl | rfl | rfl <;> simp at hb <;> omega
  have x1 : ((fSet 5 (fBin oDiv (fC (.int 24)) (fBin oMax (fC (.int 1)) (fVar 4))))) [.w (.ref 1), .w (.d (.int M)), .w (.d (.int 5)), .w (.d (.int (n : Int))), .w (.d (.int (c : Int))), .un, .un, .un, .un] S2 = .nx [.w (.ref 1), .w (.d (.int M)), .w (.d (.int 5)), .w (.d (.int (n : Int))), .w (.d (.int (c : Int))), .w (.d (.int b)), .un, .un, .un] S2 := by
    have dv : divC 24 (if 1 < (c : Int) then (c : Int) else 1) = true := divC_of (by split <;> omega) (p8000 (by split <;> omega))
    generalize hq : (if 1 < (c : Int) then (c : Int) else 1) = q at dv hb
    simp [hq, dv, ← hb]
  have c237 : cst 3 = 237 := rfl
  have c21 : cst 1 = 21 := rfl
  have pt := part_ok (n := n) (by omega) (by omega) 3 6 (by omega)
  have pi := part_ok (n := n) (by omega) (by omega) 1 6 (by omega)
  obtain ⟨C, S3, e3, hC, lC, d3⟩ := lc_drawnS (fun p : PyData => W.d p) (Pg n 3 b) e__law_statement_0 [.w (.ref 1), .w (.d (.int M)), .w (.d (.int 5)), .w (.d (.int (n : Int))), .w (.d (.int (c : Int))), .w (.d (.int b)), .un, .un, .un] 8 237 (fun w S n' hS => by
    obtain ⟨p, S4, e, g, d⟩ := pt b n' S (by omega) (by omega) hS
    rw [if_neg (by omega)] at g
    have e : m__law_part [.ref 1, .d (.int n), .d (.int 3), .d (.int b)] S = .ok (.w (.d p)) S4 := e
    exact ⟨p, S4, by simp [e__law_statement_0, e], g, d⟩) (rngL 0 c) S2 (k + 700) (d2.le (by simp [rngL]; omega))
  rw [show (rngL 0 c).length = c by simp [rngL]] at lC
  have x2 : ((fSet 6 (fTupL (fItO (fLc (fRng1 (fVar 4)) [8] (gN 8) (fun _ S => .ok true S) e__law_statement_0))))) [.w (.ref 1), .w (.d (.int M)), .w (.d (.int 5)), .w (.d (.int (n : Int))), .w (.d (.int (c : Int))), .w (.d (.int b)), .un, .un, .un] S2 = .nx [.w (.ref 1), .w (.d (.int M)), .w (.d (.int 5)), .w (.d (.int (n : Int))), .w (.d (.int (c : Int))), .w (.d (.int b)), .w (.d (.tuple C)), .un, .un] S3 := by
    have r : fRng1 (fVar 4) [.w (.ref 1), .w (.d (.int M)), .w (.d (.int 5)), .w (.d (.int (n : Int))), .w (.d (.int (c : Int))), .w (.d (.int b)), .un, .un, .un] S2 = .ok (rngL 0 c) S2 := by
      simp only [e_Rng1, e_var, List.getElem?_cons_succ, List.getElem?_cons_zero, e_ok, e_rng1, Int.toNat_natCast]
      rw [if_pos (by omega)]
    rw [e_Set, e_TupL, e_ItO, e_Lc (h := r) (ho := rfl)]
    have u : unset [.w (.ref 1), .w (.d (.int M)), .w (.d (.int 5)), .w (.d (.int (n : Int))), .w (.d (.int (c : Int))), .w (.d (.int b)), .un, .un, .un] [8] = [.w (.ref 1), .w (.d (.int M)), .w (.d (.int 5)), .w (.d (.int (n : Int))), .w (.d (.int (c : Int))), .w (.d (.int b)), .un, .un, .un] := rfl
    rw [u, e3, e_ok, e_ok, e_lstOf, e_ok, e_mkTup, dats_map]
    rfl
  obtain ⟨z, S4, e4, z0, z1, d4⟩ := draw_ok (n := k + 699) d3 (many := 3) (by omega) (by omega)
  have hcp : ∃ b : Int, 1 ≤ b ∧ C.length * b ≤ 24 ∧ ∀ p ∈ C, Pg n 3 b p := ⟨b, bb.1, by rw [lC]; exact bb.2.2, hC⟩
  by_cases hz : z = 0
  · subst hz
    obtain ⟨ss, S5, e5, h5, l5, d5⟩ := names_ok (n := n) (by omega) (k := k) (d4.le (by omega))
    refine ⟨n, ss, C, .none, S5, ?_, ⟨by omega, by omega, h5, l5, by omega, hcp, .inl rfl⟩, d5⟩
    have x3 : ((fIfS (fT (fBin (oEqS false) (fCall m__law_draw (fCons (fVar 0) (fCons (fC (.int 3)) fNil))) (fC (.int 0)))) (fRet (fTup (fCons (fCall m__law_names (fCons (fVar 0) (fCons (fVar 3) fNil))) (fCons (fVar 6) (fCons (fC .none) fNil))))) fNx)) [.w (.ref 1), .w (.d (.int M)), .w (.d (.int 5)), .w (.d (.int (n : Int))), .w (.d (.int (c : Int))), .w (.d (.int b)), .w (.d (.tuple C)), .un, .un] S3 = .rt (.w (.d (.tuple [.tuple (ss.map .str), .tuple C, .none]))) S5 := by
      generalize ss.map PyData.str = N at e5 ⊢
      simp [e4, e5]
    unfold m__law_statement b__law_statement
    rw [e_runF, st, e_Seq, x0, e_thenN, e_Seq, x1, e_thenN, e_Seq, x2, e_thenN, e_Seq, x3]
    rfl
  · have x3 : ((fIfS (fT (fBin (oEqS false) (fCall m__law_draw (fCons (fVar 0) (fCons (fC (.int 3)) fNil))) (fC (.int 0)))) (fRet (fTup (fCons (fCall m__law_names (fCons (fVar 0) (fCons (fVar 3) fNil))) (fCons (fVar 6) (fCons (fC .none) fNil))))) fNx)) [.w (.ref 1), .w (.d (.int M)), .w (.d (.int 5)), .w (.d (.int (n : Int))), .w (.d (.int (c : Int))), .w (.d (.int b)), .w (.d (.tuple C)), .un, .un] S3 = .nx [.w (.ref 1), .w (.d (.int M)), .w (.d (.int 5)), .w (.d (.int (n : Int))), .w (.d (.int (c : Int))), .w (.d (.int b)), .w (.d (.tuple C)), .un, .un] S4 := by simp [e4, hz]
    obtain ⟨m, S5, e5, m0, m1, d5⟩ := draw_ok (n := k + 698) d4 (many := 3) (by omega) (by omega)
    obtain ⟨m, rfl⟩ : ∃ q : Nat, m = q := ⟨m.toNat, by omega⟩
    obtain ⟨xs, S6, e6, hx, lx, d6⟩ := lc_drawnS (fun x : PyData × Int => W.d (itD x)) (fun x => Pg n 1 3 x.1 ∧ -1000 ≤ x.2 ∧ x.2 ≤ 1000) e__law_statement_1 [.w (.ref 1), .w (.d (.int M)), .w (.d (.int 5)), .w (.d (.int (n : Int))), .w (.d (.int (c : Int))), .w (.d (.int b)), .w (.d (.tuple C)), .un, .un] 8 23 (fun w S n' hS => by
      obtain ⟨p, S7, e, g, d⟩ := pi 3 (n' + 2) S (by omega) (by omega) (hS.le (by omega))
      rw [if_neg (by omega)] at g
      have e : m__law_part [.ref 1, .d (.int n), .d (.int 1), .d (.int 3)] S = .ok (.w (.d p)) S7 := e
      obtain ⟨v, S8, e', v0, v1, d⟩ := number_ok d
      exact ⟨(p, v), S8, by simp [e__law_statement_1, e, e', itD], ⟨g, v0, v1⟩, d⟩) (rngL 0 m) S5 (k + 20) (d5.le (by simp [rngL]; omega))
    rw [show (rngL 0 m).length = m by simp [rngL]] at lx
    have x4 : ((fSetO 7 (fLc (fRng1 (fCall m__law_draw (fCons (fVar 0) (fCons (fC (.int 3)) fNil)))) [8] (gN 8) (fun _ S => .ok true S) e__law_statement_1))) [.w (.ref 1), .w (.d (.int M)), .w (.d (.int 5)), .w (.d (.int (n : Int))), .w (.d (.int (c : Int))), .w (.d (.int b)), .w (.d (.tuple C)), .un, .un] S4 = .nx [.w (.ref 1), .w (.d (.int M)), .w (.d (.int 5)), .w (.d (.int (n : Int))), .w (.d (.int (c : Int))), .w (.d (.int b)), .w (.d (.tuple C)), .own (.lst (xs.map fun x => .d (itD x))), .un] S6 := by
      have r : fRng1 (fCall m__law_draw (fCons (fVar 0) (fCons (fC (.int 3)) fNil))) [.w (.ref 1), .w (.d (.int M)), .w (.d (.int 5)), .w (.d (.int (n : Int))), .w (.d (.int (c : Int))), .w (.d (.int b)), .w (.d (.tuple C)), .un, .un] S4 = .ok (rngL 0 m) S5 := by
        have h1 : ¬ (16777216 : Int) < m := by omega
        simp [e5]
        omega
      rw [e_SetO, e_Lc (h := r) (ho := rfl)]
      have u : unset [.w (.ref 1), .w (.d (.int M)), .w (.d (.int 5)), .w (.d (.int (n : Int))), .w (.d (.int (c : Int))), .w (.d (.int b)), .w (.d (.tuple C)), .un, .un] [8] = [.w (.ref 1), .w (.d (.int M)), .w (.d (.int 5)), .w (.d (.int (n : Int))), .w (.d (.int (c : Int))), .w (.d (.int b)), .w (.d (.tuple C)), .un, .un] := rfl
      rw [u, e6, e_ok, e_flok]
      rfl
    obtain ⟨ss, S7, e7, h7, l7, d7⟩ := names_ok (n := n) (by omega) (k := k + 2) (d6.le (by omega))
    obtain ⟨v, S8, e8, v0, v1, d8⟩ := number_ok d7
    refine ⟨n, ss, C, .tuple [.tuple (xs.map itD), .int v], S8, ?_, ⟨by omega, by omega, h7, l7, by omega, hcp, .inr ⟨xs, v, rfl, by omega, hx, v0, v1⟩⟩, d8⟩
    have x5 : ((fRet (fTup (fCons (fCall m__law_names (fCons (fVar 0) (fCons (fVar 3) fNil))) (fCons (fVar 6) (fCons (fTup (fCons (fTupL (fOwn 7)) (fCons (fCall m__law_number (fCons (fVar 0) fNil)) fNil))) fNil)))))) [.w (.ref 1), .w (.d (.int M)), .w (.d (.int 5)), .w (.d (.int (n : Int))), .w (.d (.int (c : Int))), .w (.d (.int b)), .w (.d (.tuple C)), .own (.lst (xs.map fun x => .d (itD x))), .un] S6 = .rt (.w (.d (.tuple [.tuple (ss.map .str), .tuple C, .tuple [.tuple (xs.map itD), .int v]]))) S8 := by
      have dt : dats (xs.map fun x => W.d (itD x)) = some (xs.map itD) := e_datsf _ _
      generalize (xs.map fun x => W.d (itD x)) = ys at dt ⊢
      generalize ss.map PyData.str = N at e7 ⊢
      generalize xs.map itD = I at dt ⊢
      simp [e7, e8, dt]
    unfold m__law_statement b__law_statement
    rw [e_runF, st, e_Seq, x0, e_thenN, e_Seq, x1, e_thenN, e_Seq, x2, e_thenN, e_Seq, x3, e_thenN, e_Seq, x4, e_thenN, x5]
    rfl
end L2.Q.P
namespace L2.Q.P
open PySem PySem.Spec PyProof.Rows
/-! the forms of parts -/
inductive Pf (n : Int) (Q : PyData → Prop) : PyData → Prop
  | tru : Pf n Q (.tuple [.str "true"])
  | fls : Pf n Q (.tuple [.str "false"])
  | name (i : Int) : 0 ≤ i → i < n → Pf n Q (.tuple [.str "name", .int i])
  | not (x : PyData) : Q x → Pf n Q (.tuple [.str "not", x])
  | imp (x y : PyData) : Q x → Q y → Pf n Q (.tuple [.str "implies", x, y])
  | iff (x y : PyData) : Q x → Q y → Pf n Q (.tuple [.str "iff", x, y])
  | and (xs : List PyData) : (∀ x ∈ xs, Q x) → Pf n Q (.tuple [.str "and", .tuple xs])
  | or (xs : List PyData) : (∀ x ∈ xs, Q x) → Pf n Q (.tuple [.str "or", .tuple xs])
  | least (k : Int) (xs : List PyData) : (∀ x ∈ xs, Q x) → Pf n Q (.tuple [.str "atleast", .int k, .tuple xs])
  | sum (its : List (PyData × Int)) (k : Int) : (∀ x ∈ its, Q x.1) → Pf n Q (.tuple [.str "sum", .tuple (its.map itD), .int k])
theorem inB_int {d : PyData} {lo hi : Int} (h : inB d lo hi = true) : ∃ i, d = .int i ∧ lo ≤ i ∧ i ≤ hi := by
  unfold inB at h
  split at h
  · rw [Bool.and_eq_true, decide_eq_true_eq, decide_eq_true_eq] at h
    exact ⟨_, rfl, h.1, h.2⟩
  · cases h
theorem wt_pair {d : PyData} (h : wtB d = true) : ∃ x : PyData × Int, d = itD x := by
  obtain ⟨a, y, rfl⟩ := wt_two h
  unfold wtB at h
  rw [Bool.and_eq_true] at h
  obtain ⟨i, rfl, _⟩ := inB_int h.2
  exact ⟨(a, i), rfl⟩
theorem wt_pairs : ∀ {xs : List PyData}, xs.all wtB = true → ∃ its : List (PyData × Int), xs = its.map itD
  | [], _ => ⟨[], rfl⟩
  | d :: r, h => by
    rw [List.all_cons, Bool.and_eq_true] at h
    obtain ⟨x, rfl⟩ := wt_pair h.1
    obtain ⟨its, rfl⟩ := wt_pairs h.2
    exact ⟨x :: its, rfl⟩
theorem pf_kids {n : Int} {Q : PyData → Prop} {d : PyData} {ds : List PyData} (h : kids n d = some ds) (q : ∀ x ∈ ds, Q x) : Pf n Q d := by
  unfold kids at h
  split at h
  · rename_i w r
    split at h
    · rename_i hw
      split at h
      · rcases hw with rfl | rfl
        · exact .tru
        · exact .fls
      · cases h
    split at h
    · rename_i hw
      subst hw
      split at h
      · split at h
        · rename_i hb
          obtain ⟨i, rfl, h0, h1⟩ := inB_int hb
          exact .name i h0 (by omega)
        · cases h
      · cases h
    split at h
    · rename_i hw
      subst hw
      split at h
      · cases h
        exact .not _ (q _ (by simp))
      · cases h
    split at h
    · rename_i hw
      split at h
      · cases h
        rcases hw with rfl | rfl
        · exact .imp _ _ (q _ (by simp)) (q _ (by simp))
        · exact .iff _ _ (q _ (by simp)) (q _ (by simp))
      · cases h
    split at h
    · rename_i hw
      split at h
      · cases h
        rcases hw with rfl | rfl
        · exact .and _ q
        · exact .or _ q
      · cases h
    split at h
    · rename_i hw
      subst hw
      split at h
      · split at h
        · rename_i hb
          cases h
          obtain ⟨i, rfl, _⟩ := inB_int hb
          exact .least i _ q
        · cases h
      · cases h
    split at h
    · rename_i hw
      subst hw
      split at h
      · split at h
        · rename_i hb
          cases h
          rw [Bool.and_eq_true] at hb
          obtain ⟨its, rfl⟩ := wt_pairs hb.2
          obtain ⟨i, rfl, _⟩ := inB_int hb.1
          exact .sum its i fun x hx => q x.1 (by rw [fst_itD]; exact List.mem_map.mpr ⟨x, hx, rfl⟩)
        · cases h
      · cases h
    · cases h
  · cases h
theorem le_sum {n : Int} {r : Nat} : ∀ {ds : List PyData} {x : PyData}, x ∈ ds → cntF n r x ≤ (ds.map (cntF n r)).sum
  | d :: t, x, h => by
    rw [List.map_cons, List.sum_cons]
    rcases List.mem_cons.mp h with rfl | h
    · omega
    · have := le_sum (n := n) (r := r) h
      omega
theorem pf_of {n : Int} {r : Nat} {d : PyData} (h : cntF n (r + 1) d < 99) : Pf n (fun x => cntF n r x < 99) d := by
  have e : cntF n (r + 1) d = (match kids n d with | none => 99 | some ds => 1 + (ds.map (cntF n r)).sum) := rfl
  rw [e] at h
  cases hk : kids n d with
  | none => rw [hk] at h; simp at h
  | some ds =>
    rw [hk] at h
    refine pf_kids hk fun x hx => ?_
    have := le_sum (n := n) (r := r) hx
    have h : 1 + (ds.map (cntF n r)).sum < 99 := h
    show cntF n r x < 99
    omega
end L2.Q.P
namespace L2.Q.P
open PySem PySem.Spec PyProof.Rows
/-! truth, both ways -/
structure Tw (R : PyData) (r : Nat) (d : PyData) (b : Bool) : Prop where
  p : ∀ f, 2 * r < f → ∀ S, mr_is_true f [.d d, .d R] S = .ok (.w (.d (.bool b))) S
  l : ∀ f, r < f → ∀ S, mr__law_truth f [.d d, .d R] S = .ok (.w (.d (.bool b))) S
theorem i_true (S : List Ob) : oIn (.d (.str "true")) (.d (.tuple [.str "true", .str "false"])) S = .ok (.d (.bool true)) S := by kernel_rfl
theorem q_true_true (S : List Ob) : oEqS false (.d (.str "true")) (.d (.str "true")) S = .ok (.d (.bool true)) S := by kernel_rfl
theorem q_true_name (S : List Ob) : oEqS false (.d (.str "true")) (.d (.str "name")) S = .ok (.d (.bool false)) S := by kernel_rfl
theorem q_true_not (S : List Ob) : oEqS false (.d (.str "true")) (.d (.str "not")) S = .ok (.d (.bool false)) S := by kernel_rfl
theorem q_true_iff (S : List Ob) : oEqS false (.d (.str "true")) (.d (.str "iff")) S = .ok (.d (.bool false)) S := by kernel_rfl
theorem q_true_and (S : List Ob) : oEqS false (.d (.str "true")) (.d (.str "and")) S = .ok (.d (.bool false)) S := by kernel_rfl
theorem q_true_or (S : List Ob) : oEqS false (.d (.str "true")) (.d (.str "or")) S = .ok (.d (.bool false)) S := by kernel_rfl
theorem q_true_implies (S : List Ob) : oEqS false (.d (.str "true")) (.d (.str "implies")) S = .ok (.d (.bool false)) S := by kernel_rfl
theorem q_true_atleast (S : List Ob) : oEqS false (.d (.str "true")) (.d (.str "atleast")) S = .ok (.d (.bool false)) S := by kernel_rfl
theorem i_false (S : List Ob) : oIn (.d (.str "false")) (.d (.tuple [.str "true", .str "false"])) S = .ok (.d (.bool true)) S := by kernel_rfl
theorem q_false_true (S : List Ob) : oEqS false (.d (.str "false")) (.d (.str "true")) S = .ok (.d (.bool false)) S := by kernel_rfl
theorem q_false_name (S : List Ob) : oEqS false (.d (.str "false")) (.d (.str "name")) S = .ok (.d (.bool false)) S := by kernel_rfl
theorem q_false_not (S : List Ob) : oEqS false (.d (.str "false")) (.d (.str "not")) S = .ok (.d (.bool false)) S := by kernel_rfl
theorem q_false_iff (S : List Ob) : oEqS false (.d (.str "false")) (.d (.str "iff")) S = .ok (.d (.bool false)) S := by kernel_rfl
theorem q_false_and (S : List Ob) : oEqS false (.d (.str "false")) (.d (.str "and")) S = .ok (.d (.bool false)) S := by kernel_rfl
theorem q_false_or (S : List Ob) : oEqS false (.d (.str "false")) (.d (.str "or")) S = .ok (.d (.bool false)) S := by kernel_rfl
theorem q_false_implies (S : List Ob) : oEqS false (.d (.str "false")) (.d (.str "implies")) S = .ok (.d (.bool false)) S := by kernel_rfl
theorem q_false_atleast (S : List Ob) : oEqS false (.d (.str "false")) (.d (.str "atleast")) S = .ok (.d (.bool false)) S := by kernel_rfl
theorem i_name (S : List Ob) : oIn (.d (.str "name")) (.d (.tuple [.str "true", .str "false"])) S = .ok (.d (.bool false)) S := by kernel_rfl
theorem q_name_true (S : List Ob) : oEqS false (.d (.str "name")) (.d (.str "true")) S = .ok (.d (.bool false)) S := by kernel_rfl
theorem q_name_name (S : List Ob) : oEqS false (.d (.str "name")) (.d (.str "name")) S = .ok (.d (.bool true)) S := by kernel_rfl
theorem q_name_not (S : List Ob) : oEqS false (.d (.str "name")) (.d (.str "not")) S = .ok (.d (.bool false)) S := by kernel_rfl
theorem q_name_iff (S : List Ob) : oEqS false (.d (.str "name")) (.d (.str "iff")) S = .ok (.d (.bool false)) S := by kernel_rfl
theorem q_name_and (S : List Ob) : oEqS false (.d (.str "name")) (.d (.str "and")) S = .ok (.d (.bool false)) S := by kernel_rfl
theorem q_name_or (S : List Ob) : oEqS false (.d (.str "name")) (.d (.str "or")) S = .ok (.d (.bool false)) S := by kernel_rfl
theorem q_name_implies (S : List Ob) : oEqS false (.d (.str "name")) (.d (.str "implies")) S = .ok (.d (.bool false)) S := by kernel_rfl
theorem q_name_atleast (S : List Ob) : oEqS false (.d (.str "name")) (.d (.str "atleast")) S = .ok (.d (.bool false)) S := by kernel_rfl
theorem i_not (S : List Ob) : oIn (.d (.str "not")) (.d (.tuple [.str "true", .str "false"])) S = .ok (.d (.bool false)) S := by kernel_rfl
theorem q_not_true (S : List Ob) : oEqS false (.d (.str "not")) (.d (.str "true")) S = .ok (.d (.bool false)) S := by kernel_rfl
theorem q_not_name (S : List Ob) : oEqS false (.d (.str "not")) (.d (.str "name")) S = .ok (.d (.bool false)) S := by kernel_rfl
theorem q_not_not (S : List Ob) : oEqS false (.d (.str "not")) (.d (.str "not")) S = .ok (.d (.bool true)) S := by kernel_rfl
theorem q_not_iff (S : List Ob) : oEqS false (.d (.str "not")) (.d (.str "iff")) S = .ok (.d (.bool false)) S := by kernel_rfl
theorem q_not_and (S : List Ob) : oEqS false (.d (.str "not")) (.d (.str "and")) S = .ok (.d (.bool false)) S := by kernel_rfl
theorem q_not_or (S : List Ob) : oEqS false (.d (.str "not")) (.d (.str "or")) S = .ok (.d (.bool false)) S := by kernel_rfl
theorem q_not_implies (S : List Ob) : oEqS false (.d (.str "not")) (.d (.str "implies")) S = .ok (.d (.bool false)) S := by kernel_rfl
theorem q_not_atleast (S : List Ob) : oEqS false (.d (.str "not")) (.d (.str "atleast")) S = .ok (.d (.bool false)) S := by kernel_rfl
theorem i_implies (S : List Ob) : oIn (.d (.str "implies")) (.d (.tuple [.str "true", .str "false"])) S = .ok (.d (.bool false)) S := by kernel_rfl
theorem q_implies_true (S : List Ob) : oEqS false (.d (.str "implies")) (.d (.str "true")) S = .ok (.d (.bool false)) S := by kernel_rfl
theorem q_implies_name (S : List Ob) : oEqS false (.d (.str "implies")) (.d (.str "name")) S = .ok (.d (.bool false)) S := by kernel_rfl
theorem q_implies_not (S : List Ob) : oEqS false (.d (.str "implies")) (.d (.str "not")) S = .ok (.d (.bool false)) S := by kernel_rfl
theorem q_implies_iff (S : List Ob) : oEqS false (.d (.str "implies")) (.d (.str "iff")) S = .ok (.d (.bool false)) S := by kernel_rfl
theorem q_implies_and (S : List Ob) : oEqS false (.d (.str "implies")) (.d (.str "and")) S = .ok (.d (.bool false)) S := by kernel_rfl
theorem q_implies_or (S : List Ob) : oEqS false (.d (.str "implies")) (.d (.str "or")) S = .ok (.d (.bool false)) S := by kernel_rfl
theorem q_implies_implies (S : List Ob) : oEqS false (.d (.str "implies")) (.d (.str "implies")) S = .ok (.d (.bool true)) S := by kernel_rfl
theorem q_implies_atleast (S : List Ob) : oEqS false (.d (.str "implies")) (.d (.str "atleast")) S = .ok (.d (.bool false)) S := by kernel_rfl
theorem i_iff (S : List Ob) : oIn (.d (.str "iff")) (.d (.tuple [.str "true", .str "false"])) S = .ok (.d (.bool false)) S := by kernel_rfl
theorem q_iff_true (S : List Ob) : oEqS false (.d (.str "iff")) (.d (.str "true")) S = .ok (.d (.bool false)) S := by kernel_rfl
theorem q_iff_name (S : List Ob) : oEqS false (.d (.str "iff")) (.d (.str "name")) S = .ok (.d (.bool false)) S := by kernel_rfl
theorem q_iff_not (S : List Ob) : oEqS false (.d (.str "iff")) (.d (.str "not")) S = .ok (.d (.bool false)) S := by kernel_rfl
theorem q_iff_iff (S : List Ob) : oEqS false (.d (.str "iff")) (.d (.str "iff")) S = .ok (.d (.bool true)) S := by kernel_rfl
theorem q_iff_and (S : List Ob) : oEqS false (.d (.str "iff")) (.d (.str "and")) S = .ok (.d (.bool false)) S := by kernel_rfl
theorem q_iff_or (S : List Ob) : oEqS false (.d (.str "iff")) (.d (.str "or")) S = .ok (.d (.bool false)) S := by kernel_rfl
theorem q_iff_implies (S : List Ob) : oEqS false (.d (.str "iff")) (.d (.str "implies")) S = .ok (.d (.bool false)) S := by kernel_rfl
theorem q_iff_atleast (S : List Ob) : oEqS false (.d (.str "iff")) (.d (.str "atleast")) S = .ok (.d (.bool false)) S := by kernel_rfl
theorem i_and (S : List Ob) : oIn (.d (.str "and")) (.d (.tuple [.str "true", .str "false"])) S = .ok (.d (.bool false)) S := by kernel_rfl
theorem q_and_true (S : List Ob) : oEqS false (.d (.str "and")) (.d (.str "true")) S = .ok (.d (.bool false)) S := by kernel_rfl
theorem q_and_name (S : List Ob) : oEqS false (.d (.str "and")) (.d (.str "name")) S = .ok (.d (.bool false)) S := by kernel_rfl
theorem q_and_not (S : List Ob) : oEqS false (.d (.str "and")) (.d (.str "not")) S = .ok (.d (.bool false)) S := by kernel_rfl
theorem q_and_iff (S : List Ob) : oEqS false (.d (.str "and")) (.d (.str "iff")) S = .ok (.d (.bool false)) S := by kernel_rfl
theorem q_and_and (S : List Ob) : oEqS false (.d (.str "and")) (.d (.str "and")) S = .ok (.d (.bool true)) S := by kernel_rfl
theorem q_and_or (S : List Ob) : oEqS false (.d (.str "and")) (.d (.str "or")) S = .ok (.d (.bool false)) S := by kernel_rfl
theorem q_and_implies (S : List Ob) : oEqS false (.d (.str "and")) (.d (.str "implies")) S = .ok (.d (.bool false)) S := by kernel_rfl
theorem q_and_atleast (S : List Ob) : oEqS false (.d (.str "and")) (.d (.str "atleast")) S = .ok (.d (.bool false)) S := by kernel_rfl
theorem i_or (S : List Ob) : oIn (.d (.str "or")) (.d (.tuple [.str "true", .str "false"])) S = .ok (.d (.bool false)) S := by kernel_rfl
theorem q_or_true (S : List Ob) : oEqS false (.d (.str "or")) (.d (.str "true")) S = .ok (.d (.bool false)) S := by kernel_rfl
theorem q_or_name (S : List Ob) : oEqS false (.d (.str "or")) (.d (.str "name")) S = .ok (.d (.bool false)) S := by kernel_rfl
theorem q_or_not (S : List Ob) : oEqS false (.d (.str "or")) (.d (.str "not")) S = .ok (.d (.bool false)) S := by kernel_rfl
theorem q_or_iff (S : List Ob) : oEqS false (.d (.str "or")) (.d (.str "iff")) S = .ok (.d (.bool false)) S := by kernel_rfl
theorem q_or_and (S : List Ob) : oEqS false (.d (.str "or")) (.d (.str "and")) S = .ok (.d (.bool false)) S := by kernel_rfl
theorem q_or_or (S : List Ob) : oEqS false (.d (.str "or")) (.d (.str "or")) S = .ok (.d (.bool true)) S := by kernel_rfl
theorem q_or_implies (S : List Ob) : oEqS false (.d (.str "or")) (.d (.str "implies")) S = .ok (.d (.bool false)) S := by kernel_rfl
theorem q_or_atleast (S : List Ob) : oEqS false (.d (.str "or")) (.d (.str "atleast")) S = .ok (.d (.bool false)) S := by kernel_rfl
theorem i_atleast (S : List Ob) : oIn (.d (.str "atleast")) (.d (.tuple [.str "true", .str "false"])) S = .ok (.d (.bool false)) S := by kernel_rfl
theorem q_atleast_true (S : List Ob) : oEqS false (.d (.str "atleast")) (.d (.str "true")) S = .ok (.d (.bool false)) S := by kernel_rfl
theorem q_atleast_name (S : List Ob) : oEqS false (.d (.str "atleast")) (.d (.str "name")) S = .ok (.d (.bool false)) S := by kernel_rfl
theorem q_atleast_not (S : List Ob) : oEqS false (.d (.str "atleast")) (.d (.str "not")) S = .ok (.d (.bool false)) S := by kernel_rfl
theorem q_atleast_iff (S : List Ob) : oEqS false (.d (.str "atleast")) (.d (.str "iff")) S = .ok (.d (.bool false)) S := by kernel_rfl
theorem q_atleast_and (S : List Ob) : oEqS false (.d (.str "atleast")) (.d (.str "and")) S = .ok (.d (.bool false)) S := by kernel_rfl
theorem q_atleast_or (S : List Ob) : oEqS false (.d (.str "atleast")) (.d (.str "or")) S = .ok (.d (.bool false)) S := by kernel_rfl
theorem q_atleast_implies (S : List Ob) : oEqS false (.d (.str "atleast")) (.d (.str "implies")) S = .ok (.d (.bool false)) S := by kernel_rfl
theorem q_atleast_atleast (S : List Ob) : oEqS false (.d (.str "atleast")) (.d (.str "atleast")) S = .ok (.d (.bool true)) S := by kernel_rfl
theorem i_sum (S : List Ob) : oIn (.d (.str "sum")) (.d (.tuple [.str "true", .str "false"])) S = .ok (.d (.bool false)) S := by kernel_rfl
theorem q_sum_true (S : List Ob) : oEqS false (.d (.str "sum")) (.d (.str "true")) S = .ok (.d (.bool false)) S := by kernel_rfl
theorem q_sum_name (S : List Ob) : oEqS false (.d (.str "sum")) (.d (.str "name")) S = .ok (.d (.bool false)) S := by kernel_rfl
theorem q_sum_not (S : List Ob) : oEqS false (.d (.str "sum")) (.d (.str "not")) S = .ok (.d (.bool false)) S := by kernel_rfl
theorem q_sum_iff (S : List Ob) : oEqS false (.d (.str "sum")) (.d (.str "iff")) S = .ok (.d (.bool false)) S := by kernel_rfl
theorem q_sum_and (S : List Ob) : oEqS false (.d (.str "sum")) (.d (.str "and")) S = .ok (.d (.bool false)) S := by kernel_rfl
theorem q_sum_or (S : List Ob) : oEqS false (.d (.str "sum")) (.d (.str "or")) S = .ok (.d (.bool false)) S := by kernel_rfl
theorem q_sum_implies (S : List Ob) : oEqS false (.d (.str "sum")) (.d (.str "implies")) S = .ok (.d (.bool false)) S := by kernel_rfl
theorem q_sum_atleast (S : List Ob) : oEqS false (.d (.str "sum")) (.d (.str "atleast")) S = .ok (.d (.bool false)) S := by kernel_rfl
theorem sum_its (f : Nat) (R d : PyData) (w : Str) (k : Int) (tv : PyData → Bool) (S : List Ob) (its : List (PyData × Int)) (h : ∀ x ∈ its, mr_is_true f [.d x.1, .d R] S = .ok (.w (.d (.bool (tv x.1)))) S) :
    (fSum (fItO (fLc (fIt (fVar 3)) [5, 6] (gT 2 (gsC (gN 5) (gsC (gN 6) gsN))) (t_is_true_0 (mr_is_true f)) (e_is_true_0 (mr_is_true f))))) [.w (.d d), .w (.d R), .w (.d (.str w)), .w (.d (.list (its.map itD))), .w (.d (.int k)), .un, .un] S = .ok (.d (.int ((its.filter fun x => tv x.1).map (·.2)).sum)) S := by
  have src : fIt (fVar 3) [.w (.d d), .w (.d R), .w (.d (.str w)), .w (.d (.list (its.map itD))), .w (.d (.int k)), .un, .un] S = .ok (its.map fun x => W.d (itD x)) S := by
    show Res.ok ((its.map itD).map W.d) S = _
    rw [List.map_map]; rfl
  have u : unset [.w (.d d), .w (.d R), .w (.d (.str w)), .w (.d (.list (its.map itD))), .w (.d (.int k)), .un, .un] [5, 6] = [.w (.d d), .w (.d R), .w (.d (.str w)), .w (.d (.list (its.map itD))), .w (.d (.int k)), .un, .un] := rfl
  rw [e_Sum, e_ItO, e_Lc (h := src) (ho := rfl), u, lc_sel (gT 2 (gsC (gN 5) (gsC (gN 6) gsN))) (t_is_true_0 (mr_is_true f)) (e_is_true_0 (mr_is_true f)) _ S (fun x : PyData × Int => W.d (itD x)) (fun x => tv x.1) (fun x => W.d (.int x.2)) its fun x hx => ⟨[.w (.d d), .w (.d R), .w (.d (.str w)), .w (.d (.list (its.map itD))), .w (.d (.int k)), .w (.d x.1), .w (.d (.int x.2))], rfl, by simp [t_is_true_0, h x hx], fun _ => rfl⟩]
  rw [e_ok, e_ok, e_lstOf, e_ok]
  have : ∀ l : List (PyData × Int), (l.map fun x => W.d (.int x.2)) = (l.map (·.2)).map fun i => .d (.int i) := fun l => by rw [List.map_map]; rfl
  rw [this, e_onI]
theorem true_wt {f : Nat} {R : PyData} {r : List PyData} {w : Str} {k : Int} {tv : PyData → Bool} {S : List Ob} {its : List (PyData × Int)} (i1 : ∀ S, oIn (.d (.str w)) (.d (.tuple [.str "true", .str "false"])) S = .ok (.d (.bool false)) S) (i2 : ∀ S, oEqS false (.d (.str w)) (.d (.str "name")) S = .ok (.d (.bool false)) S) (i3 : ∀ S, oEqS false (.d (.str w)) (.d (.str "not")) S = .ok (.d (.bool false)) S) (i4 : ∀ S, oEqS false (.d (.str w)) (.d (.str "iff")) S = .ok (.d (.bool false)) S)
    (hw : m_weighed [.d (.tuple (.str w :: r))] S = .ok (.w (.d (.tuple [.list (its.map itD), .int k]))) S) (h : ∀ x ∈ its, mr_is_true f [.d x.1, .d R] S = .ok (.w (.d (.bool (tv x.1)))) S) :
    mr_is_true (f + 1) [.d (.tuple (.str w :: r)), .d R] S = .ok (.w (.d (.bool (decide (k ≤ ((its.filter fun x => tv x.1).map (·.2)).sum))))) S := by
  have st : start0 7 [W.d (.tuple (.str w :: r)), .d R] = [.w (.d (.tuple (.str w :: r))), .w (.d R), .un, .un, .un, .un, .un] := rfl
  have sm := sum_its f R (.tuple (.str w :: r)) w k tv S its h
  have hw' : (fAsg (gT 2 (gsC (gN 3) (gsC (gN 4) gsN))) (fCall m_weighed (fCons (fVar 0) fNil))) [.w (.d (.tuple (.str w :: r))), .w (.d R), .w (.d (.str w)), .un, .un, .un, .un] S = .nx [.w (.d (.tuple (.str w :: r))), .w (.d R), .w (.d (.str w)), .w (.d (.list (its.map itD))), .w (.d (.int k)), .un, .un] S := by
    generalize its.map itD = I at hw ⊢
    simp [hw]
  show runF 7 (b_is_true (mr_is_true f)) _ S = _
  unfold b_is_true
  rw [e_runF, st, e_Seq]
  have x0 : ((fSet 2 (fBin oIx (fVar 0) (fC (.int 0))))) [.w (.d (.tuple (.str w :: r))), .w (.d R), .un, .un, .un, .un, .un] S = .nx [.w (.d (.tuple (.str w :: r))), .w (.d R), .w (.d (.str w)), .un, .un, .un, .un] S := by simp
  have x1 : ((fIfS (fT (fBin oIn (fVar 2) (fTup (fCons (fC (.str "true")) (fCons (fC (.str "false")) fNil))))) (fRet (fBin (oEqS false) (fVar 2) (fC (.str "true")))) fNx)) [.w (.d (.tuple (.str w :: r))), .w (.d R), .w (.d (.str w)), .un, .un, .un, .un] S = .nx [.w (.d (.tuple (.str w :: r))), .w (.d R), .w (.d (.str w)), .un, .un, .un, .un] S := by simp [i1]
  have x2 : ((fIfS (fT (fBin (oEqS false) (fVar 2) (fC (.str "name")))) (fRet (fBin (oEqS false) (fBin oIx (fVar 1) (fBin oIx (fVar 0) (fC (.int 1)))) (fC (.int 1)))) fNx)) [.w (.d (.tuple (.str w :: r))), .w (.d R), .w (.d (.str w)), .un, .un, .un, .un] S = .nx [.w (.d (.tuple (.str w :: r))), .w (.d R), .w (.d (.str w)), .un, .un, .un, .un] S := by simp [i2]
  have x3 : ((fIfS (fT (fBin (oEqS false) (fVar 2) (fC (.str "not")))) (fRet (fNotV (fCall (mr_is_true f) (fCons (fBin oIx (fVar 0) (fC (.int 1))) (fCons (fVar 1) fNil))))) fNx)) [.w (.d (.tuple (.str w :: r))), .w (.d R), .w (.d (.str w)), .un, .un, .un, .un] S = .nx [.w (.d (.tuple (.str w :: r))), .w (.d R), .w (.d (.str w)), .un, .un, .un, .un] S := by simp [i3]
  have x4 : ((fIfS (fT (fBin (oEqS false) (fVar 2) (fC (.str "iff")))) (fRet (fBin (oEqS false) (fCall (mr_is_true f) (fCons (fBin oIx (fVar 0) (fC (.int 1))) (fCons (fVar 1) fNil))) (fCall (mr_is_true f) (fCons (fBin oIx (fVar 0) (fC (.int 2))) (fCons (fVar 1) fNil))))) fNx)) [.w (.d (.tuple (.str w :: r))), .w (.d R), .w (.d (.str w)), .un, .un, .un, .un] S = .nx [.w (.d (.tuple (.str w :: r))), .w (.d R), .w (.d (.str w)), .un, .un, .un, .un] S := by simp [i4]
  rw [x0, e_thenN, e_Seq, x1, e_thenN, e_Seq, x2, e_thenN, e_Seq, x3, e_thenN, e_Seq, x4, e_thenN, e_Seq, hw', e_thenN, e_Ret, e_bin, sm, e_ok]
  simp
theorem weighed_and (xs : List PyData) (S : List Ob) : m_weighed [.d (.tuple [.str "and", .tuple xs])] S = .ok (.w (.d (.tuple [.list ((xs.map fun x => (x, (1 : Int))).map itD), .int xs.length]))) S := by
  have e : fFz (fLc (fIt (fBin oIx (fVar 0) (fC (.int 1)))) [2] (gN 2) (fun _ S => .ok true S) e_weighed_0) [.w (.d (.tuple [.str "and", .tuple xs])), .w (.d (.str "and")), .un] S = .ok (.d (.list ((xs.map fun x => (x, (1 : Int))).map itD))) S := by
    have src : fIt (fBin oIx (fVar 0) (fC (.int 1))) [.w (.d (.tuple [.str "and", .tuple xs])), .w (.d (.str "and")), .un] S = .ok (xs.map .d) S := by simp
    have u : unset [.w (.d (.tuple [.str "and", .tuple xs])), .w (.d (.str "and")), .un] [2] = [.w (.d (.tuple [.str "and", .tuple xs])), .w (.d (.str "and")), .un] := rfl
    rw [e_Fz, e_Lc (h := src) (ho := rfl), u, lc_sel (gN 2) (fun _ S => .ok true S) e_weighed_0 _ S W.d (fun _ => true) (fun x => W.d (itD (x, 1))) xs fun x _ => ⟨[.w (.d (.tuple [.str "and", .tuple xs])), .w (.d (.str "and")), .w (.d x)], rfl, rfl, fun _ => rfl⟩]
    rw [filt, e_ok, e_ok, e_frz]
    have dt : dats (xs.map fun x => W.d (itD (x, 1))) = some ((xs.map fun x => (x, (1 : Int))).map itD) := by
      rw [e_datsf (fun x => itD (x, 1)) xs, List.map_map]; rfl
    rw [dt]
    rfl
  generalize (xs.map fun x => (x, (1 : Int))).map itD = I at e ⊢
  simp [m_weighed, b_weighed, start0, e, -e_Fz, q_and_and]
theorem weighed_or (xs : List PyData) (S : List Ob) : m_weighed [.d (.tuple [.str "or", .tuple xs])] S = .ok (.w (.d (.tuple [.list ((xs.map fun x => (x, (1 : Int))).map itD), .int 1]))) S := by
  have e : fFz (fLc (fIt (fBin oIx (fVar 0) (fC (.int 1)))) [2] (gN 2) (fun _ S => .ok true S) e_weighed_1) [.w (.d (.tuple [.str "or", .tuple xs])), .w (.d (.str "or")), .un] S = .ok (.d (.list ((xs.map fun x => (x, (1 : Int))).map itD))) S := by
    have src : fIt (fBin oIx (fVar 0) (fC (.int 1))) [.w (.d (.tuple [.str "or", .tuple xs])), .w (.d (.str "or")), .un] S = .ok (xs.map .d) S := by simp
    have u : unset [.w (.d (.tuple [.str "or", .tuple xs])), .w (.d (.str "or")), .un] [2] = [.w (.d (.tuple [.str "or", .tuple xs])), .w (.d (.str "or")), .un] := rfl
    rw [e_Fz, e_Lc (h := src) (ho := rfl), u, lc_sel (gN 2) (fun _ S => .ok true S) e_weighed_1 _ S W.d (fun _ => true) (fun x => W.d (itD (x, 1))) xs fun x _ => ⟨[.w (.d (.tuple [.str "or", .tuple xs])), .w (.d (.str "or")), .w (.d x)], rfl, rfl, fun _ => rfl⟩]
    rw [filt, e_ok, e_ok, e_frz]
    have dt : dats (xs.map fun x => W.d (itD (x, 1))) = some ((xs.map fun x => (x, (1 : Int))).map itD) := by
      rw [e_datsf (fun x => itD (x, 1)) xs, List.map_map]; rfl
    rw [dt]
    rfl
  generalize (xs.map fun x => (x, (1 : Int))).map itD = I at e ⊢
  simp [m_weighed, b_weighed, start0, e, -e_Fz, q_or_and, q_or_or]
theorem weighed_atleast (k : Int) (xs : List PyData) (S : List Ob) : m_weighed [.d (.tuple [.str "atleast", .int k, .tuple xs])] S = .ok (.w (.d (.tuple [.list ((xs.map fun x => (x, (1 : Int))).map itD), .int k]))) S := by
  have e : fFz (fLc (fIt (fBin oIx (fVar 0) (fC (.int 2)))) [2] (gN 2) (fun _ S => .ok true S) e_weighed_2) [.w (.d (.tuple [.str "atleast", .int k, .tuple xs])), .w (.d (.str "atleast")), .un] S = .ok (.d (.list ((xs.map fun x => (x, (1 : Int))).map itD))) S := by
    have src : fIt (fBin oIx (fVar 0) (fC (.int 2))) [.w (.d (.tuple [.str "atleast", .int k, .tuple xs])), .w (.d (.str "atleast")), .un] S = .ok (xs.map .d) S := by simp
    have u : unset [.w (.d (.tuple [.str "atleast", .int k, .tuple xs])), .w (.d (.str "atleast")), .un] [2] = [.w (.d (.tuple [.str "atleast", .int k, .tuple xs])), .w (.d (.str "atleast")), .un] := rfl
    rw [e_Fz, e_Lc (h := src) (ho := rfl), u, lc_sel (gN 2) (fun _ S => .ok true S) e_weighed_2 _ S W.d (fun _ => true) (fun x => W.d (itD (x, 1))) xs fun x _ => ⟨[.w (.d (.tuple [.str "atleast", .int k, .tuple xs])), .w (.d (.str "atleast")), .w (.d x)], rfl, rfl, fun _ => rfl⟩]
    rw [filt, e_ok, e_ok, e_frz]
    have dt : dats (xs.map fun x => W.d (itD (x, 1))) = some ((xs.map fun x => (x, (1 : Int))).map itD) := by
      rw [e_datsf (fun x => itD (x, 1)) xs, List.map_map]; rfl
    rw [dt]
    rfl
  generalize (xs.map fun x => (x, (1 : Int))).map itD = I at e ⊢
  simp [m_weighed, b_weighed, start0, e, -e_Fz, q_atleast_and, q_atleast_or, q_atleast_implies, q_atleast_atleast]
theorem weighed_imp (x y : PyData) (S : List Ob) : m_weighed [.d (.tuple [.str "implies", x, y])] S = .ok (.w (.d (.tuple [.list ([((.tuple [.str "not", x] : PyData), (1 : Int)), (y, (1 : Int))].map itD), .int 1]))) S := by
  simp [m_weighed, b_weighed, start0, itD, q_implies_and, q_implies_or, q_implies_implies]
theorem weighed_sum (its : List (PyData × Int)) (k : Int) (S : List Ob) : m_weighed [.d (.tuple [.str "sum", .tuple (its.map itD), .int k])] S = .ok (.w (.d (.tuple [.list (its.map itD), .int k]))) S := by
  generalize its.map itD = I
  simp [m_weighed, b_weighed, start0, q_sum_and, q_sum_or, q_sum_implies, q_sum_atleast]
theorem ones_sum (tv : PyData → Bool) (xs : List PyData) : (((xs.map fun x => (x, (1 : Int))).filter fun x => tv x.1).map (·.2)).sum = ((xs.filter tv).length : Nat) := by
  induction xs with
  | nil => rfl
  | cons x r ih =>
    rw [List.map_cons]
    cases h : tv x with
    | true => rw [List.filter_cons_of_pos (by exact h), List.filter_cons_of_pos h, List.map_cons, List.sum_cons, ih, List.length_cons]; omega
    | false => rw [List.filter_cons_of_neg (by simp [h]), List.filter_cons_of_neg (by simp [h]), ih]
theorem all_len (tv : PyData → Bool) (xs : List PyData) : decide (((xs.length : Nat) : Int) ≤ ((xs.filter tv).length : Nat)) = xs.all tv := by
  have l := List.length_filter_le tv xs
  cases h : xs.all tv with
  | true =>
    rw [List.filter_eq_self.mpr (List.all_eq_true.mp h)]
    exact decide_eq_true (Int.le_refl _)
  | false =>
    refine decide_eq_false fun hc => ?_
    have : (xs.filter tv).length = xs.length := by omega
    have := List.filter_eq_self.mp (List.filter_sublist.eq_of_length this)
    rw [List.all_eq_true.mpr this] at h
    cases h
theorem any_len (tv : PyData → Bool) (xs : List PyData) : decide ((1 : Int) ≤ ((xs.filter tv).length : Nat)) = xs.any tv := by
  induction xs with
  | nil => rfl
  | cons x r ih =>
    cases h : tv x with
    | true =>
      rw [List.filter_cons_of_pos h, List.any_cons, h, Bool.true_or, List.length_cons]
      exact decide_eq_true (by omega)
    | false => rw [List.filter_cons_of_neg (by simp [h]), List.any_cons, h, Bool.false_or, ih]
theorem any_map_id (j : PyData → Bool) (ds : List PyData) : (ds.map j).any id = ds.any j := by rw [List.any_map]; rfl
theorem lt_true (f : Nat) (R : PyData)  (S : List Ob)  : mr__law_truth (f + 1) [.d (.tuple [.str "true"]), .d R] S = .ok (.w (.d (.bool (true)))) S := by
  show runF 5 (b__law_truth (mr__law_truth f)) _ S = _
  simp [b__law_truth, start0, i_true, q_true_true]
theorem lt_false (f : Nat) (R : PyData)  (S : List Ob)  : mr__law_truth (f + 1) [.d (.tuple [.str "false"]), .d R] S = .ok (.w (.d (.bool (false)))) S := by
  show runF 5 (b__law_truth (mr__law_truth f)) _ S = _
  simp [b__law_truth, start0, i_false, q_false_true]
theorem lt_name (f : Nat) (R : PyData) (i v : Int) (S : List Ob) (h : ∀ S, oIx (.d R) (.d (.int i)) S = .ok (.d (.int v)) S) : mr__law_truth (f + 1) [.d (.tuple [.str "name", .int i]), .d R] S = .ok (.w (.d (.bool (decide (v = 1))))) S := by
  show runF 5 (b__law_truth (mr__law_truth f)) _ S = _
  simp [b__law_truth, start0, i_name, q_name_name, h]
theorem lt_not (f : Nat) (R : PyData) (x : PyData) (b : Bool) (S : List Ob) (h : mr__law_truth f [.d x, .d R] S = .ok (.w (.d (.bool b))) S) : mr__law_truth (f + 1) [.d (.tuple [.str "not", x]), .d R] S = .ok (.w (.d (.bool (!b)))) S := by
  show runF 5 (b__law_truth (mr__law_truth f)) _ S = _
  simp [b__law_truth, start0, i_not, q_not_name, q_not_not, h]
theorem lt_iff (f : Nat) (R : PyData) (x y : PyData) (a b : Bool) (S : List Ob) (h : mr__law_truth f [.d x, .d R] S = .ok (.w (.d (.bool a))) S) (g : mr__law_truth f [.d y, .d R] S = .ok (.w (.d (.bool b))) S) : mr__law_truth (f + 1) [.d (.tuple [.str "iff", x, y]), .d R] S = .ok (.w (.d (.bool (a == b)))) S := by
  have eb : oEqS false (.d (.bool a)) (.d (.bool b)) S = .ok (.d (.bool (a == b))) S := by cases a <;> cases b <;> rfl
  show runF 5 (b__law_truth (mr__law_truth f)) _ S = _
  simp [b__law_truth, start0, i_iff, q_iff_name, q_iff_not, q_iff_and, q_iff_or, q_iff_implies, q_iff_iff, h, g, eb]
theorem it_true (f : Nat) (R : PyData)  (S : List Ob)  : mr_is_true (f + 1) [.d (.tuple [.str "true"]), .d R] S = .ok (.w (.d (.bool (true)))) S := by
  show runF 7 (b_is_true (mr_is_true f)) _ S = _
  simp [b_is_true, start0, i_true, q_true_true]
theorem it_false (f : Nat) (R : PyData)  (S : List Ob)  : mr_is_true (f + 1) [.d (.tuple [.str "false"]), .d R] S = .ok (.w (.d (.bool (false)))) S := by
  show runF 7 (b_is_true (mr_is_true f)) _ S = _
  simp [b_is_true, start0, i_false, q_false_true]
theorem it_name (f : Nat) (R : PyData) (i v : Int) (S : List Ob) (h : ∀ S, oIx (.d R) (.d (.int i)) S = .ok (.d (.int v)) S) : mr_is_true (f + 1) [.d (.tuple [.str "name", .int i]), .d R] S = .ok (.w (.d (.bool (decide (v = 1))))) S := by
  show runF 7 (b_is_true (mr_is_true f)) _ S = _
  simp [b_is_true, start0, i_name, q_name_name, h]
theorem it_not (f : Nat) (R : PyData) (x : PyData) (b : Bool) (S : List Ob) (h : mr_is_true f [.d x, .d R] S = .ok (.w (.d (.bool b))) S) : mr_is_true (f + 1) [.d (.tuple [.str "not", x]), .d R] S = .ok (.w (.d (.bool (!b)))) S := by
  show runF 7 (b_is_true (mr_is_true f)) _ S = _
  simp [b_is_true, start0, i_not, q_not_name, q_not_not, h]
theorem it_iff (f : Nat) (R : PyData) (x y : PyData) (a b : Bool) (S : List Ob) (h : mr_is_true f [.d x, .d R] S = .ok (.w (.d (.bool a))) S) (g : mr_is_true f [.d y, .d R] S = .ok (.w (.d (.bool b))) S) : mr_is_true (f + 1) [.d (.tuple [.str "iff", x, y]), .d R] S = .ok (.w (.d (.bool (a == b)))) S := by
  have eb : oEqS false (.d (.bool a)) (.d (.bool b)) S = .ok (.d (.bool (a == b))) S := by cases a <;> cases b <;> rfl
  show runF 7 (b_is_true (mr_is_true f)) _ S = _
  simp [b_is_true, start0, i_iff, q_iff_name, q_iff_not, q_iff_iff, h, g, eb]
theorem lt_imp (f : Nat) (R : PyData) (x y : PyData) (a b : Bool) (S : List Ob) (h : mr__law_truth f [.d x, .d R] S = .ok (.w (.d (.bool a))) S) (g : mr__law_truth f [.d y, .d R] S = .ok (.w (.d (.bool b))) S) : mr__law_truth (f + 1) [.d (.tuple [.str "implies", x, y]), .d R] S = .ok (.w (.d (.bool (!a || b)))) S := by
  show runF 5 (b__law_truth (mr__law_truth f)) _ S = _
  cases a <;> simp [b__law_truth, start0, i_implies, q_implies_name, q_implies_not, q_implies_and, q_implies_or, q_implies_implies, h, g]
theorem lt_and (f : Nat) (R : PyData) (xs : List PyData) (tv : PyData → Bool) (S : List Ob) (h : ∀ x ∈ xs, mr__law_truth f [.d x, .d R] S = .ok (.w (.d (.bool (tv x)))) S) : mr__law_truth (f + 1) [.d (.tuple [.str "and", .tuple xs]), .d R] S = .ok (.w (.d (.bool (xs.all tv)))) S := by
  have e : (fAll (fItO (fLc (fIt (fBin oIx (fVar 0) (fC (.int 1)))) [3] (gN 3) (fun _ S => .ok true S) (e__law_truth_0 (mr__law_truth f))))) [.w (.d (.tuple [.str "and", .tuple xs])), .w (.d R), .w (.d (.str "and")), .un, .un] S = .ok (.d (.bool (xs.all tv))) S := by
    have src : fIt (fBin oIx (fVar 0) (fC (.int 1))) [.w (.d (.tuple [.str "and", .tuple xs])), .w (.d R), .w (.d (.str "and")), .un, .un] S = .ok (xs.map .d) S := by simp
    have u : unset [.w (.d (.tuple [.str "and", .tuple xs])), .w (.d R), .w (.d (.str "and")), .un, .un] [3] = [.w (.d (.tuple [.str "and", .tuple xs])), .w (.d R), .w (.d (.str "and")), .un, .un] := rfl
    rw [e_All, e_ItO, e_Lc (h := src) (ho := rfl), u, lc_judge (e__law_truth_0 (mr__law_truth f)) tv 3 _ S xs (fun x hx => by
      show e__law_truth_0 (mr__law_truth f) [_, .w (.d R), _, .w (.d x), _] S = _
      simp [e__law_truth_0, h x hx]), e_ok, e_ok, e_lstOf, e_ok, e_onB, all_map_id]
  show runF 5 (b__law_truth (mr__law_truth f)) _ S = _
  simp [b__law_truth, start0, -e_All, e, i_and, q_and_name, q_and_not, q_and_and]
theorem lt_or (f : Nat) (R : PyData) (xs : List PyData) (tv : PyData → Bool) (S : List Ob) (h : ∀ x ∈ xs, mr__law_truth f [.d x, .d R] S = .ok (.w (.d (.bool (tv x)))) S) : mr__law_truth (f + 1) [.d (.tuple [.str "or", .tuple xs]), .d R] S = .ok (.w (.d (.bool (xs.any tv)))) S := by
  have e : (fAny (fItO (fLc (fIt (fBin oIx (fVar 0) (fC (.int 1)))) [3] (gN 3) (fun _ S => .ok true S) (e__law_truth_1 (mr__law_truth f))))) [.w (.d (.tuple [.str "or", .tuple xs])), .w (.d R), .w (.d (.str "or")), .un, .un] S = .ok (.d (.bool (xs.any tv))) S := by
    have src : fIt (fBin oIx (fVar 0) (fC (.int 1))) [.w (.d (.tuple [.str "or", .tuple xs])), .w (.d R), .w (.d (.str "or")), .un, .un] S = .ok (xs.map .d) S := by simp
    have u : unset [.w (.d (.tuple [.str "or", .tuple xs])), .w (.d R), .w (.d (.str "or")), .un, .un] [3] = [.w (.d (.tuple [.str "or", .tuple xs])), .w (.d R), .w (.d (.str "or")), .un, .un] := rfl
    rw [e_Any, e_ItO, e_Lc (h := src) (ho := rfl), u, lc_judge (e__law_truth_1 (mr__law_truth f)) tv 3 _ S xs (fun x hx => by
      show e__law_truth_1 (mr__law_truth f) [_, .w (.d R), _, .w (.d x), _] S = _
      simp [e__law_truth_1, h x hx]), e_ok, e_ok, e_lstOf, e_ok, e_onB, any_map_id]
  show runF 5 (b__law_truth (mr__law_truth f)) _ S = _
  simp [b__law_truth, start0, -e_Any, e, i_or, q_or_name, q_or_not, q_or_and, q_or_or]
theorem lt_least (f : Nat) (R : PyData) (k : Int) (xs : List PyData) (tv : PyData → Bool) (S : List Ob) (h : ∀ x ∈ xs, mr__law_truth f [.d x, .d R] S = .ok (.w (.d (.bool (tv x)))) S) : mr__law_truth (f + 1) [.d (.tuple [.str "atleast", .int k, .tuple xs]), .d R] S = .ok (.w (.d (.bool (decide (k ≤ ((xs.filter tv).length : Nat)))))) S := by
  have e : (fLen (fItO (fLc (fIt (fBin oIx (fVar 0) (fC (.int 2)))) [3] (gN 3) (t__law_truth_0 (mr__law_truth f)) (e__law_truth_2 (mr__law_truth f))))) [.w (.d (.tuple [.str "atleast", .int k, .tuple xs])), .w (.d R), .w (.d (.str "atleast")), .un, .un] S = .ok (.d (.int ((xs.filter tv).length : Nat))) S := by
    have src : fIt (fBin oIx (fVar 0) (fC (.int 2))) [.w (.d (.tuple [.str "atleast", .int k, .tuple xs])), .w (.d R), .w (.d (.str "atleast")), .un, .un] S = .ok (xs.map .d) S := by simp
    have u : unset [.w (.d (.tuple [.str "atleast", .int k, .tuple xs])), .w (.d R), .w (.d (.str "atleast")), .un, .un] [3] = [.w (.d (.tuple [.str "atleast", .int k, .tuple xs])), .w (.d R), .w (.d (.str "atleast")), .un, .un] := rfl
    rw [e_Len, e_ItO, e_Lc (h := src) (ho := rfl), u, lc_sel (gN 3) (t__law_truth_0 (mr__law_truth f)) (e__law_truth_2 (mr__law_truth f)) _ S W.d tv W.d xs fun x hx => ⟨[.w (.d (.tuple [.str "atleast", .int k, .tuple xs])), .w (.d R), .w (.d (.str "atleast")), .w (.d x), .un], rfl, by simp [t__law_truth_0, h x hx], fun _ => rfl⟩]
    rw [e_ok, e_ok, e_lstOf, e_ok, List.length_map]
  show runF 5 (b__law_truth (mr__law_truth f)) _ S = _
  simp [b__law_truth, start0, -e_Len, e, i_atleast, q_atleast_name, q_atleast_not, q_atleast_and, q_atleast_or, q_atleast_implies, q_atleast_iff, q_atleast_atleast]
theorem lt_sum (f : Nat) (R : PyData) (k : Int) (its : List (PyData × Int)) (tv : PyData → Bool) (S : List Ob) (h : ∀ x ∈ its, mr__law_truth f [.d x.1, .d R] S = .ok (.w (.d (.bool (tv x.1)))) S) : mr__law_truth (f + 1) [.d (.tuple [.str "sum", .tuple (its.map itD), .int k]), .d R] S = .ok (.w (.d (.bool (decide (k ≤ ((its.filter fun x => tv x.1).map (·.2)).sum))))) S := by
  have e : (fSum (fItO (fLc (fIt (fBin oIx (fVar 0) (fC (.int 1)))) [3, 4] (gT 2 (gsC (gN 3) (gsC (gN 4) gsN))) (t__law_truth_1 (mr__law_truth f)) (e__law_truth_3 (mr__law_truth f))))) [.w (.d (.tuple [.str "sum", .tuple (its.map itD), .int k])), .w (.d R), .w (.d (.str "sum")), .un, .un] S = .ok (.d (.int ((its.filter fun x => tv x.1).map (·.2)).sum)) S := by
    have src : fIt (fBin oIx (fVar 0) (fC (.int 1))) [.w (.d (.tuple [.str "sum", .tuple (its.map itD), .int k])), .w (.d R), .w (.d (.str "sum")), .un, .un] S = .ok (its.map fun x => W.d (itD x)) S := by
      have : (its.map itD).map W.d = its.map fun x => W.d (itD x) := by rw [List.map_map]; rfl
      rw [← this]
      generalize its.map itD = I
      simp
    have u : unset [.w (.d (.tuple [.str "sum", .tuple (its.map itD), .int k])), .w (.d R), .w (.d (.str "sum")), .un, .un] [3, 4] = [.w (.d (.tuple [.str "sum", .tuple (its.map itD), .int k])), .w (.d R), .w (.d (.str "sum")), .un, .un] := rfl
    rw [e_Sum, e_ItO, e_Lc (h := src) (ho := rfl), u, lc_sel (gT 2 (gsC (gN 3) (gsC (gN 4) gsN))) (t__law_truth_1 (mr__law_truth f)) (e__law_truth_3 (mr__law_truth f)) _ S (fun x : PyData × Int => W.d (itD x)) (fun x => tv x.1) (fun x => W.d (.int x.2)) its fun x hx => ⟨[.w (.d (.tuple [.str "sum", .tuple (its.map itD), .int k])), .w (.d R), .w (.d (.str "sum")), .w (.d x.1), .w (.d (.int x.2))], rfl, by simp [t__law_truth_1, h x hx], fun _ => rfl⟩]
    rw [e_ok, e_ok, e_lstOf, e_ok]
    have : ∀ l : List (PyData × Int), (l.map fun x => W.d (.int x.2)) = (l.map (·.2)).map fun i => .d (.int i) := fun l => by rw [List.map_map]; rfl
    rw [this, e_onI]
  generalize ((its.filter fun x => tv x.1).map (·.2)).sum = s at e ⊢
  generalize its.map itD = I at e ⊢
  show runF 5 (b__law_truth (mr__law_truth f)) _ S = _
  simp [b__law_truth, start0, -e_Sum, e, i_sum, q_sum_name, q_sum_not, q_sum_and, q_sum_or, q_sum_implies, q_sum_iff, q_sum_atleast]
theorem tw_all {n : Nat} {row : List Int} (hl : row.length = n) : ∀ (r : Nat) (d : PyData), cntF n r d < 99 → ∃ b, Tw (.tuple (row.map .int)) r d b
  | 0, d, h => by simp [cntF] at h
  | r + 1, d, h => by
    have ih := fun d h => tw_all hl r d h
    let R : PyData := .tuple (row.map .int)
    have pred : ∀ f, 2 * (r + 1) < f → ∃ g, f = g + 1 ∧ 2 * r + 1 < g := fun f hf => ⟨f - 1, by omega, by omega⟩
    have pred1 : ∀ f, r + 1 < f → ∃ g, f = g + 1 ∧ r < g := fun f hf => ⟨f - 1, by omega, by omega⟩
    have pick : ∃ tv : PyData → Bool, ∀ x, cntF n r x < 99 → Tw R r x (tv x) := by
      refine ⟨fun x => @decide (Tw R r x true) (Classical.propDecidable _), fun x hx => ?_⟩
      obtain ⟨b, hb⟩ := ih x hx
      show Tw R r x (@decide (Tw R r x true) (Classical.propDecidable _))
      by_cases ht : Tw R r x true
      · rw [@decide_eq_true _ (Classical.propDecidable _) ht]; exact ht
      · rw [@decide_eq_false _ (Classical.propDecidable _) ht]
        cases b with
        | true => exact absurd hb ht
        | false => exact hb
    obtain ⟨tv, htv⟩ := pick
    cases pf_of h with
    | tru => exact ⟨true, fun f hf S => by obtain ⟨g, rfl, _⟩ := pred f hf; exact it_true g R S, fun f hf S => by obtain ⟨g, rfl, _⟩ := pred1 f hf; exact lt_true g R S⟩
    | fls => exact ⟨false, fun f hf S => by obtain ⟨g, rfl, _⟩ := pred f hf; exact it_false g R S, fun f hf S => by obtain ⟨g, rfl, _⟩ := pred1 f hf; exact lt_false g R S⟩
    | name i h0 h1 =>
      obtain ⟨e, he, hm⟩ := at_mem (xs := row.map PyData.int) h0 (by rw [List.length_map, hl]; exact h1)
      obtain ⟨v, _, rfl⟩ := List.mem_map.mp hm
      have ix : ∀ S, oIx (.d R) (.d (.int i)) S = .ok (.d (.int v)) S := fun S => by
        show oIx (.d (.tuple (row.map .int))) (.d (.int i)) S = _
        rw [e_ixT, he]
      exact ⟨_, fun f hf S => by obtain ⟨g, rfl, _⟩ := pred f hf; exact it_name g R i v S ix, fun f hf S => by obtain ⟨g, rfl, _⟩ := pred1 f hf; exact lt_name g R i v S ix⟩
    | not x hx =>
      have t := htv x hx
      exact ⟨_, fun f hf S => by obtain ⟨g, rfl, hg⟩ := pred f hf; exact it_not g R x _ S (t.p g (by omega) S), fun f hf S => by obtain ⟨g, rfl, hg⟩ := pred1 f hf; exact lt_not g R x _ S (t.l g hg S)⟩
    | iff x y hx hy =>
      have t := htv x hx
      have u := htv y hy
      exact ⟨_, fun f hf S => by obtain ⟨g, rfl, hg⟩ := pred f hf; exact it_iff g R x y _ _ S (t.p g (by omega) S) (u.p g (by omega) S), fun f hf S => by obtain ⟨g, rfl, hg⟩ := pred1 f hf; exact lt_iff g R x y _ _ S (t.l g hg S) (u.l g hg S)⟩
    | imp x y hx hy =>
      have t := htv x hx
      have u := htv y hy
      refine ⟨!(tv x) || tv y, fun f hf S => ?_, fun f hf S => by obtain ⟨g, rfl, hg⟩ := pred1 f hf; exact lt_imp g R x y _ _ S (t.l g hg S) (u.l g hg S)⟩
      obtain ⟨g, rfl, hg⟩ := pred f hf
      obtain ⟨g', rfl⟩ : ∃ q, g = q + 1 := ⟨g - 1, by omega⟩
      have nx : mr_is_true (g' + 1) [.d (.tuple [.str "not", x]), .d R] S = .ok (.w (.d (.bool (!(tv x))))) S := it_not g' R x _ S (t.p g' (by omega) S)
      have yy := u.p (g' + 1) (by omega) S
      by_cases q : y = .tuple [.str "not", x]
      · have e := true_wt (f := g' + 1) (R := R) (tv := fun _ => tv y) (i_implies) (q_implies_name) (q_implies_not) (q_implies_iff) (weighed_imp x y S) (fun z hz => by
          simp only [List.mem_cons, List.not_mem_nil, or_false] at hz
          rcases hz with rfl | rfl
          · rw [← q]; exact yy
          · exact yy)
        have tt : tv y = !(tv x) := by
          rw [q] at yy
          rw [nx] at yy
          injection yy with yy
          injection yy with yy
          injection yy with yy
          injection yy with yy
          exact (congrArg tv q).trans yy.symm
        rw [e, tt]
        cases tv x <;> rfl
      · have e := true_wt (f := g' + 1) (R := R) (tv := fun z => @ite _ (z = y) (Classical.propDecidable _) (tv y) (!(tv x))) (i_implies) (q_implies_name) (q_implies_not) (q_implies_iff) (weighed_imp x y S) (fun z hz => by
          simp only [List.mem_cons, List.not_mem_nil, or_false] at hz
          rcases hz with rfl | rfl
          · rw [if_neg (fun h => q h.symm)]; exact nx
          · rw [if_pos rfl]; exact yy)
        rw [e]
        have q' : ¬ (PyData.tuple [.str "not", x] = y) := fun h => q h.symm
        simp only [List.filter_cons, List.filter_nil, if_neg q', if_true]
        cases tv x <;> cases tv y <;> rfl
    | and xs hx =>
      refine ⟨xs.all tv, fun f hf S => ?_, fun f hf S => by obtain ⟨g, rfl, hg⟩ := pred1 f hf; exact lt_and g R xs tv S fun x h => (htv x (hx x h)).l g hg S⟩
      obtain ⟨g, rfl, hg⟩ := pred f hf
      have e := true_wt (f := g) (R := R) (tv := tv) (i_and) (q_and_name) (q_and_not) (q_and_iff) (weighed_and xs S) (fun z hz => by
        obtain ⟨x, h, rfl⟩ := List.mem_map.mp hz
        exact (htv x (hx x h)).p g (by omega) S)
      rw [e, ones_sum, all_len]
    | or xs hx =>
      refine ⟨xs.any tv, fun f hf S => ?_, fun f hf S => by obtain ⟨g, rfl, hg⟩ := pred1 f hf; exact lt_or g R xs tv S fun x h => (htv x (hx x h)).l g hg S⟩
      obtain ⟨g, rfl, hg⟩ := pred f hf
      have e := true_wt (f := g) (R := R) (tv := tv) (i_or) (q_or_name) (q_or_not) (q_or_iff) (weighed_or xs S) (fun z hz => by
        obtain ⟨x, h, rfl⟩ := List.mem_map.mp hz
        exact (htv x (hx x h)).p g (by omega) S)
      rw [e, ones_sum, any_len]
    | least k xs hx =>
      refine ⟨_, fun f hf S => ?_, fun f hf S => by obtain ⟨g, rfl, hg⟩ := pred1 f hf; exact lt_least g R k xs tv S fun x h => (htv x (hx x h)).l g hg S⟩
      obtain ⟨g, rfl, hg⟩ := pred f hf
      have e := true_wt (f := g) (R := R) (tv := tv) (i_atleast) (q_atleast_name) (q_atleast_not) (q_atleast_iff) (weighed_atleast k xs S) (fun z hz => by
        obtain ⟨x, h, rfl⟩ := List.mem_map.mp hz
        exact (htv x (hx x h)).p g (by omega) S)
      rw [e, ones_sum]
    | sum its k hx =>
      refine ⟨_, fun f hf S => ?_, fun f hf S => by obtain ⟨g, rfl, hg⟩ := pred1 f hf; exact lt_sum g R k its tv S fun x h => (htv x.1 (hx x h)).l g hg S⟩
      obtain ⟨g, rfl, hg⟩ := pred f hf
      exact true_wt (f := g) (R := R) (tv := tv) (i_sum) (q_sum_name) (q_sum_not) (q_sum_iff) (weighed_sum its k S) (fun z hz => (htv z.1 (hx z hz)).p g (by omega) S)
end L2.Q.P
namespace L2.Q.P
open PySem PySem.Spec PyProof.Rows
/-! statements with rows -/
abbrev vT (vs : List Int) : PyData := .tuple (vs.map .int)
structure Bt (n : Nat) (vs : List Int) : Prop where
  len : vs.length = n
  bits : ∀ x ∈ vs, x = 0 ∨ x = 1
def rowO (n : Int) (d : PyData) : Bool := rowB d n n && (tupL d).all fun x => inB x 0 1
theorem name_row_ok (n : Int) (d : PyData) (S : List Ob) : m_is_name_row [.d (.int n), .d d] S = .ok (.w (.d (.bool (rowO n d)))) S := by
  have r := is_row_ok d n n S
  cases h : rowB d n n with
  | false =>
    rw [h] at r
    have : rowO n d = false := by unfold rowO; rw [h]; rfl
    rw [this]
    simp [m_is_name_row, b_is_name_row, start0, r]
  | true =>
    rw [h] at r
    have : rowO n d = (tupL d).all fun x => inB x 0 1 := by unfold rowO; rw [h]; rfl
    rw [this]
    obtain ⟨xs, rfl⟩ : ∃ xs, d = .tuple xs := by
      unfold rowB at h
      split at h
      · exact ⟨_, rfl⟩
      · cases h
    have e : (fAll (fItO (fLc (fIt (fVar 1)) [2] (gN 2) (fun _ S => .ok true S) e_is_name_row_0))) [.w (.d (.int n)), .w (.d (.tuple xs)), .un] S = .ok (.d (.bool ((tupL (.tuple xs)).all fun x => inB x 0 1))) S := by
      have src : fIt (fVar 1) [.w (.d (.int n)), .w (.d (.tuple xs)), .un] S = .ok (xs.map .d) S := rfl
      have u : unset [.w (.d (.int n)), .w (.d (.tuple xs)), .un] [2] = [.w (.d (.int n)), .w (.d (.tuple xs)), .un] := rfl
      rw [e_All, e_ItO, e_Lc (h := src) (ho := rfl), u, lc_judge e_is_name_row_0 (fun x => inB x 0 1) 2 _ S xs (fun x _ => by
        show e_is_name_row_0 [_, _, .w (.d x)] S = _
        simp [e_is_name_row_0, within_ok]), e_ok, e_ok, e_lstOf, e_ok, e_onB, all_map_id]
      rfl
    generalize ((tupL (.tuple xs)).all fun x => inB x 0 1) = b at e ⊢
    simp [m_is_name_row, b_is_name_row, start0, r, e, -e_All]
theorem need_row_ok {n : Int} {d : PyData} (h : rowO n d = true) (S : List Ob) : m_need_row [.d (.int n), .d d] S = .ok (.w (.d .none)) S := by
  have e := name_row_ok n d S
  rw [h] at e
  simp [m_need_row, b_need_row, start0, e]
theorem need_row_bad {n : Int} {d : PyData} (h : rowO n d = false) (S : List Ob) : m_need_row [.d (.int n), .d d] S = .err "BadRow" S := by
  have e := name_row_ok n d S
  rw [h] at e
  simp [m_need_row, b_need_row, start0, e]
theorem need_statement_ok {d : PyData} (hT : Tm d) (h : stB d = true) (S : List Ob) : m_need_statement [.d d] S = .ok (.w (.d .none)) S := by
  have e := is_statement_ok hT S
  rw [h] at e
  simp [m_need_statement, b_need_statement, start0, e]
theorem need_statement_bad {d : PyData} (hT : Tm d) (h : stB d = false) (S : List Ob) : m_need_statement [.d d] S = .err "BadStatement" S := by
  have e := is_statement_ok hT S
  rw [h] at e
  simp [m_need_statement, b_need_statement, start0, e]
theorem Bt.rowO {n : Nat} {vs : List Int} (h : Bt n vs) : rowO n (vT vs) = true := by
  unfold L2.Q.P.rowO
  rw [Bool.and_eq_true]
  constructor
  · simp [rowB, h.len]
  · show (vs.map PyData.int).all _ = true
    rw [List.all_map, List.all_eq_true]
    intro x hx
    rcases h.bits x hx with rfl | rfl <;> rfl
/-- enumerated things -/
def enI (n : Nat) : List PyData → List (Int × PyData)
  | x :: r => ((n : Int), x) :: enI (n + 1) r
  | [] => []
theorem enum_en : ∀ (n : Nat) (xs : List PyData), enumD n xs = (enI n xs).map fun q => W.d (.tuple [.int q.1, q.2])
  | _, [] => rfl
  | n, x :: r => by unfold enumD enI; rw [List.map_cons, enum_en (n + 1) r]
theorem enI_mem : ∀ (n : Nat) (xs : List PyData) (q : Int × PyData), q ∈ enI n xs → q.2 ∈ xs
  | _, [], q, h => by simp [enI] at h
  | n, x :: r, q, h => by
    unfold enI at h
    rcases List.mem_cons.mp h with rfl | h
    · exact List.mem_cons_self ..
    · exact List.mem_cons_of_mem _ (enI_mem (n + 1) r q h)
theorem enI_len (p : PyData → Bool) : ∀ (n : Nat) (xs : List PyData), ((enI n xs).filter fun q => p q.2).length = (xs.filter p).length
  | _, [] => rfl
  | n, x :: r => by
    unfold enI
    have ih := enI_len p (n + 1) r
    cases h : p x with
    | true => rw [List.filter_cons_of_pos (by exact h), List.filter_cons_of_pos h, List.length_cons, List.length_cons, ih]
    | false => rw [List.filter_cons_of_neg (by simp [h]), List.filter_cons_of_neg (by simp [h]), ih]
def ixs (tv : PyData → Bool) (C : List PyData) : List Int := ((enI 0 C).filter fun q => tv q.2).map (·.1)
section
variable {N C : List PyData} {P R : PyData} {tv : PyData → Bool} (hC : ∀ x ∈ C, Tw R 4 x (tv x)) (lC : C.length ≤ 100) (S : List Ob)
include hC lC
theorem claims_at_ok : m_claims_at [.d (.tuple [.tuple N, .tuple C, P]), .d R] S = .ok (.w (.d (.list ((ixs tv C).map .int)))) S := by
  have e : (fFz (fLc (fEnumA (fBin oIx (fVar 0) (fC (.int 1)))) [2, 3] (gT 2 (gsC (gN 2) (gsC (gN 3) gsN))) t_claims_at_0 e_claims_at_0)) [.w (.d (.tuple [.tuple N, .tuple C, P])), .w (.d R), .un, .un] S = .ok (.d (.list ((ixs tv C).map .int))) S := by
    have src : fEnumA (fBin oIx (fVar 0) (fC (.int 1))) [.w (.d (.tuple [.tuple N, .tuple C, P])), .w (.d R), .un, .un] S = .ok ((enI 0 C).map fun q => W.d (.tuple [.int q.1, q.2])) S := by
      rw [← enum_en]
      have h1 : C.length ≤ 16777216 := by omega
      simp [h1]
    have u : unset [.w (.d (.tuple [.tuple N, .tuple C, P])), .w (.d R), .un, .un] [2, 3] = [.w (.d (.tuple [.tuple N, .tuple C, P])), .w (.d R), .un, .un] := rfl
    rw [e_Fz, e_Lc (h := src) (ho := rfl), u, lc_sel (gT 2 (gsC (gN 2) (gsC (gN 3) gsN))) t_claims_at_0 e_claims_at_0 _ S (fun q : Int × PyData => W.d (.tuple [.int q.1, q.2])) (fun q => tv q.2) (fun q => W.d (.int q.1)) (enI 0 C) fun q hq => ⟨[.w (.d (.tuple [.tuple N, .tuple C, P])), .w (.d R), .w (.d (.int q.1)), .w (.d q.2)], rfl, by
      have t : m_is_true [.d q.2, .d R] S = .ok (.w (.d (.bool (tv q.2)))) S := (hC q.2 (enI_mem 0 C q hq)).p 12 (by omega) S
      simp [t_claims_at_0, t], fun _ => rfl⟩]
    have : ∀ l : List (Int × PyData), (l.map fun q => W.d (.int q.1)) = (l.map (·.1)).map fun i => W.d (.int i) := fun l => by rw [List.map_map]; rfl
    rw [e_ok, e_ok, this]
    show (match frz (.lst ((ixs tv C).map fun i => W.d (.int i))) with | some x => Res.ok x S | none => .bad) = _
    rw [e_frz, dats_ints]
    rfl
  generalize ixs tv C = I at e ⊢
  simp [m_claims_at, b_claims_at, start0, e, -e_Fz]
theorem law_claims_ok : m__law_true_claims [.d (.tuple [.tuple N, .tuple C, P]), .d R] S = .ok (.w (.d (.tuple ((ixs tv C).map .int)))) S := by
  have e : (fTupL (fItO (fLc (fEnumA (fBin oIx (fVar 0) (fC (.int 1)))) [2, 3] (gT 2 (gsC (gN 2) (gsC (gN 3) gsN))) t__law_true_claims_0 e__law_true_claims_0))) [.w (.d (.tuple [.tuple N, .tuple C, P])), .w (.d R), .un, .un] S = .ok (.d (.tuple ((ixs tv C).map .int))) S := by
    have src : fEnumA (fBin oIx (fVar 0) (fC (.int 1))) [.w (.d (.tuple [.tuple N, .tuple C, P])), .w (.d R), .un, .un] S = .ok ((enI 0 C).map fun q => W.d (.tuple [.int q.1, q.2])) S := by
      rw [← enum_en]
      have h1 : C.length ≤ 16777216 := by omega
      simp [h1]
    have u : unset [.w (.d (.tuple [.tuple N, .tuple C, P])), .w (.d R), .un, .un] [2, 3] = [.w (.d (.tuple [.tuple N, .tuple C, P])), .w (.d R), .un, .un] := rfl
    rw [e_TupL, e_ItO, e_Lc (h := src) (ho := rfl), u, lc_sel (gT 2 (gsC (gN 2) (gsC (gN 3) gsN))) t__law_true_claims_0 e__law_true_claims_0 _ S (fun q : Int × PyData => W.d (.tuple [.int q.1, q.2])) (fun q => tv q.2) (fun q => W.d (.int q.1)) (enI 0 C) fun q hq => ⟨[.w (.d (.tuple [.tuple N, .tuple C, P])), .w (.d R), .w (.d (.int q.1)), .w (.d q.2)], rfl, by
      have t : m__law_truth [.d q.2, .d R] S = .ok (.w (.d (.bool (tv q.2)))) S := (hC q.2 (enI_mem 0 C q hq)).l 12 (by omega) S
      simp [t__law_true_claims_0, t], fun _ => rfl⟩]
    have : ∀ l : List (Int × PyData), (l.map fun q => W.d (.int q.1)) = (l.map (·.1)).map fun i => W.d (.int i) := fun l => by rw [List.map_map]; rfl
    rw [e_ok, e_ok, e_lstOf, e_ok, this]
    show mkTup ((ixs tv C).map fun i => W.d (.int i)) S = _
    rw [e_mkTup, dats_ints]
  generalize ixs tv C = I at e ⊢
  simp [m__law_true_claims, b__law_true_claims, start0, e, -e_TupL]
theorem fits_ok : m__law_fits [.d (.tuple [.tuple N, .tuple C, P]), .d R] S = .ok (.w (.d (.bool (C.all tv)))) S := by
  have e : (fAll (fItO (fLc (fIt (fBin oIx (fVar 0) (fC (.int 1)))) [2] (gN 2) (fun _ S => .ok true S) e__law_fits_0))) [.w (.d (.tuple [.tuple N, .tuple C, P])), .w (.d R), .un] S = .ok (.d (.bool (C.all tv))) S := by
    have src : fIt (fBin oIx (fVar 0) (fC (.int 1))) [.w (.d (.tuple [.tuple N, .tuple C, P])), .w (.d R), .un] S = .ok (C.map .d) S := by simp
    have u : unset [.w (.d (.tuple [.tuple N, .tuple C, P])), .w (.d R), .un] [2] = [.w (.d (.tuple [.tuple N, .tuple C, P])), .w (.d R), .un] := rfl
    rw [e_All, e_ItO, e_Lc (h := src) (ho := rfl), u, lc_judge e__law_fits_0 tv 2 _ S C (fun x hx => by
      show e__law_fits_0 [_, .w (.d R), .w (.d x)] S = _
      have t : m__law_truth [.d x, .d R] S = .ok (.w (.d (.bool (tv x)))) S := (hC x hx).l 12 (by omega) S
      simp [e__law_fits_0, t]), e_ok, e_ok, e_lstOf, e_ok, e_onB, all_map_id]
  generalize C.all tv = b at e ⊢
  simp [m__law_fits, b__law_fits, start0, e, -e_All]
end
theorem ixs_all (tv : PyData → Bool) (C : List PyData) : decide ((((ixs tv C).length : Nat) : Int) = ((C.length : Nat) : Int)) = C.all tv := by
  have e1 : (ixs tv C).length = (C.filter tv).length := by unfold ixs; rw [List.length_map, enI_len]
  rw [e1, ← all_len tv C]
  have := List.length_filter_le tv C
  rw [decide_eq_decide]
  omega
/-- the price of a row -/
def costI (tv : PyData → Bool) (its : List (PyData × Int)) (v : Int) : Int := v + ((its.filter fun x => tv x.1).map (·.2)).sum
section
variable {N C : List PyData} {R : PyData} {tv : PyData → Bool} {its : List (PyData × Int)} (hI : ∀ x ∈ its, Tw R 4 x.1 (tv x.1)) (v : Int) (S : List Ob)
include hI
theorem price_with_ok : m_price_with [.d (.tuple [.tuple N, .tuple C, .tuple [.tuple (its.map itD), .int v]]), .d R] S = .ok (.w (.d (.int (costI tv its v)))) S := by
  have e : (fSum (fItO (fLc (fIt (fBin oIx (fVar 2) (fC (.int 0)))) [3, 4] (gT 2 (gsC (gN 3) (gsC (gN 4) gsN))) t_price_with_0 e_price_with_0))) [.w (.d (.tuple [.tuple N, .tuple C, .tuple [.tuple (its.map itD), .int v]])), .w (.d R), .w (.d (.tuple [.tuple (its.map itD), .int v])), .un, .un] S = .ok (.d (.int ((its.filter fun x => tv x.1).map (·.2)).sum)) S := by
    have src : fIt (fBin oIx (fVar 2) (fC (.int 0))) [.w (.d (.tuple [.tuple N, .tuple C, .tuple [.tuple (its.map itD), .int v]])), .w (.d R), .w (.d (.tuple [.tuple (its.map itD), .int v])), .un, .un] S = .ok (its.map fun x => W.d (itD x)) S := by
      have : (its.map itD).map W.d = its.map fun x => W.d (itD x) := by rw [List.map_map]; rfl
      rw [← this]
      generalize its.map itD = I
      simp
    have u : unset [.w (.d (.tuple [.tuple N, .tuple C, .tuple [.tuple (its.map itD), .int v]])), .w (.d R), .w (.d (.tuple [.tuple (its.map itD), .int v])), .un, .un] [3, 4] = [.w (.d (.tuple [.tuple N, .tuple C, .tuple [.tuple (its.map itD), .int v]])), .w (.d R), .w (.d (.tuple [.tuple (its.map itD), .int v])), .un, .un] := rfl
    rw [e_Sum, e_ItO, e_Lc (h := src) (ho := rfl), u, lc_sel (gT 2 (gsC (gN 3) (gsC (gN 4) gsN))) t_price_with_0 e_price_with_0 _ S (fun x : PyData × Int => W.d (itD x)) (fun x => tv x.1) (fun x => W.d (.int x.2)) its fun x hx => ⟨[.w (.d (.tuple [.tuple N, .tuple C, .tuple [.tuple (its.map itD), .int v]])), .w (.d R), .w (.d (.tuple [.tuple (its.map itD), .int v])), .w (.d x.1), .w (.d (.int x.2))], rfl, by
      have t : m_is_true [.d x.1, .d R] S = .ok (.w (.d (.bool (tv x.1)))) S := (hI x hx).p 12 (by omega) S
      simp [t_price_with_0, t], fun _ => rfl⟩]
    rw [e_ok, e_ok, e_lstOf, e_ok]
    have : ∀ l : List (PyData × Int), (l.map fun x => W.d (.int x.2)) = (l.map (·.2)).map fun i => .d (.int i) := fun l => by rw [List.map_map]; rfl
    rw [this, e_onI]
  unfold costI
  generalize ((its.filter fun x => tv x.1).map (·.2)).sum = s at e ⊢
  generalize its.map itD = I at e ⊢
  simp [m_price_with, b_price_with, start0, isNon, e, -e_Sum]
theorem law_cost_ok : m__law_cost [.d (.tuple [.tuple N, .tuple C, .tuple [.tuple (its.map itD), .int v]]), .d R] S = .ok (.w (.d (.int (costI tv its v)))) S := by
  have e : (fSum (fItO (fLc (fIt (fBin oIx (fBin oIx (fVar 0) (fC (.int 2))) (fC (.int 0)))) [2, 3] (gT 2 (gsC (gN 2) (gsC (gN 3) gsN))) t__law_cost_0 e__law_cost_0))) [.w (.d (.tuple [.tuple N, .tuple C, .tuple [.tuple (its.map itD), .int v]])), .w (.d R), .un, .un] S = .ok (.d (.int ((its.filter fun x => tv x.1).map (·.2)).sum)) S := by
    have src : fIt (fBin oIx (fBin oIx (fVar 0) (fC (.int 2))) (fC (.int 0))) [.w (.d (.tuple [.tuple N, .tuple C, .tuple [.tuple (its.map itD), .int v]])), .w (.d R), .un, .un] S = .ok (its.map fun x => W.d (itD x)) S := by
      have : (its.map itD).map W.d = its.map fun x => W.d (itD x) := by rw [List.map_map]; rfl
      rw [← this]
      generalize its.map itD = I
      simp
    have u : unset [.w (.d (.tuple [.tuple N, .tuple C, .tuple [.tuple (its.map itD), .int v]])), .w (.d R), .un, .un] [2, 3] = [.w (.d (.tuple [.tuple N, .tuple C, .tuple [.tuple (its.map itD), .int v]])), .w (.d R), .un, .un] := rfl
    rw [e_Sum, e_ItO, e_Lc (h := src) (ho := rfl), u, lc_sel (gT 2 (gsC (gN 2) (gsC (gN 3) gsN))) t__law_cost_0 e__law_cost_0 _ S (fun x : PyData × Int => W.d (itD x)) (fun x => tv x.1) (fun x => W.d (.int x.2)) its fun x hx => ⟨[.w (.d (.tuple [.tuple N, .tuple C, .tuple [.tuple (its.map itD), .int v]])), .w (.d R), .w (.d x.1), .w (.d (.int x.2))], rfl, by
      have t : m__law_truth [.d x.1, .d R] S = .ok (.w (.d (.bool (tv x.1)))) S := (hI x hx).l 12 (by omega) S
      simp [t__law_cost_0, t], fun _ => rfl⟩]
    rw [e_ok, e_ok, e_lstOf, e_ok]
    have : ∀ l : List (PyData × Int), (l.map fun x => W.d (.int x.2)) = (l.map (·.2)).map fun i => .d (.int i) := fun l => by rw [List.map_map]; rfl
    rw [this, e_onI]
  unfold costI
  generalize ((its.filter fun x => tv x.1).map (·.2)).sum = s at e ⊢
  generalize its.map itD = I at e ⊢
  simp [m__law_cost, b__law_cost, start0, isNon, e, -e_Sum]
end
theorem price_none {N C : List PyData} {R : PyData} (S : List Ob) : m_price_with [.d (.tuple [.tuple N, .tuple C, .none]), .d R] S = .ok (.w (.d (.int 0))) S ∧ m__law_cost [.d (.tuple [.tuple N, .tuple C, .none]), .d R] S = .ok (.w (.d (.int 0))) S := by
  constructor
  · simp [m_price_with, b_price_with, start0, isNon]
  · simp [m__law_cost, b__law_cost, start0, isNon]
end L2.Q.P
namespace L2.Q.P
open PySem PySem.Spec PyProof.Rows
/-! rows, wrong rows, errors -/
theorem rows_turn (a0 a1 a2 : Sl) (k : Nat) (vs : List Int) (hv : Bt k vs) (hk : k ≤ 100) (ys : List (List Int)) (hy : ys.length ≤ 1000) (S : List Ob) : l__law_rows_0 [a0, a1, a2, .own (.lst (ys.map fun v => .d (vT v))), .w (.d (vT vs))] S = .nx [a0, a1, a2, .own (.lst ((ys ++ [vs ++ [0], vs ++ [1]]).map fun v => .d (vT v))), .w (.d (vT vs))] S := by
  have h1 : vs.length + 1 ≤ 16777216 := by have := hv.len; omega
  have h2 : ys.length < 16777216 := by omega
  have h3 : ys.length + 1 < 16777216 := by omega
  simp [l__law_rows_0, vT, h1, h2, h3]
theorem rows_inner (a0 a1 a2 : Sl) (k : Nat) (hk : k ≤ 100) (S : List Ob) : ∀ (xs ys : List (List Int)) (x : Sl), (∀ v ∈ xs, Bt k v) → (∀ v ∈ ys, Bt (k + 1) v) → ys.length + 2 * xs.length ≤ 1000 → ∃ (zs : List (List Int)) (y : Sl), forL (gN 4) l__law_rows_0 (xs.map fun v => .d (vT v)) [a0, a1, a2, .own (.lst (ys.map fun v => .d (vT v))), x] S = .nx [a0, a1, a2, .own (.lst (zs.map fun v => .d (vT v))), y] S ∧ (∀ v ∈ zs, Bt (k + 1) v) ∧ zs.length = ys.length + 2 * xs.length
  | [], ys, x, hx, hy, hl => ⟨ys, x, rfl, hy, by simp⟩
  | v :: r, ys, x, hx, hy, hl => by
    rw [List.length_cons] at hl
    have hv := hx v (List.mem_cons_self ..)
    obtain ⟨zs, y, e, hz, lz⟩ := rows_inner a0 a1 a2 k hk S r (ys ++ [v ++ [0], v ++ [1]]) (.w (.d (vT v))) (fun w hw => hx w (List.mem_cons_of_mem _ hw)) (fun w hw => by
      rcases List.mem_append.mp hw with hw | hw
      · exact hy w hw
      · simp only [List.mem_cons, List.not_mem_nil, or_false] at hw
        rcases hw with rfl | rfl
        · refine ⟨by rw [List.length_append, hv.len]; rfl, fun x hx => ?_⟩
          rcases List.mem_append.mp hx with hx | hx
          · exact hv.bits x hx
          · exact .inl (List.mem_singleton.mp hx)
        · refine ⟨by rw [List.length_append, hv.len]; rfl, fun x hx => ?_⟩
          rcases List.mem_append.mp hx with hx | hx
          · exact hv.bits x hx
          · exact .inr (List.mem_singleton.mp hx)) (by simp; omega)
    refine ⟨zs, y, ?_, hz, by rw [lz]; simp; omega⟩
    rw [List.map_cons, for_cons]
    show turnF (l__law_rows_0 [a0, a1, a2, .own (.lst (ys.map fun v => .d (vT v))), .w (.d (vT v))] S) _ = _
    rw [rows_turn a0 a1 a2 k v hv hk ys (by omega), e_turnN, e]
theorem rows_map (rs : List (List Int)) : dats (rs.map fun v => W.d (vT v)) = some (rs.map fun v => vT v) := e_datsf (fun v : List Int => vT v) rs
theorem rows_outer (a0 : Sl) (S : List Ob) : ∀ (ks : List W) (k : Nat) (rs : List (List Int)) (x2 x3 x4 : Sl), k + ks.length ≤ 6 → (∀ v ∈ rs, Bt k v) → rs.length = 2 ^ k → ∃ (zs : List (List Int)) (y2 y3 y4 : Sl), forL (gN 2) l__law_rows_1 ks [a0, .w (.d (.list (rs.map fun v => vT v))), x2, x3, x4] S = .nx [a0, .w (.d (.list (zs.map fun v => vT v))), y2, y3, y4] S ∧ (∀ v ∈ zs, Bt (k + ks.length) v)
  | [], k, rs, x2, x3, x4, hk, hr, hl => ⟨rs, x2, x3, x4, rfl, hr⟩
  | w :: r, k, rs, x2, x3, x4, hk, hr, hl => by
    rw [List.length_cons] at hk
    have p6 : 2 ^ k ≤ 2 ^ 6 := Nat.pow_le_pow_right (by omega) (by omega)
    obtain ⟨zs, y, e, hz, lz⟩ := rows_inner a0 (.w (.d (.list (rs.map fun v => vT v)))) (.w w) k (by omega) S rs [] x4 hr (by simp) (by simp only [List.length_nil]; omega)
    obtain ⟨us, y2, y3, y4, e2, hu⟩ := rows_outer a0 S r (k + 1) zs (.w w) (.w (.d (.list (zs.map fun v => vT v)))) y (by omega) hz (by rw [lz, hl, Nat.pow_succ]; simp; omega)
    refine ⟨us, y2, y3, y4, ?_, by rw [List.length_cons]; rw [show k + (r.length + 1) = k + 1 + r.length by omega]; exact hu⟩
    rw [for_cons]
    have t : l__law_rows_1 [a0, .w (.d (.list (rs.map fun v => vT v))), .w w, x3, x4] S = .nx [a0, .w (.d (.list (zs.map fun v => vT v))), .w w, .w (.d (.list (zs.map fun v => vT v))), y] S := by
      have y0 : (fSetO 3 (fNewL fNil)) [a0, .w (.d (.list (rs.map fun v => vT v))), .w w, x3, x4] S = .nx [a0, .w (.d (.list (rs.map fun v => vT v))), .w w, .own (.lst (([] : List (List Int)).map fun v => .d (vT v))), x4] S := rfl
      have src : fIt (fVar 1) [a0, .w (.d (.list (rs.map fun v => vT v))), .w w, .own (.lst (([] : List (List Int)).map fun v => .d (vT v))), x4] S = .ok (rs.map fun v => W.d (vT v)) S := by
        show Res.ok ((rs.map fun v => vT v).map W.d) S = _
        rw [List.map_map]; rfl
      unfold l__law_rows_1
      rw [e_Seq, y0, e_thenN, e_Seq, e_For (h := src), e, e_thenN, e_Frz]
      show (match frz (.lst (zs.map fun v => W.d (vT v))) with | some x => _ | none => _) = _
      rw [e_frz, rows_map]
      rfl
    show turnF (l__law_rows_1 [a0, .w (.d (.list (rs.map fun v => vT v))), .w w, x3, x4] S) _ = _
    rw [t, e_turnN, e2]
theorem law_rows_ok {n : Nat} (hn : n ≤ 6) (S : List Ob) : ∃ rs : List (List Int), m__law_rows [.d (.int (n : Int))] S = .ok (.w (.d (.list (rs.map fun v => vT v)))) S ∧ ∀ v ∈ rs, Bt n v := by
  have st : start0 5 [W.d (.int (n : Int))] = [.w (.d (.int (n : Int))), .un, .un, .un, .un] := rfl
  have rl : (rngL 0 n).length = n := by simp [rngL]
  obtain ⟨zs, y2, y3, y4, e, hz⟩ := rows_outer (.w (.d (.int (n : Int)))) S (rngL 0 n) 0 [[]] .un .un .un (by omega) (fun v hv => by
    rw [List.mem_singleton.mp hv]; exact ⟨rfl, by simp⟩) rfl
  refine ⟨zs, ?_, fun v hv => by have := hz v hv; rw [rl, Nat.zero_add] at this; exact this⟩
  have x0 : (fSet 1 (fFz (fNewL (fCons (fTup fNil) fNil)))) [.w (.d (.int (n : Int))), .un, .un, .un, .un] S = .nx [.w (.d (.int (n : Int))), .w (.d (.list (([[]] : List (List Int)).map fun v => vT v))), .un, .un, .un] S := rfl
  have r : fRng1 (fVar 0) [.w (.d (.int (n : Int))), .w (.d (.list (([[]] : List (List Int)).map fun v => vT v))), .un, .un, .un] S = .ok (rngL 0 n) S := by
    simp only [e_Rng1, e_var, List.getElem?_cons_succ, List.getElem?_cons_zero, e_ok, e_rng1, Int.toNat_natCast]
    rw [if_pos (by omega)]
  unfold m__law_rows b__law_rows
  rw [e_runF, st, e_Seq, x0, e_thenN, e_Seq, e_For (h := r), e, e_thenN]
  rfl
/-! the words of errors -/
theorem sb_n : subQ "BadNumber" "SumError" = true := by decide +kernel
theorem sb_p : subQ "BadPart" "SumError" = true := by decide +kernel
theorem sb_r : subQ "BadRow" "SumError" = true := by decide +kernel
theorem sb_s : subQ "BadStatement" "SumError" = true := by decide +kernel
theorem ne_BadPart_BadNumber : ¬ ("BadPart" : Str) = "BadNumber" := by decide +kernel
theorem ne_BadRow_BadNumber : ¬ ("BadRow" : Str) = "BadNumber" := by decide +kernel
theorem ne_BadRow_BadPart : ¬ ("BadRow" : Str) = "BadPart" := by decide +kernel
theorem ne_BadStatement_BadNumber : ¬ ("BadStatement" : Str) = "BadNumber" := by decide +kernel
theorem ne_BadStatement_BadPart : ¬ ("BadStatement" : Str) = "BadPart" := by decide +kernel
theorem ne_BadStatement_BadRow : ¬ ("BadStatement" : Str) = "BadRow" := by decide +kernel
theorem word0_number {a b c : W} {S : List Ob} (h : m_truth [a, b, c] S = .err "BadNumber" S) : m__law_word [.d (.int 0), a, b, c] S = .ok (.w (.d (.str "number"))) S := by
  simp [m__law_word, b__law_word, start0, fTry, h, handle, sb_n, endSlot, quiet, unSlot, fPut, putD]
theorem word0_part {a b c : W} {S : List Ob} (h : m_truth [a, b, c] S = .err "BadPart" S) : m__law_word [.d (.int 0), a, b, c] S = .ok (.w (.d (.str "part"))) S := by
  simp [m__law_word, b__law_word, start0, fTry, h, handle, sb_p, endSlot, quiet, unSlot, fPut, putD, ne_BadPart_BadNumber]
theorem word0_row {a b c : W} {S : List Ob} (h : m_truth [a, b, c] S = .err "BadRow" S) : m__law_word [.d (.int 0), a, b, c] S = .ok (.w (.d (.str "row"))) S := by
  simp [m__law_word, b__law_word, start0, fTry, h, handle, sb_r, endSlot, quiet, unSlot, fPut, putD, ne_BadRow_BadNumber, ne_BadRow_BadPart]
theorem word1_row {a b : W} {S : List Ob} (h : m_claims_true [a, b] S = .err "BadRow" S) : m__law_word [.d (.int 1), a, b, .d .none] S = .ok (.w (.d (.str "row"))) S := by
  simp [m__law_word, b__law_word, start0, fTry, h, handle, sb_r, endSlot, quiet, unSlot, fPut, putD, ne_BadRow_BadNumber, ne_BadRow_BadPart]
theorem word2_row {a b : W} {S : List Ob} (h : m_makes_true [a, b] S = .err "BadRow" S) : m__law_word [.d (.int 2), a, b, .d .none] S = .ok (.w (.d (.str "row"))) S := by
  simp [m__law_word, b__law_word, start0, fTry, h, handle, sb_r, endSlot, quiet, unSlot, fPut, putD, ne_BadRow_BadNumber, ne_BadRow_BadPart]
theorem word3_row {a b : W} {S : List Ob} (h : m_statement_price [a, b] S = .err "BadRow" S) : m__law_word [.d (.int 3), a, b, .d .none] S = .ok (.w (.d (.str "row"))) S := by
  simp [m__law_word, b__law_word, start0, fTry, h, handle, sb_r, endSlot, quiet, unSlot, fPut, putD, ne_BadRow_BadNumber, ne_BadRow_BadPart]
theorem word1_statement {a b : W} {S : List Ob} (h : m_claims_true [a, b] S = .err "BadStatement" S) : m__law_word [.d (.int 1), a, b, .d .none] S = .ok (.w (.d (.str "statement"))) S := by
  simp [m__law_word, b__law_word, start0, fTry, h, handle, sb_s, endSlot, quiet, unSlot, fPut, putD, ne_BadStatement_BadNumber, ne_BadStatement_BadPart, ne_BadStatement_BadRow]
theorem word2_statement {a b : W} {S : List Ob} (h : m_makes_true [a, b] S = .err "BadStatement" S) : m__law_word [.d (.int 2), a, b, .d .none] S = .ok (.w (.d (.str "statement"))) S := by
  simp [m__law_word, b__law_word, start0, fTry, h, handle, sb_s, endSlot, quiet, unSlot, fPut, putD, ne_BadStatement_BadNumber, ne_BadStatement_BadPart, ne_BadStatement_BadRow]
theorem word3_statement {a b : W} {S : List Ob} (h : m_statement_price [a, b] S = .err "BadStatement" S) : m__law_word [.d (.int 3), a, b, .d .none] S = .ok (.w (.d (.str "statement"))) S := by
  simp [m__law_word, b__law_word, start0, fTry, h, handle, sb_s, endSlot, quiet, unSlot, fPut, putD, ne_BadStatement_BadNumber, ne_BadStatement_BadPart, ne_BadStatement_BadRow]
def rp (k : Int) (v : Int) : List PyData := (List.replicate k.toNat [PyData.int v]).flatten
theorem rp_len (k v : Int) : (rp k v).length = k.toNat := by simp [rp]
theorem rp_all {k v : Int} (h : 1 ≤ k) (hv : inB (.int v) 0 1 = false) : ((rp k v).all fun x => inB x 0 1) = false := by
  obtain ⟨m, hm⟩ : ∃ m, k.toNat = m + 1 := ⟨k.toNat - 1, by omega⟩
  show ((List.replicate k.toNat [PyData.int v]).flatten.all _) = false
  rw [hm, List.replicate_succ, List.flatten_cons, List.singleton_append, List.all_cons, hv, Bool.false_and]
def wrongL (n : Int) : List PyData := [.tuple (rp (n + 1) 0), .tuple (rp (n - 1) 0), .list (rp n 0), .tuple (.int 2 :: rp (n - 1) 0), .tuple (.bool true :: rp (n - 1) 0), .none, .tuple (rp n (-1))]
theorem wrong_rows_ok {n : Int} (h1 : 1 ≤ n) (h2 : n ≤ 10) (S : List Ob) : m__law_wrong_rows [.d (.int n)] S = .ok (.w (.d (.list (wrongL n)))) S := by
  have m : ∀ (v k : Int) (S : List Ob), -1000 ≤ k → k ≤ 1000 → oMulT (.d (.tuple [.int v])) (.d (.int k)) S = .ok (.d (.tuple (rp k v))) S := fun v k S a b => e_mulTt (by simp; omega)
  have m1 := fun S => m 0 (n + 1) S (by omega) (by omega)
  have m2 := fun S => m 0 (n - 1) S (by omega) (by omega)
  have m3 := fun S => m (-1) n S (by omega) (by omega)
  have l1 := rp_len (n - 1) 0
  have ln : (n - 1).toNat ≤ 100 := by omega
  have rr : fFz (fRep (fNewL (fCons (fC (.int 0)) fNil)) (fVar 0)) [.w (.d (.int n))] S = .ok (.d (.list (rp n 0))) S := by
    have c1 : -(2 ^ 63) ≤ n ∧ n < 2 ^ 63 ∧ [W.d (.int 0)].length * n.toNat ≤ 16777216 := by simp; omega
    rw [e_Fz, e_Rep, e_NewL, e_Cons, e_c, e_ok, e_Nil, e_ok, e_ok, e_ok, e_var]
    show ((oRep (.lst [.d (.int 0)]) (.d (.int n)) S).bind _) = _
    rw [e_oRep, if_pos c1, e_ok]
    have : dats ((List.replicate n.toNat [W.d (.int 0)]).flatten) = some (rp n 0) := by
      have : (List.replicate n.toNat [W.d (.int 0)]).flatten = (rp n 0).map .d := by
        show _ = ((List.replicate n.toNat [PyData.int 0]).flatten).map W.d
        rw [List.map_flatten, List.map_replicate]; rfl
      rw [this, dats_map]
    rw [e_frz, this]
    rfl
  have a2 : ∀ (d : PyData) (S : List Ob), oAddA (.d (.tuple [d])) (.d (.tuple (rp (n - 1) 0))) S = .ok (.d (.tuple (d :: rp (n - 1) 0))) S := fun d S => by
    rw [e_addT, if_pos (by rw [l1]; simp; omega)]; rfl
  unfold wrongL
  generalize rp (n + 1) 0 = r1 at m1 ⊢
  generalize rp (n - 1) 0 = r2 at m2 a2 ⊢
  generalize rp n 0 = r3 at rr ⊢
  generalize rp n (-1) = r4 at m3 ⊢
  have big : (fNewL (fCons (fBin oMulT (fTup (fCons (fC (.int 0)) fNil)) (fBin oAddA (fVar 0) (fC (.int 1)))) (fCons (fBin oMulT (fTup (fCons (fC (.int 0)) fNil)) (fBin oSub (fVar 0) (fC (.int 1)))) (fCons (fFz (fRep (fNewL (fCons (fC (.int 0)) fNil)) (fVar 0))) (fCons (fBin oAddA (fTup (fCons (fC (.int 2)) fNil)) (fBin oMulT (fTup (fCons (fC (.int 0)) fNil)) (fBin oSub (fVar 0) (fC (.int 1))))) (fCons (fBin oAddA (fTup (fCons (fC (.bool true)) fNil)) (fBin oMulT (fTup (fCons (fC (.int 0)) fNil)) (fBin oSub (fVar 0) (fC (.int 1))))) (fCons (fC .none) (fCons (fBin oMulT (fTup (fCons (fUn oNeg (fC (.int 1))) fNil)) (fVar 0)) fNil)))))))) [.w (.d (.int n))] S = .ok (.lst ([.tuple r1, .tuple r2, .list r3, .tuple (.int 2 :: r2), .tuple (.bool true :: r2), .none, .tuple r4].map .d)) S := by
    simp [-e_Fz, -e_addT, rr, m1, m2, m3, a2]
  have st : start0 1 [W.d (.int n)] = [.w (.d (.int n))] := rfl
  unfold m__law_wrong_rows b__law_wrong_rows
  rw [e_runF, st, e_Ret, e_Fz, big, e_ok]
  rfl
theorem wrong_rows_bad {n : Int} (h1 : 1 ≤ n) : ∀ w ∈ wrongL n, rowO n w = false := by
  intro w hw
  have l0 := rp_len (n + 1) 0
  have l1 := rp_len (n - 1) 0
  simp only [wrongL, List.mem_cons, List.not_mem_nil, or_false] at hw
  rcases hw with rfl | rfl | rfl | rfl | rfl | rfl | rfl
  · have : rowB (.tuple (rp (n + 1) 0)) n n = false := by
      unfold rowB; dsimp only; rw [l0, decide_eq_false (p := (((n + 1).toNat : Nat) : Int) ≤ n) (by omega), Bool.and_false]
    unfold rowO; rw [this]; rfl
  · have : rowB (.tuple (rp (n - 1) 0)) n n = false := by
      unfold rowB; dsimp only; rw [l1, decide_eq_false (p := n ≤ (((n - 1).toNat : Nat) : Int)) (by omega), Bool.false_and]
    unfold rowO; rw [this]; rfl
  · rfl
  · unfold rowO
    rw [show ((tupL (.tuple (.int 2 :: rp (n - 1) 0))).all fun x => inB x 0 1) = false from rfl, Bool.and_false]
  · unfold rowO
    rw [show ((tupL (.tuple (.bool true :: rp (n - 1) 0))).all fun x => inB x 0 1) = false from rfl, Bool.and_false]
  · rfl
  · unfold rowO
    rw [show ((tupL (.tuple (rp n (-1)))).all fun x => inB x 0 1) = false from rp_all h1 rfl, Bool.and_false]
end L2.Q.P
namespace L2.Q.P
open PySem PySem.Spec PyProof.Rows
/-! the law -/
theorem sh_low {k : Nat} {a : List PyData} (h : AllL Low a) : shL k a := ⟨fun d hd => (h d hd).h k⟩
theorem low_tup {a N : List PyData} (h : AllL Low a) : PyData.tuple a = .tuple N → AllL Low N := fun e => by injection e with e; rw [← e]; exact h
theorem Tm.three {a b c : PyData} (ha : ∀ N, a = .tuple N → AllL Low N) (hc : (itT c).length ≤ 1000) (hs : shp 60 (.tuple [a, b, c])) : Tm (.tuple [a, b, c]) :=
  ⟨hs, fun N b' c' h x hx => by
    injection h with h
    injection h with h1 h2
    exact ha N h1 x hx, fun a' b' c' h => by
    injection h with h
    injection h with h1 h2
    injection h2 with h2 h3
    injection h3 with h3 h4
    rw [← h3]; exact hc⟩
theorem says_same (b : Bool) (S : List Ob) : m__law_says [.d (.bool b), .d (.bool b)] S = .ok (.w (.d (.bool true))) S := by
  have e : ∀ S, oEqS false (.d (.bool b)) (.d (.bool b)) S = .ok (.d (.bool true)) S := fun S => by cases b <;> rfl
  simp [m__law_says, b__law_says, start0, isBool, e]
theorem eqv_ints : ∀ xs : List Int, PyData.eqvAll (xs.map .int) (xs.map .int) = true
  | [] => by simp [PyData.eqvAll]
  | x :: r => by simp [PyData.eqvAll, PyData.eqv, eqv_ints r]
theorem ne_ints (xs : List Int) (S : List Ob) : oEqS true (.d (.tuple (xs.map .int))) (.d (.tuple (xs.map .int))) S = .ok (.d (.bool false)) S := by
  have h : shp 60 (.tuple (xs.map .int)) := shp_mono (shp_tup (k := 0) fun d hd => by obtain ⟨i, _, rfl⟩ := List.mem_map.mp hd; exact shp_int _ _) (by omega)
  rw [e_eqD true _ _ (shaped_of (shp_mono h (by omega))) (shaped_of (shp_mono h (by omega)))]
  have : PyData.eqv (.tuple (xs.map .int)) (.tuple (xs.map .int)) = true := by simp [PyData.eqv, eqv_ints]
  rw [this]; rfl
theorem pick_tv {n : Nat} {row : List Int} (hl : row.length = n) (r : Nat) : ∃ tv : PyData → Bool, ∀ x, cntF n r x < 99 → Tw (vT row) r x (tv x) := by
  refine ⟨fun x => @decide (Tw (vT row) r x true) (Classical.propDecidable _), fun x hx => ?_⟩
  obtain ⟨b, hb⟩ := tw_all hl r x hx
  show Tw (vT row) r x (@decide (Tw (vT row) r x true) (Classical.propDecidable _))
  by_cases ht : Tw (vT row) r x true
  · rw [@decide_eq_true _ (Classical.propDecidable _) ht]; exact ht
  · rw [@decide_eq_false _ (Classical.propDecidable _) ht]
    cases b with
    | true => exact absurd hb ht
    | false => exact hb
theorem price_two {N C : List PyData} {P : PyData} {ss : List Str} {n : Nat} {R : PyData} {tv : PyData → Bool} (h5 : St 5 n ss C P) (htv : ∀ x, cntF n 4 x < 99 → Tw R 4 x (tv x)) : ∃ z : Int, ∀ S, m_price_with [.d (.tuple [.tuple N, .tuple C, P]), .d R] S = .ok (.w (.d (.int z))) S ∧ m__law_cost [.d (.tuple [.tuple N, .tuple C, P]), .d R] S = .ok (.w (.d (.int z))) S := by
  rcases h5.pr with rfl | ⟨its, v, rfl, xl, hx, v0, v1⟩
  · exact ⟨0, fun S => price_none S⟩
  · have hI : ∀ x ∈ its, Tw R 4 x.1 (tv x.1) := fun x h => htv x.1 (by
      have := (hx x h).1.ct 4 (by omega)
      omega)
    exact ⟨costI tv its v, fun S => ⟨price_with_ok hI v S, law_cost_ok hI v S⟩⟩
theorem truth_ok {n : Nat} (h1 : 1 ≤ n) (h2 : n ≤ 10) {row : List Int} (hb : Bt n row) {d : PyData} (hs : shp 60 d) (hc : cntF n 8 d ≤ 32) {b : Bool} (t : Tw (vT row) 4 d b) (S : List Ob) : m_truth [.d (.int (n : Int)), .d d, .d (vT row)] S = .ok (.w (.d (.bool b))) S := by
  have e1 := is_part_ok (n := (n : Int)) (by omega) (by omega) hs S
  rw [decide_eq_true hc] at e1
  have e2 := need_row_ok hb.rowO S
  have e3 : m_is_true [.d d, .d (vT row)] S = .ok (.w (.d (.bool b))) S := t.p 12 (by omega) S
  generalize vT row = R at e2 e3 ⊢
  simp [m_truth, b_truth, start0, e1, e2, e3]
section
variable {n : Nat} {ss : List Str} {C : List PyData} {P : PyData} (h5 : St 5 n ss C P)
include h5
theorem St.low : AllL Low (ss.map .str) := fun d hd => by
  obtain ⟨s, hs, rfl⟩ := List.mem_map.mp hd
  exact (NmL.low ss 0 h5.nl s hs).1
theorem St.shC (k : Nat) (hk : 25 ≤ k) : shL k C := by
  obtain ⟨b, _, _, h⟩ := h5.cp
  exact ⟨fun d hd => shp_mono (h d hd).sh (by omega)⟩
theorem St.tm : Tm (.tuple [.tuple (ss.map .str), .tuple C, P]) := by
  have := pr_it h5
  exact Tm.three (fun M => low_tup h5.low) (by omega) (sh_tup (sh_cons (sh_tup (sh_low h5.low)) (sh_cons (sh_tup (h5.shC _ (by omega))) (sh_cons (shp_mono (pr_sh h5) (by omega)) sh_nil))))
theorem St.c4 : ∀ p ∈ C, cntF n 4 p < 99 ∧ cntF n 8 p ≤ 32 ∧ shp 60 p := fun p hp => by
  obtain ⟨b, b1, bl, h⟩ := h5.cp
  have g := h p hp
  have c4 := g.ct 4 (by omega)
  have c8 := g.ct 8 (by omega)
  have l : 1 ≤ C.length := List.length_pos_of_mem hp
  have : b ≤ 24 := by
    have : (1 : Int) * b ≤ C.length * b := Int.mul_le_mul_of_nonneg_right (by omega) (by omega)
    omega
  exact ⟨by omega, by omega, shp_mono g.sh (by omega)⟩
theorem St.lenN : (ss.map PyData.str).length = n := by rw [List.length_map]; exact h5.sl
end
abbrev TT (ss : List Str) (C : List PyData) (P : PyData) : PyData := .tuple [.tuple (ss.map .str), .tuple C, P]
section
variable {n : Nat} {ss : List Str} {C : List PyData} {P : PyData} (h5 : St 5 n ss C P) {row : List Int} (hb : Bt n row) (S : List Ob)
include h5 hb
theorem three_ok {tv : PyData → Bool} (htv : ∀ x, cntF n 4 x < 99 → Tw (vT row) 4 x (tv x)) {z : Int} (hz : ∀ S, m_price_with [.d (TT ss C P), .d (vT row)] S = .ok (.w (.d (.int z))) S) :
    m_claims_true [.d (TT ss C P), .d (vT row)] S = .ok (.w (.d (.tuple ((ixs tv C).map .int)))) S ∧ m_makes_true [.d (TT ss C P), .d (vT row)] S = .ok (.w (.d (.bool (C.all tv)))) S ∧ m_statement_price [.d (TT ss C P), .d (vT row)] S = .ok (.w (.d (.int z))) S := by
  have n1 := need_statement_ok h5.tm (h5.good (by omega)) S
  have n2 := need_row_ok hb.rowO S
  have cl := h5.cl
  have hC : ∀ x ∈ C, Tw (vT row) 4 x (tv x) := fun x hx => htv x (h5.c4 x hx).1
  have e1 := claims_at_ok (N := ss.map .str) (P := P) hC (by omega) S
  have ln := h5.lenN
  have z' := hz S
  have ia := ixs_all tv C
  unfold TT at *
  generalize vT row = R at n2 e1 z' ⊢
  generalize ss.map PyData.str = N at ln n1 e1 z' ⊢
  refine ⟨?_, ?_, ?_⟩
  · generalize ixs tv C = I at e1 ⊢
    simp [m_claims_true, b_claims_true, start0, n1, ln, n2, e1]
  · rw [← ia]
    generalize hI : ixs tv C = I at e1 ⊢
    simp [m_makes_true, b_makes_true, start0, n1, ln, n2, e1]
  · simp [m_statement_price, b_statement_price, start0, n1, ln, n2, z']
theorem part_loop {tv : PyData → Bool} (htv : ∀ x, cntF n 4 x < 99 → Tw (vT row) 4 x (tv x)) (a0 a1 a2 a5 a6 : Sl) : ∀ (cs : List PyData) (x : Sl), (∀ c ∈ cs, c ∈ C) → ∃ y, forL (gN 7) l_law_0 (cs.map .d) [a0, a1, a2, .w (.d (.int (n : Int))), .w (.d (vT row)), a5, a6, x] S = .nx [a0, a1, a2, .w (.d (.int (n : Int))), .w (.d (vT row)), a5, a6, y] S
  | [], x, _ => ⟨x, rfl⟩
  | c :: r, x, h => by
    obtain ⟨y, e⟩ := part_loop htv a0 a1 a2 a5 a6 r (.w (.d c)) fun z hz => h z (List.mem_cons_of_mem _ hz)
    refine ⟨y, ?_⟩
    rw [List.map_cons, for_cons]
    have hc := h5.c4 c (h c (List.mem_cons_self ..))
    have n1 := h5.n1
    have n6 := h5.n6
    have t := htv c hc.1
    have e1 := truth_ok (n := n) (by omega) (by omega) hb hc.2.2 hc.2.1 t S
    have e2 : m__law_truth [.d c, .d (vT row)] S = .ok (.w (.d (.bool (tv c)))) S := t.l 12 (by omega) S
    have e3 := says_same (tv c) S
    have tn : l_law_0 [a0, a1, a2, .w (.d (.int (n : Int))), .w (.d (vT row)), a5, a6, .w (.d c)] S = .nx [a0, a1, a2, .w (.d (.int (n : Int))), .w (.d (vT row)), a5, a6, .w (.d c)] S := by
      generalize vT row = R at e1 e2 ⊢
      simp [l_law_0, e1, e2, e3]
    show turnF (l_law_0 [a0, a1, a2, .w (.d (.int (n : Int))), .w (.d (vT row)), a5, a6, .w (.d c)] S) _ = _
    rw [tn, e_turnN, e]
theorem row_turn (a0 a1 a5 a6 a7 : Sl) : ∃ b5 b6 b7, l_law_1 [a0, a1, .w (.d (TT ss C P)), .w (.d (.int (n : Int))), .w (.d (vT row)), a5, a6, a7] S = .nx [a0, a1, .w (.d (TT ss C P)), .w (.d (.int (n : Int))), .w (.d (vT row)), b5, b6, b7] S := by
  obtain ⟨tv, htv⟩ := pick_tv (row := row) hb.len 4
  obtain ⟨z, hz⟩ := price_two (N := ss.map .str) h5 htv
  obtain ⟨y1, y2, y3⟩ := three_ok h5 hb S htv fun S => (hz S).1
  have hC : ∀ x ∈ C, Tw (vT row) 4 x (tv x) := fun x hx => htv x (h5.c4 x hx).1
  have cl := h5.cl
  have u1 := law_claims_ok (N := ss.map .str) (P := P) hC (by omega) S
  have u2 := fits_ok (N := ss.map .str) (P := P) hC (by omega) S
  have u3 := (hz S).2
  have sy := says_same (C.all tv) S
  have ne := ne_ints (ixs tv C) S
  have li : m__law_int [.d (.int z)] S = .ok (.w (.d (.bool true))) S := rfl
  obtain ⟨y, pl⟩ := part_loop h5 hb S htv a0 a1 (.w (.d (TT ss C P))) (.w (.d (.tuple ((ixs tv C).map .int)))) (.w (.d (.int z))) C a7 fun c h => h
  refine ⟨.w (.d (.tuple ((ixs tv C).map .int))), .w (.d (.int z)), y, ?_⟩
  generalize (ixs tv C).map PyData.int = I at u1 ne y1 pl ⊢
  have x0 : (fPar 5 6 (fCw (fCall m__law_true_claims (fCons (fVar 2) (fCons (fVar 4) fNil)))) (fCw (fCall m_statement_price (fCons (fVar 2) (fCons (fVar 4) fNil))))) [a0, a1, .w (.d (TT ss C P)), .w (.d (.int (n : Int))), .w (.d (vT row)), a5, a6, a7] S = .nx [a0, a1, .w (.d (TT ss C P)), .w (.d (.int (n : Int))), .w (.d (vT row)), .w (.d (.tuple I)), .w (.d (.int z)), a7] S := by
    unfold TT at *
    generalize vT row = R at u1 y3 ⊢
    generalize ss.map PyData.str = N at u1 y3 ⊢
    simp [u1, y3]
  have x1 : (fIfS (fOr (fT (fBin (oEqS true) (fCall m_claims_true (fCons (fVar 2) (fCons (fVar 4) fNil))) (fVar 5))) (fNot (fT (fCall m__law_says (fCons (fCall m_makes_true (fCons (fVar 2) (fCons (fVar 4) fNil))) (fCons (fCall m__law_fits (fCons (fVar 2) (fCons (fVar 4) fNil))) fNil)))))) (fRet (fC (.bool false))) fNx) [a0, a1, .w (.d (TT ss C P)), .w (.d (.int (n : Int))), .w (.d (vT row)), .w (.d (.tuple I)), .w (.d (.int z)), a7] S = .nx [a0, a1, .w (.d (TT ss C P)), .w (.d (.int (n : Int))), .w (.d (vT row)), .w (.d (.tuple I)), .w (.d (.int z)), a7] S := by
    unfold TT at *
    generalize vT row = R at y1 y2 u2 ⊢
    generalize ss.map PyData.str = N at y1 y2 u2 ⊢
    simp [y1, y2, u2, sy, ne]
  have x2 : (fIfS (fOr (fNot (fT (fCall m__law_int (fCons (fVar 6) fNil)))) (fT (fBin (oEqS true) (fVar 6) (fCall m__law_cost (fCons (fVar 2) (fCons (fVar 4) fNil)))))) (fRet (fC (.bool false))) fNx) [a0, a1, .w (.d (TT ss C P)), .w (.d (.int (n : Int))), .w (.d (vT row)), .w (.d (.tuple I)), .w (.d (.int z)), a7] S = .nx [a0, a1, .w (.d (TT ss C P)), .w (.d (.int (n : Int))), .w (.d (vT row)), .w (.d (.tuple I)), .w (.d (.int z)), a7] S := by
    unfold TT at *
    generalize vT row = R at u3 ⊢
    generalize ss.map PyData.str = N at u3 ⊢
    simp [u3, li]
  have src : fIt (fBin oIx (fVar 2) (fC (.int 1))) [a0, a1, .w (.d (TT ss C P)), .w (.d (.int (n : Int))), .w (.d (vT row)), .w (.d (.tuple I)), .w (.d (.int z)), a7] S = .ok (C.map .d) S := by
    unfold TT
    generalize ss.map PyData.str = N
    simp
  unfold l_law_1
  rw [e_Seq, x0, e_thenN, e_Seq, x1, e_thenN, e_Seq, x2, e_thenN, e_For (h := src), pl]
end
theorem row_loop {n : Nat} {ss : List Str} {C : List PyData} {P : PyData} (h5 : St 5 n ss C P) (S : List Ob) (a0 a1 : Sl) : ∀ (rs : List (List Int)) (a4 a5 a6 a7 : Sl), (∀ v ∈ rs, Bt n v) → ∃ b4 b5 b6 b7, forL (gN 4) l_law_1 (rs.map fun v => .d (vT v)) [a0, a1, .w (.d (TT ss C P)), .w (.d (.int (n : Int))), a4, a5, a6, a7] S = .nx [a0, a1, .w (.d (TT ss C P)), .w (.d (.int (n : Int))), b4, b5, b6, b7] S
  | [], a4, a5, a6, a7, _ => ⟨a4, a5, a6, a7, rfl⟩
  | v :: r, a4, a5, a6, a7, h => by
    obtain ⟨b5, b6, b7, e⟩ := row_turn h5 (h v (List.mem_cons_self ..)) S a0 a1 a5 a6 a7
    obtain ⟨c4, c5, c6, c7, e2⟩ := row_loop h5 S a0 a1 r (.w (.d (vT v))) b5 b6 b7 fun w hw => h w (List.mem_cons_of_mem _ hw)
    refine ⟨c4, c5, c6, c7, ?_⟩
    rw [List.map_cons, for_cons]
    show turnF (l_law_1 [a0, a1, .w (.d (TT ss C P)), .w (.d (.int (n : Int))), .w (.d (vT v)), a5, a6, a7] S) _ = _
    rw [e, e_turnN, e2]
end L2.Q.P
namespace L2.Q.P
open PySem PySem.Spec PyProof.Rows
/-! errors -/
theorem kinds_lc (fe : FE) (ρ : List Sl) (w : Str) (S : List Ob) (he : ∀ k : Int, k = 1 ∨ k = 2 ∨ k = 3 → fe (ρ.set 5 (.w (.d (.int k)))) S = .ok (.d (.str w)) S) (hu : unset ρ [5] = ρ) (ho : ([5].any fun i => isOwn ρ[i]?) = false) :
    fFz (fLc (fIt (fTup (fCons (fC (.int 1)) (fCons (fC (.int 2)) (fCons (fC (.int 3)) fNil))))) [5] (gN 5) (fun _ S => .ok true S) fe) ρ S = .ok (.d (.list [.str w, .str w, .str w])) S := by
  have src : fIt (fTup (fCons (fC (.int 1)) (fCons (fC (.int 2)) (fCons (fC (.int 3)) fNil)))) ρ S = .ok (([1, 2, 3] : List Int).map fun i => W.d (.int i)) S := rfl
  rw [e_Fz, e_Lc (h := src) (ho := ho), hu, lc_sel (gN 5) (fun _ S => .ok true S) fe ρ S (fun i : Int => W.d (.int i)) (fun _ => true) (fun _ => W.d (.str w)) [1, 2, 3] fun i hi => ⟨_, rfl, rfl, fun _ => he i (by simpa using hi)⟩]
  rfl
theorem eq3 (neg : Bool) (w : Str) (h : w = "row" ∨ w = "statement") (S : List Ob) : oEqS neg (.d (.list [.str w, .str w, .str w])) (.d (.list [.str w, .str w, .str w])) S = .ok (.d (.bool (!neg))) S := by
  rcases h with rfl | rfl <;> cases neg <;> kernel_rfl
theorem ne_w (w : Str) (h : w = "row" ∨ w = "part" ∨ w = "number") (S : List Ob) : oEqS true (.d (.str w)) (.d (.str w)) S = .ok (.d (.bool false)) S := by
  rcases h with rfl | rfl | rfl <;> kernel_rfl
theorem cnt_name (n : Int) (r : Nat) : cntF n r (.tuple [.str "name", .int n]) = 99 := by
  have hb : inB (.int n) 0 (n - 1) = false := by simp [inB]; omega
  have nt : ¬ (("name" : Str) = "true" ∨ ("name" : Str) = "false") := by decide +kernel
  have k : kids n (.tuple [.str "name", .int n]) = none := by unfold kids; dsimp only; rw [if_neg nt, if_pos rfl, hb]; rfl
  cases r with
  | zero => rfl
  | succ r => show (match kids n _ with | none => 99 | some ds => 1 + (ds.map (cntF n r)).sum) = 99; rw [k]
section
variable {n : Nat} {ss : List Str} {C : List PyData} {P : PyData} (h5 : St 5 n ss C P) (S : List Ob)
include h5
theorem bad_tm : Tm (TT ss (C ++ [.tuple [.str "name", .int n]]) P) ∧ stB (TT ss (C ++ [.tuple [.str "name", .int n]]) P) = false := by
  have hI := pr_it h5
  have sc := h5.shC 40 (by omega)
  constructor
  · exact Tm.three (fun M => low_tup h5.low) (by omega) (sh_tup (sh_cons (sh_tup (sh_low h5.low)) (sh_cons (sh_tup (sh_app (h5.shC _ (by omega)) (sh_cons (sh_tup (sh_cons (sh_str (by decide +kernel)) (sh_cons (shp_int _ _) sh_nil))) sh_nil))) (sh_cons (shp_mono (pr_sh h5) (by omega)) sh_nil))))
  · show (nmB _ && (clB _ && (prB P && totB (.tuple (ss.map .str)) (.tuple (C ++ [.tuple [.str "name", .int n]])) P))) = false
    have : totB (.tuple (ss.map .str)) (.tuple (C ++ [.tuple [.str "name", .int n]])) P = false := by
      unfold totB
      have l : (tupL (.tuple (ss.map .str))).length = n := h5.lenN
      rw [l]
      refine decide_eq_false ?_
      show ¬ (((C ++ [PyData.tuple [.str "name", .int n]]) ++ (itT P).map fstD).map (cntF n 8)).sum ≤ 32
      rw [List.map_append, List.map_append, List.sum_append, List.sum_append, List.map_singleton, List.sum_singleton, cnt_name]
      omega
    rw [this, Bool.and_false, Bool.and_false, Bool.and_false]
theorem wrong_three {w : PyData} (hw : rowO n w = false) : m_claims_true [.d (TT ss C P), .d w] S = .err "BadRow" S ∧ m_makes_true [.d (TT ss C P), .d w] S = .err "BadRow" S ∧ m_statement_price [.d (TT ss C P), .d w] S = .err "BadRow" S := by
  have n1 := need_statement_ok h5.tm (h5.good (by omega)) S
  have n2 := need_row_bad hw S
  have ln := h5.lenN
  unfold TT at *
  generalize ss.map PyData.str = N at ln n1 ⊢
  refine ⟨?_, ?_, ?_⟩
  · simp [m_claims_true, b_claims_true, start0, n1, ln, n2]
  · simp [m_makes_true, b_makes_true, start0, n1, ln, n2]
  · simp [m_statement_price, b_statement_price, start0, n1, ln, n2]
end
theorem bad_three {T : PyData} (hT : Tm T) (hb : stB T = false) (w : PyData) (S : List Ob) : m_claims_true [.d T, .d w] S = .err "BadStatement" S ∧ m_makes_true [.d T, .d w] S = .err "BadStatement" S ∧ m_statement_price [.d T, .d w] S = .err "BadStatement" S := by
  have n1 := need_statement_bad hT hb S
  refine ⟨?_, ?_, ?_⟩
  · simp [m_claims_true, b_claims_true, start0, n1]
  · simp [m_makes_true, b_makes_true, start0, n1]
  · simp [m_statement_price, b_statement_price, start0, n1]
theorem truth_errs {n : Nat} (h1 : 1 ≤ n) (h2 : n ≤ 10) {w : PyData} (hw : rowO n w = false) (S : List Ob) :
    m_truth [.d (.int (n : Int)), .d (.tuple [.str "true"]), .d w] S = .err "BadRow" S ∧ m_truth [.d (.int (n : Int)), .d (.tuple [.str "name", .int n]), .d w] S = .err "BadPart" S ∧ m_truth [.d (.int 11), .d (.tuple [.str "name", .int n]), .d w] S = .err "BadNumber" S := by
  have sn : shp 60 (.tuple [.str "name", .int (n : Int)]) := sh_tup (sh_cons (sh_str (by decide +kernel)) (sh_cons (shp_int _ _) sh_nil))
  have st : shp 60 (.tuple [.str "true"]) := sh_tup (sh_cons (sh_str (by decide +kernel)) sh_nil)
  have e1 := is_part_ok (n := (n : Int)) (by omega) (by omega) st S
  rw [decide_eq_true (show cntF n 8 (.tuple [.str "true"]) ≤ 32 by rw [leaf_kids (n : Int) 8 _ (by unfold kids; simp) (by omega)]; omega)] at e1
  have e2 := is_part_ok (n := (n : Int)) (by omega) (by omega) sn S
  rw [decide_eq_false (show ¬ cntF n 8 (.tuple [.str "name", .int (n : Int)]) ≤ 32 by rw [cnt_name]; omega)] at e2
  have e3 := need_row_bad hw S
  have w3 : m_within [.d (.int 11), .d (.int 1), .d (.int 10)] S = .ok (.w (.d (.bool false))) S := within_ok (.int 11) 1 10 S
  have e4 : ∀ d, m_is_part [.d (.int 11), .d d] S = .err "BadNumber" S := fun d => by simp [m_is_part, b_is_part, start0, w3]
  refine ⟨?_, ?_, ?_⟩
  · simp [m_truth, b_truth, start0, e1, e3]
  · simp [m_truth, b_truth, start0, e2]
  · simp [m_truth, b_truth, start0, e4]
/-! the error's turn, of any statement -/
section
variable {T U r w : PyData} {n : Int} {S : List Ob}
theorem et_x0 (w1 : m__law_word [.d (.int 0), .d (.int n), .d (.tuple [.str "true"]), .d w] S = .ok (.w (.d (.str "row"))) S) (w2 : m__law_word [.d (.int 0), .d (.int n), .d (.tuple [.str "name", .int n]), .d w] S = .ok (.w (.d (.str "part"))) S) :
    (fIfS (fOr (fT (fBin (oEqS true) (fCall m__law_word (fCons (fC (.int 0)) (fCons (fVar 1) (fCons (fTup (fCons (fC (.str "true")) fNil)) (fCons (fVar 4) fNil))))) (fC (.str "row")))) (fT (fBin (oEqS true) (fCall m__law_word (fCons (fC (.int 0)) (fCons (fVar 1) (fCons (fTup (fCons (fC (.str "name")) (fCons (fVar 1) fNil))) (fCons (fVar 4) fNil))))) (fC (.str "part"))))) (fRet (fC (.bool false))) fNx) [.w (.d T), .w (.d (.int n)), .w (.d r), .w (.d U), .w (.d w), .un] S = .nx [.w (.d T), .w (.d (.int n)), .w (.d r), .w (.d U), .w (.d w), .un] S := by
  have q1 := ne_w "row" (.inl rfl) S
  have q2 := ne_w "part" (.inr (.inl rfl)) S
  simp [w1, w2, q1, q2]
theorem et_x1 (w3 : m__law_word [.d (.int 0), .d (.int 11), .d (.tuple [.str "name", .int n]), .d w] S = .ok (.w (.d (.str "number"))) S) :
    (fIfS (fT (fBin (oEqS true) (fCall m__law_word (fCons (fC (.int 0)) (fCons (fC (.int 11)) (fCons (fTup (fCons (fC (.str "name")) (fCons (fVar 1) fNil))) (fCons (fVar 4) fNil))))) (fC (.str "number")))) (fRet (fC (.bool false))) fNx) [.w (.d T), .w (.d (.int n)), .w (.d r), .w (.d U), .w (.d w), .un] S = .nx [.w (.d T), .w (.d (.int n)), .w (.d r), .w (.d U), .w (.d w), .un] S := by
  have q3 := ne_w "number" (.inr (.inr rfl)) S
  simp [w3, q3]
theorem et_k1 (v : ∀ k : Int, k = 1 ∨ k = 2 ∨ k = 3 → m__law_word [.d (.int k), .d T, .d w, .d .none] S = .ok (.w (.d (.str "row"))) S) :
    (fFz (fLc (fIt (fTup (fCons (fC (.int 1)) (fCons (fC (.int 2)) (fCons (fC (.int 3)) fNil))))) [5] (gN 5) (fun _ S => .ok true S) e__law_errors_0)) [.w (.d T), .w (.d (.int n)), .w (.d r), .w (.d U), .w (.d w), .un] S = .ok (.d (.list [.str "row", .str "row", .str "row"])) S :=
  kinds_lc e__law_errors_0 [.w (.d T), .w (.d (.int n)), .w (.d r), .w (.d U), .w (.d w), .un] "row" S (fun k hk => by
    have v1 := v k hk
    show e__law_errors_0 [.w (.d T), .w (.d (.int n)), .w (.d r), .w (.d U), .w (.d w), .w (.d (.int k))] S = _
    simp [e__law_errors_0, v1]) rfl rfl
theorem et_k2 (v : ∀ k : Int, k = 1 ∨ k = 2 ∨ k = 3 → m__law_word [.d (.int k), .d U, .d w, .d .none] S = .ok (.w (.d (.str "statement"))) S) :
    (fFz (fLc (fIt (fTup (fCons (fC (.int 1)) (fCons (fC (.int 2)) (fCons (fC (.int 3)) fNil))))) [5] (gN 5) (fun _ S => .ok true S) e__law_errors_1)) [.w (.d T), .w (.d (.int n)), .w (.d r), .w (.d U), .w (.d w), .un] S = .ok (.d (.list [.str "statement", .str "statement", .str "statement"])) S :=
  kinds_lc e__law_errors_1 [.w (.d T), .w (.d (.int n)), .w (.d r), .w (.d U), .w (.d w), .un] "statement" S (fun k hk => by
    have v1 := v k hk
    show e__law_errors_1 [.w (.d T), .w (.d (.int n)), .w (.d r), .w (.d U), .w (.d w), .w (.d (.int k))] S = _
    simp [e__law_errors_1, v1]) rfl rfl
theorem et_k3 {a4 : Sl} (v : ∀ k : Int, k = 1 ∨ k = 2 ∨ k = 3 → m__law_word [.d (.int k), .d U, .d r, .d .none] S = .ok (.w (.d (.str "statement"))) S) :
    (fFz (fLc (fIt (fTup (fCons (fC (.int 1)) (fCons (fC (.int 2)) (fCons (fC (.int 3)) fNil))))) [5] (gN 5) (fun _ S => .ok true S) e__law_errors_2)) [.w (.d T), .w (.d (.int n)), .w (.d r), .w (.d U), a4, .un] S = .ok (.d (.list [.str "statement", .str "statement", .str "statement"])) S :=
  kinds_lc e__law_errors_2 [.w (.d T), .w (.d (.int n)), .w (.d r), .w (.d U), a4, .un] "statement" S (fun k hk => by
    have v1 := v k hk
    show e__law_errors_2 [.w (.d T), .w (.d (.int n)), .w (.d r), .w (.d U), a4, .w (.d (.int k))] S = _
    simp [e__law_errors_2, v1]) rfl rfl
theorem et_if {a b : FE} {x y : PyData} {ρ : List Sl} (h1 : a ρ S = .ok (.d x) S) (h2 : b ρ S = .ok (.d y) S) (h : oEqS true (.d x) (.d y) S = .ok (.d (.bool false)) S) : (fIfS (fT (fBin (oEqS true) a b)) (fRet (fC (.bool false))) fNx) ρ S = .nx ρ S := by
  rw [e_IfS, e_T, e_bin, h1, e_ok, h2, e_ok, h]
  rfl
theorem et_turn (w1 : m__law_word [.d (.int 0), .d (.int n), .d (.tuple [.str "true"]), .d w] S = .ok (.w (.d (.str "row"))) S) (w2 : m__law_word [.d (.int 0), .d (.int n), .d (.tuple [.str "name", .int n]), .d w] S = .ok (.w (.d (.str "part"))) S)
    (w3 : m__law_word [.d (.int 0), .d (.int 11), .d (.tuple [.str "name", .int n]), .d w] S = .ok (.w (.d (.str "number"))) S)
    (v : ∀ k : Int, k = 1 ∨ k = 2 ∨ k = 3 → m__law_word [.d (.int k), .d T, .d w, .d .none] S = .ok (.w (.d (.str "row"))) S) (u : ∀ k : Int, k = 1 ∨ k = 2 ∨ k = 3 → m__law_word [.d (.int k), .d U, .d w, .d .none] S = .ok (.w (.d (.str "statement"))) S) :
    l__law_errors_0 [.w (.d T), .w (.d (.int n)), .w (.d r), .w (.d U), .w (.d w), .un] S = .nx [.w (.d T), .w (.d (.int n)), .w (.d r), .w (.d U), .w (.d w), .un] S := by
  have d1 : (fFz (fNewL (fCons (fC (.str "row")) (fCons (fC (.str "row")) (fCons (fC (.str "row")) fNil))))) [.w (.d T), .w (.d (.int n)), .w (.d r), .w (.d U), .w (.d w), .un] S = .ok (.d (.list [.str "row", .str "row", .str "row"])) S := rfl
  have d2 : (fFz (fNewL (fCons (fC (.str "statement")) (fCons (fC (.str "statement")) (fCons (fC (.str "statement")) fNil))))) [.w (.d T), .w (.d (.int n)), .w (.d r), .w (.d U), .w (.d w), .un] S = .ok (.d (.list [.str "statement", .str "statement", .str "statement"])) S := rfl
  unfold l__law_errors_0
  rw [e_Seq, et_x0 w1 w2, e_thenN, e_Seq, et_x1 w3, e_thenN, e_Seq, et_if (et_k1 v) d1 (eq3 true "row" (.inl rfl) S), e_thenN, et_if (et_k2 u) d2 (eq3 true "statement" (.inr rfl) S)]
end
section
variable {n : Nat} {ss : List Str} {C : List PyData} {P : PyData} (h5 : St 5 n ss C P) (S : List Ob) (r : PyData)
include h5
theorem err_turn {w : PyData} (hw : rowO n w = false) {T U : PyData} (eT : T = TT ss C P) (eU : U = TT ss (C ++ [PyData.tuple [.str "name", .int n]]) P) : l__law_errors_0 [.w (.d T), .w (.d (.int (n : Int))), .w (.d r), .w (.d U), .w (.d w), .un] S = .nx [.w (.d T), .w (.d (.int (n : Int))), .w (.d r), .w (.d U), .w (.d w), .un] S := by
  have n1 := h5.n1
  have n6 := h5.n6
  obtain ⟨t1, t2, t3⟩ := truth_errs (n := n) (by omega) (by omega) hw S
  obtain ⟨s1, s2, s3⟩ := wrong_three h5 S hw
  obtain ⟨bt, bb⟩ := bad_tm h5
  obtain ⟨b1, b2, b3⟩ := bad_three bt bb w S
  rw [← eT] at s1 s2 s3
  rw [← eU] at b1 b2 b3
  exact et_turn (word0_row t1) (word0_part t2) (word0_number t3) (fun k hk => by
    rcases hk with rfl | rfl | rfl
    · exact word1_row s1
    · exact word2_row s2
    · exact word3_row s3) (fun k hk => by
    rcases hk with rfl | rfl | rfl
    · exact word1_statement b1
    · exact word2_statement b2
    · exact word3_statement b3)
theorem err_loop {T U : PyData} (eT : T = TT ss C P) (eU : U = TT ss (C ++ [PyData.tuple [.str "name", .int n]]) P) : ∀ (ws : List PyData) (x : Sl), (∀ w ∈ ws, rowO n w = false) → ∃ y, forL (gN 4) l__law_errors_0 (ws.map .d) [.w (.d T), .w (.d (.int (n : Int))), .w (.d r), .w (.d U), x, .un] S = .nx [.w (.d T), .w (.d (.int (n : Int))), .w (.d r), .w (.d U), y, .un] S
  | [], x, _ => ⟨x, rfl⟩
  | w :: t, x, h => by
    obtain ⟨y, e⟩ := err_loop eT eU t (.w (.d w)) fun z hz => h z (List.mem_cons_of_mem _ hz)
    refine ⟨y, ?_⟩
    rw [List.map_cons, for_cons]
    show turnF (l__law_errors_0 [.w (.d T), .w (.d (.int (n : Int))), .w (.d r), .w (.d U), .w (.d w), .un] S) _ = _
    rw [err_turn h5 S r (h w (List.mem_cons_self ..)) eT eU, e_turnN, e]
end
theorem er_x0 {N C : List PyData} {P r : PyData} {n : Nat} {S : List Ob} (ln : N.length = n) (m : oMulT (.d (.tuple [.int 0])) (.d (.int (n : Int))) S = .ok (.d r) S) :
    (fAsg (gT 2 (gsC (gN 1) (gsC (gN 2) gsN))) (fTup (fCons (fLen (fIt (fBin oIx (fVar 0) (fC (.int 0))))) (fCons (fBin oMulT (fTup (fCons (fC (.int 0)) fNil)) (fLen (fIt (fBin oIx (fVar 0) (fC (.int 0)))))) fNil)))) [.w (.d (.tuple [.tuple N, .tuple C, P])), .un, .un, .un, .un, .un] S = .nx [.w (.d (.tuple [.tuple N, .tuple C, P])), .w (.d (.int (n : Int))), .w (.d r), .un, .un, .un] S := by
  simp [ln, m]
theorem er_x1 {N C : List PyData} {P r : PyData} {n : Int} {S : List Ob} (cl : C.length ≤ 5) :
    (fSet 3 (fTup (fCons (fBin oIx (fVar 0) (fC (.int 0))) (fCons (fBin oAddA (fBin oIx (fVar 0) (fC (.int 1))) (fTup (fCons (fTup (fCons (fC (.str "name")) (fCons (fVar 1) fNil))) fNil))) (fCons (fBin oIx (fVar 0) (fC (.int 2))) fNil))))) [.w (.d (.tuple [.tuple N, .tuple C, P])), .w (.d (.int n)), .w (.d r), .un, .un, .un] S = .nx [.w (.d (.tuple [.tuple N, .tuple C, P])), .w (.d (.int n)), .w (.d r), .w (.d (.tuple [.tuple N, .tuple (C ++ [PyData.tuple [.str "name", .int n]]), P])), .un, .un] S := by
  have a : ∀ d : PyData, oAddA (.d (.tuple C)) (.d (.tuple [d])) S = .ok (.d (.tuple (C ++ [d]))) S := fun d => by rw [e_addT, if_pos (by simp; omega)]
  simp [a, -e_addT]
theorem er_src {T U r : PyData} {n : Int} {ws : List PyData} {S : List Ob} (w : m__law_wrong_rows [.d (.int n)] S = .ok (.w (.d (.list ws))) S) : fIt (fCall m__law_wrong_rows (fCons (fVar 1) fNil)) [.w (.d T), .w (.d (.int n)), .w (.d r), .w (.d U), .un, .un] S = .ok (ws.map .d) S := by
  simp [w]
theorem errors_ok {n : Nat} {ss : List Str} {C : List PyData} {P : PyData} (h5 : St 5 n ss C P) (S : List Ob) : m__law_errors [.d (TT ss C P)] S = .ok (.w (.d (.bool true))) S := by
  have n1 := h5.n1
  have n6 := h5.n6
  have cl := h5.cl
  obtain ⟨r, hr⟩ : ∃ r : PyData, r = .tuple (rp n 0) := ⟨_, rfl⟩
  have m : oMulT (.d (.tuple [.int 0])) (.d (.int (n : Int))) S = .ok (.d r) S := by rw [hr]; exact e_mulTt (by simp; omega)
  have x0 := er_x0 (C := C) (P := P) h5.lenN m
  have x1 := er_x1 (N := ss.map .str) (P := P) (r := r) (n := (n : Int)) (S := S) (C := C) (by omega)
  obtain ⟨bt, bb⟩ := bad_tm h5
  obtain ⟨b1, b2, b3⟩ := bad_three bt bb r S
  obtain ⟨T, eT⟩ : ∃ T : PyData, T = TT ss C P := ⟨_, rfl⟩
  obtain ⟨U, eU⟩ : ∃ U : PyData, U = TT ss (C ++ [PyData.tuple [.str "name", .int n]]) P := ⟨_, rfl⟩
  obtain ⟨y, e2⟩ := err_loop h5 S r eT eU (wrongL n) .un (wrong_rows_bad (by omega))
  change (fAsg (gT 2 (gsC (gN 1) (gsC (gN 2) gsN))) (fTup (fCons (fLen (fIt (fBin oIx (fVar 0) (fC (.int 0))))) (fCons (fBin oMulT (fTup (fCons (fC (.int 0)) fNil)) (fLen (fIt (fBin oIx (fVar 0) (fC (.int 0)))))) fNil)))) [.w (.d (TT ss C P)), .un, .un, .un, .un, .un] S = .nx [.w (.d (TT ss C P)), .w (.d (.int (n : Int))), .w (.d r), .un, .un, .un] S at x0
  change (fSet 3 (fTup (fCons (fBin oIx (fVar 0) (fC (.int 0))) (fCons (fBin oAddA (fBin oIx (fVar 0) (fC (.int 1))) (fTup (fCons (fTup (fCons (fC (.str "name")) (fCons (fVar 1) fNil))) fNil))) (fCons (fBin oIx (fVar 0) (fC (.int 2))) fNil))))) [.w (.d (TT ss C P)), .w (.d (.int (n : Int))), .w (.d r), .un, .un, .un] S = .nx [.w (.d (TT ss C P)), .w (.d (.int (n : Int))), .w (.d r), .w (.d (TT ss (C ++ [PyData.tuple [.str "name", .int n]]) P)), .un, .un] S at x1
  rw [← eT] at x0
  rw [← eT, ← eU] at x1
  rw [← eU] at b1 b2 b3
  rw [← eT]
  have w := wrong_rows_ok (n := (n : Int)) (by omega) (by omega) S
  have x2 : (fFor (fIt (fCall m__law_wrong_rows (fCons (fVar 1) fNil))) (gN 4) l__law_errors_0) [.w (.d T), .w (.d (.int (n : Int))), .w (.d r), .w (.d U), .un, .un] S = .nx [.w (.d T), .w (.d (.int (n : Int))), .w (.d r), .w (.d U), y, .un] S := by
    rw [e_For (h := er_src w), e2]
  have k3 := et_k3 (T := T) (U := U) (r := r) (n := (n : Int)) (a4 := y) (S := S) (fun k hk => by
    rcases hk with rfl | rfl | rfl
    · exact word1_statement b1
    · exact word2_statement b2
    · exact word3_statement b3)
  have d2 : (fFz (fNewL (fCons (fC (.str "statement")) (fCons (fC (.str "statement")) (fCons (fC (.str "statement")) fNil))))) [.w (.d T), .w (.d (.int (n : Int))), .w (.d r), .w (.d U), y, .un] S = .ok (.d (.list [.str "statement", .str "statement", .str "statement"])) S := rfl
  have st : start0 6 [W.d T] = [.w (.d T), .un, .un, .un, .un, .un] := rfl
  unfold m__law_errors b__law_errors
  rw [e_runF, st, e_Seq, x0, e_thenN, e_Seq, x1, e_thenN, e_Seq, x2, e_thenN, e_Ret, e_bin, k3, e_ok, d2, e_ok, eq3 false "statement" (.inr rfl) S]
  rfl
end L2.Q.P
namespace L2.Q.P
open PySem PySem.Spec PyProof.Rows
theorem law_ok (ns : List Int) (hl : ns.length ≤ 63) (_ : ∀ z ∈ ns, Builtin.Int.intBits z ≤ 1048576) : ∃ S, m_law [.d (.list (ns.map .int))] [] = .ok (.w (.d (.bool true))) S := by
  obtain ⟨g, sm, es, hd⟩ := source_ok ns hl
  have d0 : Dq 5000 (DQ g sm 0 []) := ⟨[], g, sm, 0, rfl, hd.gl, hd.gb, hd.sl, hd.sb, by omega, by omega⟩
  have st : start0 8 [W.d (.list (ns.map .int))] = [.w (.d (.list (ns.map .int))), .un, .un, .un, .un, .un, .un, .un] := rfl
  have x0 : (fSet 1 (fSto (fCallO m__law_source (fCons (fVar 0) fNil)))) [.w (.d (.list (ns.map .int))), .un, .un, .un, .un, .un, .un, .un] [] = .nx [.w (.d (.list (ns.map .int))), .w (.ref 1), .un, .un, .un, .un, .un, .un] (DQ g sm 0 []) := by
    simp [es, DQ]
  obtain ⟨n, ss, C, P, S1, e1, h5, d1⟩ := statement_drawn (M := 5) (by omega) (by omega) (k := 1000) (S := DQ g sm 0 []) (d0.le (by omega))
  have n6 := h5.n6
  have x1 : (fSet 2 (fCall m__law_statement (fCons (fVar 1) (fCons (fC (.int 5)) (fCons (fC (.int 5)) fNil))))) [.w (.d (.list (ns.map .int))), .w (.ref 1), .un, .un, .un, .un, .un, .un] (DQ g sm 0 []) = .nx [.w (.d (.list (ns.map .int))), .w (.ref 1), .w (.d (TT ss C P)), .un, .un, .un, .un, .un] S1 := by
    generalize ns.map PyData.int = nl
    have e1 : m__law_statement [.ref 1, .d (.int 5), .d (.int 5)] (DQ g sm 0 []) = .ok (.w (.d (TT ss C P))) S1 := e1
    generalize TT ss C P = T at e1 ⊢
    simp [e1]
  have x2 : (fSet 3 (fLen (fIt (fBin oIx (fVar 2) (fC (.int 0)))))) [.w (.d (.list (ns.map .int))), .w (.ref 1), .w (.d (TT ss C P)), .un, .un, .un, .un, .un] S1 = .nx [.w (.d (.list (ns.map .int))), .w (.ref 1), .w (.d (TT ss C P)), .w (.d (.int (n : Int))), .un, .un, .un, .un] S1 := by
    have ln := h5.lenN
    generalize ns.map PyData.int = nl
    unfold TT
    generalize ss.map PyData.str = N at ln ⊢
    simp [ln]
  obtain ⟨rs, e3, hr⟩ := law_rows_ok (n := n) (by omega) S1
  obtain ⟨b4, b5, b6, b7, e4⟩ := row_loop h5 S1 (.w (.d (.list (ns.map .int)))) (.w (.ref 1)) rs .un .un .un .un hr
  have x3 : (fFor (fIt (fCall m__law_rows (fCons (fVar 3) fNil))) (gN 4) l_law_1) [.w (.d (.list (ns.map .int))), .w (.ref 1), .w (.d (TT ss C P)), .w (.d (.int (n : Int))), .un, .un, .un, .un] S1 = .nx [.w (.d (.list (ns.map .int))), .w (.ref 1), .w (.d (TT ss C P)), .w (.d (.int (n : Int))), b4, b5, b6, b7] S1 := by
    have src : fIt (fCall m__law_rows (fCons (fVar 3) fNil)) [.w (.d (.list (ns.map .int))), .w (.ref 1), .w (.d (TT ss C P)), .w (.d (.int (n : Int))), .un, .un, .un, .un] S1 = .ok (rs.map fun v => .d (vT v)) S1 := by
      have : (rs.map fun v => W.d (vT v)) = (rs.map fun v => vT v).map W.d := by rw [List.map_map]; rfl
      rw [this]
      generalize (rs.map fun v => vT v) = R at e3 ⊢
      generalize ns.map PyData.int = nl
      generalize TT ss C P = T
      simp [e3]
    rw [e_For (h := src), e4]
  have e5 := errors_ok h5 S1
  have x4 : (fRet (fCall m__law_errors (fCons (fVar 2) fNil))) [.w (.d (.list (ns.map .int))), .w (.ref 1), .w (.d (TT ss C P)), .w (.d (.int (n : Int))), b4, b5, b6, b7] S1 = .rt (.w (.d (.bool true))) S1 := by
    generalize ns.map PyData.int = nl
    generalize TT ss C P = T at e5 ⊢
    simp [e5]
  refine ⟨S1, ?_⟩
  unfold m_law b_law
  rw [e_runF, st, e_Seq, x0, e_thenN, e_Seq, x1, e_thenN, e_Seq, x2, e_thenN, e_Seq, x3, e_thenN, x4]
  rfl
end L2.Q.P
theorem PySem.Challenge.cw_sumsworn_k56_truth_claims_and_prices_of_holds : PySem.Challenge.rw_sumsworn_k56_truth_claims_and_prices_of.Holds := by
  exact L2.Q.P.holds_of L2.Q.P.law_ok
