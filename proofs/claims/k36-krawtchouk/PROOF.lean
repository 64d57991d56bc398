import PyProof.Rows.All
import Wide.All
import OpenK.AllK
import Wide.FinOn
import HandS.ForMost
import HandS.Exc
import HandS.ExcOwn
import HandS.TryMany
import HandS.TryOnly
import HandS.WordsExc
import HandS.IsInst
import HandS.Style
import HandS.Wide
import HandS.Gcd
import HandS.ExcIs
import KE.KMathGC
import PySem.Challenge.RW_treework_k36_whole_numbers_of_krawtchouk
set_option Elab.async false
set_option linter.all false
set_option maxRecDepth 100000
set_option maxHeartbeats 1000000
set_option autoImplicit false
/-! Dy, part A: data trees, cells, stores; how they lie in the abstract heap of HandS. -/
namespace Dy
open PySem L2

inductive T where
  | non | bl (b : Bool) | int (i : Int) | str (x : Str)
  | lst (xs : List T) | tup (xs : List T)
  | dK (kvs : List (Key × T)) | dT (kvs : List (List Key × T))
  | ins (c : Nat) (fs : List (Str × T))
instance : Inhabited T := ⟨.non⟩
inductive S where
  | val (t : T) | ref (k : Nat)
instance : Inhabited S := ⟨.val .non⟩
inductive Cel where
  | live (t : T) | frz (t : T)
instance : Inhabited Cel := ⟨.frz .non⟩
abbrev Sto := List Cel
abbrev Env := List (Option S)

abbrev Avoid := Addr → Prop
/-- a list of the written part -/
def KL (K : PySem.W.Frag) (a : Addr) (xs : List V) : Prop :=
  ∃ (o : Obj) (its : Array Value) (n : Nat), K.lookup a = some o ∧ o.cls = .type "list" ∧ o.dict = none ∧ o.data = .seq its n ∧ its.size ≤ sizeLine ∧ Vals xs its.toList
def KT (K : PySem.W.Frag) (a : Addr) (xs : List V) : Prop :=
  ∃ (o : Obj) (its : Array Value) (n : Nat), K.lookup a = some o ∧ o.cls = .type "tuple" ∧ o.data = .seq its n ∧ its.size ≤ sizeLine ∧ Vals xs its.toList
def SqA (K : PySem.W.Frag) (L : Avoid) (H : Hp) (a : Addr) (xs : List V) : Prop := (¬ L a ∧ Rd H a (.lst xs)) ∨ KL K a xs
def TqA (K : PySem.W.Frag) (L : Avoid) (H : Hp) (a : Addr) (xs : List V) : Prop := (¬ L a ∧ Rd H a (.tup xs)) ∨ KT K a xs
theorem SqA.sq {K : PySem.W.Frag} {L : Avoid} {H : Hp} {a : Addr} {xs : List V} (h : SqA K L H a xs) : SqL K H a xs := h.elim (fun h => .inl h.2) .inr
theorem TqA.sq {K : PySem.W.Frag} {L : Avoid} {H : Hp} {a : Addr} {xs : List V} (h : TqA K L H a xs) : SqT K H a xs := h.elim (fun h => .inl h.2) .inr
theorem SqA.of_sq {K : PySem.W.Frag} {H : Hp} {a : Addr} {xs : List V} (h : SqL K H a xs) : SqA K (fun _ => False) H a xs := h.elim (fun h => .inl ⟨id, h⟩) .inr

mutual
/-- t stands at v -/
def Rep (K : PySem.W.Frag) (cl : Nat → Addr) (L : Avoid) (H : Hp) : T → V → Prop
  | .non, v => v = .non
  | .bl b, v => v = .bl b
  | .int i, v => v = .int i
  | .str x, v => v = .str x
  | .lst ts, v => ∃ a vs, v = .ref a ∧ SqA K L H a vs ∧ RepL K cl L H ts vs
  | .tup ts, v => ∃ a vs, v = .ref a ∧ TqA K L H a vs ∧ RepL K cl L H ts vs
  | .dK kvs, v => ∃ a vs, v = .ref a ∧ ¬ L a ∧ Rd H a (.dK vs) ∧ RepP K cl L H kvs vs
  | .dT kvs, v => ∃ a vs, v = .ref a ∧ ¬ L a ∧ Rd H a (.dT vs) ∧ RepQ K cl L H kvs vs
  | .ins c fs, v => ∃ a dx vs, v = .ref a ∧ ¬ L a ∧ H a = some (.ins (cl c) dx vs) ∧ RepF K cl L H fs vs
def RepL (K : PySem.W.Frag) (cl : Nat → Addr) (L : Avoid) (H : Hp) : List T → List V → Prop
  | [], vs => vs = []
  | t :: ts, vs => ∃ v r, vs = v :: r ∧ Rep K cl L H t v ∧ RepL K cl L H ts r
def RepP (K : PySem.W.Frag) (cl : Nat → Addr) (L : Avoid) (H : Hp) : List (Key × T) → List (Key × V) → Prop
  | [], vs => vs = []
  | (k, t) :: ts, vs => ∃ v r, vs = (k, v) :: r ∧ Rep K cl L H t v ∧ RepP K cl L H ts r
def RepQ (K : PySem.W.Frag) (cl : Nat → Addr) (L : Avoid) (H : Hp) : List (List Key × T) → List (List Key × V) → Prop
  | [], vs => vs = []
  | (k, t) :: ts, vs => ∃ v r, vs = (k, v) :: r ∧ Rep K cl L H t v ∧ RepQ K cl L H ts r
def RepF (K : PySem.W.Frag) (cl : Nat → Addr) (L : Avoid) (H : Hp) : List (Str × T) → List (Str × V) → Prop
  | [], vs => vs = []
  | (k, t) :: ts, vs => ∃ v r, vs = (k, v) :: r ∧ Rep K cl L H t v ∧ RepF K cl L H ts r
end

section
variable {K : PySem.W.Frag} {cl : Nat → Addr} {L L' : Avoid} {H H' : Hp}
/-- what a change of the heap must keep so that all trees stand -/
structure Keeps (L L' : Avoid) (H H' : Hp) : Prop where
  rd : ∀ a u, Rd H a u → ¬ L a → Rd H' a u
  ins : ∀ a C dx fs, H a = some (.ins C dx fs) → ¬ L a → H' a = some (.ins C dx fs)
  av : ∀ a, H a ≠ none → ¬ L a → ¬ L' a
theorem Rd.ne {H : Hp} {a : Addr} {u : HO} (h : Rd H a u) : H a ≠ none := by
  rcases h with h | ⟨o, h⟩ <;> rw [h] <;> exact fun z => nomatch z
mutual
theorem Rep.keeps (k : Keeps L L' H H') : ∀ (t : T) (v : V), Rep K cl L H t v → Rep K cl L' H' t v
  | .non, _, h => h
  | .bl _, _, h => h
  | .int _, _, h => h
  | .str _, _, h => h
  | .lst ts, v, h => by
    unfold Rep at h ⊢
    obtain ⟨a, vs, e, q, r⟩ := h
    refine ⟨a, vs, e, ?_, RepL.keeps k ts vs r⟩
    rcases q with ⟨n, q⟩ | q
    · exact .inl ⟨k.av a (Rd.ne q) n, k.rd a _ q n⟩
    · exact .inr q
  | .tup ts, v, h => by
    unfold Rep at h ⊢
    obtain ⟨a, vs, e, q, r⟩ := h
    refine ⟨a, vs, e, ?_, RepL.keeps k ts vs r⟩
    rcases q with ⟨n, q⟩ | q
    · exact .inl ⟨k.av a (Rd.ne q) n, k.rd a _ q n⟩
    · exact .inr q
  | .dK ts, v, h => by
    unfold Rep at h ⊢
    obtain ⟨a, vs, e, n, q, r⟩ := h
    exact ⟨a, vs, e, k.av a (Rd.ne q) n, k.rd a _ q n, RepP.keeps k ts vs r⟩
  | .dT ts, v, h => by
    unfold Rep at h ⊢
    obtain ⟨a, vs, e, n, q, r⟩ := h
    exact ⟨a, vs, e, k.av a (Rd.ne q) n, k.rd a _ q n, RepQ.keeps k ts vs r⟩
  | .ins c ts, v, h => by
    unfold Rep at h ⊢
    obtain ⟨a, dx, vs, e, n, q, r⟩ := h
    exact ⟨a, dx, vs, e, k.av a (by rw [q]; exact fun z => nomatch z) n, k.ins a _ _ _ q n, RepF.keeps k ts vs r⟩
theorem RepL.keeps (k : Keeps L L' H H') : ∀ (t : List T) (v : List V), RepL K cl L H t v → RepL K cl L' H' t v
  | [], _, h => h
  | t :: ts, v, h => by
    unfold RepL at h ⊢
    obtain ⟨x, r, e, h1, h2⟩ := h
    exact ⟨x, r, e, Rep.keeps k t x h1, RepL.keeps k ts r h2⟩
theorem RepP.keeps (k : Keeps L L' H H') : ∀ (t : List (Key × T)) (v : List (Key × V)), RepP K cl L H t v → RepP K cl L' H' t v
  | [], _, h => h
  | (y, t) :: ts, v, h => by
    unfold RepP at h ⊢
    obtain ⟨x, r, e, h1, h2⟩ := h
    exact ⟨x, r, e, Rep.keeps k t x h1, RepP.keeps k ts r h2⟩
theorem RepQ.keeps (k : Keeps L L' H H') : ∀ (t : List (List Key × T)) (v : List (List Key × V)), RepQ K cl L H t v → RepQ K cl L' H' t v
  | [], _, h => h
  | (y, t) :: ts, v, h => by
    unfold RepQ at h ⊢
    obtain ⟨x, r, e, h1, h2⟩ := h
    exact ⟨x, r, e, Rep.keeps k t x h1, RepQ.keeps k ts r h2⟩
theorem RepF.keeps (k : Keeps L L' H H') : ∀ (t : List (Str × T)) (v : List (Str × V)), RepF K cl L H t v → RepF K cl L' H' t v
  | [], _, h => h
  | (y, t) :: ts, v, h => by
    unfold RepF at h ⊢
    obtain ⟨x, r, e, h1, h2⟩ := h
    exact ⟨x, r, e, Rep.keeps k t x h1, RepF.keeps k ts r h2⟩
end
/-- the same heap, less to avoid -/
theorem Keeps.less (h : ∀ a, L' a → L a) : Keeps L L' H H := ⟨fun _ _ q _ => q, fun _ _ _ _ q _ => q, fun a _ n z => n (h a z)⟩
end

/-! ### stores -/
def Live (A : List Addr) (st : Sto) : Avoid := fun a => ∃ (k : Nat) (c : T), st[k]? = some (.live c) ∧ A[k]? = some a
section
variable (K : PySem.W.Frag) (cl : Nat → Addr)
def SRel (A : List Addr) (L : Avoid) (H : Hp) : S → V → Prop
  | .val t, v => Rep K cl L H t v
  | .ref k, v => ∃ a, A[k]? = some a ∧ v = .ref a
abbrev SRelL (A : List Addr) (L : Avoid) (H : Hp) : List S → List V → Prop := Paired (SRel K cl A L H)
/-- a live object at a -/
def CRel (L : Avoid) (H : Hp) (a : Addr) : T → Prop
  | .lst ts => ∃ vs, H a = some (.lst vs) ∧ RepL K cl L H ts vs
  | .dK ts => ∃ vs, H a = some (.dK vs) ∧ RepP K cl L H ts vs
  | .dT ts => ∃ vs, H a = some (.dT vs) ∧ RepQ K cl L H ts vs
  | .ins c ts => ∃ dx vs, H a = some (.ins (cl c) dx vs) ∧ RepF K cl L H ts vs
  | _ => False
structure StoreRel (A : List Addr) (st : Sto) (H : Hp) : Prop where
  alen : A.length = st.length
  inj : ∀ (k k' : Nat) (a : Addr) (c c' : T), st[k]? = some (.live c) → st[k']? = some (.live c') → A[k]? = some a → A[k']? = some a → k = k'
  live : ∀ (k : Nat) (a : Addr) (c : T), A[k]? = some a → st[k]? = some (.live c) → CRel K cl (Live A st) H a c
  frz : ∀ (k : Nat) (a : Addr) (t : T), A[k]? = some a → st[k]? = some (.frz t) → Rep K cl (Live A st) H t (.ref a)
structure EnvRel (A : List Addr) (st : Sto) (env : Env) (σ : L2.St) (H : Hp) : Prop where
  len : env.length = σ.length
  at_ : ∀ (i : Nat) (s : S), env[i]? = some (some s) → ∃ v, σ[i]? = some (some v) ∧ SRel K cl A (Live A st) H s v
end
/-- what becomes of a store -/
structure Ext (A : List Addr) (st : Sto) (H : Hp) (A' : List Addr) (st' : Sto) (H' : Hp) : Prop where
  pre : ∀ (k : Nat) (a : Addr), A[k]? = some a → A'[k]? = some a
  len : st.length ≤ st'.length
  frz : ∀ (k : Nat) (t : T), st[k]? = some (.frz t) → st'[k]? = some (.frz t)
  new : ∀ (k : Nat) (a : Addr), st.length ≤ k → A'[k]? = some a → H a = none
  keep : ∀ a o, H a = some o → ¬ Live A st a → H' a = some o
  dom : ∀ a, H a ≠ none → H' a ≠ none

section
variable {K : PySem.W.Frag} {cl : Nat → Addr} {A A' A'' : List Addr} {st st' st'' : Sto} {H H' H'' : Hp}
theorem get_lt {α : Type} {l : List α} {k : Nat} {a : α} (h : l[k]? = some a) : k < l.length := (List.getElem?_eq_some_iff.mp h).1
theorem get_ge {α : Type} {l : List α} {k : Nat} (h : l.length ≤ k) : l[k]? = none := List.getElem?_eq_none h
theorem Ext.notLive (e : Ext A st H A' st' H') (la : A.length = st.length) {a : Addr} (ha : H a ≠ none) (n : ¬ Live A st a) : ¬ Live A' st' a := by
  rintro ⟨k, c, h1, h2⟩
  by_cases hk : k < st.length
  · obtain ⟨a', ha'⟩ : ∃ a', A[k]? = some a' := ⟨A[k]'(by omega), List.getElem?_eq_getElem (by omega)⟩
    have := e.pre k a' ha'
    rw [h2] at this; cases this
    have hs : st[k]? = some st[k] := List.getElem?_eq_getElem hk
    cases hc : st[k] with
    | live c0 => exact n ⟨k, c0, by rw [hs, hc], ha'⟩
    | frz t =>
      rw [hc] at hs
      have := e.frz k t hs
      rw [h1] at this; cases this
  · exact ha (e.new k a (by omega) h2)
theorem Ext.keeps (e : Ext A st H A' st' H') (la : A.length = st.length) : Keeps (Live A st) (Live A' st') H H' where
  rd := fun a u h n => by
    rcases h with h | ⟨o, h⟩
    · exact .inl (e.keep a _ h n)
    · exact .inr ⟨o, e.keep a _ h n⟩
  ins := fun a C dx fs h n => e.keep a _ h n
  av := fun a h n => e.notLive la h n
theorem Ext.refl (la : A.length = st.length) : Ext A st H A st H :=
  ⟨fun _ _ h => h, Nat.le_refl _, fun _ _ h => h, fun k a h1 h2 => absurd (get_lt h2) (by omega), fun _ _ h _ => h, fun _ h => h⟩
theorem Ext.trans (la : A.length = st.length) (la' : A'.length = st'.length) (e : Ext A st H A' st' H') (f : Ext A' st' H' A'' st'' H'') : Ext A st H A'' st'' H'' where
  pre := fun k a h => f.pre k a (e.pre k a h)
  len := Nat.le_trans e.len f.len
  frz := fun k t h => f.frz k t (e.frz k t h)
  new := fun k a h1 h2 => by
    by_cases hk : k < st'.length
    · obtain ⟨a', ha'⟩ : ∃ a', A'[k]? = some a' := ⟨A'[k]'(by omega), List.getElem?_eq_getElem (by omega)⟩
      have := f.pre k a' ha'
      rw [h2] at this; cases this
      exact e.new k a h1 ha'
    · have n := f.new k a (by omega) h2
      cases q : H a with
      | none => rfl
      | some o => exact absurd n (e.dom a (by rw [q]; exact fun z => nomatch z))
  keep := fun a o h n => f.keep a o (e.keep a o h n) (e.notLive la (by rw [h]; exact fun z => nomatch z) n)
  dom := fun a h => f.dom a (e.dom a h)
theorem SRel.ext (e : Ext A st H A' st' H') (la : A.length = st.length) {s : S} {v : V} (h : SRel K cl A (Live A st) H s v) : SRel K cl A' (Live A' st') H' s v := by
  cases s with
  | val t => exact Rep.keeps (e.keeps la) t v h
  | ref k =>
    obtain ⟨a, h1, h2⟩ := h
    exact ⟨a, e.pre k a h1, h2⟩
theorem paired_mono {α β : Type} {F G : α → β → Prop} {l₁ : List α} {l₂ : List β} (h : Paired F l₁ l₂) (f : ∀ a b, F a b → G a b) : Paired G l₁ l₂ := Paired.mapP h f
theorem SRelL.ext (e : Ext A st H A' st' H') (la : A.length = st.length) {s : List S} {v : List V} (h : SRelL K cl A (Live A st) H s v) : SRelL K cl A' (Live A' st') H' s v :=
  Paired.mapP h fun _ _ r => r.ext e la
theorem EnvRel.ext {env : Env} {σ : L2.St} (e : Ext A st H A' st' H') (la : A.length = st.length) (h : EnvRel K cl A st env σ H) : EnvRel K cl A' st' env σ H' :=
  ⟨h.len, fun i s hs => let ⟨v, h1, h2⟩ := h.at_ i s hs; ⟨v, h1, h2.ext e la⟩⟩
/-- CRel under a change that keeps trees -/
theorem CRel.mono {L L' : Avoid} {a : Addr} {c : T} (h : CRel K cl L H a c) (ha : H' a = H a) (k : Keeps L L' H H') : CRel K cl L' H' a c := by
  cases c with
  | lst ss => obtain ⟨vs, h1, h2⟩ := h; exact ⟨vs, ha.trans h1, RepL.keeps k _ _ h2⟩
  | dK ss => obtain ⟨vs, h1, h2⟩ := h; exact ⟨vs, ha.trans h1, RepP.keeps k _ _ h2⟩
  | dT ss => obtain ⟨vs, h1, h2⟩ := h; exact ⟨vs, ha.trans h1, RepQ.keeps k _ _ h2⟩
  | ins c ss => obtain ⟨dx, vs, h1, h2⟩ := h; exact ⟨dx, vs, ha.trans h1, RepF.keeps k _ _ h2⟩
  | _ => exact h.elim
theorem CRel.some {a : Addr} {c : T} {L : Avoid} (h : CRel K cl L H a c) : H a ≠ none := by
  cases c with
  | lst ss => obtain ⟨vs, h1, h2⟩ := h; rw [h1]; exact fun z => nomatch z
  | dK ss => obtain ⟨vs, h1, h2⟩ := h; rw [h1]; exact fun z => nomatch z
  | dT ss => obtain ⟨vs, h1, h2⟩ := h; rw [h1]; exact fun z => nomatch z
  | ins c ss => obtain ⟨dx, vs, h1, h2⟩ := h; rw [h1]; exact fun z => nomatch z
  | _ => exact h.elim

/-! ### the three changes: a new cell, a cell written, a cell frozen -/
/-- a new object p; cell st.length stands for it -/
theorem Ext.push (R : StoreRel K cl A st H) {p : Addr} {o : HO} {c : Cel} (hp : H p = none) : Ext A st H (A ++ [p]) (st ++ [c]) (upd H p o) where
  pre := fun k a h => by rw [List.getElem?_append_left (get_lt h)]; exact h
  len := by simp
  frz := fun k t h => by rw [List.getElem?_append_left (get_lt h)]; exact h
  new := fun k a h1 h2 => by
    have hl := R.alen
    have : k = A.length := by have := get_lt h2; simp at this; omega
    subst this
    rw [List.getElem?_append_right (Nat.le_refl _)] at h2
    simp at h2
    subst h2; exact hp
  keep := fun a o' h _ => by rw [upd_ne (ne_of_none h hp)]; exact h
  dom := fun a h => by
    by_cases e : a = p
    · subst e; exact absurd hp h
    · rw [upd_ne e]; exact h
theorem StoreRel.push (R : StoreRel K cl A st H) {p : Addr} {o : HO} {c : T} (hp : H p = none)
    (hc : CRel K cl (Live (A ++ [p]) (st ++ [.live c])) (upd H p o) p c) : StoreRel K cl (A ++ [p]) (st ++ [.live c]) (upd H p o) := by
  have e : Ext A st H (A ++ [p]) (st ++ [.live c]) (upd H p o) := Ext.push R hp
  have cut : ∀ {k : Nat} {x : Cel}, (st ++ [Cel.live c])[k]? = some x → (k < st.length ∧ st[k]? = some x) ∨ (k = st.length ∧ x = .live c) := fun {k x} h => by
    by_cases hk : k < st.length
    · rw [List.getElem?_append_left hk] at h; exact .inl ⟨hk, h⟩
    · have := get_lt h
      simp at this
      have e : k = st.length := by omega
      subst e
      rw [List.getElem?_append_right (Nat.le_refl _)] at h
      simp at h
      exact .inr ⟨rfl, h.symm⟩
  have cutA : ∀ {k : Nat} {x : Addr}, k < st.length → (A ++ [p])[k]? = some x → A[k]? = some x := fun {k x} hk h => by
    rw [List.getElem?_append_left (by rw [R.alen]; exact hk)] at h; exact h
  have lastA : ∀ {x : Addr}, (A ++ [p])[st.length]? = some x → x = p := fun {x} h => by
    rw [← R.alen, List.getElem?_append_right (Nat.le_refl _)] at h
    simp at h; exact h.symm
  have nep : ∀ {k : Nat} {a : Addr} {c' : T}, st[k]? = some (.live c') → A[k]? = some a → a ≠ p := fun {k a c'} h1 h2 z => by
    have := (R.live k a c' h2 h1).some
    subst z; exact this hp
  refine ⟨by simp [R.alen], fun k k' a c1 c2 h1 h2 h3 h4 => ?_, fun k a c1 h1 h2 => ?_, fun k a t h1 h2 => ?_⟩
  · rcases cut h1 with ⟨l1, g1⟩ | ⟨l1, g1⟩ <;> rcases cut h2 with ⟨l2, g2⟩ | ⟨l2, g2⟩
    · exact R.inj k k' a c1 c2 g1 g2 (cutA l1 h3) (cutA l2 h4)
    · subst l2
      exact absurd (lastA h4) (nep g1 (cutA l1 h3))
    · subst l1
      exact absurd (lastA h3) (nep g2 (cutA l2 h4))
    · omega
  · rcases cut h2 with ⟨l1, g1⟩ | ⟨l1, g1⟩
    · have ha := cutA l1 h1
      have q := R.live k a c1 ha g1
      exact q.mono (upd_ne (nep g1 ha)) (e.keeps R.alen)
    · subst l1
      cases g1
      rw [lastA h1]; exact hc
  · rcases cut h2 with ⟨l1, g1⟩ | ⟨l1, g1⟩
    · exact Rep.keeps (e.keeps R.alen) t _ (R.frz k a t (cutA l1 h1) g1)
    · cases g1
/-- cell k written -/
theorem Ext.set (R : StoreRel K cl A st H) {k : Nat} {a : Addr} {o : HO} {c c' : T} (hk : st[k]? = some (.live c)) (ha : A[k]? = some a) : Ext A st H A (st.set k (.live c')) (upd H a o) where
  pre := fun k a h => h
  len := by simp
  frz := fun j t h => by
    by_cases e : k = j
    · subst e; rw [hk] at h; cases h
    · rw [List.getElem?_set_ne e]; exact h
  new := fun j b h1 h2 => absurd (get_lt h2) (by rw [R.alen]; omega)
  keep := fun b o' h n => by
    have : b ≠ a := fun e => n ⟨k, c, hk, by rw [e]; exact ha⟩
    rw [upd_ne this]; exact h
  dom := fun b h => by
    by_cases e : b = a
    · subst e; rw [upd_same]; exact fun z => nomatch z
    · rw [upd_ne e]; exact h
theorem StoreRel.set (R : StoreRel K cl A st H) {k : Nat} {a : Addr} {o : HO} {c c' : T} (hk : st[k]? = some (.live c)) (ha : A[k]? = some a)
    (hc : CRel K cl (Live A (st.set k (.live c'))) (upd H a o) a c') : StoreRel K cl A (st.set k (.live c')) (upd H a o) := by
  have e : Ext A st H A (st.set k (.live c')) (upd H a o) := Ext.set R hk ha
  have was : ∀ {j : Nat} {x : T}, (st.set k (.live c'))[j]? = some (.live x) → (k = j ∧ x = c') ∨ (k ≠ j ∧ st[j]? = some (.live x)) := fun {j x} h => by
    by_cases q : k = j
    · subst q
      rw [List.getElem?_set_self (get_lt hk)] at h
      cases h; exact .inl ⟨rfl, rfl⟩
    · rw [List.getElem?_set_ne q] at h; exact .inr ⟨q, h⟩
  have wasL : ∀ {j : Nat} {x : T}, (st.set k (.live c'))[j]? = some (.live x) → ∃ y, st[j]? = some (.live y) := fun {j x} h => by
    rcases was h with ⟨rfl, _⟩ | ⟨_, g⟩
    · exact ⟨_, hk⟩
    · exact ⟨_, g⟩
  refine ⟨by simp [R.alen], fun j j' b c1 c2 h1 h2 h3 h4 => ?_, fun j b c1 h1 h2 => ?_, fun j b t h1 h2 => ?_⟩
  · obtain ⟨y1, g1⟩ := wasL h1
    obtain ⟨y2, g2⟩ := wasL h2
    exact R.inj j j' b y1 y2 g1 g2 h3 h4
  · rcases was h2 with ⟨rfl, rfl⟩ | ⟨q, g⟩
    · rw [ha] at h1; cases h1; exact hc
    · have nb : b ≠ a := fun z => q (R.inj k j a c c1 hk g ha (by rw [← z]; exact h1))
      exact (R.live j b c1 h1 g).mono (upd_ne nb) (e.keeps R.alen)
  · by_cases q : k = j
    · subst q; rw [List.getElem?_set_self (get_lt hk)] at h2; cases h2
    · rw [List.getElem?_set_ne q] at h2
      exact Rep.keeps (e.keeps R.alen) t _ (R.frz j b t h1 h2)
/-- cell k frozen -/
theorem Ext.freeze (R : StoreRel K cl A st H) {k : Nat} {c : T} {t : T} (hk : st[k]? = some (.live c)) : Ext A st H A (st.set k (.frz t)) H where
  pre := fun k a h => h
  len := by simp
  frz := fun j t h => by
    by_cases e : k = j
    · subst e; rw [hk] at h; cases h
    · rw [List.getElem?_set_ne e]; exact h
  new := fun j b h1 h2 => absurd (get_lt h2) (by rw [R.alen]; omega)
  keep := fun b o' h n => h
  dom := fun b h => h
theorem StoreRel.freeze (R : StoreRel K cl A st H) {k : Nat} {a : Addr} {c : T} {t : T} (hk : st[k]? = some (.live c)) (ha : A[k]? = some a)
    (hc : Rep K cl (Live A (st.set k (.frz t))) H t (.ref a)) : StoreRel K cl A (st.set k (.frz t)) H := by
  have e : Ext A st H A (st.set k (.frz t)) H := Ext.freeze R hk
  have was : ∀ {j : Nat} {x : T}, (st.set k (.frz t))[j]? = some (.live x) → k ≠ j ∧ st[j]? = some (.live x) := fun {j x} h => by
    by_cases q : k = j
    · subst q
      rw [List.getElem?_set_self (get_lt hk)] at h
      cases h
    · rw [List.getElem?_set_ne q] at h; exact ⟨q, h⟩
  refine ⟨by simp [R.alen], fun j j' b c1 c2 h1 h2 h3 h4 => R.inj j j' b c1 c2 (was h1).2 (was h2).2 h3 h4, fun j b c1 h1 h2 => ?_, fun j b t' h1 h2 => ?_⟩
  · exact (R.live j b c1 h1 (was h2).2).mono rfl (e.keeps R.alen)
  · by_cases q : k = j
    · subst q
      rw [List.getElem?_set_self (get_lt hk)] at h2
      cases h2
      rw [ha] at h1; cases h1; exact hc
    · rw [List.getElem?_set_ne q] at h2
      exact Rep.keeps (e.keeps R.alen) t' _ (R.frz j b t' h1 h2)
end

/-! ### reading -/
/-- an S whose cell is frozen is the tree -/
def rdS (st : Sto) : S → S
  | .val t => .val t
  | .ref k => match st[k]? with
    | some (.frz t) => .val t
    | _ => .ref k
/-- what stands there, as a tree -/
def view (st : Sto) : S → Option T
  | .val t => some t
  | .ref k => match st[k]? with
    | some (.frz t) => some t
    | some (.live t) => some t
    | none => none
/-- .. never to be changed again -/
def freeze (st : Sto) : S → Option (T × Sto)
  | .val t => some (t, st)
  | .ref k => match st[k]? with
    | some (.frz t) => some (t, st)
    | some (.live t) => some (t, st.set k (.frz t))
    | none => none
/-- .. all of a list, from the left -/
def freezeL : Sto → List S → Option (List T × Sto)
  | st, [] => some ([], st)
  | st, s :: r => match freeze st s with
    | none => none
    | some (t, st1) => match freezeL st1 r with
      | none => none
      | some (ts, st2) => some (t :: ts, st2)
section
variable {K : PySem.W.Frag} {cl : Nat → Addr} {A A' A'' : List Addr} {st st' st'' : Sto} {H H' H'' : Hp}
theorem closeC_rel {L : Avoid} {a : Addr} {t : T} (h : CRel K cl L H a t) {L' : Avoid} (less : ∀ b, L' b → L b) (na : ¬ L' a) : Rep K cl L' H t (.ref a) := by
  have kp : Keeps L L' H H := Keeps.less less
  cases t with
  | lst ss =>
    obtain ⟨vs, h1, h2⟩ := h
    unfold Rep
    exact ⟨a, vs, rfl, .inl ⟨na, .inl h1⟩, RepL.keeps kp _ _ h2⟩
  | dK ss =>
    obtain ⟨vs, h1, h2⟩ := h
    unfold Rep
    exact ⟨a, vs, rfl, na, .inl h1, RepP.keeps kp _ _ h2⟩
  | dT ss =>
    obtain ⟨vs, h1, h2⟩ := h
    unfold Rep
    exact ⟨a, vs, rfl, na, .inl h1, RepQ.keeps kp _ _ h2⟩
  | ins c ss =>
    obtain ⟨dx, vs, h1, h2⟩ := h
    unfold Rep
    exact ⟨a, dx, vs, rfl, na, h1, RepF.keeps kp _ _ h2⟩
  | _ => exact h.elim
/-- reading needs no avoidance -/
theorem view_rel (R : StoreRel K cl A st H) {s : S} {v : V} {t : T} (h : SRel K cl A (Live A st) H s v) (e : view st s = some t) : Rep K cl (fun _ => False) H t v := by
  cases s with
  | val t' => cases e; exact Rep.keeps (Keeps.less fun _ z => z.elim) _ _ h
  | ref k =>
    obtain ⟨a, h1, rfl⟩ := h
    simp only [view] at e
    split at e
    · rename_i t' q
      cases e
      exact Rep.keeps (Keeps.less fun _ z => z.elim) _ _ (R.frz k a _ h1 q)
    · rename_i c q
      cases e
      exact closeC_rel (R.live k a _ h1 q) (fun _ z => z.elim) id
    · cases e
theorem freeze_rel (R : StoreRel K cl A st H) {s : S} {v : V} {t : T} (h : SRel K cl A (Live A st) H s v) (e : freeze st s = some (t, st')) :
    StoreRel K cl A st' H ∧ Rep K cl (Live A st') H t v ∧ Ext A st H A st' H := by
  cases s with
  | val t' => cases e; exact ⟨R, h, .refl R.alen⟩
  | ref k =>
    obtain ⟨a, h1, rfl⟩ := h
    simp only [freeze] at e
    split at e
    · rename_i t' q
      cases e
      exact ⟨R, R.frz k a _ h1 q, .refl R.alen⟩
    · rename_i c q
      cases e
      have na : ¬ Live A (st.set k (.frz t)) a := by
        rintro ⟨j, c', g1, g2⟩
        by_cases hj : k = j
        · subst hj; rw [List.getElem?_set_self (get_lt q)] at g1; cases g1
        · rw [List.getElem?_set_ne hj] at g1
          exact hj (R.inj k j a _ c' q g1 h1 g2)
      have less : ∀ b, Live A (st.set k (.frz t)) b → Live A st b := by
        rintro b ⟨j, c', g1, g2⟩
        by_cases hj : k = j
        · subst hj; rw [List.getElem?_set_self (get_lt q)] at g1; cases g1
        · rw [List.getElem?_set_ne hj] at g1
          exact ⟨j, c', g1, g2⟩
      have hr := closeC_rel (R.live k a _ h1 q) less na
      exact ⟨R.freeze q h1 hr, hr, .freeze R q⟩
    · cases e
theorem freezeL_rel : ∀ {ss : List S} {st st' : Sto} {vs : List V} {ts : List T}, StoreRel K cl A st H → SRelL K cl A (Live A st) H ss vs → freezeL st ss = some (ts, st') →
    StoreRel K cl A st' H ∧ RepL K cl (Live A st') H ts vs ∧ Ext A st H A st' H
  | [], st, st', vs, ts, R, r, e => by
    unfold freezeL at e; cases e; cases r
    exact ⟨R, by unfold RepL; rfl, .refl R.alen⟩
  | s :: ss, st, st', vs, ts, R, r, e => by
    cases r with
    | cons r1 r2 =>
      unfold freezeL at e
      split at e
      · cases e
      · rename_i t st1 q
        split at e
        · cases e
        · rename_i ts' st2 q2
          cases e
          obtain ⟨R1, h1, x1⟩ := freeze_rel R r1 q
          obtain ⟨R2, h2, x2⟩ := freezeL_rel R1 (SRelL.ext x1 R.alen r2) q2
          refine ⟨R2, ?_, x1.trans R.alen R1.alen x2⟩
          unfold RepL
          exact ⟨_, _, rfl, Rep.keeps (x2.keeps R1.alen) _ _ h1, h2⟩
theorem repL_vals {L : Avoid} : ∀ {ts : List T} {vs : List V}, RepL K cl L H ts vs → SRelL K cl A L H (ts.map .val) vs
  | [], vs, h => by unfold RepL at h; subst h; exact .nil
  | t :: ts, vs, h => by
    unfold RepL at h
    obtain ⟨v, r, rfl, h1, h2⟩ := h
    exact .cons h1 (repL_vals h2)
theorem repL_at {L : Avoid} : ∀ {ts : List T} {vs : List V} {i : Nat} {t : T}, RepL K cl L H ts vs → ts[i]? = some t → ∃ v, vs[i]? = some v ∧ Rep K cl L H t v
  | [], vs, i, t, h, e => by simp at e
  | t :: ts, vs, i, t', h, e => by
    unfold RepL at h
    obtain ⟨v, r, rfl, h1, h2⟩ := h
    cases i with
    | zero => simp at e; subst e; exact ⟨v, rfl, h1⟩
    | succ i =>
      obtain ⟨v', g1, g2⟩ := repL_at h2 (by simpa using e)
      exact ⟨v', by simpa using g1, g2⟩
theorem repL_len {L : Avoid} : ∀ {ts : List T} {vs : List V}, RepL K cl L H ts vs → vs.length = ts.length
  | [], vs, h => by unfold RepL at h; subst h; rfl
  | t :: ts, vs, h => by
    unfold RepL at h
    obtain ⟨v, r, rfl, h1, h2⟩ := h
    simp [repL_len h2]
/-- a list (a tree or a cell) that is read -/
theorem list_rel (R : StoreRel K cl A st H) {s : S} {v : V} {ts : List T} (h : SRel K cl A (Live A st) H s v) (e : view st s = some (.lst ts)) :
    ∃ a vs, v = .ref a ∧ SqL K H a vs ∧ RepL K cl (Live A st) H ts vs := by
  have fromTree : ∀ {L : Avoid} {v : V}, Rep K cl L H (.lst ts) v → ∃ a vs, v = .ref a ∧ SqL K H a vs ∧ RepL K cl L H ts vs := fun {L v} h => by
    unfold Rep at h
    obtain ⟨a, vs, rfl, q, r⟩ := h
    exact ⟨a, vs, rfl, q.sq, r⟩
  cases s with
  | val t => cases e; exact fromTree h
  | ref k =>
    obtain ⟨a, h1, rfl⟩ := h
    simp only [view] at e
    split at e
    · rename_i t' q
      cases e
      exact fromTree (R.frz k a _ h1 q)
    · rename_i t' q
      cases e
      obtain ⟨vs, g1, g2⟩ := R.live k a _ h1 q
      exact ⟨a, vs, rfl, .of g1, g2⟩
    · cases e
theorem tup_rel (R : StoreRel K cl A st H) {s : S} {v : V} {ts : List T} (h : SRel K cl A (Live A st) H s v) (e : view st s = some (.tup ts)) :
    ∃ a vs, v = .ref a ∧ SqT K H a vs ∧ RepL K cl (Live A st) H ts vs := by
  have fromTree : ∀ {L : Avoid} {v : V}, Rep K cl L H (.tup ts) v → ∃ a vs, v = .ref a ∧ SqT K H a vs ∧ RepL K cl L H ts vs := fun {L v} h => by
    unfold Rep at h
    obtain ⟨a, vs, rfl, q, r⟩ := h
    exact ⟨a, vs, rfl, q.sq, r⟩
  cases s with
  | val t => cases e; exact fromTree h
  | ref k =>
    obtain ⟨a, h1, rfl⟩ := h
    simp only [view] at e
    split at e
    · rename_i t' q
      cases e
      exact fromTree (R.frz k a _ h1 q)
    · rename_i t' q
      cases e
      exact (R.live k a _ h1 q).elim
    · cases e
/-- a tuple is a tree, whoever holds it -/
theorem tup_tree (R : StoreRel K cl A st H) {s : S} {v : V} {ts : List T} (h : SRel K cl A (Live A st) H s v) (e : view st s = some (.tup ts)) : Rep K cl (Live A st) H (.tup ts) v := by
  cases s with
  | val t => cases e; exact h
  | ref k =>
    obtain ⟨a, h1, rfl⟩ := h
    simp only [view] at e
    split at e
    · rename_i t' q
      cases e
      exact R.frz k a _ h1 q
    · rename_i t' q
      cases e
      exact (R.live k a _ h1 q).elim
    · cases e
end
end Dy

set_option Elab.async false
set_option linter.all false
set_option maxRecDepth 100000
set_option maxHeartbeats 1000000
set_option autoImplicit false
/-! Dy, part E: the core language and its evaluator. -/
namespace Dy
open PySem L2

inductive Op where
  | add | sub | mul | fdiv | mod | pow | shl | shr | band | bor | bxor
  deriving DecidableEq
inductive Cp where
  | lt | le | gt | ge | eq | ne
  deriving DecidableEq
inductive Kd where
  | list | tuple | int | bool | str
  deriving DecidableEq
inductive Bi where
  | len | abs | int | list | tuple | sum | comb | gcd
  deriving DecidableEq
inductive Bm where
  | append | pop | reverse
  deriving DecidableEq
/-- targets -/
inductive G where
  | nm (i : Nat) | tup (gs : List G)
mutual
/-- expressions, names as slots -/
inductive E where
  | var (i : Nat) | int (i : Int) | bl (b : Bool) | non | str (x : Str)
  | bin (op : Op) (a b : E) | neg (a : E) | cmp (op : Cp) (a b : E) | chain (o1 o2 : Cp) (a b c : E)
  | isNon (a : E) | notNon (a : E) | isTru (a : E)
  | and_ (a b : E) | or_ (a b : E) | not_ (a : E) | andv (a b : E) | orv (a b : E) | notv (a : E) | ife (t a b : E)
  | lst (es : List E) | tup (es : List E) | idx (o i : E) | slc (o : E) (lo hi : List E)
  | call (f : Nat) (es : List E) | bi (b : Bi) (es : List E) | bm (m : Bm) (o : E) (es : List E)
  | isi (a : E) (ks : List Kd)
  | comp (el : E) (tg : G) (it : It) (cond : List E) (own : List Nat)
/-- what is walked -/
inductive It where
  | rng1 (a : E) | rng2 (a b : E) | any (e : E)
end
inductive Stm where
  | set (i : Nat) (e : E) | asg (g : G) (e : E) | par (i j : Nat) (a b : E) | aug (i : Nat) (ng : Bool) (e : E) | sub (o i v : E)
  | expr (e : E) | ret (e : E) | pass | brk | cont
  | if_ (t : E) (a b : List Stm) | for_ (g : G) (it : It) (body : List Stm) | while_ (t : E) (body : List Stm)
  | raise_ (c : Nat) | try_ (body : List Stm) (hs : List (Nat × E))

structure Ex where
  c : Nat
  fs : List (Str × T)
inductive R (α : Type) where
  | ok (a : α) (st : Sto) | ex (e : Ex) (st : Sto) | bad
def R.bind {α β : Type} (x : R α) (f : α → Sto → R β) : R β := match x with
  | .ok a st => f a st
  | .ex e st => .ex e st
  | .bad => .bad

abbrev lim : Nat := 16777216

/-! ### operators -/
def intOp : Op → Int → Int → Option Int
  | .add, i, j => some (i + j)
  | .sub, i, j => some (i - j)
  | .mul, i, j => if (-(2 ^ 64) < i ∧ i < 2 ^ 64) ∨ (-(2 ^ 64) < j ∧ j < 2 ^ 64) ∨ i.natAbs.log2 + j.natAbs.log2 < 1000000 then some (i * j) else none
  | .fdiv, i, j => if 0 < j ∧ j.natAbs.log2 < 9000 then some (i / j) else none
  | .mod, i, j => if 0 < j then some (i % j) else none
  | .pow, i, j => if 0 ≤ j ∧ j ≤ 1000000 ∧ i.natAbs < 2 ^ 64 then some (i ^ j.toNat) else none
  | .shl, i, j => if 0 ≤ j ∧ j ≤ 1000000 ∧ i.natAbs < 2 ^ 64 then some (i * 2 ^ j.toNat) else none
  | .shr, i, j => if 0 ≤ j then some (i / 2 ^ j.toNat) else none
  | .band, i, j => some (Builtin.bitAnd i j)
  | .bor, i, j => some (Builtin.bitOr i j)
  | .bxor, i, j => some (Builtin.bitXor i j)
def newC (st : Sto) (t : T) : R S := .ok (.ref st.length) (st ++ [.live t])
/-- a live list's items -/
def liveL (st : Sto) : S → Option (List T)
  | .ref k => match st[k]? with
    | some (.live (.lst ts)) => some ts
    | _ => none
  | _ => none
/-- a live list written -/
def putL (st : Sto) (k : Nat) (ts : List T) : Sto := st.set k (.live (.lst ts))
def opD (op : Op) (x y : S) (st : Sto) : R S :=
  match x, y with
  | .val (.int i), .val (.int j) => match intOp op i j with
    | some k => .ok (.val (.int k)) st
    | none => .bad
  | .ref k, .ref j => match op, liveL st (.ref k), liveL st (.ref j) with
    | .add, some a, some b => if a.length + b.length ≤ lim then newC st (.lst (a ++ b)) else .bad
    | _, _, _ => .bad
  | .ref k, .val (.int n) => match op, liveL st (.ref k) with
    | .mul, some a => if -(2 ^ 63) ≤ n ∧ n < 2 ^ 63 ∧ a.length * n.toNat ≤ lim then newC st (.lst (List.replicate n.toNat a).flatten) else .bad
    | _, _ => .bad
  | .val (.str a), .val (.str b) => match op with
    | .add => if a.length + b.length ≤ lim then .ok (.val (.str (a ++ b))) st else .bad
    | _ => .bad
  | _, _ => .bad
mutual
def toPy : T → Option PyData
  | .non => some .none
  | .bl b => some (.bool b)
  | .int i => some (.int i)
  | .str x => some (.str x)
  | .lst ts => (toPyL ts).map .list
  | .tup ts => (toPyL ts).map .tuple
  | .dK _ => none
  | .dT _ => none
  | .ins _ _ => none
def toPyL : List T → Option (List PyData)
  | [] => some []
  | t :: ts => match toPy t, toPyL ts with
    | some d, some ds => some (d :: ds)
    | _, _ => none
end
/-- == of data -/
def eqT (x y : T) : Option Bool :=
  match x, y with
  | .int i, .int j => some (i == j)
  | .bl i, .bl j => some (i == j)
  | .str i, .str j => some (i == j)
  | x, y => match toPy x, toPy y with
    | some d, some e => if SeqAt.shaped d = true ∧ SeqAt.shaped e = true then some (PyData.eqv d e) else none
    | _, _ => none
def cmpD (op : Cp) (x y : S) (st : Sto) : R S :=
  match op with
  | .lt => match x, y with
    | .val (.int i), .val (.int j) => .ok (.val (.bl (decide (i < j)))) st
    | _, _ => .bad
  | .le => match x, y with
    | .val (.int i), .val (.int j) => .ok (.val (.bl (decide (i ≤ j)))) st
    | _, _ => .bad
  | .gt => match x, y with
    | .val (.int i), .val (.int j) => .ok (.val (.bl (decide (j < i)))) st
    | _, _ => .bad
  | .ge => match x, y with
    | .val (.int i), .val (.int j) => .ok (.val (.bl (decide (j ≤ i)))) st
    | _, _ => .bad
  | .eq => match view st x, view st y with
    | some a, some b => match eqT a b with
      | some c => .ok (.val (.bl c)) st
      | none => .bad
    | _, _ => .bad
  | .ne => match view st x, view st y with
    | some a, some b => match eqT a b with
      | some c => .ok (.val (.bl !c)) st
      | none => .bad
    | _, _ => .bad
/-- truth -/
def truT : T → Option Bool
  | .non => some false
  | .bl b => some b
  | .int i => some (i != 0)
  | .str x => if x.length ≤ lim then some ((x.length : Int) != 0) else none
  | .lst ts => some (!ts.isEmpty)
  | .tup ts => some (!ts.isEmpty)
  | _ => none
def truD (x : S) (st : Sto) : R Bool := match view st x with
  | some t => match truT t with
    | some b => .ok b st
    | none => .bad
  | none => .bad
def blD (x : S) (st : Sto) : R Bool := match x with
  | .val (.bl b) => .ok b st
  | _ => .bad
def nonB : S → Bool
  | .val .non => true
  | _ => false
def kdOf : T → Option (List Kd)
  | .non => some []
  | .bl _ => some [.bool, .int]
  | .int _ => some [.int]
  | .str _ => some [.str]
  | .lst _ => some [.list]
  | .tup _ => some [.tuple]
  | _ => none
def isiD (ks : List Kd) (x : S) (st : Sto) : R S := match view st x with
  | some t => match kdOf t with
    | some own => .ok (.val (.bl (ks.any fun k => own.contains k))) st
    | none => .bad
  | none => .bad
def ixT (ts : List T) (i : Int) (st : Sto) : R S := match atI ts i with
  | some t => .ok (.val t) st
  | none => .bad
def idxD (x y : S) (st : Sto) : R S := match view st x, y with
  | some (.lst ts), .val (.int i) => ixT ts i st
  | some (.tup ts), .val (.int i) => ixT ts i st
  | _, _ => .bad
/-- a slice's bound -/
def bndD (x : S) (st : Sto) : R (Option Int) := match x with
  | .val (.int i) => .ok (some i) st
  | _ => .bad
def cutT (xs : List T) (lo hi : Option Int) : List T := (xs.drop (HT.sIx xs.length 0 lo)).take (HT.sIx xs.length xs.length hi - HT.sIx xs.length 0 lo)
def slcD (x : S) (lo hi : Option Int) (st : Sto) : R S := match view st x with
  | some (.lst ts) => newC st (.lst (cutT ts lo hi))
  | some (.tup ts) => if HT.sIx ts.length 0 lo = 0 ∧ HT.sIx ts.length ts.length hi = ts.length then .bad else .ok (.val (.tup (cutT ts lo hi))) st
  | _ => .bad
def intsT : List T → Option (List Int)
  | [] => some []
  | .int i :: r => (intsT r).map (i :: ·)
  | _ :: _ => none
def biD (b : Bi) (xs : List S) (st : Sto) : R S :=
  match b, xs with
  | .len, [x] => match view st x with
    | some (.lst ts) => .ok (.val (.int ts.length)) st
    | some (.tup ts) => .ok (.val (.int ts.length)) st
    | some (.str z) => if z.length ≤ lim then .ok (.val (.int z.length)) st else .bad
    | _ => .bad
  | .abs, [.val (.int i)] => .ok (.val (.int (if i < 0 then -i else i))) st
  | .int, [.val (.int i)] => .ok (.val (.int i)) st
  | .int, [.val (.bl b)] => .ok (.val (.int (PyProof.Rows.b2i b))) st
  | .list, [x] => match view st x with
    | some (.lst ts) => newC st (.lst ts)
    | some (.tup ts) => newC st (.lst ts)
    | _ => .bad
  | .tuple, [x] => match view st x with
    | some (.lst ts) => .ok (.val (.tup ts)) st
    | some (.tup ts) => .ok (.val (.tup ts)) st
    | _ => .bad
  | .sum, [x] => match view st x with
    | some (.lst ts) => match intsT ts with
      | some ns => .ok (.val (.int ns.sum)) st
      | none => .bad
    | _ => .bad
  | .comb, [.val (.int n), .val (.int k)] => if 0 ≤ n ∧ 0 ≤ k ∧ n < 2 ^ 64 ∧ (k ≤ 9000 ∨ n ≤ 18000) then .ok (.val (.int (PySem.W.mcComb n k))) st else .bad
  | .gcd, [.val (.int n), .val (.int k)] => .ok (.val (.int ((Nat.gcd n.natAbs k.natAbs : Nat) : Int))) st
  | _, _ => .bad
def bmD (m : Bm) (o : S) (xs : List S) (st : Sto) : R S :=
  match m, o, xs with
  | .append, .ref k, [x] => match freeze st x with
    | some (t, st1) => match liveL st1 (.ref k) with
      | some ts => if ts.length < lim then .ok (.val .non) (putL st1 k (ts ++ [t])) else .bad
      | none => .bad
    | none => .bad
  | .pop, .ref k, [] => match liveL st (.ref k) with
    | some ts => match ts[ts.length - 1]? with
      | some t => .ok (.val t) (putL st k ts.dropLast)
      | none => .bad
    | none => .bad
  | .reverse, .ref k, [] => match liveL st (.ref k) with
    | some ts => .ok (.val .non) (putL st k ts.reverse)
    | none => .bad
  | _, _, _ => .bad
def subD (o i v : S) (st : Sto) : Option Sto := match o, i with
  | .ref k, .val (.int j) => match freeze st v with
    | some (t, st1) => match liveL st1 (.ref k) with
      | some ts => match ixN ts.length j with
        | some n => some (putL st1 k (ts.set n t))
        | none => none
      | none => none
    | none => none
  | _, _ => none

/-! ### targets, sources -/
mutual
def asgG : G → S → Sto → Env → Option Env
  | .nm i, s, _, env => some (env.set i (some s))
  | .tup gs, s, st, env => match view st s with
    | some (.tup ts) => if ts.length = gs.length then asgGs gs ts st env else none
    | some (.lst ts) => if ts.length = gs.length then asgGs gs ts st env else none
    | _ => none
def asgGs : List G → List T → Sto → Env → Option Env
  | g :: gs, t :: ts, st, env => match asgG g (.val t) st env with
    | some env1 => asgGs gs ts st env1
    | none => none
  | [], [], _, env => some env
  | _, _, _, _ => none
end
inductive Src where
  | rng (lo : Int) (n : Nat) | lst (s : S) | tup (s : S)
/-- the i-th item: none: bad; some none: the end -/
def Src.get (st : Sto) (i : Nat) : Src → Option (Option S)
  | .rng lo n => some (if i < n then some (.val (.int (lo + i))) else none)
  | .lst s => match view st s with
    | some (.lst ts) => some (ts[i]?.map .val)
    | _ => none
  | .tup s => match view st s with
    | some (.tup ts) => some (ts[i]?.map .val)
    | _ => none
/-- enough turns -/
def Src.fuel (st : Sto) : Src → Nat
  | .rng _ n => n + 1
  | .lst s => match view st s with
    | some (.lst ts) => ts.length + 1
    | _ => 0
  | .tup s => match view st s with
    | some (.tup ts) => ts.length + 1
    | _ => 0
def rngD (lo hi : Int) (st : Sto) : R Src :=
  if -(2 ^ 62) ≤ lo ∧ lo < 2 ^ 62 ∧ -(2 ^ 62) ≤ hi ∧ hi < 2 ^ 62 then .ok (.rng lo (hi - lo).toNat) st else .bad
def srcD (x : S) (st : Sto) : R Src := match view st x with
  | some (.lst _) => .ok (.lst x) st
  | some (.tup _) => .ok (.tup x) st
  | _ => .bad
def wipeE (env : Env) : List Nat → Env
  | [] => env
  | v :: vs => (wipeE env vs).set v none

/-! ### expressions -/
/-- the block of a comprehension whose list is cell k -/
def compN (tg : G) (cond : Env → Sto → R Bool) (el : Env → Sto → R S) (src : Src) (env0 : Env) (k : Nat) : Nat → Nat → Sto → R S
  | 0, _, _ => .bad
  | n + 1, i, st => match src.get st i with
    | none => .bad
    | some none => .ok (.ref k) st
    | some (some x) => match asgG tg x st env0 with
      | none => .bad
      | some env1 => match cond env1 st with
        | .ok false st1 => compN tg cond el src env0 k n (i + 1) st1
        | .ok true st1 => match el env1 st1 with
          | .ok s st2 => match freeze st2 s with
            | some (t, st3) => match liveL st3 (.ref k) with
              | some acc => if acc.length < lim then compN tg cond el src env0 k n (i + 1) (putL st3 k (acc ++ [t])) else .bad
              | none => .bad
            | none => .bad
          | _ => .bad
        | _ => .bad
abbrev CB := Nat → List S → Sto → R S
mutual
def evE (cb : CB) : E → Env → Sto → R S
  | .var i, env, st => match env[i]? with
    | some (some s) => .ok (rdS st s) st
    | _ => .bad
  | .int i, _, st => .ok (.val (.int i)) st
  | .bl b, _, st => .ok (.val (.bl b)) st
  | .non, _, st => .ok (.val .non) st
  | .str x, _, st => .ok (.val (.str x)) st
  | .bin op a b, env, st => (evE cb a env st).bind fun x st1 => (evE cb b env st1).bind fun y st2 => opD op (rdS st2 x) y st2
  | .neg a, env, st => (evE cb a env st).bind fun x st1 => match x with
    | .val (.int i) => .ok (.val (.int (-i))) st1
    | _ => .bad
  | .cmp op a b, env, st => (evE cb a env st).bind fun x st1 => (evE cb b env st1).bind fun y st2 => cmpD op x y st2
  | .chain o1 o2 a b c, env, st => (evE cb a env st).bind fun x st1 => (evE cb b env st1).bind fun y st2 => (cmpD o1 x y st2).bind fun r st3 => match r with
    | .val (.bl true) => (evE cb c env st3).bind fun z st4 => cmpD o2 y z st4
    | .val (.bl false) => .ok (.val (.bl false)) st3
    | _ => .bad
  | .isNon a, env, st => (evE cb a env st).bind fun x st1 => .ok (.val (.bl (nonB x))) st1
  | .notNon a, env, st => (evE cb a env st).bind fun x st1 => .ok (.val (.bl !nonB x)) st1
  | .isTru a, env, st => (evE cb a env st).bind fun x st1 => (blD x st1).bind fun b st2 => .ok (.val (.bl b)) st2
  | .and_ a b, env, st => (evE cb a env st).bind fun x st1 => (truD x st1).bind fun k st2 => if k then evE cb b env st2 else .ok (.val (.bl false)) st2
  | .or_ a b, env, st => (evE cb a env st).bind fun x st1 => (truD x st1).bind fun k st2 => if k then .ok (.val (.bl true)) st2 else evE cb b env st2
  | .not_ a, env, st => (evE cb a env st).bind fun x st1 => (truD x st1).bind fun k st2 => .ok (.val (.bl !k)) st2
  | .andv a b, env, st => (evE cb a env st).bind fun x st1 => (blD x st1).bind fun k st2 => if k then evE cb b env st2 else .ok (.val (.bl false)) st2
  | .orv a b, env, st => (evE cb a env st).bind fun x st1 => (blD x st1).bind fun k st2 => if k then .ok (.val (.bl true)) st2 else evE cb b env st2
  | .notv a, env, st => (evE cb a env st).bind fun x st1 => (blD x st1).bind fun k st2 => .ok (.val (.bl !k)) st2
  | .ife t a b, env, st => ((evE cb t env st).bind truD).bind fun k st2 => if k then evE cb a env st2 else evE cb b env st2
  | .lst es, env, st => (evEs cb es env st).bind fun ss st1 => match freezeL st1 ss with
    | some (ts, st2) => if ts.length ≤ lim then newC st2 (.lst ts) else .bad
    | none => .bad
  | .tup es, env, st => (evEs cb es env st).bind fun ss st1 => match freezeL st1 ss with
    | some (ts, st2) => if ts.length ≤ lim then .ok (.val (.tup ts)) st2 else .bad
    | none => .bad
  | .idx o i, env, st => (evE cb o env st).bind fun x st1 => (evE cb i env st1).bind fun y st2 => idxD x y st2
  | .slc o lo hi, env, st => (evE cb o env st).bind fun x st1 => (evO cb lo env st1).bind fun l st2 => (evO cb hi env st2).bind fun h st3 => slcD x l h st3
  | .call f es, env, st => (evEs cb es env st).bind fun ss st1 => cb f ss st1
  | .bi b es, env, st => (evEs cb es env st).bind fun ss st1 => biD b ss st1
  | .bm m o es, env, st => (evE cb o env st).bind fun x st1 => if (liveL st1 x).isSome then (evEs cb es env st1).bind fun ss st2 => bmD m x ss st2 else .bad
  | .isi a ks, env, st => (evE cb a env st).bind fun x st1 => isiD ks x st1
  | .comp el tg it cond own, env, st => (evI cb it env st).bind fun src st1 =>
    compN tg (evC cb cond) (evE cb el) src (wipeE env own) st1.length (src.fuel st1) 0 (st1 ++ [.live (.lst [])])
def evEs (cb : CB) : List E → Env → Sto → R (List S)
  | [], _, st => .ok [] st
  | e :: es, env, st => (evE cb e env st).bind fun x st1 => (evEs cb es env st1).bind fun xs st2 => .ok (x :: xs) st2
/-- what a loop walks -/
def evI (cb : CB) : It → Env → Sto → R Src
  | .rng1 a, env, st => (evE cb a env st).bind fun x st1 => match x with
    | .val (.int j) => rngD 0 j st1
    | _ => .bad
  | .rng2 a b, env, st => (evE cb a env st).bind fun x st1 => (evE cb b env st1).bind fun y st2 => match x, y with
    | .val (.int i), .val (.int j) => rngD i j st2
    | _, _ => .bad
  | .any e, env, st => (evE cb e env st).bind srcD
/-- a slice's part -/
def evO (cb : CB) : List E → Env → Sto → R (Option Int)
  | [], _, st => .ok none st
  | e :: _, env, st => (evE cb e env st).bind bndD
/-- a clause's tests -/
def evC (cb : CB) : List E → Env → Sto → R Bool
  | [], _, st => .ok true st
  | e :: _, env, st => (evE cb e env st).bind fun x st1 => truD x st1
end

/-! ### statements -/
inductive Fl where
  | nx (env : Env) (st : Sto) | rt (s : S) (st : Sto) | bk (env : Env) (st : Sto) | ct (env : Env) (st : Sto) | ex (e : Ex) (env : Env) (st : Sto) | bad
def R.fl {α : Type} (env : Env) (x : R α) (f : α → Sto → Fl) : Fl := match x with
  | .ok a st => f a st
  | .ex e st => .ex e env st
  | .bad => .bad
def forN (tg : G) (body : Env → Sto → Fl) (src : Src) : Nat → Nat → Env → Sto → Fl
  | 0, _, _, _ => .bad
  | n + 1, i, env, st => match src.get st i with
    | none => .bad
    | some none => .nx env st
    | some (some x) => match asgG tg x st env with
      | none => .bad
      | some env1 => match body env1 st with
        | .nx env2 st2 => forN tg body src n (i + 1) env2 st2
        | .ct env2 st2 => forN tg body src n (i + 1) env2 st2
        | .bk env2 st2 => .nx env2 st2
        | .rt s st2 => .rt s st2
        | .ex e env2 st2 => .ex e env2 st2
        | .bad => .bad
def whN (test : Env → Sto → R Bool) (body : Env → Sto → Fl) : Nat → Env → Sto → Fl
  | 0, _, _ => .bad
  | n + 1, env, st => (test env st).fl env fun k st1 => if k then match body env st1 with
        | .nx env2 st2 => whN test body n env2 st2
        | .ct env2 st2 => whN test body n env2 st2
        | .bk env2 st2 => .nx env2 st2
        | .rt s st2 => .rt s st2
        | .ex e env2 st2 => .ex e env2 st2
        | .bad => .bad
      else .nx env st1
structure Prog where
  /-- turns that a while may take -/
  wh : Nat
  /-- exception classes -/
  nc : Nat
  /-- is class i caught by class j -/
  sub : Nat → Nat → Bool
def hand (P : Prog) (e : Ex) (env : Env) (st : Sto) : List (Nat × E) → Fl
  | [] => .ex e env st
  | (c, b) :: r => if P.nc ≤ e.c then .bad else if P.sub e.c c then (match b with
      | .bl k => .rt (.val (.bl k)) st
      | _ => .bad) else hand P e env st r
mutual
def evS (cb : CB) (P : Prog) : Stm → Env → Sto → Fl
  | .set i e, env, st => (evE cb e env st).fl env fun x st1 => .nx (env.set i (some x)) st1
  | .asg g e, env, st => (evE cb e env st).fl env fun x st1 => match asgG g x st1 env with
    | some env1 => .nx env1 st1
    | none => .bad
  | .par i j a b, env, st => (evE cb a env st).fl env fun x st1 => (evE cb b env st1).fl env fun y st2 => .nx ((env.set i (some x)).set j (some y)) st2
  | .aug i ng e, env, st => match env[i]? with
    | some (some s) => (evE cb e env st).fl env fun y st1 => match rdS st1 s, y with
      | .val (.int a), .val (.int b) => .nx (env.set i (some (.val (.int (if ng then a - b else a + b))))) st1
      | _, _ => .bad
    | _ => .bad
  | .sub o i v, env, st => (evE cb v env st).fl env fun z st1 => (evE cb o env st1).fl env fun x st2 => (evE cb i env st2).fl env fun y st3 => match subD x y z st3 with
    | some st4 => .nx env st4
    | none => .bad
  | .expr e, env, st => (evE cb e env st).fl env fun _ st1 => .nx env st1
  | .ret e, env, st => (evE cb e env st).fl env fun x st1 => .rt x st1
  | .pass, env, st => .nx env st
  | .brk, env, st => .bk env st
  | .cont, env, st => .ct env st
  | .if_ t a b, env, st => ((evE cb t env st).bind truD).fl env fun k st1 => if k then evSs cb P a env st1 else evSs cb P b env st1
  | .for_ g it body, env, st => (evI cb it env st).fl env fun src st1 => forN g (evSs cb P body) src (src.fuel st1) 0 env st1
  | .while_ t body, env, st => whN (fun env st => (evE cb t env st).bind truD) (evSs cb P body) P.wh env st
  | .raise_ c, env, st => .ex ⟨c, []⟩ env st
  | .try_ body hs, env, st => match evSs cb P body env st with
    | .ex e env1 st1 => hand P e env1 st1 hs
    | r => r
def evSs (cb : CB) (P : Prog) : List Stm → Env → Sto → Fl
  | [], env, st => .nx env st
  | s :: r, env, st => match evS cb P s env st with
    | .nx env1 st1 => evSs cb P r env1 st1
    | r => r
end

/-! ### defs -/
structure Def where
  np : Nat
  ns : Nat
  body : List Stm
/-- what a call leaves: the callers' cells, and the new list if one is handed back -/
def back (n : Nat) (s : S) (st : Sto) : R S := match s with
  | .val t => .ok (.val t) (st.take n)
  | .ref k => if k < n then .ok (.ref k) (st.take n) else match st[k]? with
    | some (.live t) => .ok (.ref n) (st.take n ++ [.live t])
    | some (.frz t) => .ok (.val t) (st.take n)
    | none => .bad
def runD (cb : CB) (P : Prog) (d : Def) (xs : List S) (st : Sto) : R S :=
  if xs.length = d.np then match evSs cb P d.body (xs.map some ++ List.replicate (d.ns - xs.length) none) st with
    | .rt s st1 => back st.length s st1
    | .nx _ st1 => .ok (.val .non) (st1.take st.length)
    | .ex e _ st1 => .ex e (st1.take st.length)
    | _ => .bad
  else .bad
def callD (P : Prog) (ds : Nat → Option Def) : Nat → CB
  | 0 => fun _ _ _ => .bad
  | n + 1 => fun f xs st => match ds f with
    | some d => runD (callD P ds n) P d xs st
    | none => .bad
end Dy

set_option Elab.async false
set_option linter.all false
set_option maxRecDepth 100000
set_option maxHeartbeats 1000000
set_option autoImplicit false
/-! Dy, part S: each construct's rule over the evaluator. -/
namespace Dy
open PySem PySem.Spec L2 PyProof.Rows

/-- an exception as the evaluator has it -/
def ExRel (K : PySem.W.Frag) (cl : Nat → Addr) (A : List Addr) (st : Sto) (H : Hp) (e : Ex) (cls : Value) (d : Option Addr) : Prop := cls = .ref (cl e.c) ∧ e.fs = []
section
variable (K : PySem.W.Frag) (cl : Nat → Addr)
def PG {α β : Type} (rel : List Addr → Sto → Hp → α → β → Prop) (A : List Addr) (st : Sto) (H : Hp) (r : R α) (Q : β → Hp → Prop) (X : XK) : Prop :=
  match r with
  | .ok a st' => ∀ A' H' b, Ext A st H A' st' H' → StoreRel K cl A' st' H' → rel A' st' H' a b → Q b H'
  | .ex e st' => ∀ A' H' cls d, Ext A st H A' st' H' → StoreRel K cl A' st' H' → ExRel K cl A' st' H' e cls d → X cls d H'
  | .bad => False
def sR : List Addr → Sto → Hp → S → V → Prop := fun A st H s v => SRel K cl A (Live A st) H s v
def bR : List Addr → Sto → Hp → Bool → Bool → Prop := fun _ _ _ b c => c = b
def lR : List Addr → Sto → Hp → List S → List V → Prop := fun A st H s v => SRelL K cl A (Live A st) H s v
def tG {α β : Type} (rel : List Addr → Sto → Hp → α → β → Prop) (W : WX) (f : Env → Sto → R α) : L2.St → Hp → (β → Hp → Prop) → Prop := fun σ H Q =>
  ∃ A st env, StoreRel K cl A st H ∧ EnvRel K cl A st env σ H ∧ PG K cl rel A st H (f env st) Q (fun c d H' => W c d σ H')
abbrev tE (W : WX) (f : Env → Sto → R S) : TE := tG K cl (sR K cl) W f
abbrev tT (W : WX) (f : Env → Sto → R Bool) : TT := tG K cl bR W f
abbrev tA (W : WX) (f : Env → Sto → R (List S)) : TA := tG K cl (lR K cl) W f
end
section
variable {K : PySem.W.Frag} {cl : Nat → Addr} {A A' : List Addr} {st st' : Sto} {H H' : Hp} {env : Env} {σ : L2.St} {W : WX}
theorem PG.ext {α β : Type} {rel : List Addr → Sto → Hp → α → β → Prop} {r : R α} {Q : β → Hp → Prop} {X : XK} (e : Ext A st H A' st' H') (R : StoreRel K cl A st H) (R' : StoreRel K cl A' st' H')
    (h : PG K cl rel A st H r Q X) : PG K cl rel A' st' H' r Q X := by
  cases r with
  | ok a s => exact fun A2 H2 b e2 R2 r2 => h A2 H2 b (e.trans R.alen R'.alen e2) R2 r2
  | ex x s => exact fun A2 H2 c d e2 R2 r2 => h A2 H2 c d (e.trans R.alen R'.alen e2) R2 r2
  | bad => exact h
/-- evaluate the first, then the rest -/
theorem tG_bind {α β γ δ : Type} {rel : List Addr → Sto → Hp → α → β → Prop} {rel' : List Addr → Sto → Hp → γ → δ → Prop} {f : Env → Sto → R α} {g : α → Sto → R γ} {Q : δ → Hp → Prop} {Q' : β → Hp → Prop}
    (R0 : StoreRel K cl A st H) (E0 : EnvRel K cl A st env σ H) (h : PG K cl rel' A st H ((f env st).bind g) Q (fun c d H' => W c d σ H'))
    (k : ∀ A1 st1 H1 a b, Ext A st H A1 st1 H1 → StoreRel K cl A1 st1 H1 → EnvRel K cl A1 st1 env σ H1 → rel A1 st1 H1 a b → PG K cl rel' A1 st1 H1 (g a st1) Q (fun c d H' => W c d σ H') → Q' b H1) :
    tG K cl rel W f σ H Q' := by
  refine ⟨A, st, env, R0, E0, ?_⟩
  cases e : f env st with
  | ok a s =>
    rw [e] at h
    exact fun A1 H1 b e1 R1 r1 => k A1 s H1 a b e1 R1 (E0.ext e1 R0.alen) r1 (PG.ext e1 R0 R1 h)
  | ex x s =>
    rw [e] at h
    exact h
  | bad =>
    rw [e] at h
    exact h
theorem PE.mono {X : Cx} {e : Expr} {t t' : TE} (h : PE X e t) (m : ∀ σ H Q, t' σ H Q → t σ H Q) : PE X e t' := ⟨fun pins s σ H Q I w => h.run pins s σ H Q I (m σ H Q w)⟩
theorem PT.mono {X : Cx} {e : Expr} {t t' : TT} (h : PT X e t) (m : ∀ σ H Q, t' σ H Q → t σ H Q) : PT X e t' := ⟨fun pins s σ H Q I w => h.run pins s σ H Q I (m σ H Q w)⟩
theorem PW.mono {X : Cx} {e : Expr} {t t' : TT} (h : PW X e t) (m : ∀ σ H Q, t' σ H Q → t σ H Q) : PW X e t' := ⟨fun wh pins s σ H Q I w => h.run wh pins s σ H Q I (m σ H Q w)⟩
theorem PA.mono {X : Cx} {e : List Expr} {t t' : TA} (h : PA X e t) (m : ∀ σ H Q, t' σ H Q → t σ H Q) : PA X e t' := ⟨fun pos pins s σ H Q I w => h.run pos pins s σ H Q I (m σ H Q w)⟩
theorem PS.mono {X : Cx} {e : Stmt} {t t' : TS} (h : PS X e t) (m : ∀ D σ H, t' D σ H → t D σ H) : PS X e t' := ⟨fun pins s σ H D I w => h.run pins s σ H D I (m D σ H w)⟩
theorem PSs.mono {X : Cx} {e : List Stmt} {t t' : TS} (h : PSs X e t) (m : ∀ D σ H, t' D σ H → t D σ H) : PSs X e t' := ⟨fun pins s σ H D I w => h.run pins s σ H D I (m D σ H w)⟩
theorem OpR.or {X : Cx} {f : Value → Value → Sem Value} {r r' : R2} (h : OpR X f r) (h' : OpR X f r') : OpR X f (fun x y H Q => r x y H Q ∨ r' x y H Q) := by
  intro pins s σ H x y v u Q I rx ry q
  rcases q with q | q
  · exact h pins s σ H x y v u Q I rx ry q
  · exact h' pins s σ H x y v u Q I rx ry q
theorem OpR.never {X : Cx} {f : Value → Value → Sem Value} : OpR X f (fun _ _ _ _ => False) := fun _ _ _ _ _ _ _ _ _ _ _ _ q => q.elim
/-- a value handed back at once -/
theorem PG.ok {α β : Type} {rel : List Addr → Sto → Hp → α → β → Prop} {Q : β → Hp → Prop} {X : XK} {a : α} {b : β} (R0 : StoreRel K cl A st H) (r : rel A st H a b) (h : PG K cl rel A st H (.ok a st) Q X) : Q b H :=
  h A H b (.refl R0.alen) R0 r
theorem sR_int (i : Int) : sR K cl A st H (.val (.int i)) (.int i) := by unfold sR SRel Rep; rfl
theorem sR_bl (i : Bool) : sR K cl A st H (.val (.bl i)) (.bl i) := by unfold sR SRel Rep; rfl
theorem sR_str (i : Str) : sR K cl A st H (.val (.str i)) (.str i) := by unfold sR SRel Rep; rfl
theorem sR_non : sR K cl A st H (.val .non) .non := by unfold sR SRel Rep; rfl
theorem sR_int' {i : Int} {v : V} (h : sR K cl A st H (.val (.int i)) v) : v = .int i := by unfold sR SRel Rep at h; exact h
theorem sR_bl' {i : Bool} {v : V} (h : sR K cl A st H (.val (.bl i)) v) : v = .bl i := by unfold sR SRel Rep at h; exact h
theorem sR_str' {i : Str} {v : V} (h : sR K cl A st H (.val (.str i)) v) : v = .str i := by unfold sR SRel Rep at h; exact h
theorem sR_non' {v : V} (h : sR K cl A st H (.val .non) v) : v = .non := by unfold sR SRel Rep at h; exact h
theorem sR_ext {s : S} {v : V} (e : Ext A st H A' st' H') (R0 : StoreRel K cl A st H) (h : sR K cl A st H s v) : sR K cl A' st' H' s v := SRel.ext e R0.alen h
theorem rdS_rel {s : S} {v : V} (R0 : StoreRel K cl A st H) (h : sR K cl A st H s v) : sR K cl A st H (rdS st s) v := by
  cases s with
  | val t => exact h
  | ref k =>
    obtain ⟨a, h1, rfl⟩ := h
    simp only [rdS]
    split
    · rename_i t q
      exact R0.frz k a t h1 q
    · exact ⟨a, h1, rfl⟩
/-- a new live object -/
theorem PG.new {Q : V → Hp → Prop} {X : XK} {t : T} {p : Addr} {o : HO} (R0 : StoreRel K cl A st H) (hp : H p = none)
    (hc : CRel K cl (Live (A ++ [p]) (st ++ [.live t])) (upd H p o) p t) (h : PG K cl (sR K cl) A st H (newC st t) Q X) : Q (.ref p) (upd H p o) :=
  h (A ++ [p]) (upd H p o) (.ref p) (.push R0 hp) (R0.push hp hc) ⟨p, by rw [← R0.alen, List.getElem?_append_right (Nat.le_refl _)]; simp, rfl⟩
theorem PG.newL {Q : V → Hp → Prop} {X : XK} {ts : List T} {vs : List V} {p : Addr} (R0 : StoreRel K cl A st H) (hp : H p = none) {L : Avoid} (hl : L = Live A st)
    (r : RepL K cl L H ts vs) (h : PG K cl (sR K cl) A st H (newC st (.lst ts)) Q X) : Q (.ref p) (upd H p (.lst vs)) := by
  subst hl
  exact PG.new (t := .lst ts) R0 hp ⟨vs, upd_same, RepL.keeps ((Ext.push R0 hp).keeps R0.alen) ts vs r⟩ h
theorem liveL_ref {s : S} {ts : List T} (h : liveL st s = some ts) : ∃ k, s = .ref k ∧ st[k]? = some (.live (.lst ts)) := by
  unfold liveL at h
  split at h
  · rename_i k
    split at h
    · cases h
      rename_i q
      exact ⟨k, rfl, q⟩
    · cases h
  · cases h
/-- a live list that is read -/
theorem live_at {k : Nat} {ts : List T} {v : V} (R0 : StoreRel K cl A st H) (hk : st[k]? = some (.live (.lst ts))) (h : sR K cl A st H (.ref k) v) :
    ∃ a vs, v = .ref a ∧ A[k]? = some a ∧ H a = some (.lst vs) ∧ RepL K cl (Live A st) H ts vs := by
  obtain ⟨a, h1, rfl⟩ := h
  obtain ⟨vs, g1, g2⟩ := R0.live k a _ h1 hk
  exact ⟨a, vs, rfl, h1, g1, g2⟩
/-- a live list written -/
theorem put_rel {k : Nat} {a : Addr} {ts ts' : List T} {vs' : List V} (R0 : StoreRel K cl A st H) (hk : st[k]? = some (.live (.lst ts))) (ha : A[k]? = some a) (r : RepL K cl (Live A st) H ts' vs') :
    StoreRel K cl A (putL st k ts') (upd H a (.lst vs')) ∧ Ext A st H A (putL st k ts') (upd H a (.lst vs')) := by
  have e : Ext A st H A (st.set k (.live (.lst ts'))) (upd H a (.lst vs')) := Ext.set R0 hk ha
  exact ⟨R0.set hk ha ⟨vs', upd_same, RepL.keeps (e.keeps R0.alen) _ _ r⟩, e⟩
theorem repL_append {L : Avoid} : ∀ {xs ys : List T} {us vs : List V}, RepL K cl L H xs us → RepL K cl L H ys vs → RepL K cl L H (xs ++ ys) (us ++ vs)
  | [], ys, us, vs, h, g => by unfold RepL at h; subst h; exact g
  | x :: xs, ys, us, vs, h, g => by
    unfold RepL at h
    obtain ⟨v, r, rfl, h1, h2⟩ := h
    show RepL K cl L H (x :: (xs ++ ys)) _
    unfold RepL
    exact ⟨v, _, rfl, h1, repL_append h2 g⟩
theorem repL_rep {L : Avoid} {xs : List T} {us : List V} (h : RepL K cl L H xs us) : ∀ n : Nat, RepL K cl L H (List.replicate n xs).flatten (List.replicate n us).flatten
  | 0 => by simp only [List.replicate, List.flatten_nil]; unfold RepL; rfl
  | n + 1 => by
    rw [List.replicate_succ, List.replicate_succ, List.flatten_cons, List.flatten_cons]
    exact repL_append h (repL_rep h n)
theorem repL_drop {L : Avoid} : ∀ {xs : List T} {us : List V} (n : Nat), RepL K cl L H xs us → RepL K cl L H (xs.drop n) (us.drop n)
  | xs, us, 0, h => h
  | [], us, n + 1, h => by unfold RepL at h; subst h; unfold RepL; rfl
  | x :: xs, us, n + 1, h => by
    unfold RepL at h
    obtain ⟨v, r, rfl, h1, h2⟩ := h
    exact repL_drop n h2
theorem repL_take {L : Avoid} : ∀ {xs : List T} {us : List V} (n : Nat), RepL K cl L H xs us → RepL K cl L H (xs.take n) (us.take n)
  | xs, us, 0, h => by simp only [List.take_zero]; unfold RepL; rfl
  | [], us, n + 1, h => by unfold RepL at h; subst h; unfold RepL; rfl
  | x :: xs, us, n + 1, h => by
    unfold RepL at h
    obtain ⟨v, r, rfl, h1, h2⟩ := h
    show RepL K cl L H (x :: xs.take n) (v :: r.take n)
    unfold RepL
    exact ⟨v, _, rfl, h1, repL_take n h2⟩
theorem repL_rev {L : Avoid} : ∀ {xs : List T} {us : List V}, RepL K cl L H xs us → RepL K cl L H xs.reverse us.reverse
  | [], us, h => by unfold RepL at h; subst h; unfold RepL; rfl
  | x :: xs, us, h => by
    unfold RepL at h
    obtain ⟨v, r, rfl, h1, h2⟩ := h
    rw [List.reverse_cons, List.reverse_cons]
    exact repL_append (repL_rev h2) (by unfold RepL; exact ⟨v, [], rfl, h1, by unfold RepL; rfl⟩)
theorem repL_set {L : Avoid} {t : T} {w : V} (q : Rep K cl L H t w) : ∀ {xs : List T} {us : List V} (n : Nat), RepL K cl L H xs us → RepL K cl L H (xs.set n t) (us.set n w)
  | [], us, n, h => by unfold RepL at h; subst h; unfold RepL; rfl
  | x :: xs, us, 0, h => by
    unfold RepL at h
    obtain ⟨v, r, rfl, h1, h2⟩ := h
    show RepL K cl L H (t :: xs) (w :: r)
    unfold RepL
    exact ⟨w, r, rfl, q, h2⟩
  | x :: xs, us, n + 1, h => by
    unfold RepL at h
    obtain ⟨v, r, rfl, h1, h2⟩ := h
    show RepL K cl L H (x :: xs.set n t) (v :: r.set n w)
    unfold RepL
    exact ⟨v, _, rfl, h1, repL_set q n h2⟩
theorem cutV_of {L : Avoid} {xs : List T} {us : List V} (h : RepL K cl L H xs us) (lo hi : Option Int) : RepL K cl L H (cutT xs lo hi) (cutV us lo hi) := by
  have e := repL_len h
  unfold cutT cutV
  rw [e]
  exact repL_take _ (repL_drop _ h)
theorem atI_rel {L : Avoid} {xs : List T} {us : List V} (h : RepL K cl L H xs us) {i : Int} {t : T} (e : atI xs i = some t) : ∃ v, atI us i = some v ∧ Rep K cl L H t v := by
  unfold atI at e ⊢
  rw [repL_len h]
  cases q : ixN xs.length i with
  | none => rw [q] at e; cases e
  | some j =>
    rw [q] at e
    exact repL_at h e

/-! ### the tree that PyData tells -/
mutual
theorem toPy_rel {L : Avoid} : ∀ (t : T) (d : PyData) (v : V), Rep K cl L H t v → toPy t = some d → Dp K H v d
  | .non, d, v, h, e => by cases e; unfold Rep at h; subst h; exact .non
  | .bl b, d, v, h, e => by cases e; unfold Rep at h; subst h; exact .bl b
  | .int i, d, v, h, e => by cases e; unfold Rep at h; subst h; exact .int i
  | .str x, d, v, h, e => by cases e; unfold Rep at h; subst h; exact .str x
  | .lst ts, d, v, h, e => by
    unfold toPy at e
    cases q : toPyL ts with
    | none => rw [q] at e; cases e
    | some ds =>
      rw [q] at e; cases e
      unfold Rep at h
      obtain ⟨a, vs, rfl, g, r⟩ := h
      exact .lst g.sq (toPyL_rel ts ds vs r q)
  | .tup ts, d, v, h, e => by
    unfold toPy at e
    cases q : toPyL ts with
    | none => rw [q] at e; cases e
    | some ds =>
      rw [q] at e; cases e
      unfold Rep at h
      obtain ⟨a, vs, rfl, g, r⟩ := h
      exact .tup g.sq (toPyL_rel ts ds vs r q)
  | .dK _, d, v, h, e => by unfold toPy at e; cases e
  | .dT _, d, v, h, e => by unfold toPy at e; cases e
  | .ins _ _, d, v, h, e => by unfold toPy at e; cases e
theorem toPyL_rel {L : Avoid} : ∀ (ts : List T) (ds : List PyData) (vs : List V), RepL K cl L H ts vs → toPyL ts = some ds → DpAll K H vs ds
  | [], ds, vs, h, e => by cases e; unfold RepL at h; subst h; exact .nil
  | t :: ts, ds, vs, h, e => by
    unfold toPyL at e
    unfold RepL at h
    obtain ⟨v, r, rfl, h1, h2⟩ := h
    cases q : toPy t with
    | none => rw [q] at e; cases e
    | some d =>
      cases q2 : toPyL ts with
      | none => rw [q, q2] at e; cases e
      | some ds' =>
        rw [q, q2] at e; cases e
        exact .cons (toPy_rel t d v h1 q) (toPyL_rel ts ds' r h2 q2)
end
end
end Dy

set_option Elab.async false
set_option linter.all false
set_option maxRecDepth 100000
set_option maxHeartbeats 1000000
set_option autoImplicit false
/-! Dy, part O: operators, comparisons, built-ins by values. -/
namespace Dy
open PySem PySem.Spec L2 PyProof.Rows
section
variable {X : Cx} {cl : Nat → Addr} {A : List Addr} {st : Sto} {H : Hp} {Q : VK} {E : XK}

def pyOp : Op → Operator
  | .add => .Add | .sub => .Sub | .mul => .Mult | .fdiv => .FloorDiv | .mod => .Mod | .pow => .Pow
  | .shl => .LShift | .shr => .RShift | .band => .BitAnd | .bor => .BitOr | .bxor => .BitXor
def addStrR : R2 := fun x y H Q => ∃ i j, x = .str i ∧ y = .str j ∧ i.length + j.length ≤ sizeLine ∧ Q (.str (i ++ j)) H
def rOp : Op → R2
  | .add => fun x y H Q => rI0 (fun i j => .int (i + j)) x y H Q ∨ rCat x y H Q ∨ addStrR x y H Q
  | .sub => rI0 (fun i j => .int (i - j))
  | .mul => fun x y H Q => rI CMul (fun i j => .int (i * j)) x y H Q ∨ rI CMulW (fun i j => .int (i * j)) x y H Q ∨ rRep x y H Q
  | .fdiv => rI CDivW fun i j => .int (i / j)
  | .mod => rI (fun _ j => 0 < j) fun i j => .int (i % j)
  | .pow => rI CPow fun i j => .int (i ^ j.toNat)
  | .shl => rI CPow fun i j => .int (i * 2 ^ j.toNat)
  | .shr => rI (fun _ j => 0 ≤ j) fun i j => .int (i / 2 ^ j.toNat)
  | .band => rI0 fun i j => .int (Builtin.bitAnd i j)
  | .bor => rI0 fun i j => .int (Builtin.bitOr i j)
  | .bxor => rI0 fun i j => .int (Builtin.bitXor i j)
theorem rOp_ok : ∀ op : Op, OpR X (binaryOp (pyOp op)) (rOp op)
  | .add => OpR.or op_add (OpR.or op_cat op_add_str)
  | .sub => op_sub
  | .mul => OpR.or op_mul (OpR.or op_mulW op_rep)
  | .fdiv => op_fdivW
  | .mod => op_mod
  | .pow => op_pow
  | .shl => op_shl
  | .shr => op_shr
  | .band => op_and
  | .bor => op_or
  | .bxor => op_xor
theorem rOp_int {op : Op} {i j k : Int} (h : intOp op i j = some k) (q : Q (.int k) H) : rOp op (.int i) (.int j) H Q := by
  cases op <;> simp only [intOp] at h
  case add => cases h; exact .inl ⟨i, j, rfl, rfl, q⟩
  case sub => cases h; exact ⟨i, j, rfl, rfl, q⟩
  case mul =>
    split at h
    · rename_i c
      cases h
      rcases c with c | c | c
      · exact .inl ⟨i, j, rfl, rfl, .inl c, q⟩
      · exact .inl ⟨i, j, rfl, rfl, .inr c, q⟩
      · exact .inr (.inl ⟨i, j, rfl, rfl, c, q⟩)
    · cases h
  case fdiv =>
    split at h
    · rename_i c
      cases h
      exact ⟨i, j, rfl, rfl, c, q⟩
    · cases h
  case mod =>
    split at h
    · rename_i c
      cases h
      exact ⟨i, j, rfl, rfl, c, q⟩
    · cases h
  case pow =>
    split at h
    · rename_i c
      cases h
      exact ⟨i, j, rfl, rfl, c, q⟩
    · cases h
  case shl =>
    split at h
    · rename_i c
      cases h
      exact ⟨i, j, rfl, rfl, c, q⟩
    · cases h
  case shr =>
    split at h
    · rename_i c
      cases h
      exact ⟨i, j, rfl, rfl, c, q⟩
    · cases h
  case band => cases h; exact ⟨i, j, rfl, rfl, q⟩
  case bor => cases h; exact ⟨i, j, rfl, rfl, q⟩
  case bxor => cases h; exact ⟨i, j, rfl, rfl, q⟩
theorem sl_eq : sizeLine = lim := sizeLine_eq
theorem opD_ok {op : Op} {x y : S} {v u : V} (R0 : StoreRel X.K cl A st H) (rx : sR X.K cl A st H x v) (ry : sR X.K cl A st H y u)
    (h : PG X.K cl (sR X.K cl) A st H (opD op x y st) Q E) : rOp op v u H Q := by
  unfold opD at h
  split at h
  · rename_i i j
    rw [sR_int' rx, sR_int' ry]
    split at h
    · rename_i k e
      exact rOp_int e (PG.ok R0 (sR_int _) h)
    · exact h.elim
  · rename_i k j
    split at h
    · rename_i a b ea eb
      split at h
      · rename_i hz
        obtain ⟨k', e1, hk⟩ := liveL_ref ea
        cases e1
        obtain ⟨j', e2, hj⟩ := liveL_ref eb
        cases e2
        obtain ⟨pa, va, rfl, ga, oa, ra⟩ := live_at R0 hk rx
        obtain ⟨pb, vb, rfl, gb, ob, rb⟩ := live_at R0 hj ry
        refine .inr (.inl ⟨pa, pb, va, vb, rfl, rfl, oa, ob, by rw [repL_len ra, repL_len rb, sl_eq]; exact hz, fun p hp => ?_⟩)
        exact PG.newL R0 hp rfl (repL_append ra rb) h
      · exact h.elim
    · exact h.elim
  · rename_i k n
    split at h
    · rename_i a ea
      split at h
      · rename_i hz
        obtain ⟨k', e1, hk⟩ := liveL_ref ea
        cases e1
        obtain ⟨pa, va, rfl, ga, oa, ra⟩ := live_at R0 hk rx
        rw [sR_int' ry]
        refine .inr (.inr ⟨pa, n, va, rfl, rfl, oa, hz.1, hz.2.1, by rw [repL_len ra, sl_eq]; exact hz.2.2, fun p hp => ?_⟩)
        exact PG.newL R0 hp rfl (repL_rep ra _) h
      · exact h.elim
    · exact h.elim
  · rename_i a b
    split at h
    · split at h
      · rename_i hz
        rw [sR_str' rx, sR_str' ry]
        exact .inr (.inr ⟨a, b, rfl, rfl, by rw [sl_eq]; exact hz, PG.ok R0 (sR_str _) h⟩)
      · exact h.elim
    · exact h.elim
  · exact h.elim

/-! ### comparisons -/
def pyCp : Cp → CmpOp
  | .lt => .Lt | .le => .LtE | .gt => .Gt | .ge => .GtE | .eq => .Eq | .ne => .NotEq
def rCp (K : PySem.W.Frag) : Cp → R2
  | .lt => rI0 fun i j => .bl (decide (i < j))
  | .le => rI0 fun i j => .bl (decide (i ≤ j))
  | .gt => rI0 fun i j => .bl (decide (j < i))
  | .ge => rI0 fun i j => .bl (decide (j ≤ i))
  | .eq => fun x y H Q => rEq x y H Q ∨ rEqD K x y H Q
  | .ne => fun x y H Q => rNe x y H Q ∨ rNeD K x y H Q
theorem rCp_ok (hu : X.A.units + 64 < cLine) : ∀ op : Cp, OpR X (compareOp (pyCp op)) (rCp X.K op)
  | .lt => op_lt
  | .le => op_le
  | .gt => op_gt
  | .ge => op_ge
  | .eq => OpR.or op_eq (op_eqD hu)
  | .ne => OpR.or op_ne (op_neD hu)
theorem eqT_ok {x y : T} {v u : V} {c : Bool} {L : Avoid} {L' : Avoid} (rx : Rep X.K cl L H x v) (ry : Rep X.K cl L' H y u) (e : eqT x y = some c) :
    (scal v u = true ∧ decide (v = u) = c) ∨ (∃ d e, Dp X.K H v d ∧ Dp X.K H u e ∧ SeqAt.shaped d = true ∧ SeqAt.shaped e = true ∧ PyData.eqv d e = c) := by
  unfold eqT at e
  split at e
  · cases e
    unfold Rep at rx ry
    subst rx ry
    exact .inl ⟨rfl, dec_int⟩
  · cases e
    unfold Rep at rx ry
    subst rx ry
    exact .inl ⟨rfl, dec_bl⟩
  · cases e
    unfold Rep at rx ry
    subst rx ry
    exact .inl ⟨rfl, dec_str⟩
  · split at e
    · rename_i d e' h1 h2
      split at e
      · rename_i hs
        cases e
        exact .inr ⟨d, e', toPy_rel _ _ _ rx h1, toPy_rel _ _ _ ry h2, hs.1, hs.2, rfl⟩
      · cases e
    · cases e
theorem cmpD_ok {op : Cp} {x y : S} {v u : V} (R0 : StoreRel X.K cl A st H) (rx : sR X.K cl A st H x v) (ry : sR X.K cl A st H y u)
    (h : PG X.K cl (sR X.K cl) A st H (cmpD op x y st) Q E) : rCp X.K op v u H Q := by
  have eqs : ∀ {f : Bool → Bool}, PG X.K cl (sR X.K cl) A st H (match view st x, view st y with
      | some a, some b => match eqT a b with
        | some c => .ok (.val (.bl (f c))) st
        | none => .bad
      | _, _ => .bad) Q E → (scal v u = true ∧ Q (.bl (f (decide (v = u)))) H) ∨ (∃ d e, Dp X.K H v d ∧ Dp X.K H u e ∧ SeqAt.shaped d = true ∧ SeqAt.shaped e = true ∧ Q (.bl (f (PyData.eqv d e))) H) := by
    intro f h
    split at h
    · rename_i a b ea eb
      split at h
      · rename_i c ec
        have q := PG.ok R0 (sR_bl _) h
        rcases eqT_ok (view_rel R0 rx ea) (view_rel R0 ry eb) ec with ⟨h1, h2⟩ | ⟨d, e, h1, h2, h3, h4, h5⟩
        · rw [← h2] at q
          exact .inl ⟨h1, q⟩
        · rw [← h5] at q
          exact .inr ⟨d, e, h1, h2, h3, h4, q⟩
      · exact h.elim
    · exact h.elim
  cases op <;> simp only [cmpD] at h
  case lt =>
    split at h
    · rename_i i j
      rw [sR_int' rx, sR_int' ry]
      exact ⟨i, j, rfl, rfl, PG.ok R0 (sR_bl _) h⟩
    · exact h.elim
  case le =>
    split at h
    · rename_i i j
      rw [sR_int' rx, sR_int' ry]
      exact ⟨i, j, rfl, rfl, PG.ok R0 (sR_bl _) h⟩
    · exact h.elim
  case gt =>
    split at h
    · rename_i i j
      rw [sR_int' rx, sR_int' ry]
      exact ⟨i, j, rfl, rfl, PG.ok R0 (sR_bl _) h⟩
    · exact h.elim
  case ge =>
    split at h
    · rename_i i j
      rw [sR_int' rx, sR_int' ry]
      exact ⟨i, j, rfl, rfl, PG.ok R0 (sR_bl _) h⟩
    · exact h.elim
  case eq => exact eqs (f := fun b => b) h
  case ne => exact eqs (f := fun b => !b) h
/-- the answer of a comparison is a truth value -/
theorem cmpD_bl {op : Cp} {x y r : S} {st' : Sto} (h : cmpD op x y st = .ok r st') : ∃ b, r = .val (.bl b) ∧ st' = st := by
  unfold cmpD at h
  split at h <;> (repeat (split at h)) <;> first | (cases h; exact ⟨_, rfl, rfl⟩) | cases h

/-! ### truth -/
theorem truT_ok {s : S} {t : T} {v : V} {k : Bool} (R0 : StoreRel X.K cl A st H) (r : sR X.K cl A st H s v) (ev : view st s = some t) (e : truT t = some k) : TruV X.K v H k := by
  have rv := view_rel R0 r ev
  cases t with
  | non => cases e; unfold Rep at rv; subst rv; rfl
  | bl b => cases e; unfold Rep at rv; subst rv; rfl
  | int i => cases e; unfold Rep at rv; subst rv; rfl
  | str x =>
    unfold truT at e
    simp only at e
    split at e
    · rename_i hz
      cases e
      unfold Rep at rv; subst rv
      exact ⟨by rw [sl_eq]; exact hz, rfl⟩
    · cases e
  | lst ts =>
    cases e
    obtain ⟨a, vs, rfl, q, l⟩ := list_rel R0 r ev
    refine .inl ⟨vs, q, ?_⟩
    have := repL_len l
    cases ts <;> cases vs <;> simp_all
  | tup ts =>
    cases e
    obtain ⟨a, vs, rfl, q, l⟩ := tup_rel R0 r ev
    refine .inr (.inl ⟨vs, q, ?_⟩)
    have := repL_len l
    cases ts <;> cases vs <;> simp_all
  | _ => cases e
theorem truD_ok {s : S} {v : V} {Q : Bool → Hp → Prop} (R0 : StoreRel X.K cl A st H) (r : sR X.K cl A st H s v) (h : PG X.K cl bR A st H (truD s st) Q E) : ∃ k, TruV X.K v H k ∧ Q k H := by
  unfold truD at h
  split at h
  · rename_i t ev
    split at h
    · rename_i k ek
      exact ⟨k, truT_ok R0 r ev ek, PG.ok R0 rfl h⟩
    · exact h.elim
  · exact h.elim
theorem truD_st {s : S} {k : Bool} {st' : Sto} (h : truD s st = .ok k st') : st' = st := by
  unfold truD at h
  repeat (split at h)
  all_goals first | (cases h; rfl) | cases h
theorem truD_ex {s : S} {e : Ex} {st' : Sto} : truD s st ≠ .ex e st' := by
  intro h
  unfold truD at h
  repeat (split at h)
  all_goals cases h

/-! ### subscripts, slices -/
theorem idxD_ok {x y : S} {v u : V} (R0 : StoreRel X.K cl A st H) (rx : sR X.K cl A st H x v) (ry : sR X.K cl A st H y u)
    (h : PG X.K cl (sR X.K cl) A st H (idxD x y st) Q E) : rIx X.K v u H Q := by
  unfold idxD at h
  split at h
  · rename_i ts i ev
    obtain ⟨a, vs, rfl, q, l⟩ := list_rel R0 rx ev
    rw [sR_int' ry]
    unfold ixT at h
    split at h
    · rename_i t et
      obtain ⟨w, e1, e2⟩ := atI_rel l et
      exact .inl ⟨a, vs, i, w, rfl, rfl, q, e1, PG.ok (a := S.val t) R0 e2 h⟩
    · exact h.elim
  · rename_i ts i ev
    obtain ⟨a, vs, rfl, q, l⟩ := tup_rel R0 rx ev
    rw [sR_int' ry]
    unfold ixT at h
    split at h
    · rename_i t et
      obtain ⟨w, e1, e2⟩ := atI_rel l et
      exact .inr (.inl ⟨a, vs, i, w, rfl, rfl, q, e1, PG.ok (a := S.val t) R0 e2 h⟩)
    · exact h.elim
  · exact h.elim
theorem PG.tup {ts : List T} {vs : List V} {p : Addr} (R0 : StoreRel X.K cl A st H) (hp : H p = none) (r : RepL X.K cl (Live A st) H ts vs)
    (h : PG X.K cl (sR X.K cl) A st H (.ok (.val (.tup ts)) st) Q E) : Q (.ref p) (upd H p (.tup vs)) := by
  have e : Ext A st H A st (upd H p (.tup vs)) := ⟨fun _ _ h => h, Nat.le_refl _, fun _ _ h => h, fun k a h1 h2 => absurd (get_lt h2) (by rw [R0.alen]; omega), fun a o' h' _ => by rw [upd_ne (ne_of_none h' hp)]; exact h', fun a h' => by
    by_cases e : a = p
    · subst e; exact absurd hp h'
    · rw [upd_ne e]; exact h'⟩
  have nl : ¬ Live A st p := by
    rintro ⟨k, c, h1, h2⟩
    exact (R0.live k p c h2 h1).some hp
  have k := e.keeps (H := H) R0.alen
  have R1 : StoreRel X.K cl A st (upd H p (.tup vs)) := ⟨R0.alen, R0.inj, fun j b c h1 h2 => (R0.live j b c h1 h2).mono (upd_ne fun z => nl (by rw [← z]; exact ⟨j, c, h2, h1⟩)) k, fun j b t h1 h2 => Rep.keeps k _ _ (R0.frz j b t h1 h2)⟩
  refine h A _ (.ref p) e R1 ?_
  unfold sR SRel Rep
  exact ⟨p, vs, rfl, .inl ⟨nl, .inl upd_same⟩, RepL.keeps k _ _ r⟩
def rSlD (K : PySem.W.Frag) : V → Option Int → Option Int → Hp → VK → Prop := fun x lo hi H Q => rSlL K x lo hi H Q ∨ rSlT K x lo hi H Q
theorem sl_D : SlR X (rSlD X.K) := sl_list.or sl_tup

/-! ### built-ins -/
theorem intsT_rel {L : Avoid} : ∀ {ts : List T} {vs : List V} {ns : List Int}, RepL X.K cl L H ts vs → intsT ts = some ns → vs = ns.map V.int
  | [], vs, ns, h, e => by cases e; unfold RepL at h; subst h; rfl
  | t :: ts, vs, ns, h, e => by
    unfold RepL at h
    obtain ⟨v, r, rfl, h1, h2⟩ := h
    cases t with
    | int i =>
      unfold intsT at e
      cases q : intsT ts with
      | none => rw [q] at e; cases e
      | some ms =>
        rw [q] at e; cases e
        unfold Rep at h1
        rw [h1, intsT_rel h2 q]; rfl
    | _ => cases e
def rComb : List V → Hp → VK → Prop := fun vs H Q => ∃ n k : Int, vs = [.int n, .int k] ∧ (0 ≤ n ∧ 0 ≤ k ∧ n < 2 ^ 64 ∧ (k ≤ 9000 ∨ n ≤ 18000)) ∧ Q (.int (PySem.W.mcComb n k)) H
theorem cr_comb : CallR X (.builtin "math.comb") rComb := by
  intro pins s σ H vs us Q I r h
  obtain ⟨a, b, rfl, c, q⟩ := h
  obtain ⟨t, u, rfl⟩ := Vals.int2 r
  exact PySem.W.mc_comb c.1 c.2.1 c.2.2.1 c.2.2.2 fun _ => ⟨.int _, H, I.tok _, ⟨_, rfl⟩, q⟩
/-- the function's value -/
def pyBi : Bi → Value
  | .len => .builtin "len" | .abs => .builtin "abs" | .int => .type "int" | .list => .type "list" | .tuple => .type "tuple"
  | .sum => .builtin "sum" | .comb => .builtin "math.comb" | .gcd => .builtin "math.gcd"
def rBi (K : PySem.W.Frag) : Bi → List V → Hp → VK → Prop
  | .len => fun xs H Q => (∃ p ys, xs = [.ref p] ∧ (SqL K H p ys ∨ SqT K H p ys) ∧ Q (.int ys.length) H) ∨ (∃ z, xs = [.str z] ∧ z.length ≤ sizeLine ∧ Q (.int z.length) H)
  | .abs => fun xs H Q => ∃ i, xs = [.int i] ∧ Q (.int (if i < 0 then -i else i)) H
  | .int => fun xs H Q => (∃ i, xs = [.int i] ∧ Q (.int i) H) ∨ ∃ k, xs = [.bl k] ∧ Q (.int (if k then 1 else 0)) H
  | .list => fun xs H Q => ∃ p ys, xs = [.ref p] ∧ (SqL K H p ys ∨ SqT K H p ys) ∧ ∀ l, H l = none → Q (.ref l) (upd H l (.lst ys))
  | .tuple => fun xs H Q => ∃ p ys, xs = [.ref p] ∧ ((SqL K H p ys ∧ ∀ l, H l = none → Q (.ref l) (upd H l (.tup ys))) ∨ (SqT K H p ys ∧ Q (.ref p) H))
  | .sum => rSum K
  | .comb => rComb
  | .gcd => rGcd
theorem rBi_ok (hc : X.calm = true) : ∀ b : Bi, CallR X (pyBi b) (rBi X.K b)
  | .len => call_len_seq.or call_len_str
  | .abs => call_abs
  | .int => call_int1
  | .list => call_list_of
  | .tuple => call_tuple_of
  | .sum => cr_sum hc
  | .comb => cr_comb
  | .gcd => cr_gcd
theorem vals_one {s : S} {xs : List V} (h : lR X.K cl A st H [s] xs) : ∃ v, xs = [v] ∧ sR X.K cl A st H s v := by
  cases h with
  | cons r1 r2 => cases r2; exact ⟨_, rfl, r1⟩
theorem vals_two {s t : S} {xs : List V} (h : lR X.K cl A st H [s, t] xs) : ∃ v u, xs = [v, u] ∧ sR X.K cl A st H s v ∧ sR X.K cl A st H t u := by
  cases h with
  | cons r1 r2 =>
    cases r2 with
    | cons r3 r4 => cases r4; exact ⟨_, _, rfl, r1, r3⟩
theorem biD_ok {b : Bi} {ss : List S} {xs : List V} (R0 : StoreRel X.K cl A st H) (r : lR X.K cl A st H ss xs) (h : PG X.K cl (sR X.K cl) A st H (biD b ss st) Q E) : rBi X.K b xs H Q := by
  unfold biD at h
  split at h
  · obtain ⟨v, rfl, r1⟩ := vals_one r
    split at h
    · rename_i ev
      obtain ⟨a, vs, rfl, q, l⟩ := list_rel R0 r1 ev
      exact .inl ⟨a, vs, rfl, .inl q, by rw [repL_len l]; exact PG.ok R0 (sR_int _) h⟩
    · rename_i ev
      obtain ⟨a, vs, rfl, q, l⟩ := tup_rel R0 r1 ev
      exact .inl ⟨a, vs, rfl, .inr q, by rw [repL_len l]; exact PG.ok R0 (sR_int _) h⟩
    · rename_i z ev
      have rv := view_rel R0 r1 ev
      unfold Rep at rv
      subst rv
      split at h
      · rename_i hz
        exact .inr ⟨z, rfl, by rw [sl_eq]; exact hz, PG.ok R0 (sR_int _) h⟩
      · exact h.elim
    · exact h.elim
  · rename_i i
    obtain ⟨v, rfl, r1⟩ := vals_one r
    rw [sR_int' r1]
    exact ⟨i, rfl, PG.ok R0 (sR_int _) h⟩
  · rename_i i
    obtain ⟨v, rfl, r1⟩ := vals_one r
    rw [sR_int' r1]
    exact .inl ⟨i, rfl, PG.ok R0 (sR_int _) h⟩
  · rename_i i
    obtain ⟨v, rfl, r1⟩ := vals_one r
    rw [sR_bl' r1]
    exact .inr ⟨i, rfl, PG.ok R0 (sR_int _) h⟩
  · obtain ⟨v, rfl, r1⟩ := vals_one r
    split at h
    · rename_i ev
      obtain ⟨a, vs, rfl, q, l⟩ := list_rel R0 r1 ev
      exact ⟨a, vs, rfl, .inl q, fun p hp => PG.newL R0 hp rfl l h⟩
    · rename_i ev
      obtain ⟨a, vs, rfl, q, l⟩ := tup_rel R0 r1 ev
      exact ⟨a, vs, rfl, .inr q, fun p hp => PG.newL R0 hp rfl l h⟩
    · exact h.elim
  · obtain ⟨v, rfl, r1⟩ := vals_one r
    split at h
    · rename_i ev
      obtain ⟨a, vs, rfl, q, l⟩ := list_rel R0 r1 ev
      exact ⟨a, vs, rfl, .inl ⟨q, fun p hp => PG.tup R0 hp l h⟩⟩
    · rename_i ts ev
      obtain ⟨a, vs, rfl, q, l⟩ := tup_rel R0 r1 ev
      refine ⟨a, vs, rfl, .inr ⟨q, PG.ok (a := S.val (.tup ts)) R0 ?_ h⟩⟩
      have := tup_tree R0 r1 ev
      exact this
    · exact h.elim
  · obtain ⟨v, rfl, r1⟩ := vals_one r
    split at h
    · rename_i ts ev
      split at h
      · rename_i ns en
        obtain ⟨a, vs, rfl, q, l⟩ := list_rel R0 r1 ev
        have e := intsT_rel l en
        subst e
        exact ⟨a, ns, rfl, q, PG.ok R0 (sR_int _) h⟩
      · exact h.elim
    · exact h.elim
  · rename_i n k
    obtain ⟨v, u, rfl, r1, r2⟩ := vals_two r
    rw [sR_int' r1, sR_int' r2]
    split at h
    · rename_i c
      exact ⟨n, k, rfl, c, PG.ok R0 (sR_int _) h⟩
    · exact h.elim
  · rename_i n k
    obtain ⟨v, u, rfl, r1, r2⟩ := vals_two r
    rw [sR_int' r1, sR_int' r2]
    exact ⟨n, k, rfl, PG.ok R0 (sR_int _) h⟩
  · exact h.elim

/-! ### isinstance -/
def kdN : Kd → String
  | .list => "list" | .tuple => "tuple" | .int => "int" | .bool => "bool" | .str => "str"
/-- the type of what a tree is -/
def tyN : T → String
  | .non => "NoneType" | .bl _ => "bool" | .int _ => "int" | .str _ => "str" | .lst _ => "list" | .tup _ => "tuple" | _ => "dict"
theorem tyX_of {s : S} {t : T} {v : V} {own : List Kd} (R0 : StoreRel X.K cl A st H) (r : sR X.K cl A st H s v) (ev : view st s = some t) (e : kdOf t = some own) : TyX X.K H v (.type (tyN t)) := by
  have rv := view_rel R0 r ev
  cases t with
  | non => unfold Rep at rv; subst rv; exact .base .non
  | bl b => unfold Rep at rv; subst rv; exact .base (.bl b)
  | int i => unfold Rep at rv; subst rv; exact .base (.int i)
  | str x => unfold Rep at rv; subst rv; exact .base (.str x)
  | lst ts =>
    unfold Rep at rv
    obtain ⟨a, vs, rfl, q, l⟩ := rv
    rcases q with ⟨_, q | ⟨o, q⟩⟩ | ⟨o, its, n, q1, q2, _⟩
    · exact .base (.lst q)
    · exact .base (.frz q)
    · exact .kList q1 q2
  | tup ts =>
    unfold Rep at rv
    obtain ⟨a, vs, rfl, q, l⟩ := rv
    rcases q with ⟨_, q | ⟨o, q⟩⟩ | ⟨o, its, n, q1, q2, _⟩
    · exact .base (.tup q)
    · exact .fTuple q
    · exact .kTuple q1 q2
  | _ => cases e
theorem kit_one {t : T} {own : List Kd} (e : kdOf t = some own) (k : Kd) : PySem.W.kitOne X.K (.type (tyN t)) (.type (kdN k)) = some (own.contains k) := by
  cases t <;> cases e <;> cases k <;> (refine kit_ty ?_; simp only [tyN, kdN]; decide +kernel)
theorem kit_any {t : T} {own : List Kd} (e : kdOf t = some own) : ∀ ks : List Kd, PySem.W.kitAny X.K (.type (tyN t)) (ks.map fun k => .type (kdN k)) = some (ks.any fun k => own.contains k)
  | [] => rfl
  | k :: ks => by
    refine kitAny_cons (b := own.contains k) (kit_one e k) (fun h => ?_) (fun h => ?_)
    · rw [List.any_cons, h, Bool.false_or]; exact kit_any e ks
    · rw [List.any_cons, h, Bool.true_or]
end
end Dy

set_option Elab.async false
set_option linter.all false
set_option maxRecDepth 100000
set_option maxHeartbeats 1000000
set_option autoImplicit false
/-! Dy, part X: expressions. -/
namespace Dy
open PySem PySem.Spec L2 PyProof.Rows
section
variable {X : Cx} {cl : Nat → Addr} {W : WX} {cb : CB} {a b c e : Expr} {es : List Expr} {pos : Pos} {fa fb fc : Env → Sto → R S} {fs : Env → Sto → R (List S)} {ft : Env → Sto → R Bool}

theorem s_var {i : Nat} {x : Str} (hN : X.N[i]? = some x) (hv : Vis X.env.scope x) (hd : (x == ("__debug__" : Str)) = false) (hcd : (x == ("__classdict__" : Str)) = false) :
    PE X (.Name x pos) (tE X.K cl W (evE cb (.var i))) := by
  refine PE.mono (pe_var hN hv hd hcd) fun σ H Q ⟨A, st, env, R0, E0, h⟩ => ?_
  simp only [evE] at h
  split at h
  · rename_i s es
    obtain ⟨v, h1, h2⟩ := E0.at_ i s es
    exact ⟨v, h1, PG.ok R0 (rdS_rel R0 h2) h⟩
  · exact h.elim
theorem s_const {v : V} {t : T} {f : Env → Sto → R S} (h : PE X e (tC v)) (hf : ∀ env st, f env st = .ok (.val t) st) (r : ∀ A st H, sR X.K cl A st H (.val t) v) : PE X e (tE X.K cl W f) := by
  refine PE.mono h fun σ H Q ⟨A, st, env, R0, E0, h⟩ => ?_
  rw [hf] at h
  exact PG.ok R0 (r _ _ _) h
theorem s_int {i j} : PE X (.Constant (.int i) j pos) (tE X.K cl W (evE cb (.int i))) := s_const pe_int (fun _ _ => rfl) fun _ _ _ => sR_int i
theorem s_bl {i j} : PE X (.Constant (.bool i) j pos) (tE X.K cl W (evE cb (.bl i))) := s_const pe_bl (fun _ _ => rfl) fun _ _ _ => sR_bl i
theorem s_non {j} : PE X (.Constant .none j pos) (tE X.K cl W (evE cb .non)) := s_const pe_non (fun _ _ => rfl) fun _ _ _ => sR_non
theorem s_str {x j} : PE X (.Constant (.str x) j pos) (tE X.K cl W (evE cb (.str x))) := s_const pe_str (fun _ _ => rfl) fun _ _ _ => sR_str x
theorem s_bin {op : Op} {p : Operator} (hp : p = pyOp op) (ha : PE X a (tE X.K cl W fa)) (hb : PE X b (tE X.K cl W fb)) :
    PE X (.BinOp a p b pos) (tE X.K cl W fun env st => (fa env st).bind fun x st1 => (fb env st1).bind fun y st2 => opD op (rdS st2 x) y st2) := by
  subst hp
  refine PE.mono (pe_op (rOp_ok op) ha hb) fun σ H Q ⟨A, st, env, R0, E0, h⟩ => ?_
  refine tG_bind R0 E0 h fun A1 st1 H1 x v e1 R1 E1 r1 h1 => ?_
  refine tG_bind R1 E1 h1 fun A2 st2 H2 y u e2 R2 E2 r2 h2 => ?_
  exact opD_ok R2 (rdS_rel R2 (sR_ext e2 R1 r1)) r2 h2
theorem s_neg (ha : PE X a (tE X.K cl W fa)) : PE X (.UnaryOp .USub a pos) (tE X.K cl W fun env st => (fa env st).bind fun x st1 => match x with
    | .val (.int i) => .ok (.val (.int (-i))) st1
    | _ => .bad) := by
  refine PE.mono (pe_un un_neg ha) fun σ H Q ⟨A, st, env, R0, E0, h⟩ => ?_
  refine tG_bind R0 E0 h fun A1 st1 H1 x v e1 R1 E1 r1 h1 => ?_
  split at h1
  · rename_i i
    rw [sR_int' r1]
    exact ⟨i, rfl, PG.ok R1 (sR_int _) h1⟩
  · exact h1.elim
theorem s_cmp {op : Cp} {p : CmpOp} (hp : p = pyCp op) (hu : X.A.units + 64 < cLine) (ha : PE X a (tE X.K cl W fa)) (hb : PE X b (tE X.K cl W fb)) :
    PE X (.Compare a [p] [b] pos) (tE X.K cl W fun env st => (fa env st).bind fun x st1 => (fb env st1).bind fun y st2 => cmpD op x y st2) := by
  subst hp
  refine PE.mono (pe_cmpR (rCp_ok hu op) ha hb (nomark _ (by cases op <;> decide) (by cases op <;> decide))) fun σ H Q ⟨A, st, env, R0, E0, h⟩ => ?_
  refine tG_bind R0 E0 h fun A1 st1 H1 x v e1 R1 E1 r1 h1 => ?_
  refine tG_bind R1 E1 h1 fun A2 st2 H2 y u e2 R2 E2 r2 h2 => ?_
  exact cmpD_ok R2 (sR_ext e2 R1 r1) r2 h2
/-- a comparison's answer, tested -/
theorem cmp_test {op : Cp} {x y : S} {A : List Addr} {st : Sto} {H : Hp} {v u : V} {Q : Bool → Hp → Prop} {E : XK} (R0 : StoreRel X.K cl A st H) (rx : sR X.K cl A st H x v) (ry : sR X.K cl A st H y u)
    (h : PG X.K cl bR A st H ((cmpD op x y st).bind truD) Q E) : rCp X.K op v u H fun z H' => ∃ k, z = .bl k ∧ Q k H' := by
  refine cmpD_ok (E := E) R0 rx ry ?_
  cases q : cmpD op x y st with
  | ok r st' =>
    obtain ⟨b, rfl, rfl⟩ := cmpD_bl q
    rw [q] at h
    intro A1 H1 z e1 R1 r1
    rw [sR_bl' r1]
    exact ⟨b, rfl, h A1 H1 b e1 R1 rfl⟩
  | ex e st' => rw [q] at h; exact h
  | bad => rw [q] at h; exact h
theorem bind_assoc {α β γ : Type} (x : R α) (f : α → Sto → R β) (g : β → Sto → R γ) : (x.bind f).bind g = x.bind fun a st => (f a st).bind g := by
  cases x <;> rfl
theorem t_cmp {op : Cp} {p : CmpOp} (hp : p = pyCp op) (hu : X.A.units + 64 < cLine) (ha : PE X a (tE X.K cl W fa)) (hb : PE X b (tE X.K cl W fb)) :
    PT X (.Compare a [p] [b] pos) (tT X.K cl W fun env st => ((fa env st).bind fun x st1 => (fb env st1).bind fun y st2 => cmpD op x y st2).bind truD) := by
  subst hp
  refine PT.mono (pt_cmpR (rCp_ok hu op) ha hb (nomark _ (by cases op <;> decide) (by cases op <;> decide))) fun σ H Q ⟨A, st, env, R0, E0, h⟩ => ?_
  simp only [bind_assoc] at h
  refine tG_bind R0 E0 h fun A1 st1 H1 x v e1 R1 E1 r1 h1 => ?_
  refine tG_bind R1 E1 h1 fun A2 st2 H2 y u e2 R2 E2 r2 h2 => ?_
  exact cmp_test R2 (sR_ext e2 R1 r1) r2 h2
def chainK (fc : Env → Sto → R S) (o2 : Cp) (env : Env) (y : S) (r : S) (st3 : Sto) : R S := match r with
    | .val (.bl true) => (fc env st3).bind fun z st4 => cmpD o2 y z st4
    | .val (.bl false) => .ok (.val (.bl false)) st3
    | _ => .bad
/-- the first link -/
theorem chain_of {o1 o2 : Cp} {x y : S} {A : List Addr} {st : Sto} {H : Hp} {v u : V} {env : Env} {σ : L2.St} {Q : VK} (R0 : StoreRel X.K cl A st H) (E0 : EnvRel X.K cl A st env σ H) (rx : sR X.K cl A st H x v) (ry : sR X.K cl A st H y u)
    (h : PG X.K cl (sR X.K cl) A st H ((cmpD o1 x y st).bind (chainK fc o2 env y)) Q (fun c d H' => W c d σ H')) :
    rCp X.K o1 v u H fun z H3 => ∃ k, z = .bl k ∧ (if k = true then tE X.K cl W fc σ H3 fun w' H4 => rCp X.K o2 u w' H4 Q else Q (.bl false) H3) := by
  refine cmpD_ok (E := fun _ _ _ => True) R0 rx ry ?_
  cases q : cmpD o1 x y st with
  | ok r st' =>
    obtain ⟨b, rfl, rfl⟩ := cmpD_bl q
    rw [q] at h
    intro A1 H1 z e1 R1 r1
    rw [sR_bl' r1]
    refine ⟨b, rfl, ?_⟩
    have h' := PG.ext e1 R0 R1 h
    cases b with
    | true =>
      rw [if_pos rfl]
      exact tG_bind R1 (E0.ext e1 R0.alen) h' fun A2 st2 H2 w' u' e2 R2 E2 r2 h2 => cmpD_ok R2 (sR_ext e2 R1 (sR_ext e1 R0 ry)) r2 h2
    | false =>
      rw [if_neg Bool.false_ne_true]
      exact PG.ok R1 (sR_bl _) h'
  | ex e st' => rw [q] at h; exact fun _ _ _ _ _ _ _ => trivial
  | bad => rw [q] at h; exact h
theorem nolast {p q : CmpOp} {b c : Expr} (h : q ≠ .In) (h2 : q ≠ .NotIn) : lastMarks [p, q] [b, c] = false := nomark c h h2
theorem s_chain {o1 o2 : Cp} {p q : CmpOp} (hp : p = pyCp o1) (hq : q = pyCp o2) (hu : X.A.units + 64 < cLine) (ha : PE X a (tE X.K cl W fa)) (hb : PE X b (tE X.K cl W fb)) (hc : PE X c (tE X.K cl W fc)) :
    PE X (.Compare a [p, q] [b, c] pos) (tE X.K cl W fun env st => (fa env st).bind fun x st1 => (fb env st1).bind fun y st2 => (cmpD o1 x y st2).bind (chainK fc o2 env y)) := by
  subst hp hq
  refine PE.mono (pe_chain (rCp_ok hu o1) (rCp_ok hu o2) ha hb hc (nolast (by cases o2 <;> decide) (by cases o2 <;> decide))) fun σ H Q ⟨A, st, env, R0, E0, h⟩ => ?_
  refine tG_bind R0 E0 h fun A1 st1 H1 x v e1 R1 E1 r1 h1 => ?_
  refine tG_bind R1 E1 h1 fun A2 st2 H2 y u e2 R2 E2 r2 h2 => ?_
  exact chain_of R2 E2 (sR_ext e2 R1 r1) r2 h2
theorem nonB_ok {x : S} {v : V} {A : List Addr} {st : Sto} {H : Hp} {K : PySem.W.Frag} (r : sR K cl A st H x v) : decide (v = .non) = nonB x := by
  have key : ∀ t : T, Rep K cl (Live A st) H t v → t ≠ .non → v ≠ .non := by
    rintro t h hn rfl
    cases t with
    | non => exact hn rfl
    | _ => unfold Rep at h; first | (cases h; done) | (obtain ⟨_, _, z, _⟩ := h; exact V.noConfusion z) | (obtain ⟨_, _, _, z, _⟩ := h; exact V.noConfusion z)
  cases x with
  | ref k => obtain ⟨_, _, rfl⟩ := r; rfl
  | val t =>
    cases t with
    | non => rw [sR_non' r]; rfl
    | _ => exact decide_eq_false (key _ r (by simp))
theorem s_isNon (ha : PE X a (tE X.K cl W fa)) {j pos'} : PE X (.Compare a [.Is] [.Constant .none j pos'] pos) (tE X.K cl W fun env st => (fa env st).bind fun x st1 => .ok (.val (.bl (nonB x))) st1) := by
  refine PE.mono (pe_cmp (pc_isN ha) rfl) fun σ H Q ⟨A, st, env, R0, E0, h⟩ => ?_
  refine tG_bind R0 E0 h fun A1 st1 H1 x v e1 R1 E1 r1 h1 => ?_
  rw [nonB_ok r1]
  exact PG.ok R1 (sR_bl _) h1
theorem s_notNon (ha : PE X a (tE X.K cl W fa)) {j pos'} : PE X (.Compare a [.IsNot] [.Constant .none j pos'] pos) (tE X.K cl W fun env st => (fa env st).bind fun x st1 => .ok (.val (.bl !nonB x)) st1) := by
  refine PE.mono (pe_cmp (pc_notN ha) rfl) fun σ H Q ⟨A, st, env, R0, E0, h⟩ => ?_
  refine tG_bind R0 E0 h fun A1 st1 H1 x v e1 R1 E1 r1 h1 => ?_
  rw [nonB_ok r1]
  exact PG.ok R1 (sR_bl _) h1
theorem t_isNon (ha : PE X a (tE X.K cl W fa)) {j pos'} : PT X (.Compare a [.Is] [.Constant .none j pos'] pos) (tT X.K cl W fun env st => ((fa env st).bind fun x st1 => .ok (.val (.bl (nonB x))) st1).bind truD) := by
  refine PT.mono (pt_cmp (pc_isN ha) rfl) fun σ H Q ⟨A, st, env, R0, E0, h⟩ => ?_
  have h : PG X.K cl bR A st H ((fa env st).bind fun x st1 => .ok (nonB x) st1) Q (fun c d H' => W c d σ H') := by
    simp only [bind_assoc] at h; exact h
  refine tG_bind R0 E0 h fun A1 st1 H1 x v e1 R1 E1 r1 h1 => ?_
  refine ⟨_, rfl, ?_⟩
  rw [nonB_ok r1]
  exact PG.ok (a := nonB x) R1 rfl h1
theorem t_notNon (ha : PE X a (tE X.K cl W fa)) {j pos'} : PT X (.Compare a [.IsNot] [.Constant .none j pos'] pos) (tT X.K cl W fun env st => ((fa env st).bind fun x st1 => .ok (.val (.bl !nonB x)) st1).bind truD) := by
  refine PT.mono (pt_cmp (pc_notN ha) rfl) fun σ H Q ⟨A, st, env, R0, E0, h⟩ => ?_
  have h : PG X.K cl bR A st H ((fa env st).bind fun x st1 => .ok (!nonB x) st1) Q (fun c d H' => W c d σ H') := by
    simp only [bind_assoc] at h; exact h
  refine tG_bind R0 E0 h fun A1 st1 H1 x v e1 R1 E1 r1 h1 => ?_
  refine ⟨_, rfl, ?_⟩
  rw [nonB_ok r1]
  exact PG.ok (a := !nonB x) R1 rfl h1
theorem dec_true (k : Bool) : decide (k = true) = k := by cases k <;> rfl
theorem s_isTru (ha : PE X a (tE X.K cl W fa)) {j pos'} : PE X (.Compare a [.Is] [.Constant (.bool true) j pos'] pos) (tE X.K cl W fun env st => (fa env st).bind fun x st1 => (blD x st1).bind fun b st2 => .ok (.val (.bl b)) st2) := by
  refine PE.mono (pe_cmpR op_isBl ha (pe_bl (b := true)) rfl) fun σ H Q ⟨A, st, env, R0, E0, h⟩ => ?_
  refine tG_bind R0 E0 h fun A1 st1 H1 x v e1 R1 E1 r1 h1 => ?_
  unfold blD at h1
  split at h1
  · rename_i k
    rw [sR_bl' r1]
    refine ⟨k, true, rfl, rfl, ?_⟩
    rw [dec_true]
    exact PG.ok R1 (sR_bl _) h1
  · exact h1.elim
theorem t_isTru (ha : PE X a (tE X.K cl W fa)) {j pos'} : PT X (.Compare a [.Is] [.Constant (.bool true) j pos'] pos) (tT X.K cl W fun env st => ((fa env st).bind fun x st1 => (blD x st1).bind fun b st2 => .ok (.val (.bl b)) st2).bind truD) := by
  refine PT.mono (pt_cmpR op_isBl ha (pe_bl (b := true)) rfl) fun σ H Q ⟨A, st, env, R0, E0, h⟩ => ?_
  simp only [bind_assoc] at h
  refine tG_bind R0 E0 h fun A1 st1 H1 x v e1 R1 E1 r1 h1 => ?_
  unfold blD at h1
  split at h1
  · rename_i k
    rw [sR_bl' r1]
    refine ⟨k, true, rfl, rfl, k, by rw [dec_true], ?_⟩
    exact PG.ok (a := k) R1 rfl h1
  · exact h1.elim
end
section
variable {X : Cx} {cl : Nat → Addr} {W : WX} {cb : CB} {a b c e : Expr} {es : List Expr} {pos : Pos} {fa fb fc : Env → Sto → R S} {fs : Env → Sto → R (List S)} {ft : Env → Sto → R Bool}

/-! ### and, or, not, if -/
theorem truD_bind {α : Type} {x : S} {st : Sto} {f : Bool → Sto → R α} : (truD x st).bind f = match view st x with
    | some t => match truT t with
      | some b => f b st
      | none => .bad
    | none => .bad := by
  unfold truD
  cases view st x with
  | none => rfl
  | some t =>
    dsimp only
    cases truT t with
    | none => rfl
    | some b => rfl
/-- a test by a value that any may be -/
theorem t_any (ha : PE X a (tE X.K cl W fa)) (he : ∀ whole, isTrue a X.env whole = (do let v ← whole; standAt a.pos; holding [v] (truthy v))) :
    PT X a (tT X.K cl W fun env st => (fa env st).bind truD) := by
  refine PT.mono (pt_truth ha he) fun σ H Q ⟨A, st, env, R0, E0, h⟩ => ?_
  refine tG_bind R0 E0 h fun A1 st1 H1 x v e1 R1 E1 r1 h1 => ?_
  exact truD_ok R1 r1 h1
/-- evaluate the first as a test, then the rest -/
theorem tT_bind {γ δ : Type} {rel' : List Addr → Sto → Hp → γ → δ → Prop} {A : List Addr} {st : Sto} {H : Hp} {env : Env} {σ : L2.St} {f : Env → Sto → R Bool} {g : Bool → Sto → R γ} {Q : δ → Hp → Prop} {Q' : Bool → Hp → Prop}
    (R0 : StoreRel X.K cl A st H) (E0 : EnvRel X.K cl A st env σ H) (h : PG X.K cl rel' A st H ((f env st).bind g) Q (fun c d H' => W c d σ H'))
    (k : ∀ A1 st1 H1 b, StoreRel X.K cl A1 st1 H1 → EnvRel X.K cl A1 st1 env σ H1 → PG X.K cl rel' A1 st1 H1 (g b st1) Q (fun c d H' => W c d σ H') → Q' b H1) : tT X.K cl W f σ H Q' :=
  tG_bind R0 E0 h fun A1 st1 H1 b b' _ R1 E1 r1 h1 => by
    have r1' : b' = b := r1
    subst r1'
    exact k A1 st1 H1 b' R1 E1 h1
theorem w_and1 (ha : PT X a (tT X.K cl W ft)) : PW X (.BoolOp .And [a] pos) (tT X.K cl W ft) := pw_and1 ha
theorem w_or1 (ha : PT X a (tT X.K cl W ft)) : PW X (.BoolOp .Or [a] pos) (tT X.K cl W ft) := pw_or1 ha
def andF (f g : Env → Sto → R Bool) : Env → Sto → R Bool := fun env st => (f env st).bind fun k st1 => if k = true then g env st1 else .ok false st1
def orF (f g : Env → Sto → R Bool) : Env → Sto → R Bool := fun env st => (f env st).bind fun k st1 => if k = true then .ok true st1 else g env st1
def notF (f : Env → Sto → R Bool) : Env → Sto → R Bool := fun env st => (f env st).bind fun k st1 => .ok (!k) st1
theorem w_and {rest : List Expr} {fr : Env → Sto → R Bool} (ha : PT X a (tT X.K cl W ft)) (hb : PW X (.BoolOp .And (b :: rest) pos) (tT X.K cl W fr)) : PW X (.BoolOp .And (a :: b :: rest) pos) (tT X.K cl W (andF ft fr)) := by
  refine PW.mono (pw_and ha hb) fun σ H Q ⟨A, st, env, R0, E0, h⟩ => ?_
  refine tT_bind R0 E0 h fun A1 st1 H1 k R1 E1 h1 => ?_
  cases k with
  | true => rw [if_pos rfl] at h1 ⊢; exact ⟨A1, st1, env, R1, E1, h1⟩
  | false => rw [if_neg Bool.false_ne_true] at h1 ⊢; exact PG.ok R1 rfl h1
theorem w_or {rest : List Expr} {fr : Env → Sto → R Bool} (ha : PT X a (tT X.K cl W ft)) (hb : PW X (.BoolOp .Or (b :: rest) pos) (tT X.K cl W fr)) : PW X (.BoolOp .Or (a :: b :: rest) pos) (tT X.K cl W (orF ft fr)) := by
  refine PW.mono (pw_or ha hb) fun σ H Q ⟨A, st, env, R0, E0, h⟩ => ?_
  refine tT_bind R0 E0 h fun A1 st1 H1 k R1 E1 h1 => ?_
  cases k with
  | true => rw [if_pos rfl] at h1 ⊢; exact PG.ok R1 rfl h1
  | false => rw [if_neg Bool.false_ne_true] at h1 ⊢; exact ⟨A1, st1, env, R1, E1, h1⟩
theorem t_not (ha : PT X a (tT X.K cl W ft)) : PT X (.UnaryOp .Not a pos) (tT X.K cl W (notF ft)) := by
  refine PT.mono (pt_not ha) fun σ H Q ⟨A, st, env, R0, E0, h⟩ => ?_
  exact tT_bind R0 E0 h fun A1 st1 H1 k R1 E1 h1 => PG.ok R1 rfl h1
/-- the evaluator's own and, or, not, tested -/
theorem tru_and (x y : E) (env : Env) (st : Sto) : (evE cb (.and_ x y) env st).bind truD = andF (fun env st => (evE cb x env st).bind truD) (fun env st => (evE cb y env st).bind truD) env st := by
  simp only [evE, bind_assoc, andF]
  congr 1
  funext v st1
  simp only [truD_bind]
  split
  · split
    · rename_i k _
      cases k <;> simp [R.bind, truD, view, truT]
    · rfl
  · rfl
theorem tru_or (x y : E) (env : Env) (st : Sto) : (evE cb (.or_ x y) env st).bind truD = orF (fun env st => (evE cb x env st).bind truD) (fun env st => (evE cb y env st).bind truD) env st := by
  simp only [evE, bind_assoc, orF]
  congr 1
  funext v st1
  simp only [truD_bind]
  split
  · split
    · rename_i k _
      cases k <;> simp [R.bind, truD, view, truT]
    · rfl
  · rfl
theorem tru_not (x : E) (env : Env) (st : Sto) : (evE cb (.not_ x) env st).bind truD = notF (fun env st => (evE cb x env st).bind truD) env st := by
  simp only [evE, bind_assoc, notF]
  congr 1
theorem s_one {op} (h : PE X a (tE X.K cl W fa)) : PE X (.BoolOp op [a] pos) (tE X.K cl W fa) := pe_one h
theorem s_and {rest : List Expr} (ha : PE X a (tE X.K cl W fa)) (hb : PE X (.BoolOp .And (b :: rest) pos) (tE X.K cl W fb)) :
    PE X (.BoolOp .And (a :: b :: rest) pos) (tE X.K cl W fun env st => (fa env st).bind fun x st1 => (blD x st1).bind fun k st2 => if k then fb env st2 else .ok (.val (.bl false)) st2) := by
  refine PE.mono (pe_and ha hb) fun σ H Q ⟨A, st, env, R0, E0, h⟩ => ?_
  refine tG_bind R0 E0 h fun A1 st1 H1 x v e1 R1 E1 r1 h1 => ?_
  unfold blD at h1
  split at h1
  · rename_i k
    rw [sR_bl' r1]
    refine ⟨k, rfl, ?_⟩
    cases k with
    | true => rw [if_pos rfl]; exact ⟨A1, st1, env, R1, E1, h1⟩
    | false => rw [if_neg Bool.false_ne_true]; exact PG.ok R1 (sR_bl _) h1
  · exact h1.elim
theorem s_or {rest : List Expr} (ha : PE X a (tE X.K cl W fa)) (hb : PE X (.BoolOp .Or (b :: rest) pos) (tE X.K cl W fb)) :
    PE X (.BoolOp .Or (a :: b :: rest) pos) (tE X.K cl W fun env st => (fa env st).bind fun x st1 => (blD x st1).bind fun k st2 => if k then .ok (.val (.bl true)) st2 else fb env st2) := by
  refine PE.mono (pe_or ha hb) fun σ H Q ⟨A, st, env, R0, E0, h⟩ => ?_
  refine tG_bind R0 E0 h fun A1 st1 H1 x v e1 R1 E1 r1 h1 => ?_
  unfold blD at h1
  split at h1
  · rename_i k
    rw [sR_bl' r1]
    refine ⟨k, rfl, ?_⟩
    cases k with
    | true => rw [if_pos rfl]; exact PG.ok R1 (sR_bl _) h1
    | false => rw [if_neg Bool.false_ne_true]; exact ⟨A1, st1, env, R1, E1, h1⟩
  · exact h1.elim
theorem s_not (ha : PE X a (tE X.K cl W fa)) : PE X (.UnaryOp .Not a pos) (tE X.K cl W fun env st => (fa env st).bind fun x st1 => (blD x st1).bind fun k st2 => .ok (.val (.bl !k)) st2) := by
  refine PE.mono (pe_not ha) fun σ H Q ⟨A, st, env, R0, E0, h⟩ => ?_
  refine tG_bind R0 E0 h fun A1 st1 H1 x v e1 R1 E1 r1 h1 => ?_
  unfold blD at h1
  split at h1
  · rename_i k
    rw [sR_bl' r1]
    exact ⟨k, rfl, PG.ok R1 (sR_bl _) h1⟩
  · exact h1.elim
theorem s_ife (hc : PT X c (tT X.K cl W ft)) (ha : PE X a (tE X.K cl W fa)) (hb : PE X b (tE X.K cl W fb)) :
    PE X (.IfExp c a b pos) (tE X.K cl W fun env st => (ft env st).bind fun k st2 => if k then fa env st2 else fb env st2) := by
  refine PE.mono (pe_ifExp hc ha hb) fun σ H Q ⟨A, st, env, R0, E0, h⟩ => ?_
  refine tT_bind R0 E0 h fun A1 st1 H1 k R1 E1 h1 => ?_
  cases k with
  | true => rw [if_pos rfl] at h1 ⊢; exact ⟨A1, st1, env, R1, E1, h1⟩
  | false => rw [if_neg Bool.false_ne_true] at h1 ⊢; exact ⟨A1, st1, env, R1, E1, h1⟩

/-! ### argument lists, displays, calls -/
theorem s_nil : PA X [] (tA X.K cl W fun _ st => .ok [] st) := by
  refine PA.mono pa_nil fun σ H Q ⟨A, st, env, R0, E0, h⟩ => ?_
  exact PG.ok (a := ([] : List S)) R0 (show lR X.K cl A st H [] [] from .nil) h
theorem s_cons (ha : PE X e (tE X.K cl W fa)) (hr : PA X es (tA X.K cl W fs)) (hs : starEach (e :: es) X.env = (false, eval e X.env) :: starEach es X.env) :
    PA X (e :: es) (tA X.K cl W fun env st => (fa env st).bind fun x st1 => (fs env st1).bind fun xs st2 => .ok (x :: xs) st2) := by
  refine PA.mono (pa_cons ha hr hs) fun σ H Q ⟨A, st, env, R0, E0, h⟩ => ?_
  refine tG_bind R0 E0 h fun A1 st1 H1 x v e1 R1 E1 r1 h1 => ?_
  refine tG_bind R1 E1 h1 fun A2 st2 H2 ss vs e2 R2 E2 r2 h2 => ?_
  exact PG.ok (a := x :: ss) R2 (show lR X.K cl A2 st2 H2 (x :: ss) (v :: vs) from .cons (sR_ext e2 R1 r1) r2) h2
def lstF (fs : Env → Sto → R (List S)) : Env → Sto → R S := fun env st => (fs env st).bind fun ss st1 => match freezeL st1 ss with
    | some (ts, st2) => if ts.length ≤ lim then newC st2 (.lst ts) else .bad
    | none => .bad
def tupF (fs : Env → Sto → R (List S)) : Env → Sto → R S := fun env st => (fs env st).bind fun ss st1 => match freezeL st1 ss with
    | some (ts, st2) => if ts.length ≤ lim then .ok (.val (.tup ts)) st2 else .bad
    | none => .bad
theorem s_lst (h : PA X es (tA X.K cl W fs)) : PE X (.List es pos) (tE X.K cl W (lstF fs)) := by
  refine PE.mono (pe_lst h) fun σ H Q ⟨A, st, env, R0, E0, h⟩ => ?_
  refine tG_bind R0 E0 h fun A1 st1 H1 ss vs e1 R1 E1 r1 h1 => ?_
  split at h1
  · rename_i ts st2 ef
    obtain ⟨R2, l2, e2⟩ := freezeL_rel R1 r1 ef
    have h2 := PG.ext e2 R1 R2 h1
    split at h2
    · rename_i hz
      exact ⟨by rw [repL_len l2, sl_eq]; exact hz, fun p hp => PG.newL R2 hp rfl l2 h2⟩
    · exact h2.elim
  · exact h1.elim
theorem s_tup {k} (h : PA X es (tA X.K cl W fs)) : PE X (.Tuple es k pos) (tE X.K cl W (tupF fs)) := by
  refine PE.mono (pe_tup h) fun σ H Q ⟨A, st, env, R0, E0, h⟩ => ?_
  refine tG_bind R0 E0 h fun A1 st1 H1 ss vs e1 R1 E1 r1 h1 => ?_
  split at h1
  · rename_i ts st2 ef
    obtain ⟨R2, l2, e2⟩ := freezeL_rel R1 r1 ef
    have h2 := PG.ext e2 R1 R2 h1
    split at h2
    · rename_i hz
      exact ⟨by rw [repL_len l2, sl_eq]; exact hz, fun p hp => PG.tup R2 hp l2 h2⟩
    · exact h2.elim
  · exact h1.elim
theorem s_idx (ha : PE X a (tE X.K cl W fa)) (hb : PE X b (tE X.K cl W fb)) (hs : PlainIx b) : PE X (.Subscript a b pos) (tE X.K cl W fun env st => (fa env st).bind fun x st1 => (fb env st1).bind fun y st2 => idxD x y st2) := by
  refine PE.mono (pe_ix ix_seq ha hb hs) fun σ H Q ⟨A, st, env, R0, E0, h⟩ => ?_
  refine tG_bind R0 E0 h fun A1 st1 H1 x v e1 R1 E1 r1 h1 => ?_
  refine tG_bind R1 E1 h1 fun A2 st2 H2 y u e2 R2 E2 r2 h2 => ?_
  exact idxD_ok R2 (sR_ext e2 R1 r1) r2 h2
/-- a slice's part -/
def oR : List Addr → Sto → Hp → Option Int → Option Int → Prop := fun _ _ _ b c => c = b
abbrev tO (K : PySem.W.Frag) (cl : Nat → Addr) (W : WX) (f : Env → Sto → R (Option Int)) : TO := tG K cl oR W f
theorem PO.mono {e : Option Expr} {t t' : TO} (h : PO X e t) (m : ∀ σ H Q, t' σ H Q → t σ H Q) : PO X e t' := ⟨fun pins s σ H Q I w => h.run pins s σ H Q I (m σ H Q w)⟩
theorem p_no : PO X none (tO X.K cl W fun _ st => .ok none st) := PO.mono po_none fun σ H Q ⟨A, st, env, R0, E0, h⟩ => PG.ok (a := (none : Option Int)) R0 rfl h
theorem p_so (ha : PE X a (tE X.K cl W fa)) : PO X (some a) (tO X.K cl W fun env st => (fa env st).bind bndD) := PO.mono (po_some ha) fun σ H Q ⟨A, st, env, R0, E0, h⟩ => by
  refine tG_bind R0 E0 h fun A1 st1 H1 x v e1 R1 E1 r1 h1 => ?_
  unfold bndD at h1
  split at h1
  · rename_i i
    rw [sR_int' r1]
    exact ⟨i, rfl, PG.ok (a := some i) R1 rfl h1⟩
  · exact h1.elim
theorem s_slc {lo hi : Option Expr} {fl fh : Env → Sto → R (Option Int)} {p2 : Pos} (ha : PE X a (tE X.K cl W fa)) (hl : PO X lo (tO X.K cl W fl)) (hh : PO X hi (tO X.K cl W fh)) :
    PE X (.Subscript a (.Slice lo hi none p2) pos) (tE X.K cl W fun env st => (fa env st).bind fun x st1 => (fl env st1).bind fun l st2 => (fh env st2).bind fun h st3 => slcD x l h st3) := by
  refine PE.mono (pe_slice sl_D ha hl hh) fun σ H Q ⟨A, st, env, R0, E0, h⟩ => ?_
  refine tG_bind R0 E0 h fun A1 st1 H1 x v e1 R1 E1 r1 h1 => ?_
  refine tG_bind R1 E1 h1 fun A2 st2 H2 l l' e2 R2 E2 r2 h2 => ?_
  refine tG_bind R2 E2 h2 fun A3 st3 H3 u u' e3 R3 E3 r3 h3 => ?_
  have el : l' = l := r2
  have eu : u' = u := r3
  subst el eu
  have rx := sR_ext e3 R2 (sR_ext e2 R1 r1)
  unfold slcD at h3
  split at h3
  · rename_i ts ev
    obtain ⟨a, vs, rfl, q, l⟩ := list_rel R3 rx ev
    exact .inl ⟨a, vs, rfl, q, fun p hp => PG.newL R3 hp rfl (cutV_of l _ _) h3⟩
  · rename_i ts ev
    obtain ⟨a, vs, rfl, q, l⟩ := tup_rel R3 rx ev
    split at h3
    · exact h3.elim
    · rename_i hn
      exact .inr ⟨a, vs, rfl, q, by rw [repL_len l]; exact hn, fun p hp => PG.tup R3 hp (cutV_of l _ _) h3⟩
  · exact h3.elim
/-- a built-in by its name -/
theorem s_bi {bi : Bi} {x : Str} {p : Pos} (hc : X.calm = true) (he : PE X (.Call (.Name x p) es [] pos) (tCB (rBi X.K bi) (tA X.K cl W fs))) :
    PE X (.Call (.Name x p) es [] pos) (tE X.K cl W fun env st => (fs env st).bind fun ss st1 => biD bi ss st1) := by
  refine PE.mono he fun σ H Q ⟨A, st, env, R0, E0, h⟩ => ?_
  exact tG_bind R0 E0 h fun A1 st1 H1 ss vs e1 R1 E1 r1 h1 => biD_ok R1 r1 h1
/-- isinstance(a, T) -/
theorem s_isi1 {k : Kd} {p p2 : Pos} (hg : Gl X "isinstance") (hm : X.mg "isinstance" = none) (hg2 : Gl X (Str.ofString (kdN k))) (hm2 : X.mg (Str.ofString (kdN k)) = none) (hb2 : bootBuiltins (Str.ofString (kdN k)) = some (.type (kdN k)))
    (hn2 : Str.ofString (kdN k) ≠ "__name__") (hd2 : (Str.ofString (kdN k) == ("__debug__" : Str)) = false)
    (ha : PE X a (tE X.K cl W fa)) (hs : starEach (a :: [.Name (Str.ofString (kdN k)) p2]) X.env = (false, eval a X.env) :: starEach [.Name (Str.ofString (kdN k)) p2] X.env) :
    PE X (.Call (.Name "isinstance" p) [a, .Name (Str.ofString (kdN k)) p2] [] pos) (tE X.K cl W fun env st => (fa env st).bind fun x st1 => isiD [k] x st1) := by
  have h2 : PE X (.Name (Str.ofString (kdN k)) p2) (tC (.ty (kdN k))) := pe_bltn (u := .type (kdN k)) hg2 hm2 hb2 rfl hn2 hd2
  refine PE.mono (pe_callB call_isi hg hm (by decide +kernel) (pa_cons ha (pa_cons h2 pa_nil rfl) hs) (he := hs) (hpl := rfl)) fun σ H Q ⟨A, st, env, R0, E0, h⟩ => ?_
  refine tG_bind R0 E0 h fun A1 st1 H1 x v e1 R1 E1 r1 h1 => ?_
  unfold isiD at h1
  split at h1
  · rename_i t ev
    split at h1
    · rename_i own eo
      refine ⟨v, .ty (kdN k), .type (tyN t), .type (kdN k), own.contains k, rfl, .ty _, tyX_of R1 r1 ev eo, kit_one eo k, ?_⟩
      have := PG.ok R1 (sR_bl _) h1
      simpa using this
    · exact h1.elim
  · exact h1.elim
/-- a written tuple of kinds -/
theorem kinds_pa {A0 : List Kd} : ∀ {ks : List Kd} {xs : List Expr}, xs.length = ks.length → (∀ (i : Nat) (x : Expr) (k : Kd), xs[i]? = some x → ks[i]? = some k → ∃ p, x = .Name (Str.ofString (kdN k)) p) →
    (∀ k ∈ ks, Gl X (Str.ofString (kdN k))) → (∀ k : Kd, X.mg (Str.ofString (kdN k)) = none) → (∀ k : Kd, bootBuiltins (Str.ofString (kdN k)) = some (.type (kdN k))) → (∀ k : Kd, Str.ofString (kdN k) ≠ "__name__") → (∀ k : Kd, (Str.ofString (kdN k) == ("__debug__" : Str)) = false) →
    PA X xs (fun _ H Q => Q (ks.map fun k => V.ty (kdN k)) H)
  | [], xs, hl, hx, hg, hm, hb, hn, hd => by
    cases xs with
    | nil => exact PA.mono pa_nil fun σ H Q h => h
    | cons x xs => cases hl
  | k :: ks, xs, hl, hx, hg, hm, hb, hn, hd => by
    cases xs with
    | nil => cases hl
    | cons x xs =>
      obtain ⟨p, rfl⟩ := hx 0 x k rfl rfl
      have h2 : PE X (.Name (Str.ofString (kdN k)) p) (tC (.ty (kdN k))) := pe_bltn (u := .type (kdN k)) (hg k List.mem_cons_self) (hm k) (hb k) rfl (hn k) (hd k)
      have ih := kinds_pa (A0 := A0) (ks := ks) (xs := xs) (by simpa using hl) (fun i x k h1 h2 => hx (i + 1) x k (by simpa using h1) (by simpa using h2)) (fun k hk => hg k (List.mem_cons_of_mem _ hk)) hm hb hn hd
      exact PA.mono (pa_cons h2 ih rfl) fun σ H Q h => h
theorem kinds_cls : ∀ ks : List Kd, Paired ClsV (ks.map fun k => V.ty (kdN k)) (ks.map fun k => Value.type (kdN k))
  | [] => .nil
  | k :: ks => .cons (.ty _) (kinds_cls ks)
theorem s_isiT {ks : List Kd} {xs : List Expr} {kt : Nat} {p p2 : Pos} (hl : xs.length = ks.length) (hx : ∀ (i : Nat) (x : Expr) (k : Kd), xs[i]? = some x → ks[i]? = some k → ∃ p, x = .Name (Str.ofString (kdN k)) p) (hg : Gl X "isinstance") (hm : X.mg "isinstance" = none)
    (hgs : ∀ k ∈ ks, Gl X (Str.ofString (kdN k))) (hm2 : ∀ k : Kd, X.mg (Str.ofString (kdN k)) = none) (hb2 : ∀ k : Kd, bootBuiltins (Str.ofString (kdN k)) = some (.type (kdN k))) (hn2 : ∀ k : Kd, Str.ofString (kdN k) ≠ "__name__") (hd2 : ∀ k : Kd, (Str.ofString (kdN k) == ("__debug__" : Str)) = false)
    (hz : ks.length ≤ 16) (ha : PE X a (tE X.K cl W fa)) (hs : starEach (a :: [.Tuple xs kt p2]) X.env = (false, eval a X.env) :: starEach [.Tuple xs kt p2] X.env) :
    PE X (.Call (.Name "isinstance" p) [a, .Tuple xs kt p2] [] pos) (tE X.K cl W fun env st => (fa env st).bind fun x st1 => isiD ks x st1) := by
  have h2 := pe_tup (x1 := kt) (pos := p2) (kinds_pa (A0 := ks) hl hx hgs hm2 hb2 hn2 hd2)
  refine PE.mono (pe_callB call_isiT hg hm (by decide +kernel) (pa_cons ha (pa_cons h2 pa_nil rfl) hs) (he := hs) (hpl := rfl)) fun σ H Q ⟨A, st, env, R0, E0, h⟩ => ?_
  refine tG_bind R0 E0 h fun A1 st1 H1 x v e1 R1 E1 r1 h1 => ?_
  unfold isiD at h1
  split at h1
  · rename_i t ev
    split at h1
    · rename_i own eo
      refine ⟨by rw [List.length_map, sl_eq]; exact Nat.le_trans hz (by decide), fun q hq => ?_⟩
      have e2 : Ext A1 st1 H1 A1 st1 (upd H1 q (.tup (ks.map fun k => V.ty (kdN k)))) := ⟨fun _ _ h => h, Nat.le_refl _, fun _ _ h => h, fun k a h1 h2 => absurd (get_lt h2) (by rw [R1.alen]; omega), fun a o' h' _ => by rw [upd_ne (ne_of_none h' hq)]; exact h', fun a h' => by
        by_cases e : a = q
        · subst e; exact absurd hq h'
        · rw [upd_ne e]; exact h'⟩
      have nl : ¬ Live A1 st1 q := by
        rintro ⟨k, c, h1, h2⟩
        exact (R1.live k q c h2 h1).some hq
      have kk := e2.keeps (H := H1) R1.alen
      have R2 : StoreRel X.K cl A1 st1 (upd H1 q (.tup (ks.map fun k => V.ty (kdN k)))) := ⟨R1.alen, R1.inj, fun j b c h1 h2 => (R1.live j b c h1 h2).mono (upd_ne fun z => nl (by rw [← z]; exact ⟨j, c, h2, h1⟩)) kk, fun j b t h1 h2 => Rep.keeps kk _ _ (R1.frz j b t h1 h2)⟩
      refine ⟨v, q, ks.map (fun k => V.ty (kdN k)), .type (tyN t), ks.map (fun k => .type (kdN k)), ks.any fun k => own.contains k, rfl, upd_same, ?_, tyX_of R2 (sR_ext e2 R1 r1) ev eo, kit_any eo ks, PG.ok R2 (sR_bl _) (PG.ext e2 R1 R2 h1)⟩
      exact kinds_cls ks
    · exact h1.elim
  · exact h1.elim
theorem t_chain {o1 o2 : Cp} {p q : CmpOp} (hp : p = pyCp o1) (hq : q = pyCp o2) (hu : X.A.units + 64 < cLine) (ha : PE X a (tE X.K cl W fa)) (hb : PE X b (tE X.K cl W fb)) (hc : PE X c (tE X.K cl W fc)) :
    PT X (.Compare a [p, q] [b, c] pos) (tT X.K cl W fun env st => ((fa env st).bind fun x st1 => (fb env st1).bind fun y st2 => (cmpD o1 x y st2).bind (chainK fc o2 env y)).bind truD) := by
  subst hp hq
  refine PT.mono (pt_chain (rCp_ok hu o1) (rCp_ok hu o2) ha hb hc (nolast (by cases o2 <;> decide) (by cases o2 <;> decide))) fun σ H Q ⟨A, st, env, R0, E0, h⟩ => ?_
  simp only [bind_assoc] at h
  refine tG_bind R0 E0 h fun A1 st1 H1 x v e1 R1 E1 r1 h1 => ?_
  refine tG_bind R1 E1 h1 fun A2 st2 H2 y u e2 R2 E2 r2 h2 => ?_
  have ry := r2
  have rx := sR_ext e2 R1 r1
  refine cmpD_ok (E := fun _ _ _ => True) R2 rx ry ?_
  cases q : cmpD o1 x y st2 with
  | ok r st' =>
    obtain ⟨b, rfl, rfl⟩ := cmpD_bl q
    rw [q] at h2
    intro A3 H3 z e3 R3 r3
    rw [sR_bl' r3]
    refine ⟨b, rfl, ?_⟩
    have h' := PG.ext e3 R2 R3 h2
    cases b with
    | true =>
      rw [if_pos rfl]
      have h'' : PG X.K cl bR A3 st' H3 ((fc env st').bind fun z st4 => (cmpD o2 y z st4).bind truD) Q (fun c d H' => W c d σ H') := by
        have : (R.ok (S.val (T.bl true)) st').bind (fun a st => (chainK fc o2 env y a st).bind truD) = (fc env st').bind fun z st4 => (cmpD o2 y z st4).bind truD := by
          simp only [R.bind, chainK]
          exact bind_assoc _ _ _
        rw [← this]; exact h'
      exact tG_bind R3 (E2.ext e3 R2.alen) h'' fun A4 st4 H4 w' u' e4 R4 E4 r4 h4 => cmp_test R4 (sR_ext e4 R3 (sR_ext e3 R2 ry)) r4 h4
    | false =>
      rw [if_neg Bool.false_ne_true]
      exact ⟨false, rfl, PG.ok (a := false) R3 rfl h'⟩
  | ex e st' => rw [q] at h2; exact fun _ _ _ _ _ _ _ => trivial
  | bad => rw [q] at h2; exact h2
end
end Dy

set_option Elab.async false
set_option linter.all false
set_option maxRecDepth 100000
set_option maxHeartbeats 1000000
set_option autoImplicit false
/-! Dy, part C: targets, sources, calls, methods, comprehensions. -/
namespace Dy
open PySem PySem.Spec L2 PyProof.Rows
/-! ### targets -/
mutual
def slots : G → List Nat
  | .nm i => [i]
  | .tup gs => slotsL gs
def slotsL : List G → List Nat
  | [] => []
  | g :: gs => slots g ++ slotsL gs
end
/-- only the slots of l may differ -/
def OnlyAt (l : List Nat) (σ σ' : L2.St) : Prop := σ'.length = σ.length ∧ ∀ j, j ∉ l → σ'[j]? = σ[j]?
theorem OnlyAt.trans {l l' : List Nat} {σ σ' σ'' : L2.St} (a : OnlyAt l σ σ') (b : OnlyAt l' σ' σ'') : OnlyAt (l ++ l') σ σ'' :=
  ⟨b.1.trans a.1, fun j h => by rw [List.mem_append, not_or] at h; exact (b.2 j h.2).trans (a.2 j h.1)⟩
theorem wipe_at : ∀ (vs : List Nat) (σ : L2.St) (j : Nat), (wipe σ vs)[j]? = if j ∈ vs ∧ j < σ.length then some none else σ[j]?
  | [], σ, j => by simp [wipe]
  | v :: vs, σ, j => by
    unfold wipe
    by_cases h : v = j
    · subst h
      by_cases hl : v < σ.length
      · rw [List.getElem?_set_self (by rw [wipe_length]; exact hl), if_pos ⟨by simp, hl⟩]
      · rw [List.getElem?_eq_none (by rw [List.length_set, wipe_length]; omega), if_neg (fun z => hl z.2), List.getElem?_eq_none (by omega)]
    · rw [List.getElem?_set_ne h, wipe_at vs σ j]
      have e : j ≠ v := fun z => h z.symm
      simp [e]
theorem OnlyAt.wipe {l vs : List Nat} {σ σ' : L2.St} (h : OnlyAt l σ σ') (s : ∀ j ∈ l, j ∈ vs) : wipe σ' vs = wipe σ vs := by
  apply List.ext_getElem?
  intro j
  rw [wipe_at, wipe_at, h.1]
  by_cases hj : j ∈ vs ∧ j < σ.length
  · rw [if_pos hj, if_pos hj]
  · rw [if_neg hj, if_neg hj]
    by_cases hl : j < σ.length
    · exact h.2 j fun z => hj ⟨s j z, hl⟩
    · rw [List.getElem?_eq_none (by rw [h.1]; omega), List.getElem?_eq_none (by omega)]
section
variable {K : PySem.W.Frag} {cl : Nat → Addr} {A A' : List Addr} {st st' : Sto} {H H' : Hp} {env : Env} {σ : L2.St} {W : WX}
theorem EnvRel.set {i : Nat} {s : S} {v : V} (E0 : EnvRel K cl A st env σ H) (r : sR K cl A st H s v) : EnvRel K cl A st (env.set i (some s)) (σ.set i (some v)) H := by
  refine ⟨by rw [List.length_set, List.length_set]; exact E0.len, fun j s' h => ?_⟩
  by_cases e : i = j
  · subst e
    have hi : i < env.length := by
      have := get_lt h
      simpa using this
    rw [List.getElem?_set_self hi] at h
    cases h
    exact ⟨v, List.getElem?_set_self (by rw [← E0.len]; exact hi), r⟩
  · rw [List.getElem?_set_ne e] at h ⊢
    exact E0.at_ j s' h
theorem wipeE_length (env : Env) : ∀ vs : List Nat, (wipeE env vs).length = env.length
  | [] => rfl
  | v :: vs => by unfold wipeE; rw [List.length_set, wipeE_length env vs]
theorem EnvRel.wipe (E0 : EnvRel K cl A st env σ H) : ∀ vs : List Nat, EnvRel K cl A st (wipeE env vs) (wipe σ vs) H
  | [] => E0
  | v :: vs => by
    have ih := EnvRel.wipe E0 vs
    unfold wipeE L2.wipe
    refine ⟨by rw [List.length_set, List.length_set]; exact ih.len, fun j s h => ?_⟩
    by_cases e : v = j
    · subst e
      rw [List.getElem?_set] at h
      simp at h
    · rw [List.getElem?_set_ne e] at h ⊢
      exact ih.at_ j s h
def gD (K : PySem.W.Frag) (cl : Nat → Addr) (g : G) : TG := fun v σ H Q => ∃ A st s env env', StoreRel K cl A st H ∧ EnvRel K cl A st env σ H ∧ sR K cl A st H s v ∧ asgG g s st env = some env' ∧
  ∀ σ', EnvRel K cl A st env' σ' H → OnlyAt (slots g) σ σ' → Q σ' H
def gsD (K : PySem.W.Frag) (cl : Nat → Addr) (gs : List G) : TGs := fun vs σ H Q => ∃ A st ts env env', StoreRel K cl A st H ∧ EnvRel K cl A st env σ H ∧ RepL K cl (Live A st) H ts vs ∧ asgGs gs ts st env = some env' ∧
  ∀ σ', EnvRel K cl A st env' σ' H → OnlyAt (slotsL gs) σ σ' → Q σ' H
end
section
variable {X : Cx} {cl : Nat → Addr} {W : WX} {cb : CB} {a b c e : Expr} {es : List Expr} {pos : Pos} {fa fb fc : Env → Sto → R S} {fs : Env → Sto → R (List S)} {ft : Env → Sto → R Bool}
theorem PGm {tg : Expr} {t t' : TG} (h : L2.PG X tg t) (m : ∀ v σ H Q, t' v σ H Q → t v σ H Q) : L2.PG X tg t' := ⟨fun pins s σ H v u Q I r w => h.run pins s σ H v u Q I r (m v σ H Q w)⟩
theorem PGor {tg : Expr} {t t' : TG} (h : L2.PG X tg t) (h' : L2.PG X tg t') : L2.PG X tg (fun v σ H Q => t v σ H Q ∨ t' v σ H Q) := ⟨fun pins s σ H v u Q I r w => w.elim (h.run pins s σ H v u Q I r) (h'.run pins s σ H v u Q I r)⟩
theorem g_nm {i : Nat} {x : Str} (hN : X.N.Nodup) (hi : X.N[i]? = some x) (hx : Loc X.env.scope x) (hf : X.fn x = true ∨ X.env.scope.names.lookup x = some .local) : L2.PG X (.Name x pos) (gD X.K cl (.nm i)) := by
  refine PGm (pg_name hN hi hx hf) fun v σ H Q ⟨A, st, s, env, env', R0, E0, r, e, k⟩ => ?_
  simp only [asgG] at e
  cases e
  refine k _ (E0.set r) ⟨by rw [List.length_set], fun j hj => ?_⟩
  rw [List.getElem?_set_ne (fun z => hj (by simp [slots, z]))]
structure PGsD (X : Cx) (cl : Nat → Addr) (ts : List Expr) (gs : List G) : Prop where
  run : PGs X ts (gsD X.K cl gs)
  len : ts.length = gs.length
theorem g_nil : PGsD X cl [] [] := ⟨⟨fun pins s σ H vs us Q I r w => by
  obtain ⟨A, st, ts, env, env', R0, E0, r0, e, k⟩ := w
  cases ts with
  | nil =>
    unfold RepL at r0
    subst r0
    cases r
    simp only [asgGs] at e
    cases e
    exact (pgs_nil (X := X)).run pins s σ H [] [] Q I .nil ⟨rfl, k σ E0 ⟨rfl, fun _ _ => rfl⟩⟩
  | cons t ts => simp only [asgGs] at e; cases e⟩, rfl⟩
theorem g_cons {tg : Expr} {ts : List Expr} {g : G} {gs : List G} (h1 : L2.PG X tg (gD X.K cl g)) (h2 : PGsD X cl ts gs) (hs : (assignEach (tg :: ts) X.env).map (·.2) = assign tg X.env :: (assignEach ts X.env).map (·.2)) :
    PGsD X cl (tg :: ts) (g :: gs) := ⟨⟨fun pins s σ H vs us Q I r w => by
  refine (pgs_cons h1 h2.run hs).run pins s σ H vs us Q I r ?_
  obtain ⟨A, st, xs, env, env', R0, E0, r0, e, k⟩ := w
  cases xs with
  | nil => simp only [asgGs] at e; cases e
  | cons t xs =>
    unfold RepL at r0
    obtain ⟨v, vr, rfl, q1, q2⟩ := r0
    simp only [asgGs] at e
    split at e
    · rename_i env1 e1
      refine ⟨v, vr, rfl, A, st, .val t, env, env1, R0, E0, q1, e1, fun σ1 E1 o1 => ?_⟩
      exact ⟨A, st, xs, env1, env', R0, E1, q2, e, fun σ2 E2 o2 => k σ2 E2 (o1.trans o2)⟩
    · cases e⟩, by simp [h2.len]⟩
theorem g_tup {ts : List Expr} {gs : List G} {k : Nat} (hc : X.calm = true) (h : PGsD X cl ts gs) (hn : (assignEach ts X.env).length = ts.length) (hst : (assignEach ts X.env).findIdx? (·.1) = none) : L2.PG X (.Tuple ts k pos) (gD X.K cl (.tup gs)) := by
  refine PGm (PGor (pg_tup hc h.run hn hst) (pg_lst hc h.run hn hst)) fun v σ H Q ⟨A, st, s, env, env', R0, E0, r, e, q⟩ => ?_
  simp only [asgG] at e
  split at e
  · rename_i xs ev
    split at e
    · rename_i hl
      obtain ⟨a, vs, rfl, sq, l⟩ := tup_rel R0 r ev
      exact .inl ⟨a, vs, rfl, sq, by rw [repL_len l, hl, h.len], A, st, xs, env, env', R0, E0, l, e, q⟩
    · cases e
  · rename_i xs ev
    split at e
    · rename_i hl
      obtain ⟨a, vs, rfl, sq, l⟩ := list_rel R0 r ev
      exact .inr ⟨a, vs, rfl, sq, by rw [repL_len l, hl, h.len], A, st, xs, env, env', R0, E0, l, e, q⟩
    · cases e
  · cases e

/-! ### sources -/
def SrcRel (K : PySem.W.Frag) (cl : Nat → Addr) : List Addr → Sto → Hp → Src → L2.It → Prop := fun A st H src J =>
  ∀ A1 st1 H1, Ext A st H A1 st1 H1 → StoreRel K cl A1 st1 H1 → ∀ i,
    (∀ x, src.get st1 i = some (some x) → J.go i H1 ∧ ∀ y H', J.yld i H1 y H' → H' = H1 ∧ sR K cl A1 st1 H1 x y) ∧ (src.get st1 i = some none → J.stop i H1)
abbrev tI (K : PySem.W.Frag) (cl : Nat → Addr) (W : WX) (f : Env → Sto → R Src) : TI := tG K cl (SrcRel K cl) W f
theorem PIm {tg it : Expr} {t t' : TI} (h : PI X tg it t) (m : ∀ σ H R, t' σ H R → t σ H R) : PI X tg it t' := ⟨fun pins s σ H R I w => h.run pins s σ H R I (m σ H R w)⟩
theorem PIor {tg it : Expr} {t t' : TI} (h : PI X tg it t) (h' : PI X tg it t') : PI X tg it (fun σ H R => t σ H R ∨ t' σ H R) := ⟨fun pins s σ H R I w => w.elim (h.run pins s σ H R I) (h'.run pins s σ H R I)⟩
theorem src_rng {A : List Addr} {st : Sto} {H : Hp} {K : PySem.W.Frag} (lo : Int) (n : Nat) : SrcRel K cl A st H (.rng lo n) (Itr lo n) := fun A1 st1 H1 e1 R1 i => by
  constructor
  · intro x hx
    simp only [Src.get, Option.some.injEq] at hx
    split at hx
    · rename_i hi
      cases hx
      refine ⟨hi, fun y H' hy => ?_⟩
      obtain ⟨e1, e2⟩ := hy
      subst e1 e2
      exact ⟨rfl, sR_int _⟩
    · cases hx
  · intro hx
    simp only [Src.get, Option.some.injEq] at hx
    split at hx
    · cases hx
    · rename_i hi
      exact Nat.le_of_not_lt hi
theorem rngD_ok {lo hi : Int} {A : List Addr} {st : Sto} {H : Hp} {K : PySem.W.Frag} {Q : L2.It → Hp → Prop} {E : XK} (R0 : StoreRel K cl A st H) (h : PG K cl (SrcRel K cl) A st H (rngD lo hi st) Q E) :
    (-(2 ^ 62) ≤ lo ∧ lo < 2 ^ 62 ∧ -(2 ^ 62) ≤ hi ∧ hi < 2 ^ 62) ∧ Q (Itr lo (hi - lo).toNat) H := by
  unfold rngD at h
  split at h
  · rename_i hb
    exact ⟨hb, PG.ok (a := Src.rng lo (hi - lo).toNat) R0 (src_rng _ _) h⟩
  · exact h.elim
theorem i_rng1 {tg : Expr} {p : Pos} (hg : Gl X "range") (hm : X.mg "range" = none) (ha : PE X a (tE X.K cl W fa)) (hs : ∀ es, starEach (a :: es) X.env = (false, eval a X.env) :: starEach es X.env) :
    PI X tg (.Call (.Name "range" p) [a] [] pos) (tI X.K cl W fun env st => (fa env st).bind fun x st1 => match x with
    | .val (.int j) => rngD 0 j st1
    | _ => .bad) := by
  refine PIm (pi_range1 hg hm (pa_cons ha pa_nil (hs [])) (hs [])) fun σ H Q ⟨A, st, env, R0, E0, h⟩ => ?_
  refine tG_bind R0 E0 h fun A1 st1 H1 x v e1 R1 E1 r1 h1 => ?_
  split at h1
  · rename_i j
    rw [sR_int' r1]
    obtain ⟨hb, q⟩ := rngD_ok R1 h1
    rw [Int.sub_zero] at q
    exact ⟨j, rfl, hb.2.2.1, hb.2.2.2, q⟩
  · exact h1.elim
theorem i_rng2 {tg : Expr} {p : Pos} (hg : Gl X "range") (hm : X.mg "range" = none) (ha : PE X a (tE X.K cl W fa)) (hb : PE X b (tE X.K cl W fb)) (hs : ∀ es, starEach (a :: es) X.env = (false, eval a X.env) :: starEach es X.env)
    (hs2 : ∀ es, starEach (b :: es) X.env = (false, eval b X.env) :: starEach es X.env) :
    PI X tg (.Call (.Name "range" p) [a, b] [] pos) (tI X.K cl W fun env st => (fa env st).bind fun x st1 => (fb env st1).bind fun y st2 => match x, y with
    | .val (.int i), .val (.int j) => rngD i j st2
    | _, _ => .bad) := by
  refine PIm (pi_range2 hg hm (pa_cons ha (pa_cons hb pa_nil (hs2 [])) (hs _)) ((hs _).trans (by rw [hs2]; rfl)) (hs2 [])) fun σ H Q ⟨A, st, env, R0, E0, h⟩ => ?_
  refine tG_bind R0 E0 h fun A1 st1 H1 x v e1 R1 E1 r1 h1 => ?_
  refine tG_bind R1 E1 h1 fun A2 st2 H2 y u e2 R2 E2 r2 h2 => ?_
  split at h2
  · rename_i i j
    rw [sR_int' r1, sR_int' r2]
    obtain ⟨hb, q⟩ := rngD_ok R2 h2
    exact ⟨i, j, rfl, hb, q⟩
  · exact h2.elim
theorem src_lst {A : List Addr} {st : Sto} {H : Hp} {K : PySem.W.Frag} {x : S} {ad : Addr} (R1 : StoreRel K cl A st H) (r1 : sR K cl A st H x (.ref ad)) : SrcRel K cl A st H (.lst x) (Itl K ad) := fun A2 st2 H2 e2 R2 i => by
  have r2 := sR_ext e2 R1 r1
  constructor
  · intro y hy
    simp only [Src.get] at hy
    split at hy
    · rename_i ts2 ev2
      obtain ⟨ad2, vs2, e3, sq2, l2⟩ := list_rel R2 r2 ev2
      cases e3
      simp only [Option.some.injEq] at hy
      cases et : ts2[i]? with
      | none => rw [et] at hy; cases hy
      | some t2 =>
        rw [et] at hy; cases hy
        obtain ⟨w, g1, g2⟩ := repL_at l2 et
        refine ⟨⟨vs2, w, sq2, g1⟩, fun z H' hz => ?_⟩
        obtain ⟨e4, z4⟩ := hz
        subst e4
        have := z4 vs2 sq2
        rw [g1] at this
        cases this
        exact ⟨rfl, g2⟩
    · cases hy
  · intro hy
    simp only [Src.get] at hy
    split at hy
    · rename_i ts2 ev2
      obtain ⟨ad2, vs2, e3, sq2, l2⟩ := list_rel R2 r2 ev2
      cases e3
      simp only [Option.some.injEq] at hy
      cases et : ts2[i]? with
      | some t2 => rw [et] at hy; cases hy
      | none =>
        refine ⟨vs2, sq2, ?_⟩
        rw [repL_len l2]
        exact List.getElem?_eq_none_iff.mp et
    · cases hy
theorem src_tup {A : List Addr} {st : Sto} {H : Hp} {K : PySem.W.Frag} {x : S} {ad : Addr} (R1 : StoreRel K cl A st H) (r1 : sR K cl A st H x (.ref ad)) : SrcRel K cl A st H (.tup x) (Itt K ad) := fun A2 st2 H2 e2 R2 i => by
  have r2 := sR_ext e2 R1 r1
  constructor
  · intro y hy
    simp only [Src.get] at hy
    split at hy
    · rename_i ts2 ev2
      obtain ⟨ad2, vs2, e3, sq2, l2⟩ := tup_rel R2 r2 ev2
      cases e3
      simp only [Option.some.injEq] at hy
      cases et : ts2[i]? with
      | none => rw [et] at hy; cases hy
      | some t2 =>
        rw [et] at hy; cases hy
        obtain ⟨w, g1, g2⟩ := repL_at l2 et
        refine ⟨⟨vs2, w, sq2, g1⟩, fun z H' hz => ?_⟩
        obtain ⟨e4, z4⟩ := hz
        subst e4
        have := z4 vs2 sq2
        rw [g1] at this
        cases this
        exact ⟨rfl, g2⟩
    · cases hy
  · intro hy
    simp only [Src.get] at hy
    split at hy
    · rename_i ts2 ev2
      obtain ⟨ad2, vs2, e3, sq2, l2⟩ := tup_rel R2 r2 ev2
      cases e3
      simp only [Option.some.injEq] at hy
      cases et : ts2[i]? with
      | some t2 => rw [et] at hy; cases hy
      | none =>
        refine ⟨vs2, sq2, ?_⟩
        rw [repL_len l2]
        exact List.getElem?_eq_none_iff.mp et
    · cases hy
/-- a list or a tuple, whatever it is -/
theorem pi_seq {tg l : Expr} {tl : TE} (hl : PE X l tl) : PI X tg l (fun σ H R => tl σ H fun x H1 => (∃ a, x = .ref a ∧ (∃ xs, SqL X.K H1 a xs) ∧ R (Itl X.K a) H1) ∨ (∃ a, x = .ref a ∧ (∃ xs, SqT X.K H1 a xs) ∧ R (Itt X.K a) H1)) := by
  refine ⟨fun pins s σ H R I h => ?_⟩
  refine thn (hl.run pins s σ H _ I h) fun v s1 ⟨x, H1, I1, r1, q1⟩ => ?_
  rcases q1 with ⟨a, e, ⟨xs, hq⟩, q⟩ | ⟨a, e, ⟨xs, hq⟩, q⟩
  · subst e
    cases r1
    obtain ⟨its, rv, p, hz⟩ := I1.list hq
    refine wpAny_pyIter_list p.isList ?_
    refine ⟨s1.heap.objs.size, [s1.heap.objs.size], _, _, H1, rfl, I1.kept (t' := s1.toks) fun b o e => Heap.get?_push_of_some _ e, turn_list a _, ⟨_, Heap.get?_push_size _ rfl, rfl, rfl⟩, fun b hb => ?_, q⟩
    have e : b = s1.heap.objs.size := by simpa using hb
    subst e
    exact I1.fpOk (Nat.le_refl _) (I1.hok.fresh (Nat.le_refl _))
  · subst e
    cases r1
    obtain ⟨its, rv, p, hz⟩ := I1.tuple hq
    refine wpAny_pyIter_tuple (show s1.heap.IsTuple a its.toArray from p) ?_
    refine ⟨s1.heap.objs.size, [s1.heap.objs.size], _, _, H1, rfl, I1.kept (t' := s1.toks) fun b o e => Heap.get?_push_of_some _ e, turn_tuple a _, ⟨_, Heap.get?_push_size _ rfl, rfl, rfl⟩, fun b hb => ?_, q⟩
    have e : b = s1.heap.objs.size := by simpa using hb
    subst e
    exact I1.fpOk (Nat.le_refl _) (I1.hok.fresh (Nat.le_refl _))
theorem i_any {tg : Expr} (ha : PE X a (tE X.K cl W fa)) : PI X tg a (tI X.K cl W fun env st => (fa env st).bind srcD) := by
  refine PIm (pi_seq ha) fun σ H Q ⟨A, st, env, R0, E0, h⟩ => ?_
  refine tG_bind R0 E0 h fun A1 st1 H1 x v e1 R1 E1 r1 h1 => ?_
  unfold srcD at h1
  split at h1
  · rename_i ts ev
    obtain ⟨ad, vs, rfl, sq, l⟩ := list_rel R1 r1 ev
    exact .inl ⟨ad, rfl, ⟨vs, sq⟩, PG.ok (a := Src.lst x) R1 (src_lst R1 r1) h1⟩
  · rename_i ts ev
    obtain ⟨ad, vs, rfl, sq, l⟩ := tup_rel R1 r1 ev
    exact .inr ⟨ad, rfl, ⟨vs, sq⟩, PG.ok (a := Src.tup x) R1 (src_tup R1 r1) h1⟩
  · exact h1.elim

/-! ### methods of lists -/
theorem recv_list {A : List Addr} {st : Sto} {H : Hp} {x : S} {v : V} {ts : List T} (R0 : StoreRel X.K cl A st H) (r : sR X.K cl A st H x v) (e : liveL st x = some ts) : tyV X.K "list" v H := by
  obtain ⟨k, rfl, hk⟩ := liveL_ref e
  obtain ⟨a, vs, rfl, g, o, l⟩ := live_at R0 hk r
  exact .inl ⟨rfl, vs, .of o⟩
def bmF (m : Bm) (fo : Env → Sto → R S) (fs : Env → Sto → R (List S)) : Env → Sto → R S := fun env st => (fo env st).bind fun x st1 => if (liveL st1 x).isSome then (fs env st1).bind fun ss st2 => bmD m x ss st2 else .bad
theorem s_append {o : Expr} {apos : Pos} (ho : PE X o (tE X.K cl W fa)) (ha : PA X (e :: es) (tA X.K cl W fs))
    (hbase : attributeBase o "append" X.env (eval o X.env) = eval o X.env) (hfew : ((backTo pos (starEach (e :: es) X.env)).all (fun x => !x.1) && (backToKw pos (keywordEach [] X.env)).all (fun x => x.1.isSome)
      && decide ((e :: es).length + ([] : List Keyword).length + (if ([] : List Keyword).isEmpty then 0 else 1) < 30)) = true)
    (hline : (apos.endLine == pos.line) = true) (hs : starEach (e :: es) X.env = (false, eval e X.env) :: starEach es X.env) (hplain : (backTo pos (starEach es X.env)).any (·.1) = false) :
    PE X (.Call (.Attribute o "append" apos) (e :: es) [] pos) (tE X.K cl W (bmF .append fa fs)) := by
  refine PE.mono (pe_bm PySem.F.plainAttrs_list PySem.F.slot_list_append PySem.F.type_list_append mt_append ho ha hbase hfew hline hs hplain) fun σ H Q ⟨A, st, env, R0, E0, h⟩ => ?_
  refine tG_bind R0 E0 h fun A1 st1 H1 x v e1 R1 E1 r1 h1 => ?_
  split at h1
  · rename_i hl
    obtain ⟨ts, hl⟩ := Option.isSome_iff_exists.mp hl
    refine ⟨recv_list R1 r1 hl, ?_⟩
    refine tG_bind R1 E1 h1 fun A2 st2 H2 ss vs e2 R2 E2 r2 h2 => ?_
    obtain ⟨k, rfl, hk0⟩ := liveL_ref hl
    cases ss with
    | nil => exact h2.elim
    | cons y ys =>
      cases ys with
      | cons y2 ys => exact h2.elim
      | nil =>
        obtain ⟨u, rfl, ru⟩ := vals_one r2
        simp only [bmD] at h2
        split at h2
        · rename_i t st3 ef
          obtain ⟨R3, rt, e3⟩ := freeze_rel R2 ru ef
          have h3 := PG.ext e3 R2 R3 h2
          split at h3
          · rename_i ts3 el
            split at h3
            · rename_i hz
              obtain ⟨k', ek, hk⟩ := liveL_ref el
              cases ek
              obtain ⟨ad, vs, rfl, g, o, l⟩ := live_at R3 hk (sR_ext e3 R2 (sR_ext e2 R1 r1))
              refine ⟨ad, vs, u, rfl, rfl, o, by rw [repL_len l, sl_eq]; exact hz, ?_⟩
              obtain ⟨R4, e4⟩ := put_rel R3 hk g (repL_append l (show RepL X.K cl (Live A2 st3) H2 [t] [u] by unfold RepL; exact ⟨u, [], rfl, rt, by unfold RepL; rfl⟩))
              exact PG.ok R4 sR_non (PG.ext e4 R3 R4 h3)
            · exact h3.elim
          · exact h3.elim
        · exact h2.elim
  · exact h1.elim
theorem s_pop {o : Expr} {apos : Pos} (ho : PE X o (tE X.K cl W fa)) (hbase : attributeBase o "pop" X.env (eval o X.env) = eval o X.env) (hline : (apos.endLine == pos.line) = true) :
    PE X (.Call (.Attribute o "pop" apos) [] [] pos) (tE X.K cl W (bmF .pop fa fun _ st => .ok [] st)) := by
  refine PE.mono (pe_bm0 PySem.F.plainAttrs_list PySem.F.slot_list_pop PySem.F.type_list_pop mt_pop ho hbase hline) fun σ H Q ⟨A, st, env, R0, E0, h⟩ => ?_
  refine tG_bind R0 E0 h fun A1 st1 H1 x v e1 R1 E1 r1 h1 => ?_
  split at h1
  · rename_i hl
    obtain ⟨ts, hl⟩ := Option.isSome_iff_exists.mp hl
    refine ⟨recv_list R1 r1 hl, ?_⟩
    obtain ⟨k, rfl, hk⟩ := liveL_ref hl
    obtain ⟨ad, vs, rfl, g, o, l⟩ := live_at R1 hk r1
    simp only [R.bind, bmD, hl] at h1
    split at h1
    · rename_i t et
      obtain ⟨w, g1, g2⟩ := repL_at l et
      refine ⟨ad, vs, w, rfl, rfl, o, by rw [repL_len l]; exact g1, ?_⟩
      have ld : RepL X.K cl (Live A1 st1) H1 ts.dropLast vs.dropLast := by
        rw [List.dropLast_eq_take, List.dropLast_eq_take, repL_len l]
        exact repL_take _ l
      obtain ⟨R4, e4⟩ := put_rel R1 hk g ld
      exact PG.ok (a := S.val t) R4 (Rep.keeps (e4.keeps R1.alen) _ _ g2) (PG.ext e4 R1 R4 h1)
    · exact h1.elim
  · exact h1.elim
theorem s_reverse {o : Expr} {apos : Pos} (ho : PE X o (tE X.K cl W fa)) (hbase : attributeBase o "reverse" X.env (eval o X.env) = eval o X.env) (hline : (apos.endLine == pos.line) = true) :
    PE X (.Call (.Attribute o "reverse" apos) [] [] pos) (tE X.K cl W (bmF .reverse fa fun _ st => .ok [] st)) := by
  refine PE.mono (pe_bm0 PySem.F.plainAttrs_list PySem.F.slot_list_reverse PySem.F.type_list_reverse mt_reverse ho hbase hline) fun σ H Q ⟨A, st, env, R0, E0, h⟩ => ?_
  refine tG_bind R0 E0 h fun A1 st1 H1 x v e1 R1 E1 r1 h1 => ?_
  split at h1
  · rename_i hl
    obtain ⟨ts, hl⟩ := Option.isSome_iff_exists.mp hl
    refine ⟨recv_list R1 r1 hl, ?_⟩
    obtain ⟨k, rfl, hk⟩ := liveL_ref hl
    obtain ⟨ad, vs, rfl, g, o, l⟩ := live_at R1 hk r1
    simp only [R.bind, bmD, hl] at h1
    refine ⟨ad, vs, rfl, rfl, o, ?_⟩
    obtain ⟨R4, e4⟩ := put_rel R1 hk g (repL_rev l)
    exact PG.ok R4 sR_non (PG.ext e4 R1 R4 h1)
  · exact h1.elim

/-! ### calls of the program's own defs -/
/-- what def f promises: what the evaluator tells -/
def spD (K : PySem.W.Frag) (cl : Nat → Addr) (np : Nat) (f : List S → Sto → R S) : Sp := fun vs H Q E => vs.length = np ∧ ∃ A st ss, StoreRel K cl A st H ∧ lR K cl A st H ss vs ∧ PG K cl (sR K cl) A st H (f ss st) Q E
theorem lR_len {A : List Addr} {st : Sto} {H : Hp} {ss : List S} {vs : List V} (h : lR X.K cl A st H ss vs) : vs.length = ss.length := (Paired.length h).symm
theorem s_call {k : Nat} {f : Addr} {fd : FuncData} {ps : List Str} {x : Str} {p : Pos} {g : List S → Sto → R S} (F : FnOk X.prog X.w X.K X.mg X.base (L2.CX X.prog X.w) k f fd ps (spD X.K cl ps.length g)) (hr : Room k X.A) (hg : Gl X x) (hm : X.mg x = some (.ref f)) (hk : PySem.W.keepIn X.K (.ref f) = true) (hb : Binds X.K fd ps []) (tk : Takes X W)
    (hl : ∀ ss st, ss.length ≠ ps.length → g ss st = .bad)
    (ha : PA X (e :: es) (tA X.K cl W fs)) (hdb : (x == ("__debug__" : Str)) = false) (he : starEach (e :: es) X.env = (false, eval e X.env) :: starEach es X.env) (hpl : (backTo pos (starEach es X.env)).any (·.1) = false) :
    PE X (.Call (.Name x p) (e :: es) [] pos) (tE X.K cl W fun env st => (fs env st).bind fun ss st1 => g ss st1) := by
  refine PE.mono (pe_callS (E := WE W) F hr hg hm hk hb (fun σ => passAt tk σ) ha hdb he hpl) fun σ H Q ⟨A, st, env, R0, E0, h⟩ => ?_
  refine tG_bind R0 E0 h fun A1 st1 H1 ss vs e1 R1 E1 r1 h1 => ?_
  refine ⟨?_, A1, st1, ss, R1, r1, h1⟩
  rw [lR_len r1]
  refine Classical.byContradiction fun n => ?_
  rw [hl ss st1 n] at h1
  exact h1

/-! ### comprehensions -/
abbrev W0 : WX := fun _ _ _ _ => False
theorem PTsm {ifs : List Expr} {t t' : TT} (h : PTs X ifs t) (m : ∀ σ H Q, t' σ H Q → t σ H Q) : PTs X ifs t' := ⟨fun pins s σ H Q I w => h.run pins s σ H Q I (m σ H Q w)⟩
theorem c_nil : PTs X [] (tT X.K cl W fun _ st => .ok true st) := PTsm pts_nil fun σ H Q ⟨A, st, env, R0, E0, h⟩ => PG.ok (a := true) R0 rfl h
theorem c_one (h : PT X c (tT X.K cl W ft)) : PTs X [c] (tT X.K cl W ft) := pts_one h
/-- the wishes of a block are nothing -/
theorem PG.w0 {K : PySem.W.Frag} {α β : Type} {rel : List Addr → Sto → Hp → α → β → Prop} {A : List Addr} {st st' : Sto} {H : Hp} {Q : β → Hp → Prop} {X : XK} {a : α} {r : R α} (e : r = .ok a st')
    (h : ∀ A' H' b, Ext A st H A' st' H' → StoreRel K cl A' st' H' → rel A' st' H' a b → Q b H') : PG K cl rel A st H r Q X := by
  subst e; exact h
theorem comp_turn {g : G} {fi : Env → Sto → R Src} {fcond : Env → Sto → R Bool} {fel : Env → Sto → R S} {vs : List Nat} {K : PySem.W.Frag} (hg : ∀ j ∈ slots g, j ∈ vs) {σ : L2.St} {H : Hp} {Q : VK}
    (h : tE K cl W (fun env st => (fi env st).bind fun src st1 => compN g fcond fel src (wipeE env vs) st1.length (src.fuel st1) 0 (st1 ++ [.live (.lst [])])) σ H Q) :
    tLc (tI K cl W fi) (gD K cl g) (tT K cl W0 fcond) (tE K cl W0 fel) vs σ H Q := by
  obtain ⟨A, st, env, R0, E0, h⟩ := h
  refine tG_bind R0 E0 h fun A1 st1 H1 src J e1 R1 E1 r1 h1 => ?_
  intro D hD
  have eP : Ext A1 st1 H1 (A1 ++ [D]) (st1 ++ [.live (.lst [])]) (upd H1 D (.lst [])) := Ext.push R1 hD
  have RP : StoreRel K cl (A1 ++ [D]) (st1 ++ [.live (.lst [])]) (upd H1 D (.lst [])) := R1.push hD ⟨[], upd_same, by unfold RepL; rfl⟩
  refine ⟨fun i m H' => ∃ A2 st2, Ext A1 st1 H1 A2 st2 H' ∧ StoreRel K cl A2 st2 H' ∧ A2[st1.length]? = some D ∧ PG K cl (sR K cl) A1 st1 H1 (compN g fcond fel src (wipeE env vs) st1.length m i st2) Q (fun c d H' => W c d σ H'),
    ⟨_, _, _, eP, RP, by rw [← R1.alen, List.getElem?_append_right (Nat.le_refl _)]; simp, h1⟩, ?_⟩
  rintro i m H' ⟨A2, st2, e2, R2, hA, h2⟩
  cases m with
  | zero => exact h2.elim
  | succ m =>
    simp only [compN] at h2
    cases q : src.get st2 i with
    | none => rw [q] at h2; exact h2.elim
    | some o =>
      rw [q] at h2
      cases o with
      | none =>
        refine .inl ⟨(r1 A2 st2 H' e2 R2 i).2 q, ?_⟩
        exact h2 A2 H' (.ref D) e2 R2 ⟨D, hA, rfl⟩
      | some x =>
        refine .inr ⟨((r1 A2 st2 H' e2 R2 i).1 x q).1, fun H'' => ∃ A3 st3, Ext A1 st1 H1 A3 st3 H'' ∧ StoreRel K cl A3 st3 H'' ∧ A3[st1.length]? = some D ∧ PG K cl (sR K cl) A1 st1 H1 (compN g fcond fel src (wipeE env vs) st1.length m (i + 1) st3) Q (fun c d H' => W c d σ H'),
          fun H'' n => ⟨m, Nat.lt_succ_self m, n⟩, fun y Hy yl => ?_⟩
        · obtain ⟨rfl, ry⟩ := ((r1 A2 st2 H' e2 R2 i).1 x q).2 y Hy yl
          simp only at h2
          split at h2
          · exact h2.elim
          · rename_i env1 ea
            have Ew : EnvRel K cl A2 st2 (wipeE env vs) (wipe σ vs) Hy := (E1.ext e2 R1.alen).wipe vs
            refine ⟨A2, st2, x, _, env1, R2, Ew, ry, ea, fun σ2 E2 o2 => ⟨?_, A2, st2, env1, R2, E2, ?_⟩⟩
            · rw [o2.wipe hg]
              apply List.ext_getElem?
              intro j
              rw [wipe_at, wipe_at, wipe_length]
              by_cases hj : j ∈ vs ∧ j < σ.length
              · rw [if_pos hj, if_pos hj]
              · rw [if_neg hj, if_neg hj]
            · split at h2
              · rename_i st3 ec
                refine PG.w0 ec fun A3 H3 b e3 R3 rb => ?_
                have rb' : b = false := rb
                subst rb'
                rw [if_neg Bool.false_ne_true]
                exact ⟨A3, st3, e2.trans R1.alen R2.alen e3, R3, e3.pre _ _ hA, h2⟩
              · rename_i st3 ec
                refine PG.w0 ec fun A3 H3 b e3 R3 rb => ?_
                have rb' : b = true := rb
                subst rb'
                rw [if_pos rfl]
                split at h2
                · rename_i s st4 ee
                  refine ⟨A3, st3, env1, R3, E2.ext e3 R2.alen, PG.w0 ee fun A4 H4 yv e4 R4 rs => ?_⟩
                  split at h2
                  · rename_i t st5 ef
                    obtain ⟨R5, rt, e5⟩ := freeze_rel R4 rs ef
                    have e15 := e2.trans R1.alen R2.alen (e3.trans R2.alen R3.alen (e4.trans R3.alen R4.alen e5))
                    have hA5 := e4.pre _ _ (e3.pre _ _ hA)
                    split at h2
                    · rename_i acc el
                      split at h2
                      · rename_i hz
                        obtain ⟨k', ek, hk⟩ := liveL_ref el
                        cases ek
                        obtain ⟨ad, vacc, e6, g6, o6, l6⟩ := live_at R5 hk ⟨D, hA5, rfl⟩
                        cases e6
                        refine ⟨vacc, o6, by rw [repL_len l6, sl_eq]; exact hz, ?_⟩
                        obtain ⟨R6, e7⟩ := put_rel R5 hk g6 (repL_append l6 (show RepL K cl (Live A4 st5) H4 [t] [yv] by unfold RepL; exact ⟨yv, [], rfl, rt, by unfold RepL; rfl⟩))
                        exact ⟨A4, _, e15.trans R1.alen R5.alen e7, R6, hA5, h2⟩
                      · exact h2.elim
                    · exact h2.elim
                  · exact h2.elim
                · exact h2.elim
              · exact h2.elim
end
end Dy

set_option Elab.async false
set_option linter.all false
set_option maxRecDepth 100000
set_option maxHeartbeats 1000000
set_option autoImplicit false
/-! Dy, part T: statements. -/
namespace Dy
open PySem PySem.Spec L2 PyProof.Rows
section
variable (K : PySem.W.Frag) (cl : Nat → Addr)
def PF (W : WX) (D : Ends) (A : List Addr) (st : Sto) (H : Hp) (r : Fl) : Prop :=
  match r with
  | .nx env st' => ∀ A' σ' H', Ext A st H A' st' H' → StoreRel K cl A' st' H' → EnvRel K cl A' st' env σ' H' → D.nx σ' H'
  | .rt s st' => ∀ A' H' v, Ext A st H A' st' H' → StoreRel K cl A' st' H' → sR K cl A' st' H' s v → D.rt v H'
  | .bk env st' => ∀ A' σ' H', Ext A st H A' st' H' → StoreRel K cl A' st' H' → EnvRel K cl A' st' env σ' H' → D.bk σ' H'
  | .ct env st' => ∀ A' σ' H', Ext A st H A' st' H' → StoreRel K cl A' st' H' → EnvRel K cl A' st' env σ' H' → D.ct σ' H'
  | .ex e env st' => ∀ A' σ' H' cls d, Ext A st H A' st' H' → StoreRel K cl A' st' H' → EnvRel K cl A' st' env σ' H' → ExRel K cl A' st' H' e cls d → W cls d σ' H'
  | .bad => False
def tS (W : WX) (f : Env → Sto → Fl) : TS := fun D σ H => ∃ A st env, StoreRel K cl A st H ∧ EnvRel K cl A st env σ H ∧ PF K cl W D A st H (f env st)
end
section
variable {K : PySem.W.Frag} {cl : Nat → Addr} {A A' : List Addr} {st st' : Sto} {H H' : Hp} {env : Env} {σ : L2.St} {W : WX} {D : Ends}
theorem PF.ext {r : Fl} (e : Ext A st H A' st' H') (R : StoreRel K cl A st H) (R' : StoreRel K cl A' st' H') (h : PF K cl W D A st H r) : PF K cl W D A' st' H' r := by
  cases r with
  | nx env s => exact fun A2 σ2 H2 e2 R2 E2 => h A2 σ2 H2 (e.trans R.alen R'.alen e2) R2 E2
  | rt x s => exact fun A2 H2 v e2 R2 E2 => h A2 H2 v (e.trans R.alen R'.alen e2) R2 E2
  | bk env s => exact fun A2 σ2 H2 e2 R2 E2 => h A2 σ2 H2 (e.trans R.alen R'.alen e2) R2 E2
  | ct env s => exact fun A2 σ2 H2 e2 R2 E2 => h A2 σ2 H2 (e.trans R.alen R'.alen e2) R2 E2
  | ex x env s => exact fun A2 σ2 H2 c d e2 R2 E2 => h A2 σ2 H2 c d (e.trans R.alen R'.alen e2) R2 E2
  | bad => exact h
theorem tS_bind {α β : Type} {rel : List Addr → Sto → Hp → α → β → Prop} {f : Env → Sto → R α} {g : α → Sto → Fl} {Q' : β → Hp → Prop}
    (R0 : StoreRel K cl A st H) (E0 : EnvRel K cl A st env σ H) (h : PF K cl W D A st H ((f env st).fl env g))
    (k : ∀ A1 st1 H1 a b, Ext A st H A1 st1 H1 → StoreRel K cl A1 st1 H1 → EnvRel K cl A1 st1 env σ H1 → rel A1 st1 H1 a b → PF K cl W D A1 st1 H1 (g a st1) → Q' b H1) :
    tG K cl rel W f σ H Q' := by
  refine ⟨A, st, env, R0, E0, ?_⟩
  cases e : f env st with
  | ok a s =>
    rw [e] at h
    exact fun A1 H1 b e1 R1 r1 => k A1 s H1 a b e1 R1 (E0.ext e1 R0.alen) r1 (PF.ext e1 R0 R1 h)
  | ex x s =>
    rw [e] at h
    exact fun A1 H1 c d e1 R1 r1 => h A1 σ H1 c d e1 R1 (E0.ext e1 R0.alen) r1
  | bad =>
    rw [e] at h
    exact h
/-- goes on at once -/
theorem PF.nx' {σ' : L2.St} (R0 : StoreRel K cl A st H) (E1 : EnvRel K cl A st env σ' H) (h : PF K cl W D A st H (.nx env st)) : D.nx σ' H := h A σ' H (.refl R0.alen) R0 E1
end
section
variable {X : Cx} {cl : Nat → Addr} {W : WX} {cb : CB} {P : Prog} {a b c e : Expr} {es : List Expr} {pos : Pos} {fa fb fc : Env → Sto → R S} {fs : Env → Sto → R (List S)} {ft : Env → Sto → R Bool}
def seqF (f g : Env → Sto → Fl) : Env → Sto → Fl := fun env st => match f env st with
    | .nx env1 st1 => g env1 st1
    | r => r
theorem z_nil : PSs X [] (tS X.K cl W fun env st => .nx env st) := PSs.mono pss_nil fun D σ H ⟨A, st, env, R0, E0, h⟩ => PF.nx' R0 E0 h
theorem z_cons {s : Stmt} {r : List Stmt} {f g : Env → Sto → Fl} (h1 : PS X s (tS X.K cl W f)) (h2 : PSs X r (tS X.K cl W g)) : PSs X (s :: r) (tS X.K cl W (seqF f g)) := by
  refine PSs.mono (pss_cons h1 h2) fun D σ H ⟨A, st, env, R0, E0, h⟩ => ?_
  refine ⟨A, st, env, R0, E0, ?_⟩
  unfold seqF at h
  cases q : f env st with
  | nx env1 st1 =>
    rw [q] at h
    exact fun A2 σ2 H2 e2 R2 E2 => ⟨A2, st1, env1, R2, E2, PF.ext e2 R0 R2 h⟩
  | rt x s => rw [q] at h; exact h
  | bk x s => rw [q] at h; exact h
  | ct x s => rw [q] at h; exact h
  | ex x y s => rw [q] at h; exact h
  | bad => rw [q] at h; exact h
theorem z_set {i : Nat} {x : Str} {py : Pos} (hN : X.N.Nodup) (hi : X.N[i]? = some x) (hx : Loc X.env.scope x) (hf : X.fn x = true ∨ X.env.scope.names.lookup x = some .local) (ha : PE X a (tE X.K cl W fa))
    (hs : swapsWith a (some (.Name x py)) pos.line X.env = pure false) : PS X (.Assign [.Name x py] a pos) (tS X.K cl W fun env st => (fa env st).fl env fun v st1 => .nx (env.set i (some v)) st1) := by
  refine PS.mono (ps_set hN hi hx ha hs hf) fun D σ H ⟨A, st, env, R0, E0, h⟩ => ?_
  exact tS_bind R0 E0 h fun A1 st1 H1 v u e1 R1 E1 r1 h1 => PF.nx' R1 (E1.set r1) h1
/-- name = [..], on one line -/
theorem z_setc {i : Nat} {x : Str} {py : Pos} (ha : PS X (.Assign [.Name x py] a pos) (tAsg (tE X.K cl W fa) (gName i))) : PS X (.Assign [.Name x py] a pos) (tS X.K cl W fun env st => (fa env st).fl env fun v st1 => .nx (env.set i (some v)) st1) := by
  refine PS.mono ha fun D σ H ⟨A, st, env, R0, E0, h⟩ => ?_
  exact tS_bind R0 E0 h fun A1 st1 H1 v u e1 R1 E1 r1 h1 => PF.nx' R1 (E1.set r1) h1
theorem z_asg {tg : Expr} {g : G} (ha : PE X a (tE X.K cl W fa)) (hg : L2.PG X tg (gD X.K cl g)) (hs : swapsWithSole [tg] a pos.line X.env = pure false) (hw : swappedStores [tg] a X.env = pure none)
    (h1 : (assignEach [tg] X.env).map (·.2) = [assign tg X.env]) : PS X (.Assign [tg] a pos) (tS X.K cl W fun env st => (fa env st).fl env fun v st1 => match asgG g v st1 env with
    | some env1 => .nx env1 st1
    | none => .bad) := by
  refine PS.mono (ps_asg ha hg hs hw h1) fun D σ H ⟨A, st, env, R0, E0, h⟩ => ?_
  refine tS_bind R0 E0 h fun A1 st1 H1 v u e1 R1 E1 r1 h1 => ?_
  split at h1
  · rename_i env1 ea
    exact ⟨A1, st1, v, env, env1, R1, E1, r1, ea, fun σ' E' _ => PF.nx' R1 E' h1⟩
  · exact h1.elim
theorem z_sub {o i v : Expr} {p : Pos} {fo fi fv : Env → Sto → R S} (ho : PE X o (tE X.K cl W fo)) (hi : PE X i (tE X.K cl W fi)) (hv : PE X v (tE X.K cl W fv))
    (hs : swapsWithSole [.Subscript o i p] v pos.line X.env = pure false) (hw : swappedStores [.Subscript o i p] v X.env = pure none)
    (ha : ∀ v, assign (.Subscript o i p) X.env v = (do
      let ov ← holding [v] (eval o X.env)
      let iv ← holding [v, ov] (eval i X.env)
      standAt p
      holding [v, ov, iv] (setItem ov iv v)
      release [v, ov, iv] []))
    (h1 : (assignEach [.Subscript o i p] X.env).map (·.2) = [assign (.Subscript o i p) X.env]) :
    PS X (.Assign [.Subscript o i p] v pos) (tS X.K cl W fun env st => (fv env st).fl env fun z st1 => (fo env st1).fl env fun x st2 => (fi env st2).fl env fun y st3 => match subD x y z st3 with
    | some st4 => .nx env st4
    | none => .bad) := by
  refine PS.mono (ps_asg hv (pg_sub ho hi set_list ha) hs hw h1) fun D σ H ⟨A, st, env, R0, E0, h⟩ => ?_
  refine tS_bind R0 E0 h fun A1 st1 H1 z zv e1 R1 E1 r1 h1 => ?_
  refine tS_bind R1 E1 h1 fun A2 st2 H2 x xv e2 R2 E2 r2 h2 => ?_
  refine tS_bind R2 E2 h2 fun A3 st3 H3 y yv e3 R3 E3 r3 h3 => ?_
  split at h3
  · rename_i st4 q
    unfold subD at q
    split at q
    · rename_i k j
      split at q
      · rename_i t st5 ef
        obtain ⟨R5, rt, e5⟩ := freeze_rel R3 (sR_ext e3 R2 (sR_ext e2 R1 r1)) ef
        split at q
        · rename_i ts el
          split at q
          · rename_i n en
            cases q
            obtain ⟨k', ek, hk⟩ := liveL_ref el
            cases ek
            obtain ⟨ad, vs, rfl, g5, o5, l5⟩ := live_at R5 hk (sR_ext e5 R3 (sR_ext e3 R2 r2))
            rw [sR_int' r3]
            refine ⟨ad, vs, j, n, rfl, rfl, o5, by rw [repL_len l5]; exact en, ?_⟩
            obtain ⟨R6, e6⟩ := put_rel R5 hk g5 (repL_set rt n l5)
            have e36 := e5.trans R3.alen R5.alen e6
            exact PF.nx' R6 (E3.ext e36 R3.alen) (PF.ext e36 R3 R6 h3)
          · cases q
        · cases q
      · cases q
    · cases q
  · exact h3.elim
theorem z_aug {ng : Bool} {p : Operator} {i : Nat} {x : Str} {py : Pos} {c₀ : E} (hop : p = if ng then .Sub else .Add) (hN : X.N.Nodup) (hi : X.N[i]? = some x) (hx : Loc X.env.scope x)
    (hf : X.fn x = true ∨ X.env.scope.names.lookup x = some .local) (ha : PE X a (tE X.K cl W (evE cb c₀))) : PS X (.AugAssign (.Name x py) p a pos) (tS X.K cl W (evS cb P (.aug i ng c₀))) := by
  have hp : PIp X p (ipI fun i j => if ng then i - j else i + j) := by
    cases ng with
    | true => subst hop; exact ip_sub
    | false => subst hop; exact ip_add
  refine PS.mono (ps_aug hN hi hx ha hp hf) fun D σ H ⟨A, st, env, R0, E0, h⟩ => ?_
  simp only [evS] at h
  split at h
  · rename_i s hs
    obtain ⟨v, h1, h2⟩ := E0.at_ i s hs
    refine ⟨v, h1, ?_⟩
    refine tS_bind R0 E0 h fun A1 st1 H1 y yv e1 R1 E1 r1 h3 => ?_
    have rs := rdS_rel R1 (sR_ext e1 R0 h2)
    split at h3
    · rename_i m n q
      rw [q] at rs
      rw [sR_int' rs, sR_int' r1]
      exact ⟨m, n, rfl, rfl, PF.nx' R1 (E1.set (sR_int _)) h3⟩
    · exact h3.elim
  · exact h.elim
theorem z_expr (ha : PE X a (tE X.K cl W fa)) (hs : swapsWith a none pos.line X.env = pure false) : PS X (.Expr a pos) (tS X.K cl W fun env st => (fa env st).fl env fun _ st1 => .nx env st1) := by
  refine PS.mono (ps_expr ha hs) fun D σ H ⟨A, st, env, R0, E0, h⟩ => ?_
  exact tS_bind (rel := sR X.K cl) R0 E0 h fun A1 st1 H1 v u e1 R1 E1 r1 h1 => PF.nx' R1 E1 h1
theorem z_ret (ha : PE X a (tE X.K cl W fa)) : PS X (.Return (some a) pos) (tS X.K cl W fun env st => (fa env st).fl env fun x st1 => .rt x st1) := by
  refine PS.mono (ps_ret ha) fun D σ H ⟨A, st, env, R0, E0, h⟩ => ?_
  exact tS_bind R0 E0 h fun A1 st1 H1 v u e1 R1 E1 r1 h1 => h1 A1 H1 u (.refl R1.alen) R1 r1
theorem z_pass : PS X (.Pass pos) (tS X.K cl W fun env st => .nx env st) := PS.mono ps_pass fun D σ H ⟨A, st, env, R0, E0, h⟩ => PF.nx' R0 E0 h
theorem z_brk : PS X (.Break pos) (tS X.K cl W fun env st => .bk env st) := PS.mono ps_break fun D σ H ⟨A, st, env, R0, E0, h⟩ => h A σ H (.refl R0.alen) R0 E0
theorem z_cont : PS X (.Continue pos) (tS X.K cl W fun env st => .ct env st) := PS.mono ps_continue fun D σ H ⟨A, st, env, R0, E0, h⟩ => h A σ H (.refl R0.alen) R0 E0
theorem z_if {sa sb : List Stmt} {f g : Env → Sto → Fl} (hc : PT X c (tT X.K cl W ft)) (ha : PSs X sa (tS X.K cl W f)) (hb : PSs X sb (tS X.K cl W g)) :
    PS X (.If c sa sb pos) (tS X.K cl W fun env st => (ft env st).fl env fun k st1 => if k then f env st1 else g env st1) := by
  refine PS.mono (ps_if hc ha hb) fun D σ H ⟨A, st, env, R0, E0, h⟩ => ?_
  refine tS_bind (rel := bR) R0 E0 h fun A1 st1 H1 k k' e1 R1 E1 r1 h1 => ?_
  have r1' : k' = k := r1
  subst r1'
  cases k' with
  | true => rw [if_pos rfl] at h1 ⊢; exact ⟨A1, st1, env, R1, E1, h1⟩
  | false => rw [if_neg Bool.false_ne_true] at h1 ⊢; exact ⟨A1, st1, env, R1, E1, h1⟩
theorem z_for {tg iter : Expr} {body : List Stmt} {g : G} {fi : Env → Sto → R Src} {fb : Env → Sto → Fl} (hp : PassesOwn (model X.prog X.w) X.A X.env X.xe) (hc : X.calm = true) (hi : PI X tg iter (tI X.K cl W fi)) (hg : L2.PG X tg (gD X.K cl g)) (hb : PSs X body (tS X.K cl W fb))
    (hs : ∀ x, foldedSetIterable iter X.env x = pure x) :
    PS X (.For tg iter body [] pos) (tS X.K cl W fun env st => (fi env st).fl env fun src st1 => forN g fb src (src.fuel st1) 0 env st1) := by
  refine PS.mono (ps_for hp hc hi hg hb hs) fun D σ H ⟨A, st, env, R0, E0, h⟩ => ?_
  refine tS_bind (rel := SrcRel X.K cl) R0 E0 h fun A1 st1 H1 src J e1 R1 E1 r1 h1 => ?_
  refine ⟨fun i m σ' H' => ∃ A2 st2 env2, Ext A1 st1 H1 A2 st2 H' ∧ StoreRel X.K cl A2 st2 H' ∧ EnvRel X.K cl A2 st2 env2 σ' H' ∧ PF X.K cl W D A1 st1 H1 (forN g fb src m i env2 st2),
    ⟨_, _, _, _, .refl R1.alen, R1, E1, h1⟩, ?_⟩
  rintro i m σ' H' ⟨A2, st2, env2, e2, R2, E2, h2⟩
  cases m with
  | zero => exact h2.elim
  | succ m =>
    simp only [forN] at h2
    cases q : src.get st2 i with
    | none => rw [q] at h2; exact h2.elim
    | some o =>
      rw [q] at h2
      cases o with
      | none => exact .inl ⟨(r1 A2 st2 H' e2 R2 i).2 q, h2 A2 σ' H' e2 R2 E2⟩
      | some x =>
        refine .inr ⟨((r1 A2 st2 H' e2 R2 i).1 x q).1, fun σ3 H3 => ∃ A3 st3 env3, Ext A1 st1 H1 A3 st3 H3 ∧ StoreRel X.K cl A3 st3 H3 ∧ EnvRel X.K cl A3 st3 env3 σ3 H3 ∧ PF X.K cl W D A1 st1 H1 (forN g fb src m (i + 1) env3 st3),
          fun σ3 H3 n => ⟨m, Nat.lt_succ_self m, n⟩, fun y Hy yl => ?_⟩
        obtain ⟨rfl, ry⟩ := ((r1 A2 st2 H' e2 R2 i).1 x q).2 y Hy yl
        simp only at h2
        split at h2
        · exact h2.elim
        · rename_i env1 ea
          refine ⟨A2, st2, x, env2, env1, R2, E2, ry, ea, fun σ2 E3 _ => ⟨A2, st2, env1, R2, E3, ?_⟩⟩
          cases qb : fb env1 st2 with
          | nx env3 st3 =>
            rw [qb] at h2
            exact fun A3 σ3 H3 e3 R3 E4 => ⟨A3, st3, env3, e2.trans R1.alen R2.alen e3, R3, E4, h2⟩
          | ct env3 st3 =>
            rw [qb] at h2
            exact fun A3 σ3 H3 e3 R3 E4 => ⟨A3, st3, env3, e2.trans R1.alen R2.alen e3, R3, E4, h2⟩
          | bk env3 st3 =>
            rw [qb] at h2
            exact fun A3 σ3 H3 e3 R3 E4 => h2 A3 σ3 H3 (e2.trans R1.alen R2.alen e3) R3 E4
          | rt s st3 =>
            rw [qb] at h2
            exact fun A3 H3 v e3 R3 E4 => h2 A3 H3 v (e2.trans R1.alen R2.alen e3) R3 E4
          | ex x env3 st3 =>
            rw [qb] at h2
            exact fun A3 σ3 H3 cls d e3 R3 E4 => h2 A3 σ3 H3 cls d (e2.trans R1.alen R2.alen e3) R3 E4
          | bad => rw [qb] at h2; exact h2
theorem z_while {body : List Stmt} {n : Nat} {fb : Env → Sto → Fl} (hp : PassesOwn (model X.prog X.w) X.A X.env X.xe) (hc : PT X c (tT X.K cl W ft)) (hb : PSs X body (tS X.K cl W fb)) :
    PS X (.While c body [] pos) (tS X.K cl W fun env st => whN ft fb n env st) := by
  refine PS.mono (ps_while hp hc hb) fun D σ H ⟨A, st, env, R0, E0, h⟩ => ?_
  refine ⟨fun m σ' H' => ∃ A2 st2 env2, StoreRel X.K cl A2 st2 H' ∧ EnvRel X.K cl A2 st2 env2 σ' H' ∧ PF X.K cl W D A2 st2 H' (whN ft fb m env2 st2), ⟨_, _, _, _, R0, E0, h⟩, ?_⟩
  rintro m σ' H' ⟨A2, st2, env2, R2, E2, h2⟩
  cases m with
  | zero => exact h2.elim
  | succ m =>
    simp only [whN] at h2
    refine tS_bind (rel := bR) R2 E2 h2 fun A3 st3 H3 k k' e3 R3 E3 r3 h4 => ?_
    have r3' : k' = k := r3
    subst r3'
    cases k' with
    | false => rw [if_neg Bool.false_ne_true] at h4 ⊢; exact PF.nx' R3 E3 h4
    | true =>
      rw [if_pos rfl] at h4 ⊢
      refine ⟨fun σ4 H4 => ∃ A4 st4 env4, StoreRel X.K cl A4 st4 H4 ∧ EnvRel X.K cl A4 st4 env4 σ4 H4 ∧ PF X.K cl W D A4 st4 H4 (whN ft fb m env4 st4), fun σ4 H4 n => ⟨m, Nat.lt_succ_self m, n⟩, A3, st3, env2, R3, E3, ?_⟩
      cases qb : fb env2 st3 with
      | nx env3 st4 =>
        rw [qb] at h4
        exact fun A4 σ4 H4 e4 R4 E4 => ⟨A4, st4, env3, R4, E4, PF.ext e4 R3 R4 h4⟩
      | ct env3 st4 =>
        rw [qb] at h4
        exact fun A4 σ4 H4 e4 R4 E4 => ⟨A4, st4, env3, R4, E4, PF.ext e4 R3 R4 h4⟩
      | bk env3 st4 => rw [qb] at h4; exact h4
      | rt s st4 => rw [qb] at h4; exact h4
      | ex x env3 st4 => rw [qb] at h4; exact h4
      | bad => rw [qb] at h4; exact h4

/-! ### raise, try -/
/-- X() -/
theorem pmk_own0 {C : Addr} {bmB : List Value} {B newId initId : String} {x : Str} {p pos : Pos} (F : ExcBaseFacts B newId initId bmB) (q : PySem.W.excIn X.K C bmB newId = true) (gC : X.mg x = some (.ref C)) (kC : PySem.W.keepIn X.K (.ref C) = true) (r : Raises X (.ref C)) (hg : Gl X x)
    (hdb : (x == ("__debug__" : Str)) = false) : PMk X (.Call (.Name x p) [] [] pos) (fun _ H Q => Q (.ref C) none H) := by
  intro pins s σ H Q I h
  refine wpAny_Call_Name_kw (ld_glob I hg gC ?_ hdb)
  refine PySem.W.callWith_K0 I.kIn kC ?_
  show wpAny _ _ (call (.ref C) []) _ _ _
  obtain ⟨bm, N, nm, qn, bs, hdct, sn, sub, ab, col, dd, k0, k1, k2, k3, k5, mN, hC, hN, hni, T⟩ := exc_obj I.kIn q
  refine wpAny_call_exc_subT F T hC hN hni (fun h' e hm => ?_) (by show 0 ≤ sizeLine; exact Nat.zero_le _)
  exact mk_of I hm r h (I.hok.gone hm.new)
/-- what is known of an exception class -/
structure ExcOk (X : Cx) (C : Addr) (x : Str) : Prop where
  gC : X.mg x = some (.ref C)
  exc : PySem.W.excIn X.K C PySem.HandSPX.veTail "ValueError.__new__" = true
  kC : PySem.W.keepIn X.K (.ref C) = true
  sub : PySem.W.subIn X.K (.ref C) (.type "BaseException") = some true
  ty : PySem.W.typeIn X.K (.ref C) = some (.type "type")
theorem z_raise {i : Nat} {x : Str} {p p2 : Pos} (hc : X.calm = true) (tk : Takes X W) (k : ExcOk X (cl i) x) (hg : Gl X x) (hdb : (x == ("__debug__" : Str)) = false) :
    PS X (.Raise (some (.Call (.Name x p) [] [] p2)) none pos) (tS X.K cl W fun env st => .ex ⟨i, []⟩ env st) := by
  refine PS.mono (ps_raise hc tk (pmk_own0 PySem.F.excBase_ValueError k.exc k.gC k.kC (raises_own k.sub k.ty) hg hdb)) fun D σ H ⟨A, st, env, R0, E0, h⟩ => ?_
  exact h A σ H (.ref (cl i)) none (.refl R0.alen) R0 E0 ⟨rfl, rfl⟩
/-- the clauses -/
structure HdD (X : Cx) (cl : Nat → Addr) (P : Prog) (hds : List ExceptHandler) (hs : List (Nat × E)) : Prop where
  run : ∃ l : List (Value × (Addr → Value → Option Addr → TS)), HdsOk X hds l ∧ ∀ (W : WX) (D : Ends) (A : List Addr) (st : Sto) (H : Hp) (e : Ex) (env : Env), StoreRel X.K cl A st H → PF X.K cl W D A st H (hand P e env st hs) →
    ∀ A' σ' H' cls d, Ext A st H A' st H' → StoreRel X.K cl A' st H' → EnvRel X.K cl A' st env σ' H' → ExRel X.K cl A' st H' e cls d → wMany X.K W D l cls d σ' H'
theorem h_nil : HdD X cl P [] [] := ⟨[], .nil, fun W D A st H e env R0 h A' σ' H' cls d e1 R1 E1 x1 => h A' σ' H' cls d e1 R1 E1 x1⟩
theorem h_cons {j : Nat} {x : Str} {k : Bool} {np pos' p1 p2 : Pos} {kk : Nat} {hds : List ExceptHandler} {hs : List (Nat × E)} (hc : Names X x (.ref (cl j))) (hx : ∀ i, i < P.nc → PySem.W.exmOne X.K (.ref (cl i)) (.ref (cl j)) = some (P.sub i j)) (h : HdD X cl P hds hs) :
    HdD X cl P (.ExceptHandler (some (.Name x np)) none [.Return (some (.Constant (.bool k) kk p1)) p2] pos' :: hds) ((j, .bl k) :: hs) := by
  obtain ⟨l, h1, h2⟩ := h
  refine ⟨(.ref (cl j), fun _ _ _ => tRet (tC (.bl k))) :: l, .cons hc (fun a oe cls d pn _ _ => pss_one (ps_ret pe_bl)) h1, fun W D A st H e env R0 hh A' σ' H' cls d e1 R1 E1 x1 => ?_⟩
  obtain ⟨rfl, _⟩ := id x1
  simp only [hand] at hh
  split at hh
  · exact hh.elim
  · rename_i hn
    refine ⟨P.sub e.c j, hx e.c (by omega), fun hb a _ => ?_, fun hb => ?_⟩
    · rw [if_pos hb] at hh
      exact hh A' H' (.bl k) e1 R1 (sR_bl k)
    · rw [if_neg (by rw [hb]; exact Bool.false_ne_true)] at hh
      exact h2 W D A st H e env R0 hh A' σ' H' _ d e1 R1 E1 x1
theorem z_try {body : List Stmt} {h₀ : ExceptHandler} {hds : List ExceptHandler} {hs : List (Nat × E)} {fb : Env → Sto → Fl} (hst : X.stack = X.env :: X.outer) (hf : X.env.frame = some X.env.locals) (tk : Takes X W)
    (hb : ∀ (W : WX) (pn : List (Addr × Obj)) (xe : Value → Shared → Prop), Takes (X.tr pn xe) W → PassesOwn (model X.prog X.w) X.A X.env xe → PSs (X.tr pn xe) body (tS X.K cl W fb)) (hh : HdD X cl P (h₀ :: hds) hs) :
    PS X (.Try body (h₀ :: hds) [] [] pos) (tS X.K cl W fun env st => match fb env st with
    | .ex e env1 st1 => hand P e env1 st1 hs
    | r => r) := by
  obtain ⟨l, h1, h2⟩ := hh
  refine PS.mono (ps_try_many hst hf tk hb h1) fun D σ H ⟨A, st, env, R0, E0, h⟩ => ?_
  refine ⟨A, st, env, R0, E0, ?_⟩
  dsimp only at h
  cases q : fb env st with
  | ex e env1 st1 =>
    rw [q] at h
    intro A1 σ1 H1 cls d e1 R1 E1 x1
    refine h2 W D A1 st1 H1 e env1 R1 (PF.ext e1 R0 R1 ?_) A1 σ1 H1 cls d (.refl R1.alen) R1 E1 x1
    exact h
  | nx a b => rw [q] at h; exact h
  | rt a b => rw [q] at h; exact h
  | bk a b => rw [q] at h; exact h
  | ct a b => rw [q] at h; exact h
  | bad => rw [q] at h; exact h
end
end Dy

set_option Elab.async false
set_option linter.all false
set_option maxRecDepth 100000
set_option maxHeartbeats 1000000
set_option autoImplicit false
/-! Dy, part M: what the core language is of a text, and that the text does what the evaluator tells. -/
namespace Dy
open PySem PySem.Spec L2 PyProof.Rows
/-- the program's names: its defs, its exception classes, its built-ins of modules -/
structure Info where
  dn : List Str
  cn : List Str
  mods : List Str
inductive Nd where
  | e (x : Expr) (c : E) | t (x : Expr) (c : E) | w (x : Expr) (c : E) | es (xs : List Expr) (cs : List E)
  | g (x : Expr) (g : G) | gs (xs : List Expr) (gs : List G) | i (x : Expr) (c : It) | o (x : Option Expr) (cs : List E) | c (xs : List Expr) (cs : List E)
  | s (x : Stmt) (c : Stm) | ss (xs : List Stmt) (cs : List Stm) | h (hs : List ExceptHandler) (cs : List (Nat × E))
def nameB (x : Str) : Bool := !(x == ("__debug__" : Str)) && !(x == ("__classdict__" : Str))
def visB (sc : Scope) (x : Str) : Bool := nameB x && (match sc.names.lookup x with
  | some .local => true
  | some .cell => true
  | some .free => true
  | _ => false)
def locB (top : Bool) (sc : Scope) (x : Str) : Bool := match sc.names.lookup x with
  | some .local => true
  | some .cell => top
  | _ => false
def lclB (sc : Scope) (x : Str) : Bool := match sc.names.lookup x with
  | some .local => true
  | _ => false
def glB (sc : Scope) (x : Str) : Bool := nameB x && (match sc.names.lookup x with
  | some .globalImplicit => true
  | _ => false)
def biN : Bi → Str
  | .len => "len" | .abs => "abs" | .int => "int" | .list => "list" | .tuple => "tuple" | .sum => "sum" | .comb => "comb" | .gcd => "gcd"
def biFn : Bi → Bool
  | .len => true | .abs => true | .sum => true | _ => false
def biTy : Bi → Bool
  | .int => true | .list => true | .tuple => true | _ => false
def biMo : Bi → Bool
  | .comb => true | .gcd => true | _ => false
def blts : List Str := ["len", "abs", "int", "list", "tuple", "sum", "range", "isinstance", "bool", "str"]
abbrev Star (a : Expr) : Prop := ∀ (es : List Expr) (env : PySem.Env), starEach (a :: es) env = (false, eval a env) :: starEach es env
abbrev TestAny (a : Expr) : Prop := ∀ (env : PySem.Env) (whole : Sem Value), isTrue a env whole = (do let v ← whole; standAt a.pos; holding [v] (truthy v))
abbrev Base (o : Expr) (m : Str) : Prop := ∀ env : PySem.Env, attributeBase o m env (eval o env) = eval o env
abbrev Fold (it : Expr) : Prop := ∀ (env : PySem.Env) (x : Value), foldedSetIterable it env x = pure x
abbrev AsE (tg : Expr) : Prop := ∀ (ts : List Expr) (env : PySem.Env), (assignEach (tg :: ts) env).map (·.2) = assign tg env :: (assignEach ts env).map (·.2)
abbrev SubA (o i : Expr) (p : Pos) : Prop := ∀ (env : PySem.Env) (v : Value), assign (.Subscript o i p) env v = (do
      let ov ← holding [v] (eval o env)
      let iv ← holding [v, ov] (eval i env)
      standAt p
      holding [v, ov, iv] (setItem ov iv v)
      release [v, ov, iv] [])
/-- a clause's check -/
def blkB (N : List Str) (sc scope : Scope) (own : List (Str × Nat)) (g : G) : Bool := blkC N sc scope own && (slots g).all fun j => (own.map (·.2)).contains j

/-- c is the core of x, within the scope sc (top: a def's own block) -/
inductive Cmp (I : Info) (N : List Str) : Bool → Scope → Nd → Prop where
  | var {top sc x pos} {i : Nat} (hN : N[i]? = some x) (hv : visB sc x = true) : Cmp I N top sc (.e (.Name x pos) (.var i))
  | int {top sc i j pos} : Cmp I N top sc (.e (.Constant (.int i) j pos) (.int i))
  | bl {top sc i j pos} : Cmp I N top sc (.e (.Constant (.bool i) j pos) (.bl i))
  | non {top sc j pos} : Cmp I N top sc (.e (.Constant .none j pos) .non)
  | str {top sc x j pos} : Cmp I N top sc (.e (.Constant (.str x) j pos) (.str x))
  | bin {top sc a b p pos ca cb} {op : Op} (hp : p = pyOp op) (ha : Cmp I N top sc (.e a ca)) (hb : Cmp I N top sc (.e b cb)) : Cmp I N top sc (.e (.BinOp a p b pos) (.bin op ca cb))
  | neg {top sc a pos ca} (ha : Cmp I N top sc (.e a ca)) : Cmp I N top sc (.e (.UnaryOp .USub a pos) (.neg ca))
  | cmp {top sc a b p pos ca cb} {op : Cp} (hp : p = pyCp op) (ha : Cmp I N top sc (.e a ca)) (hb : Cmp I N top sc (.e b cb)) : Cmp I N top sc (.e (.Compare a [p] [b] pos) (.cmp op ca cb))
  | chain {top sc a b c p q pos ca cb cc} {o1 o2 : Cp} (hp : p = pyCp o1) (hq : q = pyCp o2) (ha : Cmp I N top sc (.e a ca)) (hb : Cmp I N top sc (.e b cb)) (hc : Cmp I N top sc (.e c cc)) : Cmp I N top sc (.e (.Compare a [p, q] [b, c] pos) (.chain o1 o2 ca cb cc))
  | isNon {top sc a pos j p2 ca} (ha : Cmp I N top sc (.e a ca)) : Cmp I N top sc (.e (.Compare a [.Is] [.Constant .none j p2] pos) (.isNon ca))
  | notNon {top sc a pos j p2 ca} (ha : Cmp I N top sc (.e a ca)) : Cmp I N top sc (.e (.Compare a [.IsNot] [.Constant .none j p2] pos) (.notNon ca))
  | isTru {top sc a pos j p2 ca} (ha : Cmp I N top sc (.e a ca)) : Cmp I N top sc (.e (.Compare a [.Is] [.Constant (.bool true) j p2] pos) (.isTru ca))
  | onev {top sc op a pos ca} (ha : Cmp I N top sc (.e a ca)) : Cmp I N top sc (.e (.BoolOp op [a] pos) ca)
  | andv {top sc a b r pos ca cb} (ha : Cmp I N top sc (.e a ca)) (hb : Cmp I N top sc (.e (.BoolOp .And (b :: r) pos) cb)) : Cmp I N top sc (.e (.BoolOp .And (a :: b :: r) pos) (.andv ca cb))
  | orv {top sc a b r pos ca cb} (ha : Cmp I N top sc (.e a ca)) (hb : Cmp I N top sc (.e (.BoolOp .Or (b :: r) pos) cb)) : Cmp I N top sc (.e (.BoolOp .Or (a :: b :: r) pos) (.orv ca cb))
  | notv {top sc a pos ca} (ha : Cmp I N top sc (.e a ca)) : Cmp I N top sc (.e (.UnaryOp .Not a pos) (.notv ca))
  | ife {top sc t a b pos ct ca cb} (ht : Cmp I N top sc (.t t ct)) (ha : Cmp I N top sc (.e a ca)) (hb : Cmp I N top sc (.e b cb)) : Cmp I N top sc (.e (.IfExp t a b pos) (.ife ct ca cb))
  | lst {top sc es pos cs} (h : Cmp I N top sc (.es es cs)) : Cmp I N top sc (.e (.List es pos) (.lst cs))
  | tup {top sc es k pos cs} (h : Cmp I N top sc (.es es cs)) : Cmp I N top sc (.e (.Tuple es k pos) (.tup cs))
  | idx {top sc a b pos ca cb} (ha : Cmp I N top sc (.e a ca)) (hb : Cmp I N top sc (.e b cb)) (hs : PlainIx b) : Cmp I N top sc (.e (.Subscript a b pos) (.idx ca cb))
  | slc {top sc a lo hi p2 pos ca cl ch} (ha : Cmp I N top sc (.e a ca)) (hl : Cmp I N top sc (.o lo cl)) (hh : Cmp I N top sc (.o hi ch)) : Cmp I N top sc (.e (.Subscript a (.Slice lo hi none p2) pos) (.slc ca cl ch))
  | pno {top sc} : Cmp I N top sc (.o none [])
  | pso {top sc a ca} (ha : Cmp I N top sc (.e a ca)) : Cmp I N top sc (.o (some a) [ca])
  | comp {top sc e tg it ifs scope pos ce cg ci cc} {own : List (Str × Nat)} (hi : Cmp I N top sc (.i it ci)) (hk : blkB N sc scope own cg = true) (hg : Cmp I N false (relS scope sc) (.g tg cg)) (hc : Cmp I N false (relS scope sc) (.c ifs cc))
      (he : Cmp I N false (relS scope sc) (.e e ce)) (hf : Fold it) : Cmp I N top sc (.e (.ListComp e [⟨tg, it, ifs, 0⟩] scope pos) (.comp ce cg ci cc (own.map (·.2))))
  | cnil {top sc} : Cmp I N top sc (.c [] [])
  | cone {top sc a ca} (ha : Cmp I N top sc (.t a ca)) : Cmp I N top sc (.c [a] [ca])
  | call {top sc x p e es pos cs} {f : Nat} (hd : I.dn[f]? = some x) (hg : glB sc x = true) (h : Cmp I N top sc (.es (e :: es) cs)) : Cmp I N top sc (.e (.Call (.Name x p) (e :: es) [] pos) (.call f cs))
  | bi {top sc x p e es pos cs} {b : Bi} (hx : x = biN b) (hg : glB sc x = true) (h : Cmp I N top sc (.es (e :: es) cs)) (hb : biFn b = true) : Cmp I N top sc (.e (.Call (.Name x p) (e :: es) [] pos) (.bi b cs))
  | bit {top sc x p e es pos cs} {b : Bi} (hx : x = biN b) (hg : glB sc x = true) (h : Cmp I N top sc (.es (e :: es) cs)) (hb : biTy b = true) : Cmp I N top sc (.e (.Call (.Name x p) (e :: es) [] pos) (.bi b cs))
  | bim {top sc x p e es pos cs} {b : Bi} (hx : x = biN b) (hg : glB sc x = true) (h : Cmp I N top sc (.es (e :: es) cs)) (hb : biMo b = true) (hm : I.mods.contains (biN b) = true) : Cmp I N top sc (.e (.Call (.Name x p) (e :: es) [] pos) (.bi b cs))
  | append {top sc o e apos pos co ce} (ho : Cmp I N top sc (.e o co)) (he : Cmp I N top sc (.e e ce)) (hs : Star e) (hb : Base o "append") (hl : (apos.endLine == pos.line) = true) : Cmp I N top sc (.e (.Call (.Attribute o "append" apos) [e] [] pos) (.bm .append co [ce]))
  | pop {top sc o apos pos co} (ho : Cmp I N top sc (.e o co)) (hb : Base o "pop") (hl : (apos.endLine == pos.line) = true) : Cmp I N top sc (.e (.Call (.Attribute o "pop" apos) [] [] pos) (.bm .pop co []))
  | reverse {top sc o apos pos co} (ho : Cmp I N top sc (.e o co)) (hb : Base o "reverse") (hl : (apos.endLine == pos.line) = true) : Cmp I N top sc (.e (.Call (.Attribute o "reverse" apos) [] [] pos) (.bm .reverse co []))
  | isi1 {top sc a x p p2 pos ca} {k : Kd} (hx : x = Str.ofString (kdN k)) (hg : glB sc "isinstance" = true) (hg2 : glB sc x = true) (ha : Cmp I N top sc (.e a ca)) (hs : Star a) : Cmp I N top sc (.e (.Call (.Name "isinstance" p) [a, .Name x p2] [] pos) (.isi ca [k]))
  | isiT {top sc a xs kt p p2 pos ca} {ks : List Kd} (hx : xs.map (fun x => match x with | .Name n _ => some n | _ => none) = ks.map (fun k => some (Str.ofString (kdN k)))) (hg : glB sc "isinstance" = true) (hg2 : (ks.all fun k => glB sc (Str.ofString (kdN k))) = true) (hz : decide (ks.length ≤ 16) = true)
      (ha : Cmp I N top sc (.e a ca)) (hs : Star a) : Cmp I N top sc (.e (.Call (.Name "isinstance" p) [a, .Tuple xs kt p2] [] pos) (.isi ca ks))
  | nil {top sc} : Cmp I N top sc (.es [] [])
  | cons {top sc e es ce cs} (he : Cmp I N top sc (.e e ce)) (hs : Cmp I N top sc (.es es cs)) (st : Star e) : Cmp I N top sc (.es (e :: es) (ce :: cs))
  | t_cmp {top sc a b p pos ca cb} {op : Cp} (hp : p = pyCp op) (ha : Cmp I N top sc (.e a ca)) (hb : Cmp I N top sc (.e b cb)) : Cmp I N top sc (.t (.Compare a [p] [b] pos) (.cmp op ca cb))
  | t_chain {top sc a b c p q pos ca cb cc} {o1 o2 : Cp} (hp : p = pyCp o1) (hq : q = pyCp o2) (ha : Cmp I N top sc (.e a ca)) (hb : Cmp I N top sc (.e b cb)) (hc : Cmp I N top sc (.e c cc)) : Cmp I N top sc (.t (.Compare a [p, q] [b, c] pos) (.chain o1 o2 ca cb cc))
  | t_isNon {top sc a pos j p2 ca} (ha : Cmp I N top sc (.e a ca)) : Cmp I N top sc (.t (.Compare a [.Is] [.Constant .none j p2] pos) (.isNon ca))
  | t_notNon {top sc a pos j p2 ca} (ha : Cmp I N top sc (.e a ca)) : Cmp I N top sc (.t (.Compare a [.IsNot] [.Constant .none j p2] pos) (.notNon ca))
  | t_isTru {top sc a pos j p2 ca} (ha : Cmp I N top sc (.e a ca)) : Cmp I N top sc (.t (.Compare a [.Is] [.Constant (.bool true) j p2] pos) (.isTru ca))
  | anyt {top sc a ca} (ha : Cmp I N top sc (.e a ca)) (ht : TestAny a) : Cmp I N top sc (.t a ca)
  | nott {top sc a pos ca} (ha : Cmp I N top sc (.t a ca)) : Cmp I N top sc (.t (.UnaryOp .Not a pos) (.not_ ca))
  | wt {top sc a ca} (ha : Cmp I N top sc (.w a ca)) : Cmp I N top sc (.t a ca)
  | oneta {top sc a pos ca} (ha : Cmp I N top sc (.t a ca)) : Cmp I N top sc (.w (.BoolOp .And [a] pos) ca)
  | oneto {top sc a pos ca} (ha : Cmp I N top sc (.t a ca)) : Cmp I N top sc (.w (.BoolOp .Or [a] pos) ca)
  | andt {top sc a b r pos ca cb} (ha : Cmp I N top sc (.t a ca)) (hb : Cmp I N top sc (.w (.BoolOp .And (b :: r) pos) cb)) : Cmp I N top sc (.w (.BoolOp .And (a :: b :: r) pos) (.and_ ca cb))
  | ort {top sc a b r pos ca cb} (ha : Cmp I N top sc (.t a ca)) (hb : Cmp I N top sc (.w (.BoolOp .Or (b :: r) pos) cb)) : Cmp I N top sc (.w (.BoolOp .Or (a :: b :: r) pos) (.or_ ca cb))
  | gnm {top sc x pos} {i : Nat} (hN : N[i]? = some x) (hl : locB top sc x = true) : Cmp I N top sc (.g (.Name x pos) (.nm i))
  | gtup {top sc ts k pos gs} (h : Cmp I N top sc (.gs ts gs)) (hn : ∀ env : PySem.Env, (assignEach ts env).length = ts.length) (hst : ∀ env : PySem.Env, (assignEach ts env).findIdx? (·.1) = none) : Cmp I N top sc (.g (.Tuple ts k pos) (.tup gs))
  | gnil {top sc} : Cmp I N top sc (.gs [] [])
  | gcons {top sc t ts g gs} (h1 : Cmp I N top sc (.g t g)) (h2 : Cmp I N top sc (.gs ts gs)) (ha : AsE t) : Cmp I N top sc (.gs (t :: ts) (g :: gs))
  | irng1 {top sc a p pos ca} (hg : glB sc "range" = true) (ha : Cmp I N top sc (.e a ca)) (hs : Star a) : Cmp I N top sc (.i (.Call (.Name "range" p) [a] [] pos) (.rng1 ca))
  | irng2 {top sc a b p pos ca cb} (hg : glB sc "range" = true) (ha : Cmp I N top sc (.e a ca)) (hb : Cmp I N top sc (.e b cb)) (hs : Star a) (hs2 : Star b) : Cmp I N top sc (.i (.Call (.Name "range" p) [a, b] [] pos) (.rng2 ca cb))
  | iany {top sc a ca} (ha : Cmp I N top sc (.e a ca)) : Cmp I N top sc (.i a (.any ca))
  | snil {sc} : Cmp I N true sc (.ss [] [])
  | scons {sc s r c cs} (h1 : Cmp I N true sc (.s s c)) (h2 : Cmp I N true sc (.ss r cs)) : Cmp I N true sc (.ss (s :: r) (c :: cs))
  | set {sc x py a pos ca} {i : Nat} (hN : N[i]? = some x) (hl : locB true sc x = true) (ha : Cmp I N true sc (.e a ca)) (hs : ∀ env : PySem.Env, env.scope = sc → swapsWith a (some (.Name x py)) pos.line env = pure false) : Cmp I N true sc (.s (.Assign [.Name x py] a pos) (.set i ca))
  | setc {sc x py e tg it ifs scope pos spos ce cg ci cc} {i : Nat} {own : List (Str × Nat)} (hN : N[i]? = some x) (hl : lclB sc x = true) (hs : (py.line == pos.line && !(scope.names.any fun (n, k) => n == x && (k == .local || k == .cell))) = true)
      (hi : Cmp I N true sc (.i it ci)) (hk : blkB N sc scope own cg = true) (hg : Cmp I N false (relS scope sc) (.g tg cg)) (hc : Cmp I N false (relS scope sc) (.c ifs cc))
      (he : Cmp I N false (relS scope sc) (.e e ce)) (hf : Fold it) : Cmp I N true sc (.s (.Assign [.Name x py] (.ListComp e [⟨tg, it, ifs, 0⟩] scope pos) spos) (.set i (.comp ce cg ci cc (own.map (·.2)))))
  | asg {sc tg a pos g ca} (hg : Cmp I N true sc (.g tg g)) (ha : Cmp I N true sc (.e a ca)) (hs : ∀ env : PySem.Env, swapsWithSole [tg] a pos.line env = pure false) (hw : ∀ env : PySem.Env, swappedStores [tg] a env = pure none) (h1 : AsE tg) : Cmp I N true sc (.s (.Assign [tg] a pos) (.asg g ca))
  | sub {sc o i v p pos co ci cv} (ho : Cmp I N true sc (.e o co)) (hi : Cmp I N true sc (.e i ci)) (hv : Cmp I N true sc (.e v cv)) (hs : ∀ env : PySem.Env, swapsWithSole [.Subscript o i p] v pos.line env = pure false) (hw : ∀ env : PySem.Env, swappedStores [.Subscript o i p] v env = pure none)
      (h1 : AsE (.Subscript o i p)) (ha : SubA o i p) : Cmp I N true sc (.s (.Assign [.Subscript o i p] v pos) (.sub co ci cv))
  | aug {sc x py p a pos ca} {i : Nat} {ng : Bool} (hN : N[i]? = some x) (hp : p = if ng then .Sub else .Add) (hl : locB true sc x = true) (ha : Cmp I N true sc (.e a ca)) : Cmp I N true sc (.s (.AugAssign (.Name x py) p a pos) (.aug i ng ca))
  | expr {sc a pos ca} (ha : Cmp I N true sc (.e a ca)) (hs : ∀ env : PySem.Env, swapsWith a none pos.line env = pure false) : Cmp I N true sc (.s (.Expr a pos) (.expr ca))
  | ret {sc a pos ca} (ha : Cmp I N true sc (.e a ca)) : Cmp I N true sc (.s (.Return (some a) pos) (.ret ca))
  | pass {sc pos} : Cmp I N true sc (.s (.Pass pos) .pass)
  | brk {sc pos} : Cmp I N true sc (.s (.Break pos) .brk)
  | cont {sc pos} : Cmp I N true sc (.s (.Continue pos) .cont)
  | if_ {sc t a b pos ct ca cb} (ht : Cmp I N true sc (.t t ct)) (ha : Cmp I N true sc (.ss a ca)) (hb : Cmp I N true sc (.ss b cb)) : Cmp I N true sc (.s (.If t a b pos) (.if_ ct ca cb))
  | for_ {sc tg it b pos g ci cb} (hi : Cmp I N true sc (.i it ci)) (hg : Cmp I N true sc (.g tg g)) (hb : Cmp I N true sc (.ss b cb)) (hf : Fold it) : Cmp I N true sc (.s (.For tg it b [] pos) (.for_ g ci cb))
  | while_ {sc t b pos ct cb} (ht : Cmp I N true sc (.t t ct)) (hb : Cmp I N true sc (.ss b cb)) : Cmp I N true sc (.s (.While t b [] pos) (.while_ ct cb))
  | raise_ {sc x p p2 pos} {c : Nat} (hd : I.cn[c]? = some x) (hg : glB sc x = true) : Cmp I N true sc (.s (.Raise (some (.Call (.Name x p) [] [] p2)) none pos) (.raise_ c))
  | try_ {sc b h0 hds pos cb hs} (hb : Cmp I N true sc (.ss b cb)) (hh : Cmp I N true sc (.h (h0 :: hds) hs)) : Cmp I N true sc (.s (.Try b (h0 :: hds) [] [] pos) (.try_ cb hs))
  | hnil {sc} : Cmp I N true sc (.h [] [])
  | hcons {sc x np k kk p1 p2 pos' hds hs} {c : Nat} (hd : I.cn[c]? = some x) (hg : glB sc x = true) (h : Cmp I N true sc (.h hds hs)) : Cmp I N true sc (.h (.ExceptHandler (some (.Name x np)) none [.Return (some (.Constant (.bool k) kk p1)) p2] pos' :: hds) ((c, .bl k) :: hs))

/-- a comprehension stored at a name that is captured -/
theorem sw_cell {sc : Scope} {e : Expr} {gs : List Comprehension} {scope : Scope} {pos py : Pos} {x : Str} {l : Nat} (h : lclB sc x = false) : ∀ env : PySem.Env, env.scope = sc → swapsWith (.ListComp e gs scope pos) (some (.Name x py)) l env = pure false := by
  intro env he
  have hk : (env.kindOf x == some .local) = false := by
    show (env.scope.names.lookup x == some .local) = false
    rw [he]
    unfold lclB at h
    split at h
    · cases h
    · rename_i hn
      cases q : sc.names.lookup x with
      | none => rfl
      | some k => cases k <;> first | rfl | exact absurd q hn
  unfold swapsWith
  simp only [hk, Bool.and_false, Bool.false_and]
/-- a context in which a block of the text stands -/
structure Gd (I : Info) (N : List Str) (cl : Nat → Addr) (cb : CB) (P : Prog) (X : Cx) (top : Bool) (sc : Scope) (W : WX) : Prop where
  scope : X.env.scope = sc
  names : X.N = N
  nd : N.Nodup
  calm : X.calm = true
  units : X.A.units + 64 < cLine
  tk : Takes X W
  fn : top = true → ∀ x, X.fn x = true
  blt : ∀ x ∈ blts, X.mg x = none
  mods : ∀ b, biMo b = true → I.mods.contains (biN b) = true → X.mg (biN b) = some (pyBi b)
  calls : ∀ f x, I.dn[f]? = some x → ∃ k fa fd ps, FnOk X.prog X.w X.K X.mg X.base (L2.CX X.prog X.w) k fa fd ps (spD X.K cl ps.length (cb f)) ∧ Room k X.A ∧ X.mg x = some (.ref fa) ∧ PySem.W.keepIn X.K (.ref fa) = true ∧ Binds X.K fd ps [] ∧ ∀ ss st, ss.length ≠ ps.length → cb f ss st = .bad
  excs : ∀ c x, I.cn[c]? = some x → ExcOk X (cl c) x
  sub : ∀ i j, i < P.nc → j < I.cn.length → PySem.W.exmOne X.K (.ref (cl i)) (.ref (cl j)) = some (P.sub i j)
  kind : top = true → sc.kind = .function
  stm : top = true → PassesOwn (model X.prog X.w) X.A X.env X.xe ∧ X.stack = X.env :: X.outer ∧ X.env.frame = some X.env.locals
section
variable {I : Info} {N : List Str} {cl : Nat → Addr} {cb : CB} {P : Prog} {X : Cx} {top : Bool} {sc : Scope} {W : WX}
theorem Gd.blk {scope : Scope} {s : Shared} {H : Hp} {C : Addr} {cs : List (Str × Addr)} {fp : List Addr} (g : Gd I N cl cb P X top sc W) : Gd I N cl cb P (X.blk s H scope (compEnvC scope cs C X.env) fp) false (relS scope sc) W0 where
  scope := by rw [← g.scope]; rfl
  names := g.names
  nd := g.nd
  calm := g.calm
  units := g.units
  tk := takes0
  fn := fun h => nomatch h
  blt := g.blt
  mods := g.mods
  calls := g.calls
  excs := fun c x h => let ⟨a1, a2, a3, a4, a5⟩ := g.excs c x h; ⟨a1, a2, a3, a4, a5⟩
  sub := g.sub
  kind := fun h => nomatch h
  stm := fun h => nomatch h
theorem Gd.tr {pn : List (Addr × Obj)} {xe : Value → Shared → Prop} {W' : WX} (g : Gd I N cl cb P X true sc W) (tk : Takes (X.tr pn xe) W') (po : PassesOwn (model X.prog X.w) X.A X.env xe) : Gd I N cl cb P (X.tr pn xe) true sc W' where
  scope := g.scope
  names := g.names
  nd := g.nd
  calm := g.calm
  units := g.units
  tk := tk
  fn := g.fn
  blt := g.blt
  mods := g.mods
  calls := g.calls
  excs := fun c x h => let ⟨a1, a2, a3, a4, a5⟩ := g.excs c x h; ⟨a1, a2, a3, a4, a5⟩
  sub := g.sub
  kind := g.kind
  stm := fun _ => ⟨po, (g.stm rfl).2⟩
theorem nameB_dbg {x : Str} (h : nameB x = true) : (x == ("__debug__" : Str)) = false := by
  unfold nameB at h
  simp only [Bool.and_eq_true, Bool.not_eq_true'] at h
  exact h.1
theorem nameB_cd {x : Str} (h : nameB x = true) : (x == ("__classdict__" : Str)) = false := by
  unfold nameB at h
  simp only [Bool.and_eq_true, Bool.not_eq_true'] at h
  exact h.2
theorem visB_vis {x : Str} (h : visB sc x = true) : Vis sc x ∧ nameB x = true := by
  unfold visB at h
  rw [Bool.and_eq_true] at h
  obtain ⟨h1, h2⟩ := h
  refine ⟨?_, h1⟩
  split at h2 <;> first | exact .inl (by assumption) | exact .inr (.inl (by assumption)) | exact .inr (.inr (by assumption)) | cases h2
theorem glB_gl {x : Str} (h : glB sc x = true) : sc.names.lookup x = some .globalImplicit ∧ nameB x = true := by
  unfold glB at h
  rw [Bool.and_eq_true] at h
  obtain ⟨h1, h2⟩ := h
  refine ⟨?_, h1⟩
  split at h2 <;> first | assumption | cases h2
theorem locB_loc {x : Str} (h : locB top sc x = true) : Loc sc x ∧ (top = true ∨ sc.names.lookup x = some .local) := by
  unfold locB at h
  split at h
  · exact ⟨.inl (by assumption), .inr (by assumption)⟩
  · exact ⟨.inr (by assumption), .inl h⟩
  · cases h
theorem lclB_loc {x : Str} (h : lclB sc x = true) : sc.names.lookup x = some .local := by
  unfold lclB at h
  split at h <;> first | assumption | cases h
theorem Gd.gl {x : Str} (g : Gd I N cl cb P X top sc W) (h : glB sc x = true) : Gl X x := by
  show X.env.scope.names.lookup x = _
  rw [g.scope]; exact (glB_gl h).1
theorem Gd.lc {x : Str} (g : Gd I N cl cb P X top sc W) (h : locB top sc x = true) : Loc X.env.scope x ∧ (X.fn x = true ∨ X.env.scope.names.lookup x = some .local) := by
  rw [g.scope]
  obtain ⟨h1, h2⟩ := locB_loc h
  exact ⟨h1, h2.elim (fun z => .inl (g.fn z x)) .inr⟩
def NoStar : List Expr → Prop
  | [] => True
  | e :: es => Star e ∧ NoStar es
theorem noStar_any {pos : Pos} {env : PySem.Env} : ∀ {es : List Expr}, NoStar es → (backTo pos (starEach es env)).any (·.1) = false
  | [], _ => rfl
  | e :: es, h => by
    rw [h.1 es env]
    show (false || (backTo pos (starEach es env)).any (·.1)) = false
    rw [noStar_any h.2]; rfl
def Mean (X : Cx) (cl : Nat → Addr) (cb : CB) (P : Prog) (W : WX) : Nd → Prop
  | .e x c => PE X x (tE X.K cl W (evE cb c))
  | .t x c => PT X x (tT X.K cl W fun env st => (evE cb c env st).bind truD)
  | .w x c => PW X x (tT X.K cl W fun env st => (evE cb c env st).bind truD)
  | .es xs cs => PA X xs (tA X.K cl W (evEs cb cs)) ∧ NoStar xs
  | .g x g => L2.PG X x (gD X.K cl g)
  | .gs xs gs => PGsD X cl xs gs
  | .i x c => ∀ tg, PI X tg x (tI X.K cl W (evI cb c))
  | .o x cs => PO X x (tO X.K cl W (evO cb cs))
  | .c xs cs => PTs X xs (tT X.K cl W (evC cb cs))
  | .s x c => PS X x (tS X.K cl W (evS cb P c))
  | .ss xs cs => PSs X xs (tS X.K cl W (evSs cb P cs))
  | .h hds hs => HdD X cl P hds hs
theorem bltn_of (g : Gd I N cl cb P X top sc W) {x : Str} (h : x ∈ blts) : X.mg x = none := g.blt x h
theorem boot_bi : ∀ b : Bi, biFn b = true ∨ biTy b = true → bootBuiltins (biN b) = some (pyBi b) := by
  intro b h
  cases b <;> first | decide +kernel | (rcases h with h | h <;> cases h)
theorem bi_name : ∀ b : Bi, biN b ≠ "__name__" := by intro b; cases b <;> decide +kernel
theorem bi_blt : ∀ b : Bi, biFn b = true ∨ biTy b = true → biN b ∈ blts := by
  intro b h
  cases b <;> first | decide +kernel | (rcases h with h | h <;> cases h)
theorem kd_boot : ∀ k : Kd, bootBuiltins (Str.ofString (kdN k)) = some (.type (kdN k)) := by intro k; cases k <;> decide +kernel
theorem kd_name : ∀ k : Kd, Str.ofString (kdN k) ≠ "__name__" := by intro k; cases k <;> decide +kernel
theorem kd_dbg : ∀ k : Kd, (Str.ofString (kdN k) == ("__debug__" : Str)) = false := by intro k; cases k <;> decide +kernel
theorem kd_blt : ∀ k : Kd, Str.ofString (kdN k) ∈ blts := by intro k; cases k <;> decide +kernel
theorem tru_not_f (x : E) : (fun env st => (evE cb (.not_ x) env st).bind truD) = notF (fun env st => (evE cb x env st).bind truD) := funext fun env => funext fun st => tru_not x env st
theorem tru_and_f (x y : E) : (fun env st => (evE cb (.and_ x y) env st).bind truD) = andF (fun env st => (evE cb x env st).bind truD) (fun env st => (evE cb y env st).bind truD) := funext fun env => funext fun st => tru_and x y env st
theorem tru_or_f (x y : E) : (fun env st => (evE cb (.or_ x y) env st).bind truD) = orF (fun env st => (evE cb x env st).bind truD) (fun env st => (evE cb y env st).bind truD) := funext fun env => funext fun st => tru_or x y env st
/-- THE TEXT DOES WHAT THE EVALUATOR TELLS -/
theorem sound {top : Bool} {sc : Scope} {nd : Nd} (h : Cmp I N top sc nd) : ∀ (X : Cx) (W : WX), Gd I N cl cb P X top sc W → Mean X cl cb P W nd := by
  induction h with
  | var hN hv => exact fun X W g => s_var (by rw [g.names]; exact hN) (by rw [g.scope]; exact (visB_vis hv).1) (nameB_dbg (visB_vis hv).2) (nameB_cd (visB_vis hv).2)
  | int => exact fun X W g => s_int
  | bl => exact fun X W g => s_bl
  | non => exact fun X W g => s_non
  | str => exact fun X W g => s_str
  | bin hp ha hb iha ihb => exact fun X W g => s_bin hp (iha X W g) (ihb X W g)
  | neg ha iha => exact fun X W g => s_neg (iha X W g)
  | cmp hp ha hb iha ihb => exact fun X W g => s_cmp hp g.units (iha X W g) (ihb X W g)
  | chain hp hq ha hb hc iha ihb ihc => exact fun X W g => s_chain hp hq g.units (iha X W g) (ihb X W g) (ihc X W g)
  | isNon ha iha => exact fun X W g => s_isNon (iha X W g)
  | notNon ha iha => exact fun X W g => s_notNon (iha X W g)
  | isTru ha iha => exact fun X W g => s_isTru (iha X W g)
  | onev ha iha => exact fun X W g => s_one (iha X W g)
  | andv ha hb iha ihb => exact fun X W g => s_and (iha X W g) (ihb X W g)
  | orv ha hb iha ihb => exact fun X W g => s_or (iha X W g) (ihb X W g)
  | notv ha iha => exact fun X W g => s_not (iha X W g)
  | ife ht ha hb iht iha ihb => exact fun X W g => s_ife (iht X W g) (iha X W g) (ihb X W g)
  | lst h ih => exact fun X W g => s_lst (ih X W g).1
  | tup h ih => exact fun X W g => s_tup (ih X W g).1
  | idx ha hb hs iha ihb => exact fun X W g => s_idx (iha X W g) (ihb X W g) hs
  | slc ha hl hh iha ihl ihh => exact fun X W g => s_slc (iha X W g) (ihl X W g) (ihh X W g)
  | pno => exact fun X W g => p_no
  | pso ha iha => exact fun X W g => p_so (iha X W g)
  | @comp top sc e tg it ifs scope pos ce cg ci cc own hi hk hg hc he hf ihi ihg ihc ihe =>
    intro X W g
    unfold blkB at hk
    rw [Bool.and_eq_true] at hk
    refine PE.mono (pe_lc (g := gD X.K cl cg) (tt := tT X.K cl W0 (evC cb cc)) (te := tE X.K cl W0 (evE cb ce)) g.calm (by rw [g.names]; exact g.nd) (ihi X W g _) (blkOk_by (by rw [g.names, g.scope]; exact hk.1)) (fun s H C cs fp => ihg (X.blk s H scope (compEnvC scope cs C X.env) fp) W0 g.blk) (fun s H C cs fp => ihc (X.blk s H scope (compEnvC scope cs C X.env) fp) W0 g.blk) (fun s H C cs fp => ihe (X.blk s H scope (compEnvC scope cs C X.env) fp) W0 g.blk) (hf X.env)) fun σ H Q h => ?_
    exact comp_turn (fun j hj => by simpa using List.all_eq_true.mp hk.2 j hj) h
  | cnil => exact fun X W g => c_nil
  | cone ha iha => exact fun X W g => c_one (iha X W g)
  | call hd hg h ih =>
    intro X W g
    obtain ⟨k, fa, fd, ps, F, hr, hm, hk, hb, hl⟩ := g.calls _ _ hd
    obtain ⟨h1, h2⟩ := ih X W g
    exact s_call F hr (g.gl hg) hm hk hb g.tk hl h1 (nameB_dbg (glB_gl hg).2) (h2.1 _ _) (noStar_any h2.2)
  | @bi top sc x p e es pos cs b hx hg h hb ih =>
    intro X W g
    subst hx
    obtain ⟨h1, h2⟩ := ih X W g
    refine s_bi (bi := b) g.calm ?_
    have hc := rBi_ok (X := X) g.calm b
    obtain ⟨id, hid⟩ : ∃ id, pyBi b = .builtin id := by cases b <;> first | exact ⟨_, rfl⟩ | cases hb
    rw [hid] at hc
    exact pe_callB hc (g.gl hg) (bltn_of g (bi_blt b (.inl hb))) (by rw [← hid]; exact boot_bi b (.inl hb)) h1 (bi_name b) (nameB_dbg (glB_gl hg).2) (h2.1 _ _) (noStar_any h2.2)
  | @bit top sc x p e es pos cs b hx hg h hb ih =>
    intro X W g
    subst hx
    obtain ⟨h1, h2⟩ := ih X W g
    refine s_bi (bi := b) g.calm ?_
    have hc := rBi_ok (X := X) g.calm b
    obtain ⟨id, hid⟩ : ∃ id, pyBi b = .type id := by cases b <;> first | exact ⟨_, rfl⟩ | cases hb
    rw [hid] at hc
    exact pe_callTy hc (g.gl hg) (bltn_of g (bi_blt b (.inr hb))) (by rw [← hid]; exact boot_bi b (.inr hb)) h1 (bi_name b) (nameB_dbg (glB_gl hg).2) (h2.1 _ _) (noStar_any h2.2)
  | @bim top sc x p e es pos cs b hx hg h hb hm ih =>
    intro X W g
    subst hx
    obtain ⟨h1, h2⟩ := ih X W g
    refine s_bi (bi := b) g.calm ?_
    have hc := rBi_ok (X := X) g.calm b
    obtain ⟨id, hid⟩ : ∃ id, pyBi b = .builtin id := by cases b <;> first | exact ⟨_, rfl⟩ | cases hb
    rw [hid] at hc
    exact pe_callBfun hc (g.gl hg) (by rw [← hid]; exact g.mods b hb hm) h1 (nameB_dbg (glB_gl hg).2) (h2.1 _ _) (noStar_any h2.2)
  | append ho he hs hb hl iho ihe =>
    intro X W g
    exact s_append (iho X W g) (s_cons (ihe X W g) s_nil (hs [] _)) (hb _) (by rw [hs [] X.env]; rfl) hl (hs [] _) rfl
  | pop ho hb hl iho => exact fun X W g => s_pop (iho X W g) (hb _) hl
  | reverse ho hb hl iho => exact fun X W g => s_reverse (iho X W g) (hb _) hl
  | isi1 hx hg hg2 ha hs iha =>
    intro X W g
    subst hx
    exact s_isi1 (g.gl hg) (bltn_of g (by decide +kernel)) (g.gl hg2) (bltn_of g (kd_blt _)) (kd_boot _) (kd_name _) (kd_dbg _) (iha X W g) (hs _ _)
  | @isiT top sc a xs kt p p2 pos ca ks hx hg hg2 hz ha hs iha =>
    intro X W g
    refine s_isiT (by have := congrArg List.length hx; simpa using this) (fun i x k h1 h2 => ?_) (g.gl hg) (bltn_of g (by decide +kernel)) (fun k hk => g.gl (List.all_eq_true.mp hg2 k hk)) (fun k => bltn_of g (kd_blt k)) kd_boot kd_name kd_dbg (of_decide_eq_true hz) (iha X W g) (hs _ _)
    have := congrArg (·[i]?) hx
    simp only [List.getElem?_map, h1, h2, Option.map_some, Option.some.injEq] at this
    split at this
    · rename_i n p'
      cases this
      exact ⟨p', rfl⟩
    · cases this
  | nil => exact fun X W g => ⟨s_nil, trivial⟩
  | cons he hs st ihe ihs => exact fun X W g => ⟨s_cons (ihe X W g) (ihs X W g).1 (st _ _), st, (ihs X W g).2⟩
  | t_cmp hp ha hb iha ihb => exact fun X W g => t_cmp hp g.units (iha X W g) (ihb X W g)
  | t_chain hp hq ha hb hc iha ihb ihc => exact fun X W g => t_chain hp hq g.units (iha X W g) (ihb X W g) (ihc X W g)
  | t_isNon ha iha => exact fun X W g => t_isNon (iha X W g)
  | t_notNon ha iha => exact fun X W g => t_notNon (iha X W g)
  | t_isTru ha iha => exact fun X W g => t_isTru (iha X W g)
  | anyt ha ht iha => exact fun X W g => t_any (iha X W g) (ht X.env)
  | nott ha iha =>
    intro X W g
    refine PT.mono (t_not (iha X W g)) fun σ H Q h => ?_
    have h : tT X.K cl W _ σ H Q := h
    rw [tru_not_f] at h
    exact h
  | wt ha iha => exact fun X W g => (iha X W g).pt
  | oneta ha iha => exact fun X W g => w_and1 (iha X W g)
  | oneto ha iha => exact fun X W g => w_or1 (iha X W g)
  | andt ha hb iha ihb =>
    intro X W g
    refine PW.mono (w_and (iha X W g) (ihb X W g)) fun σ H Q h => ?_
    have h : tT X.K cl W _ σ H Q := h
    rw [tru_and_f] at h
    exact h
  | ort ha hb iha ihb =>
    intro X W g
    refine PW.mono (w_or (iha X W g) (ihb X W g)) fun σ H Q h => ?_
    have h : tT X.K cl W _ σ H Q := h
    rw [tru_or_f] at h
    exact h
  | gnm hN hl => exact fun X W g => g_nm (by rw [g.names]; exact g.nd) (by rw [g.names]; exact hN) (g.lc hl).1 (g.lc hl).2
  | gtup h hn hst ih => exact fun X W g => g_tup g.calm (ih X W g) (hn _) (hst _)
  | gnil => exact fun X W g => g_nil
  | gcons h1 h2 ha ih1 ih2 => exact fun X W g => g_cons (ih1 X W g) (ih2 X W g) (ha _ _)
  | irng1 hg ha hs iha => exact fun X W g tg => i_rng1 (g.gl hg) (bltn_of g (by decide +kernel)) (iha X W g) (fun es => hs es _)
  | irng2 hg ha hb hs hs2 iha ihb => exact fun X W g tg => i_rng2 (g.gl hg) (bltn_of g (by decide +kernel)) (iha X W g) (ihb X W g) (fun es => hs es _) (fun es => hs2 es _)
  | iany ha iha => exact fun X W g tg => i_any (iha X W g)
  | snil => exact fun X W g => z_nil
  | scons h1 h2 ih1 ih2 => exact fun X W g => z_cons (ih1 X W g) (ih2 X W g)
  | set hN hl ha hs iha => exact fun X W g => z_set (by rw [g.names]; exact g.nd) (by rw [g.names]; exact hN) (g.lc hl).1 (g.lc hl).2 (iha X W g) (hs X.env g.scope)
  | @setc sc x py e tg it ifs scope pos spos ce cg ci cc i own hN hl hs hi hk hg hc he hf ihi ihg ihc ihe =>
    intro X W g
    unfold blkB at hk
    rw [Bool.and_eq_true] at hk hs
    have hsw : swapsWith (.ListComp e [⟨tg, it, ifs, 0⟩] scope pos) (some (.Name x py)) spos.line X.env = pure true :=
      sw_true (by rw [g.scope]; exact g.kind rfl) (by rw [g.scope]; exact lclB_loc hl) hs.1 (by have := hs.2; rwa [Bool.not_eq_true'] at this)
    refine z_setc (PS.mono (ps_setLc (g := gD X.K cl cg) (tt := tT X.K cl W0 (evC cb cc)) (te := tE X.K cl W0 (evE cb ce)) g.calm (by rw [g.names]; exact g.nd) (by rw [g.names]; exact hN) (by rw [g.scope]; exact lclB_loc hl) hsw (ihi X W g _) (blkOk_by (by rw [g.names, g.scope]; exact hk.1)) (fun s H C cs fp => ihg (X.blk s H scope (compEnvC scope cs C X.env) fp) W0 g.blk) (fun s H C cs fp => ihc (X.blk s H scope (compEnvC scope cs C X.env) fp) W0 g.blk) (fun s H C cs fp => ihe (X.blk s H scope (compEnvC scope cs C X.env) fp) W0 g.blk) (hf X.env)) fun D σ H h => ?_)
    exact comp_turn (fun j hj => by simpa using List.all_eq_true.mp hk.2 j hj) h
  | asg hg ha hs hw h1 ihg iha => exact fun X W g => z_asg (iha X W g) (ihg X W g) (hs _) (hw _) (h1 [] _)
  | sub ho hi hv hs hw h1 ha iho ihi ihv => exact fun X W g => z_sub (iho X W g) (ihi X W g) (ihv X W g) (hs _) (hw _) (ha _) (h1 [] _)
  | aug hN hp hl ha iha => exact fun X W g => z_aug hp (by rw [g.names]; exact g.nd) (by rw [g.names]; exact hN) (g.lc hl).1 (g.lc hl).2 (iha X W g)
  | expr ha hs iha => exact fun X W g => z_expr (iha X W g) (hs _)
  | ret ha iha => exact fun X W g => z_ret (iha X W g)
  | pass => exact fun X W g => z_pass
  | brk => exact fun X W g => z_brk
  | cont => exact fun X W g => z_cont
  | if_ ht ha hb iht iha ihb => exact fun X W g => z_if (iht X W g) (iha X W g) (ihb X W g)
  | for_ hi hg hb hf ihi ihg ihb => exact fun X W g => z_for (g.stm rfl).1 g.calm (ihi X W g _) (ihg X W g) (ihb X W g) (hf X.env)
  | while_ ht hb iht ihb => exact fun X W g => z_while (g.stm rfl).1 (iht X W g) (ihb X W g)
  | raise_ hd hg => exact fun X W g => z_raise g.calm g.tk (g.excs _ _ hd) (g.gl hg) (nameB_dbg (glB_gl hg).2)
  | try_ hb hh ihb ihh => exact fun X W g => z_try (g.stm rfl).2.1 (g.stm rfl).2.2 g.tk (fun W' pn xe tk po => ihb _ W' (g.tr tk po)) (ihh X W g)
  | hnil => exact fun X W g => h_nil
  | hcons hd hg h ih => exact fun X W g => h_cons ⟨g.gl hg, nameB_dbg (glB_gl hg).2, .inl (g.excs _ _ hd).gC⟩ (fun i hi => g.sub i _ hi (List.getElem?_eq_some_iff.mp hd).1) (ih X W g)
end
end Dy

set_option Elab.async false
set_option linter.all false
set_option maxRecDepth 100000
set_option maxHeartbeats 1000000
set_option autoImplicit false
/-! Dy, part D: the defs, and the law. -/
namespace Dy
open PySem PySem.Spec L2 PyProof.Rows
section
variable {K : PySem.W.Frag} {cl : Nat → Addr} {A A' : List Addr} {st st' : Sto} {H H' : Hp}
theorem get_take {α : Type} {l : List α} {n k : Nat} {a : α} (h : (l.take n)[k]? = some a) : k < n ∧ l[k]? = some a := by
  rw [List.getElem?_take] at h
  split at h
  · exact ⟨by assumption, h⟩
  · cases h
theorem take_get {α : Type} {l : List α} {n k : Nat} {a : α} (hk : k < n) (h : l[k]? = some a) : (l.take n)[k]? = some a := by
  rw [List.getElem?_take, if_pos hk]; exact h
/-- cells that the caller does not know are forgotten -/
theorem cut_rel {n : Nat} (R' : StoreRel K cl A' st' H') (hn : n ≤ st'.length) : StoreRel K cl (A'.take n) (st'.take n) H' ∧ ∀ a, Live (A'.take n) (st'.take n) a → Live A' st' a := by
  have less : ∀ a, Live (A'.take n) (st'.take n) a → Live A' st' a := by
    rintro a ⟨k, c, h1, h2⟩
    exact ⟨k, c, (get_take h1).2, (get_take h2).2⟩
  have kp : Keeps (Live A' st') (Live (A'.take n) (st'.take n)) H' H' := Keeps.less less
  exact ⟨⟨by simp [R'.alen], fun k k' a c c' h1 h2 h3 h4 => R'.inj k k' a c c' (get_take h1).2 (get_take h2).2 (get_take h3).2 (get_take h4).2,
    fun k a c h1 h2 => (R'.live k a c (get_take h1).2 (get_take h2).2).mono rfl kp, fun k a t h1 h2 => Rep.keeps kp _ _ (R'.frz k a t (get_take h1).2 (get_take h2).2)⟩, less⟩
theorem cut_ext (R0 : StoreRel K cl A st H) (R' : StoreRel K cl A' st' H') (e : Ext A st H A' st' H') : Ext A st H (A'.take st.length) (st'.take st.length) H' where
  pre := fun k a h => take_get (by rw [← R0.alen]; exact get_lt h) (e.pre k a h)
  len := by rw [List.length_take]; have := e.len; omega
  frz := fun k t h => take_get (get_lt h) (e.frz k t h)
  new := fun k a h1 h2 => absurd (get_take h2).1 (by omega)
  keep := e.keep
  dom := e.dom
theorem back_ok {s : S} {v : V} {Q : VK} {E : XK} (R0 : StoreRel K cl A st H) (e : Ext A st H A' st' H') (R' : StoreRel K cl A' st' H') (r : sR K cl A' st' H' s v)
    (h : PG K cl (sR K cl) A st H (back st.length s st') Q E) : Q v H' := by
  obtain ⟨R1, less⟩ := cut_rel R' e.len
  have e1 := cut_ext R0 R' e
  have kp : Keeps (Live A' st') (Live (A'.take st.length) (st'.take st.length)) H' H' := Keeps.less less
  unfold back at h
  split at h
  · rename_i t
    exact h _ H' v e1 R1 (Rep.keeps kp t v r)
  · rename_i k
    obtain ⟨a, ha, rfl⟩ := r
    split at h
    · rename_i hk
      exact h _ H' _ e1 R1 ⟨a, take_get hk ha, rfl⟩
    · rename_i hk
      split at h
      · rename_i t ht
        -- the new list
        have hnew : H a = none := e.new k a (by omega) ha
        have less2 : ∀ b, Live (A'.take st.length ++ [a]) (st'.take st.length ++ [.live t]) b → Live A' st' b := by
          rintro b ⟨j, c, h1, h2⟩
          by_cases hj : j < (st'.take st.length).length
          · rw [List.getElem?_append_left hj] at h1
            rw [List.getElem?_append_left (by rw [R1.alen]; exact hj)] at h2
            exact less b ⟨j, c, h1, h2⟩
          · have hl := get_lt h1
            simp only [List.length_append, List.length_singleton] at hl
            have ej : j = (A'.take st.length).length := by rw [R1.alen]; omega
            subst ej
            rw [List.getElem?_append_right (Nat.le_refl _)] at h2
            simp at h2
            subst h2
            exact ⟨k, t, ht, ha⟩
        have kp2 : Keeps (Live A' st') (Live (A'.take st.length ++ [a]) (st'.take st.length ++ [.live t])) H' H' := Keeps.less less2
        have ln : (st'.take st.length).length = st.length := by rw [List.length_take]; have := e.len; omega
        have cut : ∀ {j : Nat} {x : Cel}, (st'.take st.length ++ [Cel.live t])[j]? = some x → (j < st.length ∧ st'[j]? = some x) ∨ (j = st.length ∧ x = .live t) := fun {j x} hj => by
          by_cases hl : j < (st'.take st.length).length
          · rw [List.getElem?_append_left hl] at hj
            exact .inl (get_take hj)
          · have := get_lt hj
            simp only [List.length_append, List.length_singleton] at this
            have ej : j = (st'.take st.length).length := by omega
            subst ej
            rw [List.getElem?_append_right (Nat.le_refl _)] at hj
            simp at hj
            exact .inr ⟨ln, hj.symm⟩
        have cutA : ∀ {j : Nat} {x : Addr}, (A'.take st.length ++ [a])[j]? = some x → (j < st.length ∧ A'[j]? = some x) ∨ (j = st.length ∧ x = a) := fun {j x} hj => by
          by_cases hl : j < (A'.take st.length).length
          · rw [List.getElem?_append_left hl] at hj
            exact .inl (get_take hj)
          · have := get_lt hj
            simp only [List.length_append, List.length_singleton] at this
            have ej : j = (A'.take st.length).length := by omega
            subst ej
            rw [List.getElem?_append_right (Nat.le_refl _)] at hj
            simp at hj
            exact .inr ⟨by rw [R1.alen, ln], hj.symm⟩
        have R2 : StoreRel K cl (A'.take st.length ++ [a]) (st'.take st.length ++ [.live t]) H' := by
          refine ⟨by simp [R'.alen], fun j j' b c c' h1 h2 h3 h4 => ?_, fun j b c h1 h2 => ?_, fun j b u h1 h2 => ?_⟩
          · rcases cut h1 with ⟨l1, g1⟩ | ⟨l1, g1⟩ <;> rcases cut h2 with ⟨l2, g2⟩ | ⟨l2, g2⟩
            · rcases cutA h3 with ⟨_, g3⟩ | ⟨z, _⟩
              · rcases cutA h4 with ⟨_, g4⟩ | ⟨z, _⟩
                · exact R'.inj j j' b c c' g1 g2 g3 g4
                · omega
              · omega
            · cases g2
              rcases cutA h3 with ⟨_, g3⟩ | ⟨z, _⟩
              · rcases cutA h4 with ⟨z, _⟩ | ⟨_, g4⟩
                · omega
                · subst g4
                  have := R'.inj j k _ _ _ g1 ht g3 ha
                  omega
              · omega
            · cases g1
              rcases cutA h4 with ⟨_, g4⟩ | ⟨z, _⟩
              · rcases cutA h3 with ⟨z, _⟩ | ⟨_, g3⟩
                · omega
                · subst g3
                  have := R'.inj j' k _ _ _ g2 ht g4 ha
                  omega
              · omega
            · omega
          · rcases cut h2 with ⟨l2, g2⟩ | ⟨l2, g2⟩
            · rcases cutA h1 with ⟨_, g1⟩ | ⟨z, _⟩
              · exact (R'.live j b c g1 g2).mono rfl kp2
              · omega
            · cases g2
              rcases cutA h1 with ⟨z, _⟩ | ⟨_, g1⟩
              · omega
              · subst g1
                exact (R'.live k _ _ ha ht).mono rfl kp2
          · rcases cut h2 with ⟨l2, g2⟩ | ⟨l2, g2⟩
            · rcases cutA h1 with ⟨_, g1⟩ | ⟨z, _⟩
              · exact Rep.keeps kp2 _ _ (R'.frz j b u g1 g2)
              · omega
            · cases g2
        refine h _ H' _ ⟨fun j b hb => ?_, by rw [List.length_append, ln]; omega, fun j u hu => ?_, fun j b h1 h2 => ?_, e.keep, e.dom⟩ R2 ⟨a, ?_, rfl⟩
        · rw [List.getElem?_append_left (by rw [R1.alen, ln, ← R0.alen]; exact get_lt hb)]
          exact e1.pre j b hb
        · rw [List.getElem?_append_left (by rw [ln]; exact get_lt hu)]
          exact e1.frz j u hu
        · rcases cutA h2 with ⟨z, _⟩ | ⟨_, g⟩
          · omega
          · subst g; exact hnew
        · have el : (A'.take st.length).length = st.length := by rw [R1.alen, ln]
          rw [List.getElem?_append_right (by rw [el]; exact Nat.le_refl _), el]
          simp
      · rename_i t ht
        exact h _ H' _ e1 R1 (Rep.keeps kp t _ (R'.frz k a t ha ht))
      · exact h.elim
end
/-- what is known of an exception class -/
structure ExcF (K : PySem.W.Frag) (mg : Str → Option Value) (C : Addr) (x : Str) : Prop where
  gC : mg x = some (.ref C)
  exc : PySem.W.excIn K C PySem.HandSPX.veTail "ValueError.__new__" = true
  kC : PySem.W.keepIn K (.ref C) = true
  sub : PySem.W.subIn K (.ref C) (.type "BaseException") = some true
  ty : PySem.W.typeIn K (.ref C) = some (.type "type")
/-- def f of the table -/
structure DefAt (I : Info) (K : PySem.W.Frag) (mg : Str → Option Value) (ds : Nat → Option Def) (f : Nat) (x : Str) (fa : Addr) (fd : FuncData) (ps : List Str) : Prop where
  ex : ∃ (qual : Str) (s : Stmt) (N : List Str) (d : Def), Fun K x qual s fa fd ∧ FnScope N ps (defScope s) ∧ Cmp I N true (defScope s) (.ss (defBody s) d.body) ∧ ds f = some d ∧ d.np = ps.length ∧ d.ns = N.length
  mg : mg x = some (.ref fa)
  bd : Binds K fd ps []
/-- the program as it stands -/
structure Pro (I : Info) (K : PySem.W.Frag) (mg : Str → Option Value) (cl : Nat → Addr) (P : Prog) (ds : Nat → Option Def) : Prop where
  blt : ∀ x ∈ blts, mg x = none
  mods : ∀ b, biMo b = true → I.mods.contains (biN b) = true → mg (biN b) = some (pyBi b)
  defs : ∀ f x, I.dn[f]? = some x → ∃ fa fd ps, DefAt I K mg ds f x fa fd ps
  excs : ∀ c x, I.cn[c]? = some x → ExcF K mg (cl c) x
  sub : ∀ i j, i < P.nc → j < I.cn.length → PySem.W.exmOne K (.ref (cl i)) (.ref (cl j)) = some (P.sub i j)
theorem callD_len {P : Prog} {ds : Nat → Option Def} {f : Nat} {d : Def} (hd : ds f = some d) : ∀ (n : Nat) (ss : List S) (st : Sto), ss.length ≠ d.np → callD P ds n f ss st = .bad
  | 0, ss, st, _ => rfl
  | n + 1, ss, st, h => by
    simp only [callD, hd, runD]
    rw [if_neg h]
theorem start_rel {K : PySem.W.Frag} {cl : Nat → Addr} {A : List Addr} {st : Sto} {H : Hp} {N : List Str} {ss : List S} {vs : List V} (r : lR K cl A st H ss vs) : EnvRel K cl A st (ss.map some ++ List.replicate (N.length - ss.length) none) (L2.start N vs) H := by
  have hl : ss.length = vs.length := Paired.length r
  unfold L2.start
  rw [← hl]
  refine ⟨by simp [hl], fun i s h => ?_⟩
  by_cases hi : i < ss.length
  · rw [List.getElem?_append_left (by simpa using hi), List.getElem?_map] at h
    rw [List.getElem?_append_left (by rw [List.length_map, ← hl]; exact hi), List.getElem?_map]
    cases q : ss[i]? with
    | none => rw [q] at h; cases h
    | some s' =>
      rw [q] at h
      cases h
      have key : ∀ {xs : List S} {us : List V} {i : Nat} {x : S}, Paired (SRel K cl A (Live A st) H) xs us → xs[i]? = some x → ∃ u, us[i]? = some u ∧ SRel K cl A (Live A st) H x u := by
        intro xs us i x hp
        induction hp generalizing i with
        | nil => intro z; simp at z
        | cons r1 r2 ih =>
          intro z
          cases i with
          | zero => simp at z; subst z; exact ⟨_, rfl, r1⟩
          | succ i => obtain ⟨u, g1, g2⟩ := ih (i := i) (by simpa using z); exact ⟨u, by simpa using g1, g2⟩
      obtain ⟨u, g1, g2⟩ := key r q
      exact ⟨u, by rw [g1]; rfl, g2⟩
  · rw [List.getElem?_append_right (by simpa using hi)] at h
    rw [List.getElem?_replicate] at h
    split at h <;> cases h
/-- EVERY DEF KEEPS ITS PROMISE -/
theorem fn_ok {I : Info} {Pg : Program} {w : World} {K : PySem.W.Frag} {mg : Str → Option Value} {base : Heap} {cl : Nat → Addr} {P : Prog} {ds : Nat → Option Def} (T : Pro I K mg cl P ds) :
    ∀ (n f : Nat) (x : Str) (fa : Addr) (fd : FuncData) (ps : List Str), DefAt I K mg ds f x fa fd ps → FnOk Pg w K mg base (L2.CX Pg w) (2 * n + 1) fa fd ps (spD K cl ps.length (callD P ds n f))
  | 0, f, x, fa, fd, ps, D => ⟨fun vs H Q E h => h.1, fun A outer s H args us vs Q E hr e0 hb hv h => by
      obtain ⟨_, _, _, _, _, _, h⟩ := h
      exact h.elim⟩
  | n + 1, f, x, fa, fd, ps, D => by
    obtain ⟨qual, sm, N, d, F, S, hc, hd, hnp, hns⟩ := D.ex
    refine F.okX (k := 2 * (n + 1)) S (fun vs H Q E h => h.1) fun cdv A outer s H vs Q E hr h => ?_
    obtain ⟨hl, A0, st, ss, R0, r0, h⟩ := h
    have g : Gd I N cl (callD P ds n) P (cxOf (L2.CX Pg w) Pg w K mg base N qual (defScope sm) fa cdv A outer s H E) true (defScope sm) (fun cls d _ H => E cls d H) :=
      { scope := rfl, names := rfl, nd := S.nd, calm := rfl, units := hr.units, tk := takes_of rfl rfl rfl rfl, fn := fun _ _ => rfl, blt := T.blt, mods := T.mods,
        calls := fun f' x' hx' => by
          obtain ⟨fa', fd', ps', D'⟩ := T.defs f' x' hx'
          obtain ⟨qual', sm', N', d', F', S', hc', hd', hnp', hns'⟩ := D'.ex
          exact ⟨2 * n + 1, fa', fd', ps', fn_ok T n f' x' fa' fd' ps' D', hr.mono (by omega), D'.mg, F'.kp, D'.bd, fun ss st hne => callD_len hd' n ss st (by rw [hnp']; exact hne)⟩,
        excs := fun c x h => let ⟨a1, a2, a3, a4, a5⟩ := T.excs c x h; ⟨a1, a2, a3, a4, a5⟩, sub := T.sub, kind := fun _ => S.kind, stm := fun _ => ⟨passes_of rfl, rfl, rfl⟩ }
    refine ⟨_, sound hc _ _ g, A0, st, _, R0, start_rel (N := N) r0, ?_⟩
    have hls : ss.length = d.np := by rw [hnp, ← hl]; exact Paired.length r0
    simp only [callD, hd, runD] at h
    rw [if_pos hls, hns] at h
    generalize evSs (callD P ds n) P d.body (ss.map some ++ List.replicate (N.length - ss.length) none) st = r at h ⊢
    cases r with
    | nx env st1 =>
      intro A' σ' H' e R' E'
      obtain ⟨R1, less⟩ := cut_rel R' e.len
      exact h _ H' .non (cut_ext R0 R' e) R1 sR_non
    | rt s' st1 => exact fun A' H' v e R' r' => back_ok R0 e R' r' h
    | ex x' env st1 =>
      intro A' σ' H' cls dd e R' E' x1
      obtain ⟨R1, less⟩ := cut_rel R' e.len
      exact h _ H' cls dd (cut_ext R0 R' e) R1 x1
    | bk env st1 => exact h.elim
    | ct env st1 => exact h.elim
    | bad => exact h.elim
/-- the law's promise -/
def spLaw (K : PySem.W.Frag) : Sp := fun vs H Q _ => ∃ (a : Addr) (ns : List Int), vs = [.ref a] ∧ SqL K H a (ns.map V.int) ∧ ns.length ≤ 63 ∧ ∀ H', Q (.bl true) H'
theorem repInts {K : PySem.W.Frag} {cl : Nat → Addr} {L : Avoid} {H : Hp} : ∀ ns : List Int, RepL K cl L H (ns.map .int) (ns.map V.int)
  | [] => by unfold RepL; rfl
  | n :: ns => by
    show RepL K cl L H (.int n :: ns.map .int) _
    unfold RepL
    exact ⟨.int n, ns.map V.int, rfl, by unfold Rep; rfl, repInts ns⟩
theorem law_ok {I : Info} {Pg : Program} {w : World} {K : PySem.W.Frag} {mg : Str → Option Value} {base : Heap} {cl : Nat → Addr} {P : Prog} {ds : Nat → Option Def} {n f : Nat} {fa : Addr} {fd : FuncData} {p : Str} (T : Pro I K mg cl P ds) {x : Str}
    (D : DefAt I K mg ds f x fa fd [p]) (hlaw : ∀ ns : List Int, ns.length ≤ 63 → ∃ st', callD P ds n f [.val (.lst (ns.map .int))] [] = .ok (.val (.bl true)) st') :
    FnOk Pg w K mg base (L2.CX Pg w) (2 * n + 1) fa fd [p] (spLaw K) := by
  refine FnOk.imp (fn_ok T n f x fa fd [p] D) fun vs H Q E ⟨a, ns, ev, hs, hl, q⟩ => ?_
  subst ev
  refine ⟨rfl, [], [], [.val (.lst (ns.map .int))], ⟨rfl, fun k k' a c c' h => by simp at h, fun k a c h => by simp at h, fun k a t h => by simp at h⟩, .cons ?_ .nil, ?_⟩
  · show Rep K cl _ H (.lst (ns.map .int)) (.ref a)
    unfold Rep
    refine ⟨a, ns.map V.int, rfl, ?_, repInts ns⟩
    rcases hs with hs | hs
    · exact .inl ⟨by rintro ⟨k, c, h1, h2⟩; simp at h1, hs⟩
    · exact .inr hs
  · obtain ⟨st', e⟩ := hlaw ns hl
    rw [e]
    intro A' H' v _ _ r
    rw [sR_bl' r]
    exact q H'
end Dy

set_option Elab.async false
set_option linter.all false
set_option maxRecDepth 100000
set_option maxHeartbeats 1000000
set_option autoImplicit false
/-! Dy, part P: rules for the evaluator, for proofs about what defs compute. -/
namespace Dy
open PySem L2

abbrev vI (i : Int) : S := .val (.int i)
abbrev tLI (xs : List Int) : T := .lst (xs.map T.int)

section
variable {cb : CB} {P : Prog} {env env1 env2 : Env} {st st1 st2 : Sto} {x y z : S} {t u : T} {α β : Type} {Q : Fl → Prop}
@[simp] theorem bind_ok {a : α} {f : α → Sto → R β} : (R.ok a st).bind f = f a st := id rfl
@[simp] theorem bind_ex {e : Ex} {f : α → Sto → R β} : (R.ex e st : R α).bind f = R.ex e st := id rfl
@[simp] theorem fl_ok {a : α} {f : α → Sto → Fl} : (R.ok a st).fl env f = f a st := id rfl
@[simp] theorem fl_ex {e : Ex} {f : α → Sto → Fl} : (R.ex e st : R α).fl env f = Fl.ex e env st := id rfl
@[simp] theorem rdS_val : rdS st (.val t) = .val t := id rfl
@[simp] theorem view_val : view st (.val t) = some t := id rfl
@[simp] theorem freeze_val : freeze st (.val t) = some (t, st) := id rfl
@[simp] theorem freezeL_nil : freezeL st [] = some ([], st) := id rfl
@[simp] theorem freezeL_one : freezeL st [.val t] = some ([t], st) := id rfl
@[simp] theorem freezeL_two : freezeL st [.val t, .val u] = some ([t, u], st) := id rfl
@[simp] theorem freezeL_three {w : T} : freezeL st [.val t, .val u, .val w] = some ([t, u, w], st) := id rfl
theorem freezeL_vals : ∀ ts : List T, freezeL st (ts.map .val) = some (ts, st)
  | [] => rfl
  | t :: ts => by simp [freezeL, freezeL_vals ts]
def getV (st : Sto) : Option (Option S) → R S
  | some (some s) => .ok (rdS st s) st
  | _ => .bad
@[simp] theorem getV_some : getV st (some (some x)) = .ok (rdS st x) st := id rfl
@[simp] theorem e_var {i : Nat} : evE cb (.var i) env st = getV st env[i]? := by
  show (match env[i]? with | some (some s) => R.ok (rdS st s) st | _ => .bad) = _
  unfold getV; rfl
@[simp] theorem e_int {i : Int} : evE cb (.int i) env st = .ok (.val (.int i)) st := id rfl
@[simp] theorem e_bl {b : Bool} : evE cb (.bl b) env st = .ok (.val (.bl b)) st := id rfl
@[simp] theorem e_non : evE cb .non env st = .ok (.val .non) st := id rfl
@[simp] theorem e_str {s : Str} : evE cb (.str s) env st = .ok (.val (.str s)) st := id rfl
@[simp] theorem e_bin {op : Op} {a b : E} : evE cb (.bin op a b) env st = (evE cb a env st).bind fun x st1 => (evE cb b env st1).bind fun y st2 => opD op (rdS st2 x) y st2 := id rfl
def negD (x : S) (st : Sto) : R S := match x with
  | .val (.int i) => .ok (.val (.int (-i))) st
  | _ => .bad
@[simp] theorem negD_int {i : Int} : negD (.val (.int i)) st = .ok (.val (.int (-i))) st := id rfl
@[simp] theorem e_neg {a : E} : evE cb (.neg a) env st = (evE cb a env st).bind negD := id rfl
@[simp] theorem e_cmp {op : Cp} {a b : E} : evE cb (.cmp op a b) env st = (evE cb a env st).bind fun x st1 => (evE cb b env st1).bind fun y st2 => cmpD op x y st2 := id rfl
@[simp] theorem e_isNon {a : E} : evE cb (.isNon a) env st = (evE cb a env st).bind fun x st1 => .ok (.val (.bl (nonB x))) st1 := id rfl
@[simp] theorem e_notNon {a : E} : evE cb (.notNon a) env st = (evE cb a env st).bind fun x st1 => .ok (.val (.bl !nonB x)) st1 := id rfl
@[simp] theorem e_isTru {a : E} : evE cb (.isTru a) env st = (evE cb a env st).bind fun x st1 => (blD x st1).bind fun b st2 => .ok (.val (.bl b)) st2 := id rfl
@[simp] theorem e_and {a b : E} : evE cb (.and_ a b) env st = (evE cb a env st).bind fun x st1 => (truD x st1).bind fun k st2 => if k then evE cb b env st2 else .ok (.val (.bl false)) st2 := id rfl
@[simp] theorem e_or {a b : E} : evE cb (.or_ a b) env st = (evE cb a env st).bind fun x st1 => (truD x st1).bind fun k st2 => if k then .ok (.val (.bl true)) st2 else evE cb b env st2 := id rfl
@[simp] theorem e_not {a : E} : evE cb (.not_ a) env st = (evE cb a env st).bind fun x st1 => (truD x st1).bind fun k st2 => .ok (.val (.bl !k)) st2 := id rfl
@[simp] theorem e_andv {a b : E} : evE cb (.andv a b) env st = (evE cb a env st).bind fun x st1 => (blD x st1).bind fun k st2 => if k then evE cb b env st2 else .ok (.val (.bl false)) st2 := id rfl
@[simp] theorem e_orv {a b : E} : evE cb (.orv a b) env st = (evE cb a env st).bind fun x st1 => (blD x st1).bind fun k st2 => if k then .ok (.val (.bl true)) st2 else evE cb b env st2 := id rfl
@[simp] theorem e_notv {a : E} : evE cb (.notv a) env st = (evE cb a env st).bind fun x st1 => (blD x st1).bind fun k st2 => .ok (.val (.bl !k)) st2 := id rfl
@[simp] theorem e_ife {t a b : E} : evE cb (.ife t a b) env st = ((evE cb t env st).bind truD).bind fun k st2 => if k then evE cb a env st2 else evE cb b env st2 := id rfl
def lstD (ss : List S) (st : Sto) : R S := match freezeL st ss with
  | some (ts, st2) => if ts.length ≤ lim then newC st2 (.lst ts) else .bad
  | none => .bad
def tupD (ss : List S) (st : Sto) : R S := match freezeL st ss with
  | some (ts, st2) => if ts.length ≤ lim then .ok (.val (.tup ts)) st2 else .bad
  | none => .bad
@[simp] theorem e_lst {es : List E} : evE cb (.lst es) env st = (evEs cb es env st).bind lstD := id rfl
@[simp] theorem e_tup {es : List E} : evE cb (.tup es) env st = (evEs cb es env st).bind tupD := id rfl
@[simp] theorem e_idx {o i : E} : evE cb (.idx o i) env st = (evE cb o env st).bind fun x st1 => (evE cb i env st1).bind fun y st2 => idxD x y st2 := id rfl
@[simp] theorem e_slc {o : E} {lo hi : List E} : evE cb (.slc o lo hi) env st = (evE cb o env st).bind fun x st1 => (evO cb lo env st1).bind fun l st2 => (evO cb hi env st2).bind fun h st3 => slcD x l h st3 := id rfl
@[simp] theorem e_call {f : Nat} {es : List E} : evE cb (.call f es) env st = (evEs cb es env st).bind fun ss st1 => cb f ss st1 := id rfl
@[simp] theorem e_bi {b : Bi} {es : List E} : evE cb (.bi b es) env st = (evEs cb es env st).bind fun ss st1 => biD b ss st1 := id rfl
@[simp] theorem e_bm {m : Bm} {o : E} {es : List E} : evE cb (.bm m o es) env st = (evE cb o env st).bind fun x st1 => if (liveL st1 x).isSome then (evEs cb es env st1).bind fun ss st2 => bmD m x ss st2 else .bad := id rfl
@[simp] theorem e_isi {a : E} {ks : List Kd} : evE cb (.isi a ks) env st = (evE cb a env st).bind fun x st1 => isiD ks x st1 := id rfl
@[simp] theorem es_nil : evEs cb [] env st = .ok [] st := id rfl
@[simp] theorem es_cons {e : E} {es : List E} : evEs cb (e :: es) env st = (evE cb e env st).bind fun x st1 => (evEs cb es env st1).bind fun xs st2 => .ok (x :: xs) st2 := id rfl
@[simp] theorem iv_any {e : E} : evI cb (.any e) env st = (evE cb e env st).bind srcD := id rfl
@[simp] theorem o_nil : evO cb [] env st = .ok none st := id rfl
@[simp] theorem o_cons {e : E} {r : List E} : evO cb (e :: r) env st = (evE cb e env st).bind bndD := id rfl
@[simp] theorem bnd_int {i : Int} : bndD (.val (.int i)) st = .ok (some i) st := id rfl
@[simp] theorem cv_nil : evC cb [] env st = .ok true st := id rfl
@[simp] theorem c_cons {e : E} {r : List E} : evC cb (e :: r) env st = (evE cb e env st).bind fun x st1 => truD x st1 := id rfl
/-! operators -/
@[simp] theorem op_add {i j : Int} : opD .add (.val (.int i)) (.val (.int j)) st = .ok (.val (.int (i + j))) st := id rfl
@[simp] theorem op_sub {i j : Int} : opD .sub (.val (.int i)) (.val (.int j)) st = .ok (.val (.int (i - j))) st := id rfl
theorem op_mulL {i j : Int} (h1 : -18446744073709551616 < i) (h2 : i < 18446744073709551616) : opD .mul (.val (.int i)) (.val (.int j)) st = .ok (.val (.int (i * j))) st := by
  have : intOp .mul i j = some (i * j) := if_pos (.inl ⟨h1, h2⟩)
  simp only [opD, this]
theorem op_mulR {i j : Int} (h1 : -18446744073709551616 < j) (h2 : j < 18446744073709551616) : opD .mul (.val (.int i)) (.val (.int j)) st = .ok (.val (.int (i * j))) st := by
  have : intOp .mul i j = some (i * j) := if_pos (.inr (.inl ⟨h1, h2⟩))
  simp only [opD, this]
theorem op_mod {i j : Int} (h : 0 < j) : opD .mod (.val (.int i)) (.val (.int j)) st = .ok (.val (.int (i % j))) st := by
  have : intOp .mod i j = some (i % j) := if_pos h
  simp only [opD, this]
theorem op_fdiv {i j : Int} (h : 0 < j) (h2 : j < 18446744073709551616) : opD .fdiv (.val (.int i)) (.val (.int j)) st = .ok (.val (.int (i / j))) st := by
  have a : j.natAbs.log2 < 9000 := by
    have : j.natAbs < 2 ^ 64 := by omega
    have := (Nat.log2_lt (by omega)).2 this
    omega
  have : intOp .fdiv i j = some (i / j) := if_pos ⟨h, a⟩
  simp only [opD, this]
@[simp] theorem c_lt {i j : Int} : cmpD .lt (.val (.int i)) (.val (.int j)) st = .ok (.val (.bl (decide (i < j)))) st := id rfl
@[simp] theorem c_le {i j : Int} : cmpD .le (.val (.int i)) (.val (.int j)) st = .ok (.val (.bl (decide (i ≤ j)))) st := id rfl
@[simp] theorem c_gt {i j : Int} : cmpD .gt (.val (.int i)) (.val (.int j)) st = .ok (.val (.bl (decide (j < i)))) st := id rfl
@[simp] theorem c_ge {i j : Int} : cmpD .ge (.val (.int i)) (.val (.int j)) st = .ok (.val (.bl (decide (j ≤ i)))) st := id rfl
@[simp] theorem c_eq {i j : Int} : cmpD .eq (.val (.int i)) (.val (.int j)) st = .ok (.val (.bl (i == j))) st := id rfl
@[simp] theorem c_ne {i j : Int} : cmpD .ne (.val (.int i)) (.val (.int j)) st = .ok (.val (.bl !(i == j))) st := id rfl
@[simp] theorem tru_bl {b : Bool} : truD (.val (.bl b)) st = .ok b st := id rfl
@[simp] theorem bl_bl {b : Bool} : blD (.val (.bl b)) st = .ok b st := id rfl
@[simp] theorem nonB_ref {k : Nat} : nonB (.ref k) = false := id rfl
@[simp] theorem nonB_non : nonB (.val .non) = true := id rfl
@[simp] theorem nonB_int {i : Int} : nonB (.val (.int i)) = false := id rfl
@[simp] theorem nonB_bl {i : Bool} : nonB (.val (.bl i)) = false := id rfl
@[simp] theorem nonB_str {i : Str} : nonB (.val (.str i)) = false := id rfl
@[simp] theorem nonB_lst {i : List T} : nonB (.val (.lst i)) = false := id rfl
@[simp] theorem nonB_tup {i : List T} : nonB (.val (.tup i)) = false := id rfl
@[simp] theorem b_int {i : Int} : biD .int [.val (.int i)] st = .ok (.val (.int i)) st := id rfl
@[simp] theorem b_intB {i : Bool} : biD .int [.val (.bl i)] st = .ok (.val (.int (PyProof.Rows.b2i i))) st := id rfl
@[simp] theorem b_abs {i : Int} : biD .abs [.val (.int i)] st = .ok (.val (.int (if i < 0 then -i else i))) st := id rfl
theorem b_len {ts : List T} (h : view st x = some (.lst ts)) : biD .len [x] st = .ok (.val (.int ts.length)) st := by
  simp only [biD, h]
@[simp] theorem b_len_val {ts : List T} : biD .len [.val (.lst ts)] st = .ok (.val (.int ts.length)) st := id rfl
theorem atI_nat {xs : List T} {i : Nat} (h : i < xs.length) : atI xs (i : Int) = some xs[i] := by
  unfold atI ixN
  rw [if_pos (by omega), if_pos (by omega)]
  simp [h]
theorem ix_nat {xs : List T} {i : Nat} (h : i < xs.length) : ixT xs (i : Int) st = .ok (.val xs[i]) st := by
  unfold ixT; rw [atI_nat h]
theorem idx_nat {xs : List T} {i : Nat} (hv : view st x = some (.lst xs)) (h : i < xs.length) : idxD x (.val (.int i)) st = .ok (.val xs[i]) st := by
  unfold idxD; rw [hv]; exact ix_nat h
/-- .. of whole numbers -/
theorem idx_int {xs : List Int} {i : Nat} (hv : view st x = some (tLI xs)) (h : i < xs.length) : idxD x (.val (.int i)) st = .ok (.val (.int xs[i])) st := by
  rw [idx_nat hv (by simpa using h)]
  simp
theorem intsT_map : ∀ xs : List Int, intsT (xs.map T.int) = some xs
  | [] => rfl
  | x :: xs => by simp [intsT, intsT_map xs]
theorem b_sum {xs : List Int} (h : view st x = some (tLI xs)) : biD .sum [x] st = .ok (.val (.int xs.sum)) st := by
  simp only [biD, h, intsT_map]
/-! cells -/
@[simp] theorem cell0 {c : Cel} {r : Sto} : (st ++ c :: r)[st.length]? = some c := by simp
@[simp] theorem cell1 {c d : Cel} {r : Sto} : (st ++ c :: d :: r)[st.length + 1]? = some d := by
  rw [List.getElem?_append_right (by omega)]
  simp
@[simp] theorem cellSet0 {c d : Cel} {r : Sto} : (st ++ c :: r).set st.length d = st ++ d :: r := by simp
theorem view_new {r : Sto} : view (st ++ .live t :: r) (.ref st.length) = some t := by simp only [view, cell0]
theorem frz_new {r : Sto} : freeze (st ++ .live t :: r) (.ref st.length) = some (t, st ++ .frz t :: r) := by simp only [freeze, cell0, cellSet0]
theorem liveL_new {ts : List T} {r : Sto} : liveL (st ++ .live (.lst ts) :: r) (.ref st.length) = some ts := by simp only [liveL, cell0]
theorem rdS_new {r : Sto} : rdS (st ++ .live t :: r) (.ref st.length) = .ref st.length := by simp only [rdS, cell0]
theorem putL_new {c : Cel} {ts : List T} {r : Sto} : putL (st ++ c :: r) st.length ts = st ++ .live (.lst ts) :: r := by simp only [putL, cellSet0]
theorem set_same {c : Cel} {k : Nat} (hk : st[k]? = some c) : st.set k c = st := by
  obtain ⟨h, e⟩ := List.getElem?_eq_some_iff.1 hk
  rw [← e]; exact List.set_getElem_self h
@[simp] theorem newC_eq : newC st t = .ok (.ref st.length) (st ++ [.live t]) := id rfl
/-! statements -/
@[simp] theorem ss_nil : evSs cb P [] env st = .nx env st := id rfl
theorem ss_cons {s : Stm} {r : List Stm} : evSs cb P (s :: r) env st = match evS cb P s env st with
    | .nx env1 st1 => evSs cb P r env1 st1
    | r => r := rfl
theorem ss_append {r : List Stm} : ∀ (a : List Stm) (env : Env) (st : Sto), evSs cb P (a ++ r) env st = match evSs cb P a env st with
    | .nx env1 st1 => evSs cb P r env1 st1
    | r => r
  | [], _, _ => rfl
  | s :: a, env, st => by
    show evSs cb P (s :: (a ++ r)) env st = _
    rw [ss_cons, ss_cons]
    cases evS cb P s env st with
    | nx env1 st1 => exact ss_append a env1 st1
    | _ => rfl
theorem q_set {i : Nat} {e : E} {r : List Stm} (he : evE cb e env st = .ok x st1) (k : Q (evSs cb P r (env.set i (some x)) st1)) : Q (evSs cb P (.set i e :: r) env st) := by
  have : evS cb P (.set i e) env st = .nx (env.set i (some x)) st1 := by
    show (evE cb e env st).fl env _ = _
    rw [he]; rfl
  rw [ss_cons, this]; exact k
theorem q_expr {e : E} {r : List Stm} (he : evE cb e env st = .ok x st1) (k : Q (evSs cb P r env st1)) : Q (evSs cb P (.expr e :: r) env st) := by
  have : evS cb P (.expr e) env st = .nx env st1 := by
    show (evE cb e env st).fl env _ = _
    rw [he]; rfl
  rw [ss_cons, this]; exact k
theorem q_exprX {e : E} {r : List Stm} {ee : Ex} (he : evE cb e env st = .ex ee st1) (k : Q (.ex ee env st1)) : Q (evSs cb P (.expr e :: r) env st) := by
  have : evS cb P (.expr e) env st = .ex ee env st1 := by
    show (evE cb e env st).fl env _ = _
    rw [he]; rfl
  rw [ss_cons, this]; exact k
theorem q_sub {o i v : E} {r : List Stm} {st3 st4 : Sto} (hv : evE cb v env st = .ok z st1) (ho : evE cb o env st1 = .ok x st2) (hi : evE cb i env st2 = .ok y st3) (hs : subD x y z st3 = some st4) (k : Q (evSs cb P r env st4)) : Q (evSs cb P (.sub o i v :: r) env st) := by
  have : evS cb P (.sub o i v) env st = .nx env st4 := by
    show (evE cb v env st).fl env _ = _
    rw [hv]
    show (evE cb o env st1).fl env _ = _
    rw [ho]
    show (evE cb i env st2).fl env _ = _
    rw [hi]
    show (match subD x y z st3 with | some st4 => Fl.nx env st4 | none => .bad) = _
    rw [hs]
  rw [ss_cons, this]; exact k
theorem q_ret {e : E} {r : List Stm} (he : evE cb e env st = .ok x st1) (k : Q (.rt x st1)) : Q (evSs cb P (.ret e :: r) env st) := by
  have : evS cb P (.ret e) env st = .rt x st1 := by
    show (evE cb e env st).fl env _ = _
    rw [he]; rfl
  rw [ss_cons, this]; exact k
theorem q_raise {c : Nat} {r : List Stm} (k : Q (.ex ⟨c, []⟩ env st)) : Q (evSs cb P (.raise_ c :: r) env st) := k
theorem q_if {t : E} {a b r : List Stm} {c : Bool} (ht : (evE cb t env st).bind truD = .ok c st1) (k1 : c = true → Q (evSs cb P (a ++ r) env st1)) (k0 : c = false → Q (evSs cb P (b ++ r) env st1)) : Q (evSs cb P (.if_ t a b :: r) env st) := by
  have : evS cb P (.if_ t a b) env st = if c then evSs cb P a env st1 else evSs cb P b env st1 := by
    show ((evE cb t env st).bind truD).fl env _ = _
    rw [ht]; rfl
  rw [ss_cons, this]
  cases c with
  | true => have := k1 rfl; rw [ss_append] at this; exact this
  | false => have := k0 rfl; rw [ss_append] at this; exact this
theorem q_ifP {p : Prop} [Decidable p] {t : E} {a b r : List Stm} (ht : (evE cb t env st).bind truD = .ok (decide p) st1) (k1 : p → Q (evSs cb P (a ++ r) env st1)) (k0 : ¬ p → Q (evSs cb P (b ++ r) env st1)) : Q (evSs cb P (.if_ t a b :: r) env st) :=
  q_if ht (fun h => k1 (of_decide_eq_true h)) (fun h => k0 (of_decide_eq_false h))
theorem for_nm {v lo : Nat} {l0 : Int} {body : Env → Sto → Fl} {n : Nat} (I : Nat → Env → Sto → Prop)
    (hs : ∀ i env st, i < n → I i env st → ∃ env2 st2, body (env.set v (some (.val (.int (l0 + i))))) st = .nx env2 st2 ∧ I (i + 1) env2 st2) :
    ∀ k i env st, i + k = n → I i env st → ∃ env2 st2, forN (.nm v) body (.rng l0 n) (k + 1) i env st = .nx env2 st2 ∧ I n env2 st2
  | 0, i, env, st, h, hI => by
    have : ¬ i < n := by omega
    have hn : i = n := by omega
    subst hn
    exact ⟨env, st, by simp [forN, Src.get], hI⟩
  | k + 1, i, env, st, h, hI => by
    have hi : i < n := by omega
    obtain ⟨e2, s2, h1, h2⟩ := hs i env st hi hI
    obtain ⟨e3, s3, h3, h4⟩ := for_nm (lo := lo) I hs k (i + 1) e2 s2 (by omega) h2
    refine ⟨e3, s3, ?_, h4⟩
    rw [forN]
    simp only [Src.get, hi, if_true, asgG]
    rw [h1]
    exact h3
theorem q_for {v : Nat} {it : It} {body r : List Stm} {l0 : Int} {n : Nat} (hi : evI cb it env st = .ok (.rng l0 n) st1) (I : Nat → Env → Sto → Prop) (h0 : I 0 env st1)
    (hs : ∀ i env st, i < n → I i env st → ∃ env2 st2, evSs cb P body (env.set v (some (.val (.int (l0 + i))))) st = .nx env2 st2 ∧ I (i + 1) env2 st2)
    (k : ∀ env2 st2, I n env2 st2 → Q (evSs cb P r env2 st2)) : Q (evSs cb P (.for_ (.nm v) it body :: r) env st) := by
  obtain ⟨e2, s2, h1, h2⟩ := for_nm (lo := 0) I hs n 0 env st1 (by omega) h0
  have : evS cb P (.for_ (.nm v) it body) env st = .nx e2 s2 := by
    show (evI cb it env st).fl env _ = _
    rw [hi]; exact h1
  rw [ss_cons, this]; exact k _ _ h2
theorem q_for0 {v : Nat} {it : It} {body r : List Stm} {n : Nat} (hi : evI cb it env st = .ok (.rng 0 n) st1) (I : Nat → Env → Sto → Prop) (h0 : I 0 env st1)
    (hs : ∀ i env st, i < n → I i env st → ∃ env2 st2, evSs cb P body (env.set v (some (.val (.int i)))) st = .nx env2 st2 ∧ I (i + 1) env2 st2)
    (k : ∀ env2 st2, I n env2 st2 → Q (evSs cb P r env2 st2)) : Q (evSs cb P (.for_ (.nm v) it body :: r) env st) :=
  q_for hi I h0 (fun i env st h1 h2 => by rw [Int.zero_add]; exact hs i env st h1 h2) k
theorem iv_rng1 {a : E} {j : Int} (h : evE cb a env st = .ok (.val (.int j)) st1) (h2 : j < 4611686018427387904) (h1 : -4611686018427387904 ≤ j) : evI cb (.rng1 a) env st = .ok (.rng 0 j.toNat) st1 := by
  show (evE cb a env st).bind _ = _
  rw [h]
  show rngD 0 j st1 = _
  unfold rngD
  rw [if_pos ⟨by decide, by decide, h1, h2⟩]
  simp
/-- a comprehension with a pure element -/
theorem comp_pure {l0 : Int} {v n k : Nat} {env0 : Env} {cond : Env → Sto → R Bool} {el : Env → Sto → R S} {pre : Sto} {post : Sto} (hk : k = pre.length) (f : Nat → T) (hn : n ≤ lim)
    (hc : ∀ i (xs : List T), i < n → cond (env0.set v (some (.val (.int (l0 + i))))) (pre ++ .live (.lst xs) :: post) = .ok true (pre ++ .live (.lst xs) :: post))
    (he : ∀ i (xs : List T), i < n → el (env0.set v (some (.val (.int (l0 + i))))) (pre ++ .live (.lst xs) :: post) = .ok (.val (f i)) (pre ++ .live (.lst xs) :: post)) :
    ∀ m i (acc : List T), i + m = n → acc.length = i → compN (.nm v) cond el (.rng l0 n) env0 k (m + 1) i (pre ++ .live (.lst acc) :: post) = .ok (.ref k) (pre ++ .live (.lst (acc ++ (List.range' i m).map f)) :: post)
  | 0, i, acc, h, _ => by
    have : ¬ i < n := by omega
    simp [compN, Src.get, this]
  | m + 1, i, acc, h, ha => by
    have hi : i < n := by omega
    subst hk
    rw [compN]
    simp only [Src.get, hi, if_true, asgG, hc i acc hi, he i acc hi, freeze_val]
    have : liveL (pre ++ .live (.lst acc) :: post) (.ref pre.length) = some acc := by simp [liveL]
    simp only [this]
    rw [if_pos (by omega)]
    have e : putL (pre ++ .live (.lst acc) :: post) pre.length (acc ++ [f i]) = pre ++ .live (.lst (acc ++ [f i])) :: post := by simp [putL]
    rw [e, comp_pure rfl f hn hc he m (i + 1) (acc ++ [f i]) (by omega) (by simp [ha])]
    simp [List.range'_succ]
theorem e_comp1 {l0 : Int} {v n : Nat} {el : E} {it : It} {own : List Nat} (hi : evI cb it env st = .ok (.rng l0 n) st1) (f : Nat → T) (hn : n ≤ lim)
    (he : ∀ i (xs : List T), i < n → evE cb el ((wipeE env own).set v (some (.val (.int (l0 + i))))) (st1 ++ [.live (.lst xs)]) = .ok (.val (f i)) (st1 ++ [.live (.lst xs)])) :
    evE cb (.comp el (.nm v) it [] own) env st = .ok (.ref st1.length) (st1 ++ [.live (.lst ((List.range n).map f))]) := by
  show (evI cb it env st).bind _ = _
  rw [hi]
  show compN (.nm v) (evC cb []) (evE cb el) (.rng l0 n) (wipeE env own) st1.length (n + 1) 0 (st1 ++ [.live (.lst [])]) = _
  rw [comp_pure (post := []) rfl f hn (fun i xs h => rfl) he n 0 [] (by omega) rfl]
  simp [List.range_eq_range']
theorem e_comp0 {v n : Nat} {el : E} {it : It} {own : List Nat} (hi : evI cb it env st = .ok (.rng 0 n) st1) (f : Nat → T) (hn : n ≤ lim)
    (he : ∀ i (xs : List T), i < n → evE cb el ((wipeE env own).set v (some (.val (.int i)))) (st1 ++ [.live (.lst xs)]) = .ok (.val (f i)) (st1 ++ [.live (.lst xs)])) :
    evE cb (.comp el (.nm v) it [] own) env st = .ok (.ref st1.length) (st1 ++ [.live (.lst ((List.range n).map f))]) :=
  e_comp1 hi f hn (fun i xs h => by rw [Int.zero_add]; exact he i xs h)
theorem view_app {r : Sto} (h : view st x = some t) : view (st ++ r) x = some t := by
  cases x with
  | val _ => exact h
  | ref k =>
    have hk : k < st.length := by
      apply Decidable.byContradiction; intro hh
      have : st[k]? = none := List.getElem?_eq_none (by omega)
      simp only [view, this] at h; exact nomatch h
    simp only [view] at h ⊢
    rw [List.getElem?_append_left hk]; exact h
/-- a loop in general: what each turn may do -/
structure Step (Q : Fl → Prop) (I : Env → Sto → Prop) (B : Env → Sto → Prop) (r : Fl) : Prop where
  out : (∃ env st, r = .nx env st ∧ I env st) ∨ (∃ env st, r = .ct env st ∧ I env st) ∨ (∃ env st, r = .bk env st ∧ B env st) ∨ (∃ e env st, r = .ex e env st ∧ Q r) ∨ (∃ s st, r = .rt s st ∧ Q r)
theorem Step.nx {I B : Env → Sto → Prop} (h : I env st) : Step Q I B (.nx env st) := ⟨.inl ⟨_, _, rfl, h⟩⟩
theorem Step.ex {I B : Env → Sto → Prop} {e : Ex} (h : Q (.ex e env st)) : Step Q I B (.ex e env st) := ⟨.inr (.inr (.inr (.inl ⟨_, _, _, rfl, h⟩)))⟩
theorem Step.rt {I B : Env → Sto → Prop} (h : Q (.rt x st)) : Step Q I B (.rt x st) := ⟨.inr (.inr (.inr (.inr ⟨_, _, rfl, h⟩)))⟩
theorem loop_gen {g : G} {body : Env → Sto → Fl} {src : Src} {n : Nat} {Q' : Fl → Prop} (I : Nat → Env → Sto → Prop) (hn : ∀ env st, I n env st → src.get st n = some none)
    (hs : ∀ i env st, i < n → I i env st → ∃ x env1, src.get st i = some (some x) ∧ asgG g x st env = some env1 ∧ Step Q (I (i + 1)) (fun env st => Q' (.nx env st)) (body env1 st))
    (hx : ∀ r, Q r → (∃ e env st, r = .ex e env st) ∨ (∃ s st, r = .rt s st) → Q' r) (hI : ∀ env st, I n env st → Q' (.nx env st)) :
    ∀ k i env st, i + k = n → I i env st → Q' (forN g body src (k + 1) i env st)
  | 0, i, env, st, h, h0 => by
    have : i = n := by omega
    subst this
    rw [forN, hn env st h0]
    exact hI _ _ h0
  | k + 1, i, env, st, h, h0 => by
    obtain ⟨x, env1, g1, g2, g3⟩ := hs i env st (by omega) h0
    rw [forN]
    simp only [g1, g2]
    rcases g3.out with ⟨e, s, q, q1⟩ | ⟨e, s, q, q1⟩ | ⟨e, s, q, q1⟩ | ⟨e, v, s, q, q1⟩ | ⟨e, s, q, q1⟩
    · rw [q]; exact loop_gen I hn hs hx hI k (i + 1) e s (by omega) q1
    · rw [q]; exact loop_gen I hn hs hx hI k (i + 1) e s (by omega) q1
    · rw [q]; exact q1
    · have z := hx _ q1 (.inl ⟨_, _, _, q⟩)
      rw [q] at z ⊢; exact z
    · have z := hx _ q1 (.inr ⟨_, _, q⟩)
      rw [q] at z ⊢; exact z
theorem q_loop {g : G} {it : It} {body r : List Stm} {src : Src} {n : Nat} (hi : evI cb it env st = .ok src st1) (hf : src.fuel st1 = n + 1) (I : Nat → Env → Sto → Prop) (h0 : I 0 env st1)
    (hn : ∀ env st, I n env st → src.get st n = some none)
    (hs : ∀ i env st, i < n → I i env st → ∃ x env1, src.get st i = some (some x) ∧ asgG g x st env = some env1 ∧ Step Q (I (i + 1)) (fun env st => Q (evSs cb P r env st)) (evSs cb P body env1 st))
    (k : ∀ env2 st2, I n env2 st2 → Q (evSs cb P r env2 st2)) : Q (evSs cb P (.for_ g it body :: r) env st) := by
  have e : evS cb P (.for_ g it body) env st = forN g (evSs cb P body) src (n + 1) 0 env st1 := by
    show (evI cb it env st).fl env _ = _
    rw [hi, ← hf]; rfl
  rw [ss_cons, e]
  refine loop_gen (Q := Q) (Q' := fun z => Q (match z with | .nx env1 st1 => evSs cb P r env1 st1 | r => r)) I hn hs ?_ (fun env st h => k env st h) n 0 env st1 (by omega) h0
  intro z hz hh
  rcases hh with ⟨e, v, s, q⟩ | ⟨e, s, q⟩
  · subst q; exact hz
  · subst q; exact hz
/-- a comprehension in general -/
theorem comp_gen {src : Src} {g : G} {n k : Nat} {env0 : Env} {cond : Env → Sto → R Bool} {el : Env → Sto → R S} (J : Nat → List T → Sto → Prop) (hn : n ≤ lim)
    (hg : ∀ acc st, J n acc st → src.get st n = some none)
    (hs : ∀ i acc st, i < n → J i acc st → ∃ x env1 b st1, src.get st i = some (some x) ∧ asgG g x st env0 = some env1 ∧ cond env1 st = .ok b st1 ∧ (if b then ∃ s st2 t st3, el env1 st1 = .ok s st2 ∧ freeze st2 s = some (t, st3) ∧ liveL st3 (.ref k) = some acc ∧ J (i + 1) (acc ++ [t]) (putL st3 k (acc ++ [t])) else J (i + 1) acc st1)) :
    ∀ m i acc st, i + m = n → acc.length ≤ i → J i acc st → ∃ acc2 st2, compN g cond el src env0 k (m + 1) i st = .ok (.ref k) st2 ∧ J n acc2 st2
  | 0, i, acc, st, h, _, hJ => by
    have : i = n := by omega
    subst this
    exact ⟨acc, st, by rw [compN, hg _ _ hJ], hJ⟩
  | m + 1, i, acc, st, h, ha, hJ => by
    obtain ⟨x, env1, b, st1, q1, q2, q3, q4⟩ := hs i acc st (by omega) hJ
    rw [compN]
    simp only [q1, q2, q3]
    cases b with
    | true =>
      obtain ⟨s, st2, t, st3, r1, r2, r3, r4⟩ := q4
      simp only [r1, r2, r3]
      rw [if_pos (by omega)]
      exact comp_gen J hn hg hs m (i + 1) _ _ (by omega) (by simp; omega) r4
    | false => exact comp_gen J hn hg hs m (i + 1) _ _ (by omega) (by omega) q4
/-- a comprehension whose elements leave cells behind -/
theorem comp_junk {src : Src} {v n k : Nat} {env0 : Env} {cond : Env → Sto → R Bool} {el : Env → Sto → R S} {pre : Sto} (hk : k = pre.length) (it : Nat → S) (f : Nat → T) (hn : n ≤ lim)
    (hg : ∀ i (xs : List T) (j : Sto), i < n → src.get (pre ++ .live (.lst xs) :: j) i = some (some (it i)))
    (hg1 : ∀ (xs : List T) (j : Sto), src.get (pre ++ .live (.lst xs) :: j) n = some none)
    (hc : ∀ i (xs : List T) (j : Sto), i < n → cond (env0.set v (some (it i))) (pre ++ .live (.lst xs) :: j) = .ok true (pre ++ .live (.lst xs) :: j))
    (he : ∀ i (xs : List T) (j : Sto), i < n → ∃ s st2 j2, el (env0.set v (some (it i))) (pre ++ .live (.lst xs) :: j) = .ok s st2 ∧ freeze st2 s = some (f i, pre ++ .live (.lst xs) :: j2)) :
    ∀ m i (acc : List T) (j : Sto), i + m = n → acc.length = i → ∃ j2, compN (.nm v) cond el src env0 k (m + 1) i (pre ++ .live (.lst acc) :: j) = .ok (.ref k) (pre ++ .live (.lst (acc ++ (List.range' i m).map f)) :: j2)
  | 0, i, acc, j, h, _ => by
    have : i = n := by omega
    subst this
    exact ⟨j, by simp [compN, hg1 acc j]⟩
  | m + 1, i, acc, j, h, ha => by
    have hi : i < n := by omega
    subst hk
    obtain ⟨s, st2, j2, e1, e2⟩ := he i acc j hi
    have hl : liveL (pre ++ .live (.lst acc) :: j2) (.ref pre.length) = some acc := by simp [liveL]
    have e : putL (pre ++ .live (.lst acc) :: j2) pre.length (acc ++ [f i]) = pre ++ .live (.lst (acc ++ [f i])) :: j2 := by simp [putL]
    obtain ⟨j3, h3⟩ := comp_junk (src := src) rfl it f hn hg hg1 hc he m (i + 1) (acc ++ [f i]) j2 (by omega) (by simp [ha])
    refine ⟨j3, ?_⟩
    rw [compN]
    simp only [hg i acc j hi, asgG, hc i acc j hi, e1, e2, hl]
    rw [if_pos (by omega), e, h3]
    simp [List.range'_succ]
theorem back_far {r : Sto} : back st.length (.ref (st.length + r.length)) (st ++ (r ++ [.live t])) = .ok (.ref st.length) (st ++ [.live t]) := by
  simp only [back]
  rw [if_neg (by omega)]
  have : (st ++ (r ++ [Cel.live t]))[st.length + r.length]? = some (.live t) := by
    rw [List.getElem?_append_right (by omega)]
    simp
  simp only [this]
  simp
theorem op_rep {k : Nat} {v n : Int} (h : liveL st (.ref k) = some [.int v]) (h1 : -9223372036854775808 ≤ n) (h2 : n < 9223372036854775808) (h3 : n.toNat ≤ lim) :
    opD .mul (.ref k) (.val (.int n)) st = .ok (.ref st.length) (st ++ [.live (tLI (List.replicate n.toNat v))]) := by
  simp only [opD, h]
  rw [if_pos ⟨h1, h2, by simpa using h3⟩]
  have : ∀ m : Nat, (List.replicate m [T.int v]).flatten = (List.replicate m v).map T.int := by
    intro m; induction m with
    | zero => rfl
    | succ m ih => simp [List.replicate_succ, ih]
  simp [this]
theorem op_cat {k j : Nat} {xs ys : List T} (h : liveL st (.ref k) = some xs) (h1 : liveL st (.ref j) = some ys) (h2 : xs.length + ys.length ≤ lim) :
    opD .add (.ref k) (.ref j) st = .ok (.ref st.length) (st ++ [.live (.lst (xs ++ ys))]) := by
  simp only [opD, h, h1]
  rw [if_pos h2]; rfl
theorem sub_nat {k i : Nat} {xs : List T} (h : liveL st (.ref k) = some xs) (hi : i < xs.length) : subD (.ref k) (.val (.int i)) (.val t) st = some (putL st k (xs.set i t)) := by
  have q : ixN xs.length (i : Int) = some i := by
    unfold ixN
    rw [if_pos (by omega), if_pos (by omega)]; simp
  simp only [subD, freeze_val, h, q]
theorem cut_to {xs : List T} (h : Nat) : cutT xs none (some (h : Int)) = xs.take h := by
  unfold cutT
  rw [HT.sIx_none, HT.sIx_nat]
  simp only [List.drop_zero, Nat.sub_zero]
  rcases Nat.le_total h xs.length with q | q
  · rw [Nat.min_eq_left q]
  · rw [Nat.min_eq_right q, List.take_of_length_le (by omega), List.take_of_length_le q]
theorem cellN {l : Sto} {i : Nat} : (st ++ l)[st.length + i]? = l[i]? := by
  rw [List.getElem?_append_right (by omega)]
  simp
theorem setN {l : Sto} {i : Nat} {c : Cel} : (st ++ l).set (st.length + i) c = st ++ l.set i c := by
  rw [List.set_append_right _ _ (by omega)]
  simp
theorem viewN {l : Sto} {i : Nat} (h : l[i]? = some (.live t)) : view (st ++ l) (.ref (st.length + i)) = some t := by simp only [view, cellN, h]
theorem liveN {l : Sto} {i : Nat} {ts : List T} (h : l[i]? = some (.live (.lst ts))) : liveL (st ++ l) (.ref (st.length + i)) = some ts := by simp only [liveL, cellN, h]
theorem rdN {l : Sto} {i : Nat} (h : l[i]? = some (.live t)) : rdS (st ++ l) (.ref (st.length + i)) = .ref (st.length + i) := by simp only [rdS, cellN, h]
theorem putN {l : Sto} {i : Nat} {ts : List T} : putL (st ++ l) (st.length + i) ts = st ++ l.set i (.live (.lst ts)) := by simp only [putL, setN]
theorem frzN {l : Sto} {i : Nat} (h : l[i]? = some (.live t)) : freeze (st ++ l) (.ref (st.length + i)) = some (t, st ++ l.set i (.frz t)) := by simp only [freeze, cellN, h, setN]
/-! calls -/
def RetD (n : Nat) (Y : R S → Prop) : Fl → Prop
  | .rt s st1 => Y (back n s st1)
  | .nx _ st1 => Y (R.ok (.val .non) (st1.take n))
  | .ex e _ st1 => Y (R.ex e (st1.take n))
  | _ => False
structure Ret (n : Nat) (Y : R S → Prop) (r : Fl) : Prop where
  out : RetD n Y r
theorem Ret.rt {n : Nat} {Y : R S → Prop} (h : Y (back n x st)) : Ret n Y (.rt x st) := ⟨h⟩
theorem Ret.ex {n : Nat} {Y : R S → Prop} {e : Ex} (h : Y (R.ex e (st.take n))) : Ret n Y (.ex e env st) := ⟨h⟩
theorem q_callP {ds : Nat → Option Def} {n f : Nat} {d : Def} {xs : List S} (Y : R S → Prop) (hd : ds f = some d) (hx : xs.length = d.np)
    (h : Ret st.length Y (evSs (callD P ds n) P d.body (xs.map some ++ List.replicate (d.ns - xs.length) none) st)) : Y (callD P ds (n + 1) f xs st) := by
  show Y (match ds f with | some d => runD (callD P ds n) P d xs st | none => .bad)
  rw [hd]
  show Y (runD (callD P ds n) P d xs st)
  unfold runD
  rw [if_pos hx]
  replace h := h.out
  unfold RetD at h
  revert h
  cases evSs (callD P ds n) P d.body (xs.map some ++ List.replicate (d.ns - xs.length) none) st <;> first | exact fun h => h | exact fun h => h.elim
theorem q_call {ds : Nat → Option Def} {n f : Nat} {d : Def} {xs : List S} {X : R S} (hd : ds f = some d) (hx : xs.length = d.np)
    (h : Ret st.length (· = X) (evSs (callD P ds n) P d.body (xs.map some ++ List.replicate (d.ns - xs.length) none) st)) : callD P ds (n + 1) f xs st = X :=
  q_callP (· = X) hd hx h
structure FlNx (X : Env → Sto → Prop) (r : Fl) : Prop where
  out : ∃ env st, r = .nx env st ∧ X env st
theorem FlNx.nx {X : Env → Sto → Prop} (h : X env st) : FlNx X (.nx env st) := ⟨_, _, rfl, h⟩
@[simp] theorem back_val : back st.length (.val t) (st ++ st1) = .ok (.val t) st := by simp [back]
@[simp] theorem back_val0 : back st.length (.val t) st = .ok (.val t) st := by simp [back]
@[simp] theorem back_new {r : Sto} : back st.length (.ref st.length) (st ++ .live t :: r) = .ok (.ref st.length) (st ++ [.live t]) := by simp [back]
end
end Dy

set_option Elab.async false
set_option linter.all false
set_option maxRecDepth 100000
set_option maxHeartbeats 1000000
set_option autoImplicit false
/-! Dy, part L: the helpers that the laws share. -/
namespace Dy
open PySem L2
abbrev c_take : List Stm := [.if_ (.cmp .eq (.bi .len [.var 0]) (.int (0))) [.ret (.int (0))] [], .ret (.bin .mod (.bi .int [.bm .pop (.var 0) []]) (.var 1))]
abbrev Dk (xs : List Int) : Cel := .live (tLI xs)
abbrev InD (xs : List Int) : Prop := ∀ x ∈ xs, 0 ≤ x ∧ x < 1000003
theorem take_ok {P : Prog} {ds : Nat → Option Def} {n f k : Nat} {xs : List Int} {m : Int} {st : Sto} (hd : ds f = some ⟨2, 2, c_take⟩) (hk : st[k]? = some (Dk xs)) (hm : 0 < m) :
    ∃ v ys, 0 ≤ v ∧ v < m ∧ callD P ds (n + 1) f [.ref k, .val (.int m)] st = .ok (.val (.int v)) (st.set k (Dk ys)) := by
  have hkl : k < st.length := (List.getElem?_eq_some_iff.1 hk).1
  by_cases h0 : xs = []
  · subst h0
    refine ⟨0, [], by omega, hm, ?_⟩
    have hs : st.set k (Dk []) = st := set_same hk
    rw [hs]
    refine q_call hd rfl ?_
    refine q_ifP (p := (0:Int) = 0) (st1 := st) ?_ ?_ ?_
    · simp [rdS, hk, biD, view, tLI]
    · intro _
      exact q_ret e_int (.rt (by simp))
    · intro h; exact absurd rfl h
  · obtain ⟨ys, y, rfl⟩ : ∃ ys y, xs = ys ++ [y] := ⟨xs.dropLast, xs.getLast h0, (List.dropLast_concat_getLast h0).symm⟩
    refine ⟨y % m, ys, Int.emod_nonneg _ (by omega), Int.emod_lt_of_pos _ hm, ?_⟩
    refine q_call hd rfl ?_
    refine q_ifP (p := ((ys ++ [y]).length : Int) = 0) (st1 := st) ?_ ?_ ?_
    · simp [rdS, hk, biD, view, tLI]
      first | omega | rfl
    · intro h; simp at h; omega
    · intro _
      refine q_ret (x := .val (.int (y % m))) (st1 := st.set k (Dk ys)) ?_ ?_
      · simp [rdS, hk, tLI, liveL, bmD, putL, op_mod hm]
      · refine .rt ?_
        simp [back]
        rw [List.take_of_length_le (by simp)]

abbrev c_dkA : List Stm := [.expr (.bm .append (.var 3) [.bin .mod (.bi .int [.var 7]) (.int (1000003))]), .set 7 (.bin .fdiv (.var 7) (.int (1000003)))]
abbrev c_dkB : List Stm := [.set 4 (.bin .mod (.bi .int [.bin .add (.bin .add (.bin .mul (.var 4) (.int (69621))) (.var 8)) (.int (1))]) (.int (2147483629))), .expr (.bm .append (.var 3) [.bin .mod (.bi .int [.bin .fdiv (.var 4) (.int (7))]) (.int (1000003))])]
abbrev c_dkC : List Stm := [.set 7 (.bi .abs [.var 6]), .if_ (.cmp .ge (.var 7) (.bin .pow (.int (10)) (.int (30)))) [.for_ (.nm 8) (.rng1 (.var 2)) c_dkA] [.set 4 (.bin .mod (.bi .int [.bin .add (.bin .add (.bin .add (.bin .mul (.var 4) (.int (48271))) (.bin .mul (.int (3)) (.var 7))) (.bi .int [.cmp .lt (.var 6) (.int (0))])) (.var 5)]) (.int (2147483647))), .for_ (.nm 8) (.rng1 (.var 2)) c_dkB]]
abbrev c_dkD : List Stm := .set 6 (.int (0)) :: .if_ (.cmp .lt (.var 5) (.bi .len [.var 0])) [.set 6 (.idx (.var 0) (.var 5))] [] :: c_dkC
abbrev c_deck : List Stm := [.set 3 (.lst []), .set 4 (.bin .add (.int (11)) (.bi .len [.var 0])), .for_ (.nm 5) (.rng1 (.var 1)) c_dkD, .expr (.bm .reverse (.var 3) []), .ret (.var 3)]
theorem deck_ok {P : Prog} {ds : Nat → Option Def} {n f : Nat} {ns : List Int} {C B : Nat} {st : Sto} (hd : ds f = some ⟨3, 9, c_deck⟩) (hn : ns.length ≤ 63) (hC : C ≤ 1000) (hB : B ≤ 1000) :
    ∃ xs : List Int, callD P ds (n + 1) f [.val (tLI ns), .val (.int C), .val (.int B)] st = .ok (.ref st.length) (st ++ [Dk xs]) := by
  refine q_callP (fun r => ∃ xs : List Int, r = .ok (.ref st.length) (st ++ [Dk xs])) hd rfl ?_
  refine q_set (x := .ref st.length) (st1 := st ++ [Dk []]) (by simp [lstD, tLI]) ?_
  refine q_set (x := .val (.int (11 + ns.length))) (st1 := st ++ [Dk []]) (by simp [biD]) ?_
  have hC' : evI (callD P ds n) (.rng1 (.var 1)) [some (.val (tLI ns)), some (.val (.int C)), some (.val (.int B)), some (.ref st.length), some (.val (.int (11 + ns.length))), none, none, none, none] (st ++ [Dk []]) = .ok (.rng 0 C) (st ++ [Dk []]) := by
    have := iv_rng1 (cb := callD P ds n) (a := .var 1) (env := [some (.val (tLI ns)), some (.val (.int C)), some (.val (.int B)), some (.ref st.length), some (.val (.int (11 + ns.length))), none, none, none, none]) (st := st ++ [Dk []]) (st1 := st ++ [Dk []]) (j := C) (by simp) (by omega) (by omega)
    simpa using this
  refine q_for0 hC' (fun i env s => ∃ xs : List Int, xs.length = B * i ∧ ∃ sd a b c d, env = [some (.val (tLI ns)), some (.val (.int C)), some (.val (.int B)), some (.ref st.length), some (.val (.int sd)), a, b, c, d] ∧ s = st ++ [Dk xs]) ⟨[], rfl, _, _, _, _, _, rfl, rfl⟩ ?_ ?_
  · rintro i env s hi ⟨xs, hxs, sd, a0, b0, c0, d, rfl, rfl⟩
    refine FlNx.out ?_
    refine q_set e_int ?_
    let E : Option S → Option S → Option S → Int → Env := fun c r a sd => [some (.val (tLI ns)), some (.val (.int C)), some (.val (.int B)), some (.ref st.length), some (.val (.int sd)), some (.val (.int i)), c, r, a]
    have hB' : ∀ (c r a : Option S) (sd : Int) (s : Sto), evI (callD P ds n) (.rng1 (.var 2)) (E c r a sd) s = .ok (.rng 0 B) s := by
      intro c r a sd s
      have := iv_rng1 (cb := callD P ds n) (a := .var 2) (env := E c r a sd) (st := s) (st1 := s) (j := B) (by simp [E]) (by omega) (by omega)
      simpa using this
    have key : ∀ c : Int, FlNx (fun env s => ∃ xs : List Int, xs.length = B * (i + 1) ∧ ∃ sd a b c d, env = [some (.val (tLI ns)), some (.val (.int C)), some (.val (.int B)), some (.ref st.length), some (.val (.int sd)), a, b, c, d] ∧ s = st ++ [Dk xs]) (evSs (callD P ds n) P c_dkC (E (some (.val (.int c))) c0 d sd) (st ++ [Dk xs])) := by
      intro c
      refine q_set (x := .val (.int (if c < 0 then -c else c))) (st1 := st ++ [Dk xs]) (by simp [E]) ?_
      show FlNx _ (evSs (callD P ds n) P _ (E (some (.val (.int c))) (some (.val (.int (if c < 0 then -c else c)))) d sd) (st ++ [Dk xs]))
      generalize (if c < 0 then -c else c) = r
      refine q_ifP (p := (10:Int) ^ 30 ≤ r) (st1 := st ++ [Dk xs]) (by simp [E, opD, intOp]) ?_ ?_
      · intro hr
        refine q_for0 (hB' _ _ _ _ _) (fun m env s => ∃ ys : List Int, ys.length = B * i + m ∧ ∃ r a, env = E (some (.val (.int c))) (some (.val (.int r))) a sd ∧ s = st ++ [Dk ys]) ⟨xs, hxs, _, _, rfl, rfl⟩ ?_ ?_
        · rintro m env s hm ⟨ys, hys, r, a, rfl, rfl⟩
          refine FlNx.out ?_
          have hl : ys.length < lim := by
            have : B * i ≤ 1000 * 1000 := Nat.mul_le_mul hB (by omega)
            show _ < 16777216
            omega
          refine q_expr (x := .val .non) (st1 := st ++ [Dk (ys ++ [r % 1000003])]) ?_ ?_
          · simp [E, rdS, liveL, bmD, putL, tLI, op_mod, hl]
          refine q_set (x := .val (.int (r / 1000003))) (st1 := st ++ [Dk (ys ++ [r % 1000003])]) ?_ ?_
          · simp [E, op_fdiv]
          exact .nx ⟨_, by simp [hys]; omega, _, _, rfl, rfl⟩
        · rintro env s ⟨ys, hys, r, a, rfl, rfl⟩
          exact .nx ⟨ys, by rw [hys, Nat.mul_succ], _, _, _, _, _, rfl, rfl⟩
      · intro hr
        refine q_set (x := .val (.int ((sd * 48271 + 3 * r + PyProof.Rows.b2i (decide (c < 0)) + i) % 2147483647))) (st1 := st ++ [Dk xs]) ?_ ?_
        · simp [E, op_mod, op_mulL, op_mulR]
        refine q_for0 (n := B) (st1 := st ++ [Dk xs]) (hB' _ _ _ _ _) (fun m env s => ∃ ys : List Int, ys.length = B * i + m ∧ ∃ sd a, env = E (some (.val (.int c))) (some (.val (.int r))) a sd ∧ s = st ++ [Dk ys]) ⟨xs, hxs, _, _, rfl, rfl⟩ ?_ ?_
        · rintro m env s hm ⟨ys, hys, sd, a, rfl, rfl⟩
          refine FlNx.out ?_
          have hl : ys.length < lim := by
            have : B * i ≤ 1000 * 1000 := Nat.mul_le_mul hB (by omega)
            show _ < 16777216
            omega
          refine q_set (x := .val (.int ((sd * 69621 + m + 1) % 2147483629))) (st1 := st ++ [Dk ys]) ?_ ?_
          · simp [E, op_mod, op_mulR]
          generalize (sd * 69621 + m + 1) % 2147483629 = sd1
          refine q_expr (x := .val .non) (st1 := st ++ [Dk (ys ++ [sd1 / 7 % 1000003])]) ?_ ?_
          · simp [E, rdS, liveL, bmD, putL, tLI, op_mod, op_fdiv, hl]
          exact .nx ⟨_, by simp [hys]; omega, _, _, rfl, rfl⟩
        · rintro env s ⟨ys, hys, sd, a, rfl, rfl⟩
          exact .nx ⟨ys, by rw [hys, Nat.mul_succ], _, _, _, _, _, rfl, rfl⟩
    refine q_ifP (p := i < ns.length) (st1 := st ++ [Dk xs]) (by simp) ?_ ?_
    · intro hi
      refine q_set (x := .val (.int ns[i])) (st1 := st ++ [Dk xs]) ?_ ?_
      · simp [idx_int (xs := ns) (i := i) (x := .val (tLI ns)) rfl hi]
      · exact key _
    · intro hi
      exact key 0
  · rintro env s ⟨xs, hxs, sd, a, b, c, d, rfl, rfl⟩
    refine q_expr (x := .val .non) (st1 := st ++ [Dk xs.reverse]) (by simp [rdS, liveL, bmD, putL, tLI]) ?_
    exact q_ret (x := .ref st.length) (st1 := st ++ [Dk xs.reverse]) (by simp [rdS]) (.rt ⟨xs.reverse, back_new⟩)

/-! ### the same to look at -/
mutual
def pl : T → T
  | .lst ts => .lst (.bl true :: plL ts)
  | .tup ts => .lst (.bl false :: plL ts)
  | .int i => .lst [.bl false, .int i]
  | .str s => .lst [.bl true, .str s]
  | .non => .str (PySem.Str.ofString "None")
  | .bl b => .str (if b then PySem.Str.ofString "True" else PySem.Str.ofString "False")
  | t => t
def plL : List T → List T
  | [] => []
  | t :: ts => pl t :: plL ts
end
theorem plL_map : ∀ ts : List T, plL ts = ts.map pl
  | [] => rfl
  | t :: ts => by rw [plL, plL_map ts]; rfl
def okT : Nat → T → Prop
  | _, .bl _ => True
  | _, .int _ => True
  | _, .str s => PyData.strOk s = true
  | n + 1, .lst ts => ts.length + 1 ≤ lim ∧ ∀ t ∈ ts, okT n t
  | n + 1, .tup ts => ts.length + 1 ≤ lim ∧ ∀ t ∈ ts, okT n t
  | _, _ => False
theorem toPyL_of {P : PyData → Prop} : ∀ (ts : List T), (∀ t ∈ ts, ∃ d, toPy t = some d ∧ P d) → ∃ ds, toPyL ts = some ds ∧ ∀ d ∈ ds, P d
  | [], _ => ⟨[], rfl, fun d h => nomatch h⟩
  | t :: ts, h => by
    obtain ⟨d, h1, h2⟩ := h t (by simp)
    obtain ⟨ds, h3, h4⟩ := toPyL_of ts (fun u hu => h u (by simp [hu]))
    exact ⟨d :: ds, by simp [toPyL, h1, h3], by simpa using ⟨h2, h4⟩⟩
theorem layAll_of : ∀ (ds : List PyData), (∀ d ∈ ds, d.canLay0 = true) → PyData.canLayAll0 ds = true
  | [], _ => rfl
  | d :: ds, h => by rw [PyData.canLayAll0, h d (by simp), layAll_of ds (fun e he => h e (by simp [he]))]; rfl
theorem depthAll_of {n : Nat} : ∀ (ds : List PyData), (∀ d ∈ ds, d.depth ≤ n) → PyData.depthAll ds ≤ n
  | [], _ => Nat.zero_le n
  | d :: ds, h => by rw [PyData.depthAll]; exact Nat.max_le.2 ⟨h d (by simp), depthAll_of ds (fun e he => h e (by simp [he]))⟩
theorem toPy_pl : ∀ (n : Nat) (t : T), okT n t → ∃ d, toPy (pl t) = some d ∧ d.canLay0 = true ∧ d.depth ≤ n + 1
  | n, .bl b, _ => ⟨.str (if b then PySem.Str.ofString "True" else PySem.Str.ofString "False"), by simp only [pl, toPy], by cases b <;> decide +kernel, Nat.zero_le _⟩
  | n, .int i, _ => ⟨.list [.bool false, .int i], by simp [pl, toPy, toPyL], by simp [PyData.canLay0, PyData.canLayAll0], by simp [PyData.depth, PyData.depthAll]⟩
  | n, .str s, h => ⟨.list [.bool true, .str s], by simp [pl, toPy, toPyL], by cases n <;> simpa [PyData.canLay0, PyData.canLayAll0, okT] using h, by simp [PyData.depth, PyData.depthAll]⟩
  | n + 1, .lst ts, h => by
    obtain ⟨ds, h1, h2⟩ := toPyL_of (P := fun d => d.canLay0 = true ∧ d.depth ≤ n + 1) (plL ts) (by
      intro u hu; rw [plL_map] at hu; obtain ⟨v, hv, rfl⟩ := List.mem_map.1 hu; exact toPy_pl n v (h.2 v hv))
    refine ⟨.list (.bool true :: ds), by simp [pl, toPy, toPyL, h1], ?_, ?_⟩
    · simpa [PyData.canLay0, PyData.canLayAll0] using layAll_of ds (fun d hd => (h2 d hd).1)
    · simpa [PyData.depth, PyData.depthAll] using depthAll_of ds (fun d hd => (h2 d hd).2)
  | n + 1, .tup ts, h => by
    obtain ⟨ds, h1, h2⟩ := toPyL_of (P := fun d => d.canLay0 = true ∧ d.depth ≤ n + 1) (plL ts) (by
      intro u hu; rw [plL_map] at hu; obtain ⟨v, hv, rfl⟩ := List.mem_map.1 hu; exact toPy_pl n v (h.2 v hv))
    refine ⟨.list (.bool false :: ds), by simp [pl, toPy, toPyL, h1], ?_, ?_⟩
    · simpa [PyData.canLay0, PyData.canLayAll0] using layAll_of ds (fun d hd => (h2 d hd).1)
    · simpa [PyData.depth, PyData.depthAll] using depthAll_of ds (fun d hd => (h2 d hd).2)
  | 0, .lst ts, h => h.elim
  | 0, .tup ts, h => h.elim
  | 0, .non, h => h.elim
  | _ + 1, .non, h => h.elim
  | 0, .dK _, h => h.elim
  | 0, .dT _, h => h.elim
  | 0, .ins _ _, h => h.elim
  | _ + 1, .dK _, h => h.elim
  | _ + 1, .dT _, h => h.elim
  | _ + 1, .ins _ _, h => h.elim
abbrev c_plain (f : Nat) : List Stm := [.if_ (.isi (.var 0) [.tuple, .list]) [.ret (.bin .add (.lst [.isi (.var 0) [.list]]) (.comp (.call f [.var 1]) (.nm 1) (.any (.var 0)) [] [1]))] [], .if_ (.or_ (.isNon (.var 0)) (.isi (.var 0) [.bool])) [.ret (.idx (.lst [.str (PySem.Str.ofString "None"), .str (PySem.Str.ofString "False"), .str (PySem.Str.ofString "True")]) (.bin .add (.bi .int [.notNon (.var 0)]) (.bi .int [.isTru (.var 0)])))] [], .if_ (.isi (.var 0) [.int, .str]) [.ret (.lst [.isi (.var 0) [.str], .var 0])] [], .ret (.str (PySem.Str.ofString "another"))]
/-- what a call leaves: a new live cell, or a plain tree -/
def NewR (st : Sto) (t : T) (r : R S) : Prop := r = .ok (.ref st.length) (st ++ [.live t]) ∨ r = .ok (.val t) st
theorem isi_ok {st : Sto} {y : S} {t : T} {own ks : List Kd} (h : view st y = some t) (k : kdOf t = some own) : isiD ks y st = .ok (.val (.bl (ks.any fun k => own.contains k))) st := by
  simp only [isiD, h, k]
theorem view_rdS {st : Sto} {x : S} : view st (rdS st x) = view st x := by
  cases x with
  | val _ => rfl
  | ref k =>
    cases h : st[k]? with
    | none => simp [rdS, view, h]
    | some c => cases c <;> simp [rdS, view, h]
theorem rdS_app {st r : Sto} {x : S} {t : T} (hv : view st x = some t) : rdS (st ++ r) x = rdS st x := by
  cases x with
  | val _ => rfl
  | ref k =>
    have hk : k < st.length := by
      apply Decidable.byContradiction; intro hh
      have q : st[k]? = none := List.getElem?_eq_none (by omega)
      simp only [view, q] at hv; exact nomatch hv
    simp only [rdS]
    rw [List.getElem?_append_left hk]
theorem rdS_rdS {st : Sto} {x : S} : rdS st (rdS st x) = rdS st x := by
  cases x with
  | val _ => rfl
  | ref k =>
    cases h : st[k]? with
    | none => simp [rdS, h]
    | some c => cases c <;> simp [rdS, h]
/-- x stands for the tree t: the tree itself, or a list in a cell -/
def Is (st : Sto) (x : S) (t : T) : Prop := rdS st x = .val t ∨ (∃ ts, t = .lst ts) ∧ view st x = some t
theorem Is.view {st : Sto} {x : S} {t : T} (h : Is st x t) : view st x = some t := by
  rcases h with h | h
  · rw [← view_rdS, h]; rfl
  · exact h.2
theorem Is.app {st r : Sto} {x : S} {t : T} (h : Is st x t) : Is (st ++ r) x t := by
  have hv := h.view
  rcases h with h | h
  · exact .inl (by rw [rdS_app hv, h])
  · exact .inr ⟨h.1, view_app h.2⟩
theorem Is.rd {st : Sto} {x : S} {t : T} (h : Is st x t) : Is st (rdS st x) t := by
  rcases h with h | h
  · exact .inl (by rw [rdS_rdS, h])
  · exact .inr ⟨h.1, by rw [view_rdS, h.2]⟩
theorem plain_flat {P : Prog} {ds : Nat → Option Def} {f n : Nat} (hd : ds f = some ⟨1, 2, c_plain f⟩) {t : T} {x : S} {st : Sto} (hx : rdS st x = .val t) (ht : okT 0 t) : NewR st (pl t) (callD P ds (n + 1) f [x] st) := by
  have hv : view st (rdS st x) = some t := by rw [hx]; rfl
  have hr : ∀ r, rdS (st ++ r) x = .val t := fun r => by rw [rdS_app (t := t) (by rw [← view_rdS]; exact hv), hx]
  refine q_callP (NewR st (pl t)) hd rfl ?_
  refine q_if (c := false) (st1 := st) ?_ (fun h => nomatch h) (fun _ => ?_)
  · cases t <;> first | exact ht.elim | simp [hx, isiD, kdOf]
  cases t with
  | bl b =>
    refine q_if (c := true) (st1 := st) (by simp [hx, isiD, kdOf]) (fun _ => ?_) (fun h => nomatch h)
    refine q_ret (x := .val (.str (if b then PySem.Str.ofString "True" else PySem.Str.ofString "False"))) (st1 := st ++ [.live (.lst [.str (PySem.Str.ofString "None"), .str (PySem.Str.ofString "False"), .str (PySem.Str.ofString "True")])]) ?_ (.rt (.inr ?_))
    · cases b
      · simp [hx, hr, lstD, idxD, ixT, view, atI, ixN, PyProof.Rows.b2i, show 3 ≤ lim by decide]
      · simp [hx, hr, lstD, idxD, ixT, view, atI, ixN, PyProof.Rows.b2i, show 3 ≤ lim by decide]
    · cases b <;> simp [pl]
  | int i =>
    refine q_if (c := false) (st1 := st) (by simp [hx, isiD, kdOf]) (fun h => nomatch h) (fun _ => ?_)
    refine q_if (c := true) (st1 := st) (by simp [hx, isiD, kdOf]) (fun _ => ?_) (fun h => nomatch h)
    refine q_ret (x := .ref st.length) (st1 := st ++ [.live (.lst [.bl false, .int i])]) (by simp [hx, isiD, kdOf, lstD]; decide) (.rt (.inl ?_))
    simp [pl]
  | str s =>
    refine q_if (c := false) (st1 := st) (by simp [hx, isiD, kdOf]) (fun h => nomatch h) (fun _ => ?_)
    refine q_if (c := true) (st1 := st) (by simp [hx, isiD, kdOf]) (fun _ => ?_) (fun h => nomatch h)
    refine q_ret (x := .ref st.length) (st1 := st ++ [.live (.lst [.bl true, .str s])]) (by simp [hx, isiD, kdOf, lstD]; decide) (.rt (.inl ?_))
    simp [pl]
  | _ => exact ht.elim
theorem plain_ok {P : Prog} {ds : Nat → Option Def} {f : Nat} (hd : ds f = some ⟨1, 2, c_plain f⟩) :
    ∀ (n : Nat) (t : T) (x : S) (st : Sto), okT n t → (rdS st x = .val t ∨ (∃ ts, t = .lst ts) ∧ view st x = some t) → NewR st (pl t) (callD P ds (n + 1) f [x] st) := by
  intro n
  induction n with
  | zero =>
    intro t x st ht hx
    have hx' : rdS st x = .val t := by
      rcases hx with h | ⟨⟨ts, rfl⟩, _⟩
      · exact h
      · exact ht.elim
    exact plain_flat hd hx' ht
  | succ n ih =>
    intro t x st ht hx
    have hv : view st (rdS st x) = some t := by
      rcases hx with h | h
      · rw [h]; rfl
      · rw [view_rdS]; exact h.2
    have main : ∀ (b : Bool) (ts : List T), t = (if b then .lst ts else .tup ts) → NewR st (pl t) (callD P ds (n + 1 + 1) f [x] st) := by
      intro b ts e
      have hts : ts.length + 1 ≤ lim ∧ ∀ t ∈ ts, okT n t := by subst e; cases b <;> exact ht
      have hpl : pl t = .lst (.bl b :: ts.map pl) := by subst e; cases b <;> simp [pl, plL_map]
      refine q_callP (NewR st (pl t)) hd rfl ?_
      refine q_if (c := true) (st1 := st) ?_ (fun _ => ?_) (fun h => nomatch h)
      · subst e
        cases b <;> simp [isiD, hv, kdOf]
      have hvv : ∀ r, view (st ++ r) (rdS st x) = some t := fun r => view_app hv
      have hrd : ∀ r, rdS (st ++ r) x = rdS st x := by
        intro r
        cases x with
        | val _ => rfl
        | ref k =>
          have hk : k < st.length := by
            apply Decidable.byContradiction; intro hh
            have q : st[k]? = none := List.getElem?_eq_none (by omega)
            rw [view_rdS] at hv
            simp only [view, q] at hv; exact nomatch hv
          simp only [rdS]
          rw [List.getElem?_append_left hk]
      have hc : ∃ j, evE (callD P ds (n + 1)) (.comp (.call f [.var 1]) (.nm 1) (.any (.var 0)) [] [1]) [some x, none] (st ++ [.live (.lst [.bl b])]) = .ok (.ref (st.length + 1)) (st ++ .live (.lst [.bl b]) :: .live (.lst (ts.map pl)) :: j) := by
        have hs : ∃ src : Src, evI (callD P ds (n + 1)) (.any (.var 0)) [some x, none] (st ++ [.live (.lst [.bl b])]) = .ok src (st ++ [.live (.lst [.bl b])]) ∧ (∀ r i, src.get (st ++ r) i = some (ts[i]?.map .val)) ∧ src.fuel (st ++ [.live (.lst [.bl b])]) = ts.length + 1 := by
          have he : evE (callD P ds (n + 1)) (.var 0) [some x, none] (st ++ [.live (.lst [.bl b])]) = .ok (rdS st x) (st ++ [.live (.lst [.bl b])]) := by simp [hrd]
          subst e
          cases b with
          | true =>
            refine ⟨.lst (rdS st x), ?_, ?_, ?_⟩
            · rw [iv_any, he]
              simp [srcD, hvv]
            · intro r i; simp [Src.get, hvv]
            · simp [Src.fuel, hvv]
          | false =>
            refine ⟨.tup (rdS st x), ?_, ?_, ?_⟩
            · rw [iv_any, he]
              simp [srcD, hvv]
            · intro r i; simp [Src.get, hvv]
            · simp [Src.fuel, hvv]
        obtain ⟨src, h1, h2, h3⟩ := hs
        obtain ⟨j, h4⟩ := comp_junk (v := 1) (n := ts.length) (k := st.length + 1) (src := src) (env0 := [some x, none]) (cond := evC (callD P ds (n + 1)) []) (el := evE (callD P ds (n + 1)) (.call f [.var 1])) (pre := st ++ [.live (.lst [.bl b])]) (by simp) (fun i => .val (ts.getD i .non)) (fun i => pl (ts.getD i .non)) (by omega)
          (by intro i xs j hi; rw [List.append_assoc, h2]; simp [hi])
          (by intro xs j; rw [List.append_assoc, h2]; simp)
          (by intro i xs j hi; rfl)
          (by
            intro i xs j hi
            have q := ih (ts.getD i .non) (.val (ts.getD i .non)) (st ++ [.live (.lst [.bl b])] ++ .live (.lst xs) :: j) (hts.2 _ (by simp [hi])) (.inl rfl)
            generalize ts.getD i .non = u at q
            have e : ∀ s, evE (callD P ds (n + 1)) (.call f [.var 1]) ([some x, none].set 1 (some (.val u))) s = callD P ds (n + 1) f [.val u] s := fun s => by simp
            rcases q with q | q
            · exact ⟨_, _, j ++ [.frz (pl u)], (e _).trans q, by simp [freeze]⟩
            · exact ⟨_, _, j, (e _).trans q, by simp⟩) ts.length 0 [] [] (by omega) rfl
        refine ⟨j, ?_⟩
        show (evI _ (.any (.var 0)) _ _).bind _ = _
        rw [h1]
        show compN (.nm 1) _ _ src (wipeE [some x, none] [1]) (st ++ [Cel.live (.lst [.bl b])]).length (src.fuel _) 0 _ = _
        rw [h3]
        have q : (st ++ [Cel.live (T.lst [.bl b])]).length = st.length + 1 := by simp
        rw [q]
        refine h4.trans ?_
        have z : (List.range' 0 ts.length).map (fun i => pl (ts.getD i .non)) = ts.map pl := by
          apply List.ext_getElem (by simp)
          intro i h1 h2
          simp at h2
          simp [h2]
        rw [List.nil_append, z]
        simp
      obtain ⟨j, hc⟩ := hc
      refine q_ret (x := .ref (st ++ .live (.lst [.bl b]) :: .live (.lst (ts.map pl)) :: j).length) (st1 := st ++ .live (.lst [.bl b]) :: .live (.lst (ts.map pl)) :: j ++ [.live (pl t)]) ?_ (.rt (.inl ?_))
      · have h1 : evE (callD P ds (n + 1)) (.lst [.isi (.var 0) [.list]]) [some x, none] st = .ok (.ref st.length) (st ++ [.live (.lst [.bl b])]) := by
          have h0 : evE (callD P ds (n + 1)) (.isi (.var 0) [.list]) [some x, none] st = .ok (.val (.bl b)) st := by
            simp only [e_isi, e_var]
            show isiD [.list] (rdS st x) st = _
            subst e
            cases b
            · exact isi_ok hv rfl
            · exact isi_ok hv rfl
          simp only [e_lst, es_cons, es_nil, h0]
          simp [lstD]
        show evE (callD P ds (n + 1)) _ [some x, none] st = _
        rw [e_bin, h1, bind_ok, hc, bind_ok]
        have r1 : rdS (st ++ .live (.lst [.bl b]) :: .live (.lst (ts.map pl)) :: j) (.ref st.length) = .ref st.length := by simp [rdS]
        rw [r1]
        simp only [opD, liveL, cell0, cell1]
        rw [if_pos (by simp; omega), hpl]
        simp
      · have := back_far (st := st) (t := pl t) (r := .live (.lst [.bl b]) :: .live (.lst (ts.map pl)) :: j)
        simpa using this
    by_cases hc : ∃ ts, t = .lst ts
    · obtain ⟨ts, rfl⟩ := hc
      exact main true ts rfl
    · have hx' : rdS st x = .val t := by
        rcases hx with h | ⟨h, _⟩
        · exact h
        · exact absurd h hc
      cases t with
      | lst ts => exact absurd ⟨ts, rfl⟩ hc
      | tup ts => exact main false ts rfl
      | non => exact ht.elim
      | bl b => exact plain_flat hd hx' ht
      | int i => exact plain_flat hd hx' ht
      | str s => exact plain_flat hd hx' ht
      | dK _ => exact ht.elim
      | dT _ => exact ht.elim
      | ins _ _ => exact ht.elim
abbrev c_same (f : Nat) : List Stm := [.ret (.cmp .eq (.call f [.var 0]) (.call f [.var 1]))]
/-- two that look alike are told the same -/
theorem okT_mono : ∀ (d n : Nat) (t : T), d ≤ n → okT d t → okT n t
  | _, _, .int _, _, _ => by rename_i d n i _ _; cases n <;> trivial
  | _, _, .bl _, _, _ => by rename_i d n i _ _; cases n <;> trivial
  | d, n, .str s, _, h => by cases n <;> cases d <;> exact h
  | d + 1, n + 1, .lst ts, hd, h => ⟨h.1, fun t ht => okT_mono d n t (by omega) (h.2 t ht)⟩
  | d + 1, n + 1, .tup ts, hd, h => ⟨h.1, fun t ht => okT_mono d n t (by omega) (h.2 t ht)⟩
  | d + 1, 0, .lst ts, hd, h => absurd hd (by omega)
  | d + 1, 0, .tup ts, hd, h => absurd hd (by omega)
  | 0, _, .lst ts, hd, h => h.elim
  | 0, _, .tup ts, hd, h => h.elim
  | 0, _, .non, _, h => h.elim
  | _ + 1, _, .non, _, h => h.elim
  | 0, _, .dK _, _, h => h.elim
  | 0, _, .dT _, _, h => h.elim
  | 0, _, .ins _ _, _, h => h.elim
  | _ + 1, _, .dK _, _, h => h.elim
  | _ + 1, _, .dT _, _, h => h.elim
  | _ + 1, _, .ins _ _, _, h => h.elim
theorem same_ok {P : Prog} {ds : Nat → Option Def} {f g n dd : Nat} {t : T} {x y : S} {st : Sto} (hd : ds f = some ⟨1, 2, c_plain f⟩) (hg : ds g = some ⟨2, 2, c_same f⟩) (hdd : dd ≤ 60) (hn : dd ≤ n) (ht0 : okT dd t)
    (hx : Is st x t) (hy : Is st y t) :
    callD P ds (n + 2) g [x, y] st = .ok (.val (.bl true)) st := by
  refine q_call hg rfl ?_
  obtain ⟨d, h1, h2, h3⟩ := toPy_pl dd t ht0
  have ht : okT n t := okT_mono dd n t hn ht0
  have he : eqT (pl t) (pl t) = some true := by
    have hs : SeqAt.shaped d = true := by
      unfold SeqAt.shaped
      rw [h2, decide_eq_true (show d.depth ≤ 64 by omega)]; rfl
    have q : PyData.eqv d d = true := SeqAt.eqv_refl d h2
    unfold eqT
    split
    · rename_i a b; simp_all
    · rename_i a b; simp_all
    · rename_i a b; simp_all
    · simp [h1, hs, q]
  have e0 : evE (callD P ds (n + 1)) (.call f [.var 0]) [some x, some y] st = callD P ds (n + 1) f [rdS st x] st := by simp
  have e1 : ∀ s, evE (callD P ds (n + 1)) (.call f [.var 1]) [some x, some y] s = callD P ds (n + 1) f [rdS s y] s := fun s => by simp
  have fin : ∃ r : Sto, evE (callD P ds (n + 1)) (.cmp .eq (.call f [.var 0]) (.call f [.var 1])) [some x, some y] st = .ok (.val (.bl true)) (st ++ r) := by
    have p0 := plain_ok (P := P) hd n t (rdS st x) st ht hx.rd
    have v0 : ∃ a r, callD P ds (n + 1) f [rdS st x] st = .ok a (st ++ r) ∧ ∀ r', view (st ++ r ++ r') a = some (pl t) := by
      rcases p0 with h | h
      · refine ⟨_, _, h, fun r' => ?_⟩
        simp [view]
      · exact ⟨_, [], by rw [h, List.append_nil], fun r' => rfl⟩
    obtain ⟨a, r, q1, q2⟩ := v0
    have p1 := plain_ok (P := P) hd n t (rdS (st ++ r) y) (st ++ r) ht hy.app.rd
    have v1 : ∃ b r1, callD P ds (n + 1) f [rdS (st ++ r) y] (st ++ r) = .ok b (st ++ r ++ r1) ∧ view (st ++ r ++ r1) b = some (pl t) := by
      rcases p1 with h | h
      · refine ⟨_, _, h, ?_⟩
        exact view_new
      · exact ⟨_, [], by rw [h, List.append_nil], rfl⟩
    obtain ⟨b, r1, q3, q4⟩ := v1
    refine ⟨r ++ r1, ?_⟩
    rw [e_cmp, e0, q1, bind_ok, e1, q3, bind_ok]
    simp only [cmpD, q2, q4, he]
    rw [List.append_assoc]
  obtain ⟨r, fin⟩ := fin
  exact q_ret fin (.rt back_val)

/-! ### powers and ways -/
abbrev c_power : List Stm := [.set 2 (.int (1)), .for_ (.nm 3) (.rng1 (.var 1)) [.set 2 (.bin .mul (.var 2) (.var 0))], .ret (.var 2)]
theorem power_ok {P : Prog} {ds : Nat → Option Def} {f n : Nat} {st : Sto} (hd : ds f = some ⟨2, 4, c_power⟩) {b E : Int} (e : Nat) (hE : E = e) (h1 : -9223372036854775808 < b) (h2 : b < 9223372036854775808) (he : e < 1000000000) :
    callD P ds (n + 1) f [.val (.int b), .val (.int E)] st = .ok (.val (.int (b ^ e))) st := by
  subst hE
  refine q_call hd rfl ?_
  refine q_set e_int ?_
  have hi : evI (callD P ds n) (.rng1 (.var 1)) [some (.val (.int b)), some (.val (.int e)), some (.val (.int 1)), none] st = .ok (.rng 0 e) st := by
    have := iv_rng1 (cb := callD P ds n) (a := .var 1) (env := [some (.val (.int b)), some (.val (.int e)), some (.val (.int 1)), none]) (st := st) (st1 := st) (j := e) (by simp) (by omega) (by omega)
    simpa using this
  refine q_for0 hi (fun i env s => ∃ a, env = [some (.val (.int b)), some (.val (.int e)), some (.val (.int (b ^ i))), a] ∧ s = st) ⟨none, by simp, rfl⟩ ?_ ?_
  · rintro i env s hi ⟨a, rfl, rfl⟩
    refine FlNx.out ?_
    refine q_set (x := .val (.int (b ^ i * b))) (st1 := s) (by simp [op_mulR (show -18446744073709551616 < b by omega) (show b < 18446744073709551616 by omega)]) ?_
    exact .nx ⟨_, by rw [Int.pow_succ]; rfl, rfl⟩
  · rintro env s ⟨a, rfl, rfl⟩
    exact q_ret (x := .val (.int (b ^ e))) (st1 := s) (by simp) (.rt back_val0)
abbrev c_ways : List Stm := [.if_ (.or_ (.cmp .lt (.var 1) (.int (0))) (.cmp .gt (.var 1) (.var 0))) [.ret (.int (0))] [], .set 2 (.int (1)), .for_ (.nm 3) (.rng1 (.var 1)) [.set 2 (.bin .fdiv (.bin .mul (.var 2) (.bin .sub (.var 0) (.var 3))) (.bin .add (.var 3) (.int (1))))], .ret (.var 2)]
def wN (s : Int) : Nat → Int
  | 0 => 1
  | n + 1 => wN s n * (s - n) / (n + 1)
theorem ways_ok {P : Prog} {ds : Nat → Option Def} {f n : Nat} {st : Sto} (hd : ds f = some ⟨2, 4, c_ways⟩) (s m : Nat) (hm : m ≤ s) (hs : s < 1000000000) :
    callD P ds (n + 1) f [.val (.int s), .val (.int m)] st = .ok (.val (.int (wN s m))) st := by
  refine q_call hd rfl ?_
  refine q_if (c := false) (st1 := st) ?_ (fun h => nomatch h) (fun _ => ?_)
  · have a : ¬ (m : Int) < 0 := by omega
    have b : ¬ (s : Int) < m := by omega
    simp [a, b]
  refine q_set e_int ?_
  have hi : evI (callD P ds n) (.rng1 (.var 1)) [some (.val (.int s)), some (.val (.int m)), some (.val (.int 1)), none] st = .ok (.rng 0 m) st := by
    have := iv_rng1 (cb := callD P ds n) (a := .var 1) (env := [some (.val (.int s)), some (.val (.int m)), some (.val (.int 1)), none]) (st := st) (st1 := st) (j := m) (by simp) (by omega) (by omega)
    simpa using this
  refine q_for0 hi (fun i env z => ∃ a, env = [some (.val (.int s)), some (.val (.int m)), some (.val (.int (wN s i))), a] ∧ z = st) ⟨none, rfl, rfl⟩ ?_ ?_
  · rintro i env z hi ⟨a, rfl, rfl⟩
    refine FlNx.out ?_
    refine q_set (x := .val (.int (wN s i * (s - i) / (i + 1)))) (st1 := z) ?_ ?_
    · have h1 : -18446744073709551616 < (s : Int) - i := by omega
      have h2 : (s : Int) - i < 18446744073709551616 := by omega
      have h3 : (0 : Int) < i + 1 := by omega
      have h4 : (i : Int) + 1 < 18446744073709551616 := by omega
      simp [op_mulR h1 h2, op_fdiv h3 h4]
    exact .nx ⟨_, rfl, rfl⟩
  · rintro env z ⟨a, rfl, rfl⟩
    exact q_ret (x := .val (.int (wN s m))) (st1 := z) (by simp) (.rt back_val0)
def kS (f : Nat → Int) : Nat → Int
  | 0 => 0
  | n + 1 => kS f n + f n
theorem kS_sum (f : Nat → Int) : ∀ n, ((List.range n).map f).sum = kS f n
  | 0 => rfl
  | n + 1 => by rw [List.range_succ, List.map_append, List.sum_append, kS_sum f n]; simp [kS]
theorem kS_ext {f g : Nat → Int} : ∀ n, (∀ i, i < n → f i = g i) → kS f n = kS g n
  | 0, _ => rfl
  | n + 1, h => by rw [kS, kS, kS_ext n (fun i hi => h i (by omega)), h n (by omega)]

/-! ### rows as polynomials -/
abbrev c_rtimes : List Stm := [.set 2 (.bin .mul (.lst [.int (0)]) (.bin .add (.bi .len [.var 0]) (.bi .len [.var 1]))), .for_ (.nm 3) (.rng1 (.bi .len [.var 0])) [.for_ (.nm 4) (.rng1 (.bi .len [.var 1])) [.sub (.var 2) (.bin .add (.var 3) (.var 4)) (.bin .add (.idx (.var 2) (.bin .add (.var 3) (.var 4))) (.bin .mul (.idx (.var 0) (.var 3)) (.idx (.var 1) (.var 4))))]], .ret (.var 2)]
def rtIn (a : Int) (ys : List Int) (p : Nat) (acc : List Int) : Nat → List Int
  | 0 => acc
  | m + 1 => (rtIn a ys p acc m).set (p + m) ((rtIn a ys p acc m).getD (p + m) 0 + a * ys.getD m 0)
def rtOut (xs ys : List Int) : Nat → List Int
  | 0 => List.replicate (xs.length + ys.length) 0
  | n + 1 => rtIn (xs.getD n 0) ys n (rtOut xs ys n) ys.length
abbrev rT (xs ys : List Int) : List Int := rtOut xs ys xs.length
theorem rtIn_len {a : Int} {ys : List Int} {p : Nat} {acc : List Int} : ∀ m, (rtIn a ys p acc m).length = acc.length
  | 0 => rfl
  | m + 1 => by rw [rtIn, List.length_set, rtIn_len m]
theorem rtOut_len {xs ys : List Int} : ∀ n, (rtOut xs ys n).length = xs.length + ys.length
  | 0 => by simp [rtOut]
  | n + 1 => by rw [rtOut, rtIn_len, rtOut_len n]
theorem rtimes_ok {P : Prog} {ds : Nat → Option Def} {f n : Nat} {st : Sto} {x y : S} (hd : ds f = some ⟨2, 5, c_rtimes⟩) (xs ys : List Int) (hx : Is st x (tLI xs)) (hy : Is st y (tLI ys)) (hxl : xs.length ≤ 1000000) (hyl : ys.length ≤ 1000000)
    (hs : ∀ j, j < ys.length → -18446744073709551616 < ys.getD j 0 ∧ ys.getD j 0 < 18446744073709551616) :
    callD P ds (n + 1) f [x, y] st = .ok (.ref st.length) (st ++ [Dk (rT xs ys)]) := by
  refine q_call hd rfl ?_
  have hrx : ∀ r, rdS (st ++ r) x = rdS st x := fun r => rdS_app hx.view
  have hvx : ∀ r, view (st ++ r) (rdS st x) = some (tLI xs) := fun r => hx.rd.app.view
  have hry : ∀ r, rdS (st ++ r) y = rdS st y := fun r => rdS_app hy.view
  have hvy : ∀ r, view (st ++ r) (rdS st y) = some (tLI ys) := fun r => hy.rd.app.view
  have hl0 : (st ++ [Dk [0]]).length = st.length + 1 := by simp
  refine q_set (x := .ref (st ++ [Dk [0]]).length) (st1 := st ++ [Dk [0]] ++ [Dk (rtOut xs ys 0)]) ?_ ?_
  · show evE (callD P ds n) _ [some x, some y, none, none, none] st = _
    have e1 : evE (callD P ds n) (.lst [.int (0)]) [some x, some y, none, none, none] st = .ok (.ref st.length) (st ++ [Dk [0]]) := by
      simp [lstD, tLI, show 1 ≤ lim by decide]
    have e2 : ∀ r, evE (callD P ds n) (.bin .add (.bi .len [.var 0]) (.bi .len [.var 1])) [some x, some y, none, none, none] (st ++ r) = .ok (.val (.int ((xs.length + ys.length : Nat) : Int))) (st ++ r) := by
      intro r
      simp [hrx, hry, b_len (hvx r), b_len (hvy r)]
    rw [e_bin, e1, bind_ok, e2, bind_ok, rdS_new]
    have q := op_rep (st := st ++ [Dk [0]]) (k := st.length) (v := 0) (n := ((xs.length + ys.length : Nat) : Int)) liveL_new (by omega) (by omega) (by show _ ≤ 16777216; omega)
    rw [q]
    simp [rtOut]
    omega
  have hi0 : ∀ (a b c : Option S) (r : Sto), evI (callD P ds n) (.rng1 (.bi .len [.var 0])) [some x, some y, a, b, c] (st ++ r) = .ok (.rng 0 xs.length) (st ++ r) := by
    intro a b c r
    have := iv_rng1 (cb := callD P ds n) (a := .bi .len [.var 0]) (env := [some x, some y, a, b, c]) (st := st ++ r) (st1 := st ++ r) (j := xs.length) (by simp [hrx, b_len (hvx r)]) (by omega) (by omega)
    simpa using this
  have hi1 : ∀ (a b c : Option S) (r : Sto), evI (callD P ds n) (.rng1 (.bi .len [.var 1])) [some x, some y, a, b, c] (st ++ r) = .ok (.rng 0 ys.length) (st ++ r) := by
    intro a b c r
    have := iv_rng1 (cb := callD P ds n) (a := .bi .len [.var 1]) (env := [some x, some y, a, b, c]) (st := st ++ r) (st1 := st ++ r) (j := ys.length) (by simp [hry, b_len (hvy r)]) (by omega) (by omega)
    simpa using this
  have hi0' := hi0 (some (.ref (st ++ [Dk [0]]).length)) none none ([Dk [0]] ++ [Dk (rtOut xs ys 0)])
  rw [← List.append_assoc] at hi0'
  refine q_for0 hi0' (fun i env s => ∃ a b, env = [some x, some y, some (.ref (st ++ [Dk [0]]).length), a, b] ∧ s = st ++ [Dk [0]] ++ [Dk (rtOut xs ys i)]) ⟨none, none, rfl, rfl⟩ ?_ ?_
  · rintro i env s hi ⟨a, b, rfl, rfl⟩
    refine FlNx.out ?_
    have hi1' := hi1 (some (.ref (st ++ [Dk [0]]).length)) (some (.val (.int i))) b ([Dk [0]] ++ [Dk (rtOut xs ys i)])
    rw [← List.append_assoc] at hi1'
    refine q_for0 hi1' (fun m env s => ∃ b, env = [some x, some y, some (.ref (st ++ [Dk [0]]).length), some (.val (.int i)), b] ∧ s = st ++ [Dk [0]] ++ [Dk (rtIn (xs.getD i 0) ys i (rtOut xs ys i) m)]) ⟨b, rfl, rfl⟩ ?_ ?_
    · rintro m env s hm ⟨b, rfl, rfl⟩
      refine FlNx.out ?_
      have hlen : (rtIn (xs.getD i 0) ys i (rtOut xs ys i) m).length = xs.length + ys.length := by rw [rtIn_len, rtOut_len]
      have hsm := hs m hm
      generalize hcur : rtIn (xs.getD i 0) ys i (rtOut xs ys i) m = cur at hlen
      have hp : i + m < cur.length := by omega
      have k1 : rdS (st ++ [Dk [0]] ++ [Dk cur]) x = rdS st x := by rw [List.append_assoc]; exact hrx _
      have k2 : view (st ++ [Dk [0]] ++ [Dk cur]) (rdS st x) = some (tLI xs) := by rw [List.append_assoc]; exact hvx _
      have k3 : rdS (st ++ [Dk [0]] ++ [Dk cur]) y = rdS st y := by rw [List.append_assoc]; exact hry _
      have k4 : view (st ++ [Dk [0]] ++ [Dk cur]) (rdS st y) = some (tLI ys) := by rw [List.append_assoc]; exact hvy _
      have k5 : rdS (st ++ [Dk [0]] ++ [Dk cur]) (.ref (st ++ [Dk [0]]).length) = .ref (st ++ [Dk [0]]).length := rdS_new
      have k6 : view (st ++ [Dk [0]] ++ [Dk cur]) (.ref (st ++ [Dk [0]]).length) = some (tLI cur) := view_new
      have k7 : liveL (st ++ [Dk [0]] ++ [Dk cur]) (.ref (st ++ [Dk [0]]).length) = some (cur.map T.int) := liveL_new
      have k8 : putL (st ++ [Dk [0]] ++ [Dk cur]) (st ++ [Dk [0]]).length (((cur.set (i + m) (cur.getD (i + m) 0 + xs.getD i 0 * ys.getD m 0))).map T.int) = st ++ [Dk [0]] ++ [Dk (cur.set (i + m) (cur.getD (i + m) 0 + xs.getD i 0 * ys.getD m 0))] := putL_new
      have g0 : cur.getD (i + m) 0 = cur[i + m] := by simp [hp]
      have g1 : xs.getD i 0 = xs[i] := by simp [hi]
      have g2 : ys.getD m 0 = ys[m] := by simp [hm]
      have ec : (i : Int) + m = ((i + m : Nat) : Int) := by omega
      refine q_sub (z := .val (.int (cur.getD (i + m) 0 + xs.getD i 0 * ys.getD m 0))) (st1 := st ++ [Dk [0]] ++ [Dk cur]) (x := .ref (st ++ [Dk [0]]).length) (st2 := st ++ [Dk [0]] ++ [Dk cur]) (y := .val (.int ((i + m : Nat) : Int))) (st3 := st ++ [Dk [0]] ++ [Dk cur]) (st4 := st ++ [Dk [0]] ++ [Dk (cur.set (i + m) (cur.getD (i + m) 0 + xs.getD i 0 * ys.getD m 0))]) ?_ ?_ ?_ ?_ ?_
      · show evE (callD P ds n) _ [some x, some y, some (.ref (st ++ [Dk [0]]).length), some (.val (.int i)), some (.val (.int m))] _ = _
        generalize st ++ [Dk [0]] ++ [Dk cur] = s' at *
        rw [g0, g1, g2]
        rw [g2] at hsm
        simp only [e_bin, e_idx, e_var, List.getElem?_cons_zero, List.getElem?_cons_succ, getV_some, k1, k3, k5, bind_ok, rdS_val, op_add, ec, idx_int k6 hp, idx_int k2 hi, idx_int k4 hm, op_mulR hsm.1 hsm.2]
      · show evE (callD P ds n) _ [some x, some y, some (.ref (st ++ [Dk [0]]).length), some (.val (.int i)), some (.val (.int m))] _ = _
        simp only [e_var, List.getElem?_cons_zero, List.getElem?_cons_succ, getV_some, k5]
      · show evE (callD P ds n) _ [some x, some y, some (.ref (st ++ [Dk [0]]).length), some (.val (.int i)), some (.val (.int m))] _ = _
        simp only [e_bin, e_var, List.getElem?_cons_zero, List.getElem?_cons_succ, getV_some, rdS_val, bind_ok, op_add, ec]
      · rw [sub_nat k7 (by simpa using hp)]
        rw [← k8, List.map_set]
      · refine .nx ⟨_, rfl, ?_⟩
        rw [rtIn, hcur]
    · rintro env s ⟨b, rfl, rfl⟩
      exact .nx ⟨_, _, rfl, rfl⟩
  · rintro env s ⟨a, b, rfl, rfl⟩
    refine q_ret (x := .ref (st ++ [Dk [0]]).length) (st1 := st ++ [Dk [0]] ++ [Dk (rT xs ys)]) ?_ (.rt ?_)
    · simp only [e_var, List.getElem?_cons_zero, List.getElem?_cons_succ, getV_some, rdS_new]
    · have := back_far (st := st) (r := [Dk [0]]) (t := tLI (rT xs ys))
      simpa using this
abbrev c_prow (f : Nat) : List Stm := [.set 3 (.lst [.int (1)]), .for_ (.nm 4) (.rng1 (.var 2)) [.set 3 (.slc (.call f [.var 3, .lst [.var 0, .var 1]]) [] [.bin .add (.bi .len [.var 3]) (.int (1))])], .ret (.var 3)]
def pR (a b : Int) : Nat → List Int
  | 0 => [1]
  | n + 1 => (rT (pR a b n) [a, b]).take ((pR a b n).length + 1)
theorem pR_len (a b : Int) : ∀ n, (pR a b n).length = n + 1
  | 0 => rfl
  | n + 1 => by
    rw [pR, List.length_take, rtOut_len, pR_len a b n]
    simp
theorem slc_to {st : Sto} {k : Nat} {xs : List Int} (h : Nat) (hv : view st (.ref k) = some (tLI xs)) : slcD (.ref k) none (some (h : Int)) st = .ok (.ref st.length) (st ++ [Dk (xs.take h)]) := by
  unfold slcD
  simp only [hv, cut_to, newC]
  rw [← List.map_take]
/-- back, of a cell above -/
theorem back_up {st j : Sto} {k : Nat} {t : T} (hk : st.length ≤ k) (h : (st ++ j)[k]? = some (.live t)) : back st.length (.ref k) (st ++ j) = .ok (.ref st.length) (st ++ [.live t]) := by
  simp only [back]
  rw [if_neg (by omega)]
  simp only [h]
  simp
theorem prow_ok {P : Prog} {ds : Nat → Option Def} {f g n : Nat} {st : Sto} (hd : ds f = some ⟨2, 5, c_rtimes⟩) (hg : ds g = some ⟨3, 5, c_prow f⟩) (a b : Int) (N : Nat) (hN : N ≤ 100000)
    (ha : -18446744073709551616 < a ∧ a < 18446744073709551616) (hb : -18446744073709551616 < b ∧ b < 18446744073709551616) :
    callD P ds (n + 2) g [.val (.int a), .val (.int b), .val (.int (N : Nat))] st = .ok (.ref st.length) (st ++ [Dk (pR a b N)]) := by
  refine q_call hg rfl ?_
  refine q_set (x := .ref st.length) (st1 := st ++ [Dk [1]]) (by simp [lstD, tLI, show 1 ≤ lim by decide]) ?_
  have hi : ∀ (v c : Option S) (s : Sto), evI (callD P ds (n + 1)) (.rng1 (.var 2)) [some (.val (.int a)), some (.val (.int b)), some (.val (.int (N : Nat))), v, c] s = .ok (.rng 0 N) s := by
    intro v c s
    have := iv_rng1 (cb := callD P ds (n + 1)) (a := .var 2) (env := [some (.val (.int a)), some (.val (.int b)), some (.val (.int (N : Nat))), v, c]) (st := s) (st1 := s) (j := N) (by simp) (by omega) (by omega)
    simpa using this
  refine q_for0 (hi (some (.ref st.length)) none (st ++ [Dk [1]])) (fun i env s => ∃ k j c, st.length ≤ k ∧ (st ++ j)[k]? = some (Dk (pR a b i)) ∧ env = [some (.val (.int a)), some (.val (.int b)), some (.val (.int (N : Nat))), some (.ref k), c] ∧ s = st ++ j) ⟨st.length, [Dk [1]], none, by omega, cell0, rfl, rfl⟩ ?_ ?_
  · rintro i env s hi ⟨k, j, c, hk, hc, rfl, rfl⟩
    refine FlNx.out ?_
    have hkl : k < (st ++ j).length := (List.getElem?_eq_some_iff.1 hc).1
    have hc2 : ∀ r, (st ++ j ++ r)[k]? = some (Dk (pR a b i)) := fun r => by rw [List.getElem?_append_left hkl]; exact hc
    have r1 : ∀ r, rdS (st ++ j ++ r) (.ref k) = .ref k := fun r => by simp only [rdS, hc2]
    have v1 : ∀ r, view (st ++ j ++ r) (.ref k) = some (tLI (pR a b i)) := fun r => by simp only [view, hc2]
    have r0 : rdS (st ++ j) (.ref k) = .ref k := by simp only [rdS, hc]
    have e1 : evE (callD P ds (n + 1)) (.lst [.var 0, .var 1]) [some (.val (.int a)), some (.val (.int b)), some (.val (.int (N : Nat))), some (.ref k), some (.val (.int i))] (st ++ j) = .ok (.ref (st ++ j).length) (st ++ j ++ [Dk [a, b]]) := by
      simp [lstD, tLI, show 2 ≤ lim by decide]
    have hsm : ∀ q, q < [a, b].length → -18446744073709551616 < [a, b].getD q 0 ∧ [a, b].getD q 0 < 18446744073709551616 := by
      intro q hq
      match q, hq with
      | 0, _ => exact ha
      | 1, _ => exact hb
    have e2 := rtimes_ok (P := P) (n := n) (st := st ++ j ++ [Dk [a, b]]) (x := .ref k) (y := .ref (st ++ j).length) hd (pR a b i) [a, b] (.inr ⟨⟨_, rfl⟩, v1 _⟩) (.inr ⟨⟨_, rfl⟩, view_new⟩) (by rw [pR_len]; omega) (by simp) hsm
    refine q_set (x := .ref (st ++ j ++ [Dk [a, b]] ++ [Dk (rT (pR a b i) [a, b])]).length) (st1 := st ++ j ++ [Dk [a, b]] ++ [Dk (rT (pR a b i) [a, b])] ++ [Dk (pR a b (i + 1))]) ?_ ?_
    · show evE (callD P ds (n + 1)) _ [some (.val (.int a)), some (.val (.int b)), some (.val (.int (N : Nat))), some (.ref k), some (.val (.int i))] (st ++ j) = _
      have e3 : evE (callD P ds (n + 1)) (.call f [.var 3, .lst [.var 0, .var 1]]) [some (.val (.int a)), some (.val (.int b)), some (.val (.int (N : Nat))), some (.ref k), some (.val (.int i))] (st ++ j) = .ok (.ref (st ++ j ++ [Dk [a, b]]).length) (st ++ j ++ [Dk [a, b]] ++ [Dk (rT (pR a b i) [a, b])]) := by
        rw [e_call, es_cons, e_var]
        simp only [List.getElem?_cons_zero, List.getElem?_cons_succ, getV_some, r0, bind_ok]
        rw [es_cons, e1]
        simp only [bind_ok, es_nil]
        exact e2
      have v2 : view (st ++ j ++ [Dk [a, b]] ++ [Dk (rT (pR a b i) [a, b])]) (.ref k) = some (tLI (pR a b i)) := by rw [List.append_assoc]; exact v1 _
      have r2 : rdS (st ++ j ++ [Dk [a, b]] ++ [Dk (rT (pR a b i) [a, b])]) (.ref k) = .ref k := by rw [List.append_assoc]; exact r1 _
      have v3 : view (st ++ j ++ [Dk [a, b]] ++ [Dk (rT (pR a b i) [a, b])]) (.ref (st ++ j ++ [Dk [a, b]]).length) = some (tLI (rT (pR a b i) [a, b])) := view_new
      rw [e_slc, e3]
      generalize st ++ j ++ [Dk [a, b]] ++ [Dk (rT (pR a b i) [a, b])] = s' at v2 r2 v3 ⊢
      simp only [bind_ok, o_nil, o_cons, e_bin, e_bi, es_cons, es_nil, e_var, e_int, List.getElem?_cons_zero, List.getElem?_cons_succ, getV_some, r2, b_len v2, rdS_val, op_add, bnd_int, List.length_map]
      have ec : ((pR a b i).length : Int) + 1 = (((pR a b i).length + 1 : Nat) : Int) := by omega
      rw [ec, slc_to _ v3]
      rfl
    · refine .nx ⟨(st ++ j ++ [Dk [a, b]] ++ [Dk (rT (pR a b i) [a, b])]).length, j ++ [Dk [a, b]] ++ [Dk (rT (pR a b i) [a, b])] ++ [Dk (pR a b (i + 1))], some (.val (.int i)), by simp, ?_, rfl, by simp⟩
      have : st ++ (j ++ [Dk [a, b]] ++ [Dk (rT (pR a b i) [a, b])] ++ [Dk (pR a b (i + 1))]) = st ++ j ++ [Dk [a, b]] ++ [Dk (rT (pR a b i) [a, b])] ++ [Dk (pR a b (i + 1))] := by simp
      rw [this]; exact cell0
  · rintro env s ⟨k, j, c, hk, hc, rfl, rfl⟩
    refine q_ret (x := .ref k) (st1 := st ++ j) ?_ (.rt (back_up hk hc))
    have r0 : rdS (st ++ j) (.ref k) = .ref k := by simp only [rdS, hc]
    simp only [e_var, List.getElem?_cons_zero, List.getElem?_cons_succ, List.set_cons_zero, List.set_cons_succ, getV_some, r0]
theorem toPyL_ints : ∀ xs : List Int, toPyL (xs.map T.int) = some (xs.map PyData.int)
  | [] => rfl
  | x :: xs => by simp [toPyL, toPy, toPyL_ints xs]
theorem eqT_LI (xs : List Int) : eqT (tLI xs) (tLI xs) = some true := by
  have h1 : toPy (tLI xs) = some (.list (xs.map PyData.int)) := by simp [tLI, toPy, toPyL_ints]
  have h2 : PyData.canLay0 (.list (xs.map PyData.int)) = true := by
    rw [PyData.canLay0]
    apply layAll_of; intro d hd
    obtain ⟨i, _, rfl⟩ := List.mem_map.1 hd; rfl
  have h3 : PyData.depth (.list (xs.map PyData.int)) ≤ 1 := by
    rw [PyData.depth]
    have := depthAll_of (n := 0) (xs.map PyData.int) (by intro d hd; obtain ⟨i, _, rfl⟩ := List.mem_map.1 hd; exact Nat.zero_le _)
    omega
  have hs : SeqAt.shaped (.list (xs.map PyData.int)) = true := by
    unfold SeqAt.shaped
    rw [h2, decide_eq_true (show PyData.depth (.list (xs.map PyData.int)) ≤ 64 by omega)]; rfl
  have q : PyData.eqv (.list (xs.map PyData.int)) (.list (xs.map PyData.int)) = true := SeqAt.eqv_refl _ h2
  unfold eqT
  split
  · rename_i a b; simp_all
  · rename_i a b; simp_all
  · rename_i a b; simp_all
  · simp [h1, hs, q]
theorem okT_LI (xs : List Int) (h : xs.length + 1 ≤ lim) : okT 1 (tLI xs) := by
  refine ⟨by simpa using h, ?_⟩
  intro t ht
  obtain ⟨i, _, rfl⟩ := List.mem_map.1 ht
  trivial
theorem is_new {st r : Sto} {ts : List T} : Is (st ++ .live (.lst ts) :: r) (.ref st.length) (.lst ts) := .inr ⟨⟨_, rfl⟩, view_new⟩
theorem is_val {st : Sto} {t : T} : Is st (.val t) t := .inl rfl
end Dy

set_option Elab.async false
set_option linter.all false
set_option maxRecDepth 100000
set_option maxHeartbeats 4000000
set_option autoImplicit true
open PySem PySem.Spec L2 PyProof.Rows Dy
namespace Law
/-! ### the text of the law by places; its core; that the core is of the text (printed by gen.py) -/
def top (i : Nat) : Stmt := PySem.Challenge.pw_treework_k36_whole_numbers_of_krawtchouk.main.body.getD i (.Pass ⟨0, 0, 0, 0⟩)
abbrev s_integer_power : Stmt := top 5
abbrev s_krawtchouk : Stmt := top 7
abbrev s_macwilliams : Stmt := top 8
abbrev s__law_deck : Stmt := top 10
abbrev s__law_take : Stmt := top 11
abbrev s__law_plain : Stmt := top 12
abbrev s__law_same : Stmt := top 13
abbrev s__law_ways : Stmt := top 14
abbrev s__law_power : Stmt := top 15
abbrev s__law_row_times : Stmt := top 16
abbrev s__law_power_row : Stmt := top 17
abbrev s__law_refused : Stmt := top 18
abbrev s__law_known : Stmt := top 19
abbrev s_law : Stmt := top 20
abbrev info : Info := ⟨["integer_power", "krawtchouk", "macwilliams", "_law_deck", "_law_take", "_law_plain", "_law_same", "_law_ways", "_law_power", "_law_row_times", "_law_power_row", "_law_refused", "_law_known", "law"], ["TreeError", "InvalidDivision"], ["comb"]⟩
abbrev c_integer_power : List Stm := [.set 2 (.int (1)), .for_ (.nm 3) (.rng1 (.var 1)) [.set 2 (.bin .mul (.var 2) (.var 0))], .ret (.var 2)]
def d_integer_power : Def := ⟨2, 4, c_integer_power⟩
abbrev n_integer_power : List Str := ["base", "exponent", "result", "turn"]
theorem f_integer_power : FnScope n_integer_power ["base", "exponent"] (defScope s_integer_power) := ⟨rfl, rfl, rfl, by decide +kernel, rfl, by decide +kernel, by decide +kernel⟩
theorem m_integer_power : Cmp info n_integer_power true (defScope s_integer_power) (.ss (defBody s_integer_power) c_integer_power) :=
  (.scons (.set (i := 2) rfl rfl .int (fun _ _ => rfl))
      (.scons (.for_ (.irng1 rfl (.var (i := 1) rfl rfl) (fun _ _ => rfl)) (.gnm (i := 3) rfl rfl)
      (.scons (.set (i := 2) rfl rfl (.bin rfl (.var (i := 2) rfl rfl) (.var (i := 0) rfl rfl)) (fun _ _ => rfl))
      .snil) (fun _ _ => rfl))
      (.scons (.ret (.var (i := 2) rfl rfl))
      .snil)))
abbrev c_krawtchouk : List Stm := [.set 4 (.int (0)), .for_ (.nm 5) (.rng1 (.bin .add (.var 2) (.int (1)))) [.set 6 (.bin .mul (.bi .comb [.var 3, .var 5]) (.bi .comb [.bin .sub (.var 1) (.var 3), .bin .sub (.var 2) (.var 5)])), .set 4 (.bin .add (.var 4) (.bin .mul (.bin .mul (.bin .sub (.int (1)) (.bin .mul (.int (2)) (.bin .mod (.var 5) (.int (2))))) (.call 0 [.bin .sub (.var 0) (.int (1)), .bin .sub (.var 2) (.var 5)])) (.var 6)))], .ret (.var 4)]
def d_krawtchouk : Def := ⟨4, 7, c_krawtchouk⟩
abbrev n_krawtchouk : List Str := ["order", "length", "degree", "place", "total", "at", "ways"]
theorem f_krawtchouk : FnScope n_krawtchouk ["order", "length", "degree", "place"] (defScope s_krawtchouk) := ⟨rfl, rfl, rfl, by decide +kernel, rfl, by decide +kernel, by decide +kernel⟩
theorem m_krawtchouk : Cmp info n_krawtchouk true (defScope s_krawtchouk) (.ss (defBody s_krawtchouk) c_krawtchouk) :=
  (.scons (.set (i := 4) rfl rfl .int (fun _ _ => rfl))
      (.scons (.for_ (.irng1 rfl (.bin rfl (.var (i := 2) rfl rfl) .int) (fun _ _ => rfl)) (.gnm (i := 5) rfl rfl)
      (.scons (.set (i := 6) rfl rfl (.bin rfl (.bim (b := .comb) rfl rfl (.cons (.var (i := 3) rfl rfl) (.cons (.var (i := 5) rfl rfl) .nil (fun _ _ => rfl)) (fun _ _ => rfl)) rfl rfl) (.bim (b := .comb) rfl rfl (.cons (.bin rfl (.var (i := 1) rfl rfl) (.var (i := 3) rfl rfl)) (.cons (.bin rfl (.var (i := 2) rfl rfl) (.var (i := 5) rfl rfl)) .nil (fun _ _ => rfl)) (fun _ _ => rfl)) rfl rfl)) (fun _ _ => rfl))
      (.scons (.set (i := 4) rfl rfl (.bin rfl (.var (i := 4) rfl rfl) (.bin rfl (.bin rfl (.bin rfl .int (.bin rfl .int (.bin rfl (.var (i := 5) rfl rfl) .int))) (.call (f := 0) rfl rfl (.cons (.bin rfl (.var (i := 0) rfl rfl) .int) (.cons (.bin rfl (.var (i := 2) rfl rfl) (.var (i := 5) rfl rfl)) .nil (fun _ _ => rfl)) (fun _ _ => rfl)))) (.var (i := 6) rfl rfl))) (fun _ _ => rfl))
      .snil)) (fun _ _ => rfl))
      (.scons (.ret (.var (i := 4) rfl rfl))
      .snil)))
abbrev c_macwilliams : List Stm := [.set 2 (.bin .sub (.bi .len [.var 0]) (.int (1))), .set 3 (.bi .sum [.var 0]), .set 4 (.lst []), .for_ (.nm 5) (.rng1 (.bin .add (.var 2) (.int (1)))) [.set 6 (.bi .sum [.comp (.bin .mul (.idx (.var 0) (.var 7)) (.call 1 [.var 1, .var 2, .var 5, .var 7])) (.nm 7) (.rng1 (.bin .add (.var 2) (.int (1)))) [] [7]]), .if_ (.or_ (.cmp .eq (.var 3) (.int (0))) (.cmp .ne (.bin .mod (.var 6) (.var 3)) (.int (0)))) [.raise_ 1] [], .expr (.bm .append (.var 4) [.bin .fdiv (.var 6) (.var 3)])], .ret (.var 4)]
def d_macwilliams : Def := ⟨2, 8, c_macwilliams⟩
abbrev n_macwilliams : List Str := ["counts", "order", "length", "size", "found", "degree", "total", "place"]
theorem f_macwilliams : FnScope n_macwilliams ["counts", "order"] (defScope s_macwilliams) := ⟨rfl, rfl, rfl, by decide +kernel, rfl, by decide +kernel, by decide +kernel⟩
theorem m_macwilliams : Cmp info n_macwilliams true (defScope s_macwilliams) (.ss (defBody s_macwilliams) c_macwilliams) :=
  (.scons (.set (i := 2) rfl rfl (.bin rfl (.bi (b := .len) rfl rfl (.cons (.var (i := 0) rfl rfl) .nil (fun _ _ => rfl)) rfl) .int) (fun _ _ => rfl))
      (.scons (.set (i := 3) rfl rfl (.bi (b := .sum) rfl rfl (.cons (.var (i := 0) rfl rfl) .nil (fun _ _ => rfl)) rfl) (fun _ _ => rfl))
      (.scons (.set (i := 4) rfl rfl (.lst .nil) (fun _ _ => rfl))
      (.scons (.for_ (.irng1 rfl (.bin rfl (.var (i := 2) rfl rfl) .int) (fun _ _ => rfl)) (.gnm (i := 5) rfl rfl)
      (.scons (.set (i := 6) rfl rfl (.bi (b := .sum) rfl rfl (.cons (.comp (own := [("place", 7)]) (.irng1 rfl (.bin rfl (.var (i := 2) rfl rfl) .int) (fun _ _ => rfl)) rfl (.gnm (i := 7) rfl rfl) .cnil (.bin rfl (.idx (.var (i := 0) rfl rfl) (.var (i := 7) rfl rfl) (fun _ _ => rfl)) (.call (f := 1) rfl rfl (.cons (.var (i := 1) rfl rfl) (.cons (.var (i := 2) rfl rfl) (.cons (.var (i := 5) rfl rfl) (.cons (.var (i := 7) rfl rfl) .nil (fun _ _ => rfl)) (fun _ _ => rfl)) (fun _ _ => rfl)) (fun _ _ => rfl)))) (fun _ _ => rfl)) .nil (fun _ _ => rfl)) rfl) (fun _ _ => rfl))
      (.scons (.if_ (.wt (.ort (.t_cmp (op := .eq) rfl (.var (i := 3) rfl rfl) .int) (.oneto (.t_cmp (op := .ne) rfl (.bin rfl (.var (i := 6) rfl rfl) (.var (i := 3) rfl rfl)) .int))))
      (.scons (.raise_ (c := 1) rfl rfl)
      .snil)
      .snil)
      (.scons (.expr (.append (.var (i := 4) rfl rfl) (.bin rfl (.var (i := 6) rfl rfl) (.var (i := 3) rfl rfl)) (fun _ _ => rfl) (fun _ => rfl) rfl) (fun _ => rfl))
      .snil))) (fun _ _ => rfl))
      (.scons (.ret (.var (i := 4) rfl rfl))
      .snil)))))
abbrev c__law_deck : List Stm := [.set 3 (.lst []), .set 4 (.bin .add (.int (11)) (.bi .len [.var 0])), .for_ (.nm 5) (.rng1 (.var 1)) [.set 6 (.int (0)), .if_ (.cmp .lt (.var 5) (.bi .len [.var 0])) [.set 6 (.idx (.var 0) (.var 5))] [], .set 7 (.bi .abs [.var 6]), .if_ (.cmp .ge (.var 7) (.bin .pow (.int (10)) (.int (30)))) [.for_ (.nm 8) (.rng1 (.var 2)) [.expr (.bm .append (.var 3) [.bin .mod (.bi .int [.var 7]) (.int (1000003))]), .set 7 (.bin .fdiv (.var 7) (.int (1000003)))]] [.set 4 (.bin .mod (.bi .int [.bin .add (.bin .add (.bin .add (.bin .mul (.var 4) (.int (48271))) (.bin .mul (.int (3)) (.var 7))) (.bi .int [.cmp .lt (.var 6) (.int (0))])) (.var 5)]) (.int (2147483647))), .for_ (.nm 8) (.rng1 (.var 2)) [.set 4 (.bin .mod (.bi .int [.bin .add (.bin .add (.bin .mul (.var 4) (.int (69621))) (.var 8)) (.int (1))]) (.int (2147483629))), .expr (.bm .append (.var 3) [.bin .mod (.bi .int [.bin .fdiv (.var 4) (.int (7))]) (.int (1000003))])]]], .expr (.bm .reverse (.var 3) []), .ret (.var 3)]
def d__law_deck : Def := ⟨3, 9, c__law_deck⟩
abbrev n__law_deck : List Str := ["script", "cells", "each", "deck", "seed", "k", "cell", "rest", "at"]
theorem f__law_deck : FnScope n__law_deck ["script", "cells", "each"] (defScope s__law_deck) := ⟨rfl, rfl, rfl, by decide +kernel, rfl, by decide +kernel, by decide +kernel⟩
theorem m__law_deck : Cmp info n__law_deck true (defScope s__law_deck) (.ss (defBody s__law_deck) c__law_deck) :=
  (.scons (.set (i := 3) rfl rfl (.lst .nil) (fun _ _ => rfl))
      (.scons (.set (i := 4) rfl rfl (.bin rfl .int (.bi (b := .len) rfl rfl (.cons (.var (i := 0) rfl rfl) .nil (fun _ _ => rfl)) rfl)) (fun _ _ => rfl))
      (.scons (.for_ (.irng1 rfl (.var (i := 1) rfl rfl) (fun _ _ => rfl)) (.gnm (i := 5) rfl rfl)
      (.scons (.set (i := 6) rfl rfl .int (fun _ _ => rfl))
      (.scons (.if_ (.t_cmp (op := .lt) rfl (.var (i := 5) rfl rfl) (.bi (b := .len) rfl rfl (.cons (.var (i := 0) rfl rfl) .nil (fun _ _ => rfl)) rfl))
      (.scons (.set (i := 6) rfl rfl (.idx (.var (i := 0) rfl rfl) (.var (i := 5) rfl rfl) (fun _ _ => rfl)) (fun _ _ => rfl))
      .snil)
      .snil)
      (.scons (.set (i := 7) rfl rfl (.bi (b := .abs) rfl rfl (.cons (.var (i := 6) rfl rfl) .nil (fun _ _ => rfl)) rfl) (fun _ _ => rfl))
      (.scons (.if_ (.t_cmp (op := .ge) rfl (.var (i := 7) rfl rfl) (.bin rfl .int .int))
      (.scons (.for_ (.irng1 rfl (.var (i := 2) rfl rfl) (fun _ _ => rfl)) (.gnm (i := 8) rfl rfl)
      (.scons (.expr (.append (.var (i := 3) rfl rfl) (.bin rfl (.bit (b := .int) rfl rfl (.cons (.var (i := 7) rfl rfl) .nil (fun _ _ => rfl)) rfl) .int) (fun _ _ => rfl) (fun _ => rfl) rfl) (fun _ => rfl))
      (.scons (.set (i := 7) rfl rfl (.bin rfl (.var (i := 7) rfl rfl) .int) (fun _ _ => rfl))
      .snil)) (fun _ _ => rfl))
      .snil)
      (.scons (.set (i := 4) rfl rfl (.bin rfl (.bit (b := .int) rfl rfl (.cons (.bin rfl (.bin rfl (.bin rfl (.bin rfl (.var (i := 4) rfl rfl) .int) (.bin rfl .int (.var (i := 7) rfl rfl))) (.bit (b := .int) rfl rfl (.cons (.cmp (op := .lt) rfl (.var (i := 6) rfl rfl) .int) .nil (fun _ _ => rfl)) rfl)) (.var (i := 5) rfl rfl)) .nil (fun _ _ => rfl)) rfl) .int) (fun _ _ => rfl))
      (.scons (.for_ (.irng1 rfl (.var (i := 2) rfl rfl) (fun _ _ => rfl)) (.gnm (i := 8) rfl rfl)
      (.scons (.set (i := 4) rfl rfl (.bin rfl (.bit (b := .int) rfl rfl (.cons (.bin rfl (.bin rfl (.bin rfl (.var (i := 4) rfl rfl) .int) (.var (i := 8) rfl rfl)) .int) .nil (fun _ _ => rfl)) rfl) .int) (fun _ _ => rfl))
      (.scons (.expr (.append (.var (i := 3) rfl rfl) (.bin rfl (.bit (b := .int) rfl rfl (.cons (.bin rfl (.var (i := 4) rfl rfl) .int) .nil (fun _ _ => rfl)) rfl) .int) (fun _ _ => rfl) (fun _ => rfl) rfl) (fun _ => rfl))
      .snil)) (fun _ _ => rfl))
      .snil)))
      .snil)))) (fun _ _ => rfl))
      (.scons (.expr (.reverse (.var (i := 3) rfl rfl) (fun _ => rfl) rfl) (fun _ => rfl))
      (.scons (.ret (.var (i := 3) rfl rfl))
      .snil)))))
abbrev c__law_take : List Stm := [.if_ (.cmp .eq (.bi .len [.var 0]) (.int (0))) [.ret (.int (0))] [], .ret (.bin .mod (.bi .int [.bm .pop (.var 0) []]) (.var 1))]
def d__law_take : Def := ⟨2, 2, c__law_take⟩
abbrev n__law_take : List Str := ["deck", "many"]
theorem f__law_take : FnScope n__law_take ["deck", "many"] (defScope s__law_take) := ⟨rfl, rfl, rfl, by decide +kernel, rfl, by decide +kernel, by decide +kernel⟩
theorem m__law_take : Cmp info n__law_take true (defScope s__law_take) (.ss (defBody s__law_take) c__law_take) :=
  (.scons (.if_ (.t_cmp (op := .eq) rfl (.bi (b := .len) rfl rfl (.cons (.var (i := 0) rfl rfl) .nil (fun _ _ => rfl)) rfl) .int)
      (.scons (.ret .int)
      .snil)
      .snil)
      (.scons (.ret (.bin rfl (.bit (b := .int) rfl rfl (.cons (.pop (.var (i := 0) rfl rfl) (fun _ => rfl) rfl) .nil (fun _ _ => rfl)) rfl) (.var (i := 1) rfl rfl)))
      .snil))
abbrev c__law_plain : List Stm := [.if_ (.isi (.var 0) [.tuple, .list]) [.ret (.bin .add (.lst [.isi (.var 0) [.list]]) (.comp (.call 5 [.var 1]) (.nm 1) (.any (.var 0)) [] [1]))] [], .if_ (.or_ (.isNon (.var 0)) (.isi (.var 0) [.bool])) [.ret (.idx (.lst [.str (PySem.Str.ofString "None"), .str (PySem.Str.ofString "False"), .str (PySem.Str.ofString "True")]) (.bin .add (.bi .int [.notNon (.var 0)]) (.bi .int [.isTru (.var 0)])))] [], .if_ (.isi (.var 0) [.int, .str]) [.ret (.lst [.isi (.var 0) [.str], .var 0])] [], .ret (.str (PySem.Str.ofString "another"))]
def d__law_plain : Def := ⟨1, 2, c__law_plain⟩
abbrev n__law_plain : List Str := ["value", "item"]
theorem f__law_plain : FnScope n__law_plain ["value"] (defScope s__law_plain) := ⟨rfl, rfl, rfl, by decide +kernel, rfl, by decide +kernel, by decide +kernel⟩
theorem m__law_plain : Cmp info n__law_plain true (defScope s__law_plain) (.ss (defBody s__law_plain) c__law_plain) :=
  (.scons (.if_ (.anyt (.isiT (ks := [.tuple, .list]) rfl rfl rfl rfl (.var (i := 0) rfl rfl) (fun _ _ => rfl)) (fun _ _ => rfl))
      (.scons (.ret (.bin rfl (.lst (.cons (.isi1 (k := .list) rfl rfl rfl (.var (i := 0) rfl rfl) (fun _ _ => rfl)) .nil (fun _ _ => rfl))) (.comp (own := [("item", 1)]) (.iany (.var (i := 0) rfl rfl)) rfl (.gnm (i := 1) rfl rfl) .cnil (.call (f := 5) rfl rfl (.cons (.var (i := 1) rfl rfl) .nil (fun _ _ => rfl))) (fun _ _ => rfl))))
      .snil)
      .snil)
      (.scons (.if_ (.wt (.ort (.t_isNon (.var (i := 0) rfl rfl)) (.oneto (.anyt (.isi1 (k := .bool) rfl rfl rfl (.var (i := 0) rfl rfl) (fun _ _ => rfl)) (fun _ _ => rfl)))))
      (.scons (.ret (.idx (.lst (.cons .str (.cons .str (.cons .str .nil (fun _ _ => rfl)) (fun _ _ => rfl)) (fun _ _ => rfl))) (.bin rfl (.bit (b := .int) rfl rfl (.cons (.notNon (.var (i := 0) rfl rfl)) .nil (fun _ _ => rfl)) rfl) (.bit (b := .int) rfl rfl (.cons (.isTru (.var (i := 0) rfl rfl)) .nil (fun _ _ => rfl)) rfl)) (fun _ _ => rfl)))
      .snil)
      .snil)
      (.scons (.if_ (.anyt (.isiT (ks := [.int, .str]) rfl rfl rfl rfl (.var (i := 0) rfl rfl) (fun _ _ => rfl)) (fun _ _ => rfl))
      (.scons (.ret (.lst (.cons (.isi1 (k := .str) rfl rfl rfl (.var (i := 0) rfl rfl) (fun _ _ => rfl)) (.cons (.var (i := 0) rfl rfl) .nil (fun _ _ => rfl)) (fun _ _ => rfl))))
      .snil)
      .snil)
      (.scons (.ret .str)
      .snil))))
abbrev c__law_same : List Stm := [.ret (.cmp .eq (.call 5 [.var 0]) (.call 5 [.var 1]))]
def d__law_same : Def := ⟨2, 2, c__law_same⟩
abbrev n__law_same : List Str := ["told", "due"]
theorem f__law_same : FnScope n__law_same ["told", "due"] (defScope s__law_same) := ⟨rfl, rfl, rfl, by decide +kernel, rfl, by decide +kernel, by decide +kernel⟩
theorem m__law_same : Cmp info n__law_same true (defScope s__law_same) (.ss (defBody s__law_same) c__law_same) :=
  (.scons (.ret (.cmp (op := .eq) rfl (.call (f := 5) rfl rfl (.cons (.var (i := 0) rfl rfl) .nil (fun _ _ => rfl))) (.call (f := 5) rfl rfl (.cons (.var (i := 1) rfl rfl) .nil (fun _ _ => rfl)))))
      .snil)
abbrev c__law_ways : List Stm := [.if_ (.or_ (.cmp .lt (.var 1) (.int (0))) (.cmp .gt (.var 1) (.var 0))) [.ret (.int (0))] [], .set 2 (.int (1)), .for_ (.nm 3) (.rng1 (.var 1)) [.set 2 (.bin .fdiv (.bin .mul (.var 2) (.bin .sub (.var 0) (.var 3))) (.bin .add (.var 3) (.int (1))))], .ret (.var 2)]
def d__law_ways : Def := ⟨2, 4, c__law_ways⟩
abbrev n__law_ways : List Str := ["size", "many", "found", "at"]
theorem f__law_ways : FnScope n__law_ways ["size", "many"] (defScope s__law_ways) := ⟨rfl, rfl, rfl, by decide +kernel, rfl, by decide +kernel, by decide +kernel⟩
theorem m__law_ways : Cmp info n__law_ways true (defScope s__law_ways) (.ss (defBody s__law_ways) c__law_ways) :=
  (.scons (.if_ (.wt (.ort (.t_cmp (op := .lt) rfl (.var (i := 1) rfl rfl) .int) (.oneto (.t_cmp (op := .gt) rfl (.var (i := 1) rfl rfl) (.var (i := 0) rfl rfl)))))
      (.scons (.ret .int)
      .snil)
      .snil)
      (.scons (.set (i := 2) rfl rfl .int (fun _ _ => rfl))
      (.scons (.for_ (.irng1 rfl (.var (i := 1) rfl rfl) (fun _ _ => rfl)) (.gnm (i := 3) rfl rfl)
      (.scons (.set (i := 2) rfl rfl (.bin rfl (.bin rfl (.var (i := 2) rfl rfl) (.bin rfl (.var (i := 0) rfl rfl) (.var (i := 3) rfl rfl))) (.bin rfl (.var (i := 3) rfl rfl) .int)) (fun _ _ => rfl))
      .snil) (fun _ _ => rfl))
      (.scons (.ret (.var (i := 2) rfl rfl))
      .snil))))
abbrev c__law_power : List Stm := [.set 2 (.int (1)), .for_ (.nm 3) (.rng1 (.var 1)) [.set 2 (.bin .mul (.var 2) (.var 0))], .ret (.var 2)]
def d__law_power : Def := ⟨2, 4, c__law_power⟩
abbrev n__law_power : List Str := ["base", "exponent", "found", "turn"]
theorem f__law_power : FnScope n__law_power ["base", "exponent"] (defScope s__law_power) := ⟨rfl, rfl, rfl, by decide +kernel, rfl, by decide +kernel, by decide +kernel⟩
theorem m__law_power : Cmp info n__law_power true (defScope s__law_power) (.ss (defBody s__law_power) c__law_power) :=
  (.scons (.set (i := 2) rfl rfl .int (fun _ _ => rfl))
      (.scons (.for_ (.irng1 rfl (.var (i := 1) rfl rfl) (fun _ _ => rfl)) (.gnm (i := 3) rfl rfl)
      (.scons (.set (i := 2) rfl rfl (.bin rfl (.var (i := 2) rfl rfl) (.var (i := 0) rfl rfl)) (fun _ _ => rfl))
      .snil) (fun _ _ => rfl))
      (.scons (.ret (.var (i := 2) rfl rfl))
      .snil)))
abbrev c__law_row_times : List Stm := [.set 2 (.bin .mul (.lst [.int (0)]) (.bin .add (.bi .len [.var 0]) (.bi .len [.var 1]))), .for_ (.nm 3) (.rng1 (.bi .len [.var 0])) [.for_ (.nm 4) (.rng1 (.bi .len [.var 1])) [.sub (.var 2) (.bin .add (.var 3) (.var 4)) (.bin .add (.idx (.var 2) (.bin .add (.var 3) (.var 4))) (.bin .mul (.idx (.var 0) (.var 3)) (.idx (.var 1) (.var 4))))]], .ret (.var 2)]
def d__law_row_times : Def := ⟨2, 5, c__law_row_times⟩
abbrev n__law_row_times : List Str := ["one", "other", "found", "at", "to"]
theorem f__law_row_times : FnScope n__law_row_times ["one", "other"] (defScope s__law_row_times) := ⟨rfl, rfl, rfl, by decide +kernel, rfl, by decide +kernel, by decide +kernel⟩
theorem m__law_row_times : Cmp info n__law_row_times true (defScope s__law_row_times) (.ss (defBody s__law_row_times) c__law_row_times) :=
  (.scons (.set (i := 2) rfl rfl (.bin rfl (.lst (.cons .int .nil (fun _ _ => rfl))) (.bin rfl (.bi (b := .len) rfl rfl (.cons (.var (i := 0) rfl rfl) .nil (fun _ _ => rfl)) rfl) (.bi (b := .len) rfl rfl (.cons (.var (i := 1) rfl rfl) .nil (fun _ _ => rfl)) rfl))) (fun _ _ => rfl))
      (.scons (.for_ (.irng1 rfl (.bi (b := .len) rfl rfl (.cons (.var (i := 0) rfl rfl) .nil (fun _ _ => rfl)) rfl) (fun _ _ => rfl)) (.gnm (i := 3) rfl rfl)
      (.scons (.for_ (.irng1 rfl (.bi (b := .len) rfl rfl (.cons (.var (i := 1) rfl rfl) .nil (fun _ _ => rfl)) rfl) (fun _ _ => rfl)) (.gnm (i := 4) rfl rfl)
      (.scons (.sub (.var (i := 2) rfl rfl) (.bin rfl (.var (i := 3) rfl rfl) (.var (i := 4) rfl rfl)) (.bin rfl (.idx (.var (i := 2) rfl rfl) (.bin rfl (.var (i := 3) rfl rfl) (.var (i := 4) rfl rfl)) (fun _ _ => rfl)) (.bin rfl (.idx (.var (i := 0) rfl rfl) (.var (i := 3) rfl rfl) (fun _ _ => rfl)) (.idx (.var (i := 1) rfl rfl) (.var (i := 4) rfl rfl) (fun _ _ => rfl)))) (fun _ => rfl) (fun _ => rfl) (fun _ _ => rfl) (fun _ _ => rfl))
      .snil) (fun _ _ => rfl))
      .snil) (fun _ _ => rfl))
      (.scons (.ret (.var (i := 2) rfl rfl))
      .snil)))
abbrev c__law_power_row : List Stm := [.set 3 (.lst [.int (1)]), .for_ (.nm 4) (.rng1 (.var 2)) [.set 3 (.slc (.call 9 [.var 3, .lst [.var 0, .var 1]]) [] [.bin .add (.bi .len [.var 3]) (.int (1))])], .ret (.var 3)]
def d__law_power_row : Def := ⟨3, 5, c__law_power_row⟩
abbrev n__law_power_row : List Str := ["one", "two", "many", "found", "turn"]
theorem f__law_power_row : FnScope n__law_power_row ["one", "two", "many"] (defScope s__law_power_row) := ⟨rfl, rfl, rfl, by decide +kernel, rfl, by decide +kernel, by decide +kernel⟩
theorem m__law_power_row : Cmp info n__law_power_row true (defScope s__law_power_row) (.ss (defBody s__law_power_row) c__law_power_row) :=
  (.scons (.set (i := 3) rfl rfl (.lst (.cons .int .nil (fun _ _ => rfl))) (fun _ _ => rfl))
      (.scons (.for_ (.irng1 rfl (.var (i := 2) rfl rfl) (fun _ _ => rfl)) (.gnm (i := 4) rfl rfl)
      (.scons (.set (i := 3) rfl rfl (.slc (.call (f := 9) rfl rfl (.cons (.var (i := 3) rfl rfl) (.cons (.lst (.cons (.var (i := 0) rfl rfl) (.cons (.var (i := 1) rfl rfl) .nil (fun _ _ => rfl)) (fun _ _ => rfl))) .nil (fun _ _ => rfl)) (fun _ _ => rfl))) .pno (.pso (.bin rfl (.bi (b := .len) rfl rfl (.cons (.var (i := 3) rfl rfl) .nil (fun _ _ => rfl)) rfl) .int))) (fun _ _ => rfl))
      .snil) (fun _ _ => rfl))
      (.scons (.ret (.var (i := 3) rfl rfl))
      .snil)))
abbrev c__law_refused : List Stm := [.try_ [.expr (.call 2 [.var 0, .var 1]), .ret (.bl false)] [(1, .bl true)]]
def d__law_refused : Def := ⟨2, 2, c__law_refused⟩
abbrev n__law_refused : List Str := ["counts", "order"]
theorem f__law_refused : FnScope n__law_refused ["counts", "order"] (defScope s__law_refused) := ⟨rfl, rfl, rfl, by decide +kernel, rfl, by decide +kernel, by decide +kernel⟩
theorem m__law_refused : Cmp info n__law_refused true (defScope s__law_refused) (.ss (defBody s__law_refused) c__law_refused) :=
  (.scons (.try_ (.scons (.expr (.call (f := 2) rfl rfl (.cons (.var (i := 0) rfl rfl) (.cons (.var (i := 1) rfl rfl) .nil (fun _ _ => rfl)) (fun _ _ => rfl))) (fun _ => rfl))
      (.scons (.ret .bl)
      .snil)) (.hcons (c := 1) rfl rfl .hnil))
      .snil)
abbrev c__law_known : List Stm := [.set 2 (.comp (.bin .mul (.call 7 [.var 1, .var 3]) (.call 8 [.bin .sub (.var 0) (.int (1)), .var 3])) (.nm 3) (.rng1 (.bin .add (.var 1) (.int (1)))) [] [3]), .set 4 (.bin .add (.lst [.int (1)]) (.bin .mul (.lst [.int (0)]) (.var 1))), .sub (.var 4) (.var 1) (.bin .sub (.bin .add (.idx (.var 4) (.var 1)) (.var 0)) (.int (1))), .set 5 (.lst []), .for_ (.nm 3) (.rng1 (.bin .add (.var 1) (.int (1)))) [.set 6 (.ife (.cmp .eq (.bin .mod (.bi .int [.var 3]) (.int (2))) (.int (0))) (.bin .sub (.var 0) (.int (1))) (.bin .sub (.int (1)) (.var 0))), .expr (.bm .append (.var 5) [.bin .fdiv (.bin .mul (.call 7 [.var 1, .var 3]) (.bin .add (.call 8 [.bin .sub (.var 0) (.int (1)), .var 3]) (.var 6))) (.var 0)])], .ret (.lst [.tup [.var 2, .bin .add (.lst [.int (1)]) (.bin .mul (.lst [.int (0)]) (.var 1))], .tup [.var 4, .var 5]])]
def d__law_known : Def := ⟨2, 7, c__law_known⟩
abbrev n__law_known : List Str := ["order", "size", "whole", "weight", "alike", "sums", "sign"]
theorem f__law_known : FnScope n__law_known ["order", "size"] (defScope s__law_known) := ⟨rfl, rfl, rfl, by decide +kernel, rfl, by decide +kernel, by decide +kernel⟩
theorem m__law_known : Cmp info n__law_known true (defScope s__law_known) (.ss (defBody s__law_known) c__law_known) :=
  (.scons (.setc (i := 2) rfl rfl rfl (own := [("weight", 3)]) (.irng1 rfl (.bin rfl (.var (i := 1) rfl rfl) .int) (fun _ _ => rfl)) rfl (.gnm (i := 3) rfl rfl) .cnil (.bin rfl (.call (f := 7) rfl rfl (.cons (.var (i := 1) rfl rfl) (.cons (.var (i := 3) rfl rfl) .nil (fun _ _ => rfl)) (fun _ _ => rfl))) (.call (f := 8) rfl rfl (.cons (.bin rfl (.var (i := 0) rfl rfl) .int) (.cons (.var (i := 3) rfl rfl) .nil (fun _ _ => rfl)) (fun _ _ => rfl)))) (fun _ _ => rfl))
      (.scons (.set (i := 4) rfl rfl (.bin rfl (.lst (.cons .int .nil (fun _ _ => rfl))) (.bin rfl (.lst (.cons .int .nil (fun _ _ => rfl))) (.var (i := 1) rfl rfl))) (fun _ _ => rfl))
      (.scons (.sub (.var (i := 4) rfl rfl) (.var (i := 1) rfl rfl) (.bin rfl (.bin rfl (.idx (.var (i := 4) rfl rfl) (.var (i := 1) rfl rfl) (fun _ _ => rfl)) (.var (i := 0) rfl rfl)) .int) (fun _ => rfl) (fun _ => rfl) (fun _ _ => rfl) (fun _ _ => rfl))
      (.scons (.set (i := 5) rfl rfl (.lst .nil) (fun _ _ => rfl))
      (.scons (.for_ (.irng1 rfl (.bin rfl (.var (i := 1) rfl rfl) .int) (fun _ _ => rfl)) (.gnm (i := 3) rfl rfl)
      (.scons (.set (i := 6) rfl rfl (.ife (.t_cmp (op := .eq) rfl (.bin rfl (.bit (b := .int) rfl rfl (.cons (.var (i := 3) rfl rfl) .nil (fun _ _ => rfl)) rfl) .int) .int) (.bin rfl (.var (i := 0) rfl rfl) .int) (.bin rfl .int (.var (i := 0) rfl rfl))) (fun _ _ => rfl))
      (.scons (.expr (.append (.var (i := 5) rfl rfl) (.bin rfl (.bin rfl (.call (f := 7) rfl rfl (.cons (.var (i := 1) rfl rfl) (.cons (.var (i := 3) rfl rfl) .nil (fun _ _ => rfl)) (fun _ _ => rfl))) (.bin rfl (.call (f := 8) rfl rfl (.cons (.bin rfl (.var (i := 0) rfl rfl) .int) (.cons (.var (i := 3) rfl rfl) .nil (fun _ _ => rfl)) (fun _ _ => rfl))) (.var (i := 6) rfl rfl))) (.var (i := 0) rfl rfl)) (fun _ _ => rfl) (fun _ => rfl) rfl) (fun _ => rfl))
      .snil)) (fun _ _ => rfl))
      (.scons (.ret (.lst (.cons (.tup (.cons (.var (i := 2) rfl rfl) (.cons (.bin rfl (.lst (.cons .int .nil (fun _ _ => rfl))) (.bin rfl (.lst (.cons .int .nil (fun _ _ => rfl))) (.var (i := 1) rfl rfl))) .nil (fun _ _ => rfl)) (fun _ _ => rfl))) (.cons (.tup (.cons (.var (i := 4) rfl rfl) (.cons (.var (i := 5) rfl rfl) .nil (fun _ _ => rfl)) (fun _ _ => rfl))) .nil (fun _ _ => rfl)) (fun _ _ => rfl))))
      .snil))))))
abbrev c_law : List Stm := [.set 1 (.call 3 [.var 0, .int (40), .int (20)]), .set 2 (.idx (.lst [.int (2), .int (3), .int (4), .int (5), .int (7), .int (8), .int (9)]) (.call 4 [.var 1, .int (7)])), .set 3 (.call 4 [.var 1, .int (10)]), .set 4 (.lst []), .for_ (.nm 5) (.rng1 (.bin .add (.var 3) (.int (1)))) [.set 6 (.slc (.call 9 [.call 10 [.int (1), .bin .sub (.var 2) (.int (1)), .bin .sub (.var 3) (.var 5)], .call 10 [.int (1), .neg (.int (1)), .var 5]]) [] [.bin .add (.var 3) (.int (1))]), .set 7 (.comp (.call 1 [.var 2, .var 3, .var 8, .var 5]) (.nm 8) (.rng1 (.bin .add (.var 3) (.int (1)))) [] [8]), .if_ (.not_ (.call 6 [.var 7, .var 6])) [.ret (.bl false)] [], .expr (.bm .append (.var 4) [.var 7])], .set 9 (.comp (.bin .mul (.call 7 [.var 3, .var 5]) (.call 8 [.bin .sub (.var 2) (.int (1)), .var 5])) (.nm 5) (.rng1 (.bin .add (.var 3) (.int (1)))) [] [5]), .for_ (.nm 10) (.rng1 (.bin .add (.var 3) (.int (1)))) [.for_ (.nm 11) (.rng1 (.bin .add (.var 3) (.int (1)))) [.if_ (.cmp .ne (.bin .mul (.idx (.var 9) (.var 10)) (.idx (.idx (.var 4) (.var 10)) (.var 11))) (.bin .mul (.idx (.var 9) (.var 11)) (.idx (.idx (.var 4) (.var 11)) (.var 10)))) [.ret (.bl false)] [], .set 12 (.bi .sum [.comp (.bin .mul (.bin .mul (.idx (.var 9) (.var 5)) (.idx (.idx (.var 4) (.var 5)) (.var 10))) (.idx (.idx (.var 4) (.var 5)) (.var 11))) (.nm 5) (.rng1 (.bin .add (.var 3) (.int (1)))) [] [5]]), .if_ (.cmp .ne (.var 12) (.bin .mul (.bin .mul (.bi .int [.cmp .eq (.var 10) (.var 11)]) (.call 8 [.var 2, .var 3])) (.idx (.var 9) (.var 10)))) [.ret (.bl false)] []]], .if_ (.cmp .eq (.var 3) (.int (0))) [.ret (.andv (.call 6 [.call 2 [.lst [.int (1)], .var 2], .lst [.int (1)]]) (.call 11 [.lst [.int (0)], .var 2]))] [], .for_ (.tup [.nm 10, .nm 11]) (.any (.call 12 [.var 2, .var 3])) [.for_ (.tup [.nm 13, .nm 14]) (.any (.tup [.tup [.var 10, .var 11], .tup [.var 11, .var 10]])) [.set 15 (.bi .list [.var 13]), .if_ (.or_ (.not_ (.call 6 [.call 2 [.var 15, .var 2], .var 14])) (.cmp .ne (.var 15) (.var 13))) [.ret (.bl false)] []]], .set 16 (.comp (.call 4 [.var 1, .int (9)]) (.nm 17) (.rng1 (.bin .add (.var 3) (.int (1)))) [] [17]), .set 18 (.lst []), .for_ (.nm 8) (.rng1 (.bin .add (.var 3) (.int (1)))) [.expr (.bm .append (.var 18) [.bi .sum [.comp (.bin .mul (.idx (.var 16) (.var 5)) (.idx (.idx (.var 4) (.var 5)) (.var 8))) (.nm 5) (.rng1 (.bin .add (.var 3) (.int (1)))) [] [5]]])], .set 19 (.bi .sum [.var 16]), .if_ (.or_ (.cmp .eq (.var 19) (.int (0))) (.cmp .gt (.bi .len [.comp (.var 10) (.nm 10) (.any (.var 18)) [.cmp .ne (.bin .mod (.bi .int [.var 10]) (.var 19)) (.int (0))] [10]]) (.int (0)))) [.if_ (.not_ (.call 11 [.var 16, .var 2])) [.ret (.bl false)] []] [.if_ (.not_ (.call 6 [.call 2 [.var 16, .var 2], .comp (.bin .fdiv (.var 10) (.var 19)) (.nm 10) (.any (.var 18)) [] [10]])) [.ret (.bl false)] []], .ret (.call 11 [.bin .add (.lst [.int (1), .neg (.int (1))]) (.bin .mul (.lst [.int (0)]) (.bin .sub (.var 3) (.int (1)))), .var 2])]
def d_law : Def := ⟨1, 20, c_law⟩
abbrev n_law : List Str := ["script", "deck", "order", "size", "table", "place", "due", "row", "degree", "weights", "one", "other", "total", "first", "second", "passed", "numbers", "at", "sums", "whole"]
theorem f_law : FnScope n_law ["script"] (defScope s_law) := ⟨rfl, rfl, rfl, by decide +kernel, rfl, by decide +kernel, by decide +kernel⟩
theorem m_law : Cmp info n_law true (defScope s_law) (.ss (defBody s_law) c_law) :=
  (.scons (.set (i := 1) rfl rfl (.call (f := 3) rfl rfl (.cons (.var (i := 0) rfl rfl) (.cons .int (.cons .int .nil (fun _ _ => rfl)) (fun _ _ => rfl)) (fun _ _ => rfl))) (fun _ _ => rfl))
      (.scons (.set (i := 2) rfl rfl (.idx (.lst (.cons .int (.cons .int (.cons .int (.cons .int (.cons .int (.cons .int (.cons .int .nil (fun _ _ => rfl)) (fun _ _ => rfl)) (fun _ _ => rfl)) (fun _ _ => rfl)) (fun _ _ => rfl)) (fun _ _ => rfl)) (fun _ _ => rfl))) (.call (f := 4) rfl rfl (.cons (.var (i := 1) rfl rfl) (.cons .int .nil (fun _ _ => rfl)) (fun _ _ => rfl))) (fun _ _ => rfl)) (fun _ _ => rfl))
      (.scons (.set (i := 3) rfl rfl (.call (f := 4) rfl rfl (.cons (.var (i := 1) rfl rfl) (.cons .int .nil (fun _ _ => rfl)) (fun _ _ => rfl))) (fun _ _ => rfl))
      (.scons (.set (i := 4) rfl rfl (.lst .nil) (fun _ _ => rfl))
      (.scons (.for_ (.irng1 rfl (.bin rfl (.var (i := 3) rfl rfl) .int) (fun _ _ => rfl)) (.gnm (i := 5) rfl rfl)
      (.scons (.set (i := 6) rfl rfl (.slc (.call (f := 9) rfl rfl (.cons (.call (f := 10) rfl rfl (.cons .int (.cons (.bin rfl (.var (i := 2) rfl rfl) .int) (.cons (.bin rfl (.var (i := 3) rfl rfl) (.var (i := 5) rfl rfl)) .nil (fun _ _ => rfl)) (fun _ _ => rfl)) (fun _ _ => rfl))) (.cons (.call (f := 10) rfl rfl (.cons .int (.cons (.neg .int) (.cons (.var (i := 5) rfl rfl) .nil (fun _ _ => rfl)) (fun _ _ => rfl)) (fun _ _ => rfl))) .nil (fun _ _ => rfl)) (fun _ _ => rfl))) .pno (.pso (.bin rfl (.var (i := 3) rfl rfl) .int))) (fun _ _ => rfl))
      (.scons (.setc (i := 7) rfl rfl rfl (own := [("degree", 8)]) (.irng1 rfl (.bin rfl (.var (i := 3) rfl rfl) .int) (fun _ _ => rfl)) rfl (.gnm (i := 8) rfl rfl) .cnil (.call (f := 1) rfl rfl (.cons (.var (i := 2) rfl rfl) (.cons (.var (i := 3) rfl rfl) (.cons (.var (i := 8) rfl rfl) (.cons (.var (i := 5) rfl rfl) .nil (fun _ _ => rfl)) (fun _ _ => rfl)) (fun _ _ => rfl)) (fun _ _ => rfl))) (fun _ _ => rfl))
      (.scons (.if_ (.nott (.anyt (.call (f := 6) rfl rfl (.cons (.var (i := 7) rfl rfl) (.cons (.var (i := 6) rfl rfl) .nil (fun _ _ => rfl)) (fun _ _ => rfl))) (fun _ _ => rfl)))
      (.scons (.ret .bl)
      .snil)
      .snil)
      (.scons (.expr (.append (.var (i := 4) rfl rfl) (.var (i := 7) rfl rfl) (fun _ _ => rfl) (fun _ => rfl) rfl) (fun _ => rfl))
      .snil)))) (fun _ _ => rfl))
      (.scons (.set (i := 9) rfl rfl (.comp (own := [("place", 5)]) (.irng1 rfl (.bin rfl (.var (i := 3) rfl rfl) .int) (fun _ _ => rfl)) rfl (.gnm (i := 5) rfl rfl) .cnil (.bin rfl (.call (f := 7) rfl rfl (.cons (.var (i := 3) rfl rfl) (.cons (.var (i := 5) rfl rfl) .nil (fun _ _ => rfl)) (fun _ _ => rfl))) (.call (f := 8) rfl rfl (.cons (.bin rfl (.var (i := 2) rfl rfl) .int) (.cons (.var (i := 5) rfl rfl) .nil (fun _ _ => rfl)) (fun _ _ => rfl)))) (fun _ _ => rfl)) (sw_cell rfl))
      (.scons (.for_ (.irng1 rfl (.bin rfl (.var (i := 3) rfl rfl) .int) (fun _ _ => rfl)) (.gnm (i := 10) rfl rfl)
      (.scons (.for_ (.irng1 rfl (.bin rfl (.var (i := 3) rfl rfl) .int) (fun _ _ => rfl)) (.gnm (i := 11) rfl rfl)
      (.scons (.if_ (.t_cmp (op := .ne) rfl (.bin rfl (.idx (.var (i := 9) rfl rfl) (.var (i := 10) rfl rfl) (fun _ _ => rfl)) (.idx (.idx (.var (i := 4) rfl rfl) (.var (i := 10) rfl rfl) (fun _ _ => rfl)) (.var (i := 11) rfl rfl) (fun _ _ => rfl))) (.bin rfl (.idx (.var (i := 9) rfl rfl) (.var (i := 11) rfl rfl) (fun _ _ => rfl)) (.idx (.idx (.var (i := 4) rfl rfl) (.var (i := 11) rfl rfl) (fun _ _ => rfl)) (.var (i := 10) rfl rfl) (fun _ _ => rfl))))
      (.scons (.ret .bl)
      .snil)
      .snil)
      (.scons (.set (i := 12) rfl rfl (.bi (b := .sum) rfl rfl (.cons (.comp (own := [("place", 5)]) (.irng1 rfl (.bin rfl (.var (i := 3) rfl rfl) .int) (fun _ _ => rfl)) rfl (.gnm (i := 5) rfl rfl) .cnil (.bin rfl (.bin rfl (.idx (.var (i := 9) rfl rfl) (.var (i := 5) rfl rfl) (fun _ _ => rfl)) (.idx (.idx (.var (i := 4) rfl rfl) (.var (i := 5) rfl rfl) (fun _ _ => rfl)) (.var (i := 10) rfl rfl) (fun _ _ => rfl))) (.idx (.idx (.var (i := 4) rfl rfl) (.var (i := 5) rfl rfl) (fun _ _ => rfl)) (.var (i := 11) rfl rfl) (fun _ _ => rfl))) (fun _ _ => rfl)) .nil (fun _ _ => rfl)) rfl) (fun _ _ => rfl))
      (.scons (.if_ (.t_cmp (op := .ne) rfl (.var (i := 12) rfl rfl) (.bin rfl (.bin rfl (.bit (b := .int) rfl rfl (.cons (.cmp (op := .eq) rfl (.var (i := 10) rfl rfl) (.var (i := 11) rfl rfl)) .nil (fun _ _ => rfl)) rfl) (.call (f := 8) rfl rfl (.cons (.var (i := 2) rfl rfl) (.cons (.var (i := 3) rfl rfl) .nil (fun _ _ => rfl)) (fun _ _ => rfl)))) (.idx (.var (i := 9) rfl rfl) (.var (i := 10) rfl rfl) (fun _ _ => rfl))))
      (.scons (.ret .bl)
      .snil)
      .snil)
      .snil))) (fun _ _ => rfl))
      .snil) (fun _ _ => rfl))
      (.scons (.if_ (.t_cmp (op := .eq) rfl (.var (i := 3) rfl rfl) .int)
      (.scons (.ret (.andv (.call (f := 6) rfl rfl (.cons (.call (f := 2) rfl rfl (.cons (.lst (.cons .int .nil (fun _ _ => rfl))) (.cons (.var (i := 2) rfl rfl) .nil (fun _ _ => rfl)) (fun _ _ => rfl))) (.cons (.lst (.cons .int .nil (fun _ _ => rfl))) .nil (fun _ _ => rfl)) (fun _ _ => rfl))) (.onev (.call (f := 11) rfl rfl (.cons (.lst (.cons .int .nil (fun _ _ => rfl))) (.cons (.var (i := 2) rfl rfl) .nil (fun _ _ => rfl)) (fun _ _ => rfl))))))
      .snil)
      .snil)
      (.scons (.for_ (.iany (.call (f := 12) rfl rfl (.cons (.var (i := 2) rfl rfl) (.cons (.var (i := 3) rfl rfl) .nil (fun _ _ => rfl)) (fun _ _ => rfl)))) (.gtup (.gcons (.gnm (i := 10) rfl rfl) (.gcons (.gnm (i := 11) rfl rfl) .gnil (fun _ _ => rfl)) (fun _ _ => rfl)) (fun _ => rfl) (fun _ => rfl))
      (.scons (.for_ (.iany (.tup (.cons (.tup (.cons (.var (i := 10) rfl rfl) (.cons (.var (i := 11) rfl rfl) .nil (fun _ _ => rfl)) (fun _ _ => rfl))) (.cons (.tup (.cons (.var (i := 11) rfl rfl) (.cons (.var (i := 10) rfl rfl) .nil (fun _ _ => rfl)) (fun _ _ => rfl))) .nil (fun _ _ => rfl)) (fun _ _ => rfl)))) (.gtup (.gcons (.gnm (i := 13) rfl rfl) (.gcons (.gnm (i := 14) rfl rfl) .gnil (fun _ _ => rfl)) (fun _ _ => rfl)) (fun _ => rfl) (fun _ => rfl))
      (.scons (.set (i := 15) rfl rfl (.bit (b := .list) rfl rfl (.cons (.var (i := 13) rfl rfl) .nil (fun _ _ => rfl)) rfl) (fun _ _ => rfl))
      (.scons (.if_ (.wt (.ort (.nott (.anyt (.call (f := 6) rfl rfl (.cons (.call (f := 2) rfl rfl (.cons (.var (i := 15) rfl rfl) (.cons (.var (i := 2) rfl rfl) .nil (fun _ _ => rfl)) (fun _ _ => rfl))) (.cons (.var (i := 14) rfl rfl) .nil (fun _ _ => rfl)) (fun _ _ => rfl))) (fun _ _ => rfl))) (.oneto (.t_cmp (op := .ne) rfl (.var (i := 15) rfl rfl) (.var (i := 13) rfl rfl)))))
      (.scons (.ret .bl)
      .snil)
      .snil)
      .snil)) (fun _ _ => rfl))
      .snil) (fun _ _ => rfl))
      (.scons (.set (i := 16) rfl rfl (.comp (own := [("at", 17)]) (.irng1 rfl (.bin rfl (.var (i := 3) rfl rfl) .int) (fun _ _ => rfl)) rfl (.gnm (i := 17) rfl rfl) .cnil (.call (f := 4) rfl rfl (.cons (.var (i := 1) rfl rfl) (.cons .int .nil (fun _ _ => rfl)) (fun _ _ => rfl))) (fun _ _ => rfl)) (sw_cell rfl))
      (.scons (.set (i := 18) rfl rfl (.lst .nil) (fun _ _ => rfl))
      (.scons (.for_ (.irng1 rfl (.bin rfl (.var (i := 3) rfl rfl) .int) (fun _ _ => rfl)) (.gnm (i := 8) rfl rfl)
      (.scons (.expr (.append (.var (i := 18) rfl rfl) (.bi (b := .sum) rfl rfl (.cons (.comp (own := [("place", 5)]) (.irng1 rfl (.bin rfl (.var (i := 3) rfl rfl) .int) (fun _ _ => rfl)) rfl (.gnm (i := 5) rfl rfl) .cnil (.bin rfl (.idx (.var (i := 16) rfl rfl) (.var (i := 5) rfl rfl) (fun _ _ => rfl)) (.idx (.idx (.var (i := 4) rfl rfl) (.var (i := 5) rfl rfl) (fun _ _ => rfl)) (.var (i := 8) rfl rfl) (fun _ _ => rfl))) (fun _ _ => rfl)) .nil (fun _ _ => rfl)) rfl) (fun _ _ => rfl) (fun _ => rfl) rfl) (fun _ => rfl))
      .snil) (fun _ _ => rfl))
      (.scons (.set (i := 19) rfl rfl (.bi (b := .sum) rfl rfl (.cons (.var (i := 16) rfl rfl) .nil (fun _ _ => rfl)) rfl) (fun _ _ => rfl))
      (.scons (.if_ (.wt (.ort (.t_cmp (op := .eq) rfl (.var (i := 19) rfl rfl) .int) (.oneto (.t_cmp (op := .gt) rfl (.bi (b := .len) rfl rfl (.cons (.comp (own := [("one", 10)]) (.iany (.var (i := 18) rfl rfl)) rfl (.gnm (i := 10) rfl rfl) (.cone (.t_cmp (op := .ne) rfl (.bin rfl (.bit (b := .int) rfl rfl (.cons (.var (i := 10) rfl rfl) .nil (fun _ _ => rfl)) rfl) (.var (i := 19) rfl rfl)) .int)) (.var (i := 10) rfl rfl) (fun _ _ => rfl)) .nil (fun _ _ => rfl)) rfl) .int))))
      (.scons (.if_ (.nott (.anyt (.call (f := 11) rfl rfl (.cons (.var (i := 16) rfl rfl) (.cons (.var (i := 2) rfl rfl) .nil (fun _ _ => rfl)) (fun _ _ => rfl))) (fun _ _ => rfl)))
      (.scons (.ret .bl)
      .snil)
      .snil)
      .snil)
      (.scons (.if_ (.nott (.anyt (.call (f := 6) rfl rfl (.cons (.call (f := 2) rfl rfl (.cons (.var (i := 16) rfl rfl) (.cons (.var (i := 2) rfl rfl) .nil (fun _ _ => rfl)) (fun _ _ => rfl))) (.cons (.comp (own := [("one", 10)]) (.iany (.var (i := 18) rfl rfl)) rfl (.gnm (i := 10) rfl rfl) .cnil (.bin rfl (.var (i := 10) rfl rfl) (.var (i := 19) rfl rfl)) (fun _ _ => rfl)) .nil (fun _ _ => rfl)) (fun _ _ => rfl))) (fun _ _ => rfl)))
      (.scons (.ret .bl)
      .snil)
      .snil)
      .snil))
      (.scons (.ret (.call (f := 11) rfl rfl (.cons (.bin rfl (.lst (.cons .int (.cons (.neg .int) .nil (fun _ _ => rfl)) (fun _ _ => rfl))) (.bin rfl (.lst (.cons .int .nil (fun _ _ => rfl))) (.bin rfl (.var (i := 3) rfl rfl) .int))) (.cons (.var (i := 2) rfl rfl) .nil (fun _ _ => rfl)) (fun _ _ => rfl))))
      .snil)))))))))))))))
def dfs : Nat → Option Def
  | 0 => some d_integer_power
  | 1 => some d_krawtchouk
  | 2 => some d_macwilliams
  | 3 => some d__law_deck
  | 4 => some d__law_take
  | 5 => some d__law_plain
  | 6 => some d__law_same
  | 7 => some d__law_ways
  | 8 => some d__law_power
  | 9 => some d__law_row_times
  | 10 => some d__law_power_row
  | 11 => some d__law_refused
  | 12 => some d__law_known
  | 13 => some d_law
  | _ => none
abbrev pg : Prog := ⟨1000000, 2, fun i j => match i, j with
    | 0, 0 => true
    | 0, 1 => false
    | 1, 0 => true
    | 1, 1 => true
    | _, _ => false⟩
/-! ### what the law's defs compute -/
theorem dk_power {n : Nat} {st : Sto} {b E : Int} (e : Nat) (hE : E = e) (h1 : -9223372036854775808 < b) (h2 : b < 9223372036854775808) (he : e < 1000000000) : callD pg dfs (n + 1) 0 [.val (.int b), .val (.int E)] st = .ok (.val (.int (b ^ e))) st := power_ok rfl e hE h1 h2 he
theorem dk_power8 {n : Nat} {st : Sto} {b E : Int} (e : Nat) (hE : E = e) (h1 : -9223372036854775808 < b) (h2 : b < 9223372036854775808) (he : e < 1000000000) : callD pg dfs (n + 1) 8 [.val (.int b), .val (.int E)] st = .ok (.val (.int (b ^ e))) st := power_ok rfl e hE h1 h2 he
def kTerm (o : Int) (l d p at_ : Nat) : Int := (1 - 2 * ((at_ : Int) % 2)) * (o - 1) ^ (d - at_) * (PySem.W.mcComb p at_ * PySem.W.mcComb (l - p : Nat) (d - at_ : Nat))
def kK (o : Int) (l d p : Nat) : Int := kS (kTerm o l d p) (d + 1)
theorem comb_small : ∀ p, p < 10 → ∀ a, a < 10 → -18446744073709551616 < PySem.W.mcComb (p : Nat) (a : Nat) ∧ PySem.W.mcComb (p : Nat) (a : Nat) < 18446744073709551616 := by decide +kernel
theorem pow_small : ∀ o, o < 10 → ∀ e, e < 10 → ((o : Nat) : Int) ^ e < 9223372036854775808 ∧ 0 ≤ ((o : Nat) : Int) ^ e := by decide +kernel
theorem b_comb {a b : Nat} {st : Sto} (ha : a < 1000) (hb : b < 1000) : biD .comb [.val (.int (a : Nat)), .val (.int (b : Nat))] st = .ok (.val (.int (PySem.W.mcComb a b))) st := by
  simp only [biD]
  exact if_pos ⟨by omega, by omega, by omega, by omega⟩
theorem dk_kr {n : Nat} {st : Sto} (o : Nat) (l d p : Nat) (ho1 : 2 ≤ o) (ho : o ≤ 9) (hl : l ≤ 9) (hd : d ≤ l) (hp : p ≤ l) :
    callD pg dfs (n + 2) 1 [.val (.int (o : Nat)), .val (.int (l : Nat)), .val (.int (d : Nat)), .val (.int (p : Nat))] st = .ok (.val (.int (kK o l d p))) st := by
  refine q_call (d := d_krawtchouk) rfl rfl ?_
  refine q_set e_int ?_
  have hi : evI (callD pg dfs (n + 1)) (.rng1 (.bin .add (.var 2) (.int (1)))) [some (.val (.int (o : Nat))), some (.val (.int (l : Nat))), some (.val (.int (d : Nat))), some (.val (.int (p : Nat))), some (.val (.int 0)), none, none] st = .ok (.rng 0 (d + 1)) st := by
    have := iv_rng1 (cb := callD pg dfs (n + 1)) (a := .bin .add (.var 2) (.int (1))) (env := [some (.val (.int (o : Nat))), some (.val (.int (l : Nat))), some (.val (.int (d : Nat))), some (.val (.int (p : Nat))), some (.val (.int 0)), none, none]) (st := st) (st1 := st) (j := (d + 1 : Nat)) (by simp) (by omega) (by omega)
    simpa using this
  refine q_for0 hi (fun i env s => ∃ a b, env = [some (.val (.int (o : Nat))), some (.val (.int (l : Nat))), some (.val (.int (d : Nat))), some (.val (.int (p : Nat))), some (.val (.int (kS (kTerm o l d p) i))), a, b] ∧ s = st) ⟨none, none, rfl, rfl⟩ ?_ ?_
  · rintro i env s hi ⟨a, b, rfl, rfl⟩
    refine FlNx.out ?_
    have hip : i ≤ d := by omega
    have c1 := comb_small p (by omega) i (by omega)
    have c2 := comb_small (l - p) (by omega) (d - i) (by omega)
    refine q_set (x := .val (.int (PySem.W.mcComb p i * PySem.W.mcComb (l - p : Nat) (d - i : Nat)))) (st1 := s) ?_ ?_
    · have e1 : (l : Int) - p = ((l - p : Nat) : Int) := by omega
      have e2 : (d : Int) - i = ((d - i : Nat) : Int) := by omega
      simp only [e_bin, e_bi, es_cons, es_nil, e_var, List.set_cons_zero, List.set_cons_succ, List.getElem?_cons_zero, List.getElem?_cons_succ, getV_some, rdS_val, bind_ok, Dy.op_sub, e1, e2]
      rw [b_comb (by omega) (by omega)]
      simp only [bind_ok]
      rw [b_comb (by omega) (by omega)]
      simp only [bind_ok, rdS_val, Dy.op_mulL c1.1 c1.2]
    have pw := pow_small (o - 1) (by omega) (d - i) (by omega)
    have eo : (o : Int) - 1 = ((o - 1 : Nat) : Int) := by omega
    refine q_set (x := .val (.int (kS (kTerm o l d p) (i + 1)))) (st1 := s) ?_ ?_
    · have e2 : (d : Int) - i = ((d - i : Nat) : Int) := by omega
      have cl := dk_power (n := n) (st := s) (b := (o : Int) - 1) (E := (d : Int) - i) (d - i) e2 (by omega) (by omega) (by omega)
      have t2 : (i : Int) % 2 = 0 ∨ (i : Int) % 2 = 1 := by omega
      rw [← eo] at pw
      generalize hW : PySem.W.mcComb p i * PySem.W.mcComb (l - p : Nat) (d - i : Nat) = W
      have hk : kS (kTerm o l d p) (i + 1) = kS (kTerm o l d p) i + (1 - 2 * ((i : Int) % 2)) * ((o : Int) - 1) ^ (d - i) * W := by rw [← hW]; rfl
      rw [hk]
      generalize ((o : Int) - 1) ^ (d - i) = X at pw cl
      simp only [e_bin, e_int, e_call, es_cons, es_nil, e_var, List.set_cons_zero, List.set_cons_succ, List.getElem?_cons_zero, List.getElem?_cons_succ, getV_some, rdS_val, bind_ok, Dy.op_sub, Dy.op_add, Dy.op_mod (show (0:Int) < 2 by omega), Dy.op_mulL (show (-18446744073709551616 : Int) < 2 by omega) (show (2:Int) < 18446744073709551616 by omega), cl]
      rcases t2 with t | t
      · rw [t, Dy.op_mulL (by omega) (by omega)]
        simp only [bind_ok, rdS_val]
        rw [Dy.op_mulL (by omega) (by omega)]
        simp
      · rw [t, Dy.op_mulL (by omega) (by omega)]
        simp only [bind_ok, rdS_val]
        rw [Dy.op_mulL (by omega) (by omega)]
        simp
    exact .nx ⟨_, _, rfl, rfl⟩
  · rintro env s ⟨a, b, rfl, rfl⟩
    exact q_ret (x := .val (.int (kK o l d p))) (st1 := s) (by simp; rfl) (.rt back_val0)
theorem kK_small : ∀ o, o < 10 → ∀ l, l < 10 → ∀ d, d < l + 1 → ∀ p, p < l + 1 → -18446744073709551616 < kK (o : Nat) l d p ∧ kK (o : Nat) l d p < 18446744073709551616 := by decide +kernel
def mS (xs : List Int) (o : Nat) (L d : Nat) : Int := kS (fun p => xs.getD p 0 * kK o L d p) (L + 1)
def mGood (xs : List Int) (o L : Nat) : Prop := xs.sum ≠ 0 ∧ ∀ d, d < L + 1 → mS xs o L d % xs.sum = 0
instance (xs : List Int) (o L : Nat) : Decidable (mGood xs o L) := inferInstanceAs (Decidable (_ ∧ _))
theorem dk_mac {n : Nat} {st : Sto} {x : S} (xs : List Int) (o L : Nat) (ho1 : 2 ≤ o) (ho : o ≤ 9) (hL : L ≤ 9) (hx : Is st x (tLI xs)) (hl : xs.length = L + 1) (hs : 0 ≤ xs.sum) (hs2 : xs.sum < 18446744073709551616) :
    callD pg dfs (n + 3) 2 [x, .val (.int (o : Nat))] st = if mGood xs o L then .ok (.ref st.length) (st ++ [Dk ((List.range (L + 1)).map fun d => mS xs o L d / xs.sum)]) else .ex ⟨1, []⟩ st := by
  refine q_call (d := d_macwilliams) rfl rfl ?_
  have hrd : ∀ r, rdS (st ++ r) x = rdS st x := fun r => rdS_app hx.view
  have hvw : ∀ r, view (st ++ r) (rdS st x) = some (tLI xs) := fun r => hx.rd.app.view
  have hv0 : view st (rdS st x) = some (tLI xs) := hx.rd.view
  refine q_set (x := .val (.int (L : Nat))) (st1 := st) ?_ ?_
  · show evE (callD pg dfs (n + 2)) _ [some x, some (.val (.int (o : Nat))), none, none, none, none, none, none] st = _
    simp [b_len hv0, hl]
  refine q_set (x := .val (.int xs.sum)) (st1 := st) ?_ ?_
  · simp [b_sum hv0]
  refine q_set (x := .ref st.length) (st1 := st ++ [Dk []]) (by simp [lstD, tLI]) ?_
  have hir : ∀ (a b c v : Option S) (s : Sto), evI (callD pg dfs (n + 2)) (.rng1 (.bin .add (.var 2) (.int (1)))) [some x, some (.val (.int (o : Nat))), some (.val (.int (L : Nat))), v, some (.ref st.length), a, b, c] s = .ok (.rng 0 (L + 1)) s := by
    intro a b c v s
    have := iv_rng1 (cb := callD pg dfs (n + 2)) (a := .bin .add (.var 2) (.int (1))) (env := [some x, some (.val (.int (o : Nat))), some (.val (.int (L : Nat))), v, some (.ref st.length), a, b, c]) (st := s) (st1 := s) (j := (L + 1 : Nat)) (by simp) (by omega) (by omega)
    simpa using this
  refine q_loop (n := L + 1) (hir none none none (some (.val (.int xs.sum))) (st ++ [Dk []])) rfl (fun i env s => (i = 0 ∨ 0 < xs.sum) ∧ (∀ d, d < i → mS xs o L d % xs.sum = 0) ∧ ∃ a b c j, env = [some x, some (.val (.int (o : Nat))), some (.val (.int (L : Nat))), some (.val (.int xs.sum)), some (.ref st.length), a, b, c] ∧ s = st ++ Dk ((List.range i).map fun d => mS xs o L d / xs.sum) :: j) ⟨.inl rfl, fun d h => absurd h (by omega), none, none, none, [], rfl, rfl⟩ ?_ ?_ ?_
  · rintro env s _
    simp [Src.get]
  · rintro i env s hi ⟨h1, h2, a, b, c, j, rfl, rfl⟩
    refine ⟨.val (.int i), _, by simp [Src.get, hi], rfl, ?_⟩
    refine q_set (x := .val (.int (mS xs o L i))) (st1 := st ++ Dk ((List.range i).map fun d => mS xs o L d / xs.sum) :: j ++ [Dk ((List.range (L + 1)).map fun p => xs.getD p 0 * kK o L i p)]) ?_ ?_
    · have hc := e_comp0 (cb := callD pg dfs (n + 2)) (v := 7) (n := L + 1) (el := .bin .mul (.idx (.var 0) (.var 7)) (.call 1 [.var 1, .var 2, .var 5, .var 7])) (own := [7]) (hir (some (.val (.int i))) b c (some (.val (.int xs.sum))) (st ++ Dk ((List.range i).map fun d => mS xs o L d / xs.sum) :: j)) (fun p => .int (xs.getD p 0 * kK o L i p)) (by show _ ≤ 16777216; omega) (by
        intro p acc hp
        have k1 : rdS (st ++ Dk ((List.range i).map fun d => mS xs o L d / xs.sum) :: j ++ [.live (.lst acc)]) x = rdS st x := by rw [List.append_assoc]; exact hrd _
        have k2 : view (st ++ Dk ((List.range i).map fun d => mS xs o L d / xs.sum) :: j ++ [.live (.lst acc)]) (rdS st x) = some (tLI xs) := by rw [List.append_assoc]; exact hvw _
        have kb := kK_small o (by omega) L (by omega) i (by omega) p (by omega)
        have hp' : p < xs.length := by omega
        have hget : xs.getD p 0 = xs[p] := by simp [hp']
        generalize st ++ Dk ((List.range i).map fun d => mS xs o L d / xs.sum) :: j ++ [.live (.lst acc)] = s' at k1 k2 ⊢
        show evE (callD pg dfs (n + 2)) _ [some x, some (.val (.int (o : Nat))), some (.val (.int (L : Nat))), some (.val (.int xs.sum)), some (.ref st.length), some (.val (.int i)), b, some (.val (.int p))] s' = _
        simp only [e_bin, e_idx, e_var, e_call, es_cons, es_nil, List.getElem?_cons_zero, List.getElem?_cons_succ, getV_some, k1, bind_ok, rdS_val, idx_int k2 hp', dk_kr o L i p ho1 ho hL (show i ≤ L by omega) (show p ≤ L by omega), Dy.op_mulR kb.1 kb.2, hget])
      have hc' : evE (callD pg dfs (n + 2)) (.comp (.bin .mul (.idx (.var 0) (.var 7)) (.call 1 [.var 1, .var 2, .var 5, .var 7])) (.nm 7) (.rng1 (.bin .add (.var 2) (.int (1)))) [] [7]) [some x, some (.val (.int (o : Nat))), some (.val (.int (L : Nat))), some (.val (.int xs.sum)), some (.ref st.length), some (.val (.int i)), b, c] (st ++ Dk ((List.range i).map fun d => mS xs o L d / xs.sum) :: j) = .ok (.ref (st ++ Dk ((List.range i).map fun d => mS xs o L d / xs.sum) :: j).length) (st ++ Dk ((List.range i).map fun d => mS xs o L d / xs.sum) :: j ++ [Dk ((List.range (L + 1)).map fun p => xs.getD p 0 * kK o L i p)]) := by
        rw [hc]; simp [Function.comp_def]
      show evE (callD pg dfs (n + 2)) _ [some x, some (.val (.int (o : Nat))), some (.val (.int (L : Nat))), some (.val (.int xs.sum)), some (.ref st.length), some (.val (.int i)), b, c] _ = _
      rw [e_bi, es_cons, hc']
      simp only [bind_ok, es_nil]
      rw [b_sum view_new, kS_sum]
      rfl
    have hj : st ++ Dk ((List.range i).map fun d => mS xs o L d / xs.sum) :: j ++ [Dk ((List.range (L + 1)).map fun p => xs.getD p 0 * kK o L i p)] = st ++ Dk ((List.range i).map fun d => mS xs o L d / xs.sum) :: (j ++ [Dk ((List.range (L + 1)).map fun p => xs.getD p 0 * kK o L i p)]) := by simp
    rw [hj]
    generalize j ++ [Dk ((List.range (L + 1)).map fun p => xs.getD p 0 * kK o L i p)] = j2
    have hev : ∀ s, (evE (callD pg dfs (n + 2)) (.or_ (.cmp .eq (.var 3) (.int (0))) (.cmp .ne (.bin .mod (.var 6) (.var 3)) (.int (0)))) [some x, some (.val (.int (o : Nat))), some (.val (.int (L : Nat))), some (.val (.int xs.sum)), some (.ref st.length), some (.val (.int i)), some (.val (.int (mS xs o L i))), c] s).bind truD = .ok (decide (xs.sum = 0 ∨ mS xs o L i % xs.sum ≠ 0)) s := by
      intro s
      by_cases hz : xs.sum = 0
      · simp [hz]
      · have : 0 < xs.sum := by omega
        simp [hz, Dy.op_mod this]
        by_cases hm : mS xs o L i % xs.sum = 0 <;> simp [hm]
    refine q_ifP (p := xs.sum = 0 ∨ mS xs o L i % xs.sum ≠ 0) (hev _) (fun hp => ?_) (fun hp => ?_)
    · have hg : ¬ mGood xs o L := fun hg => by
        rcases hp with hp | hp
        · exact hg.1 hp
        · exact hp (hg.2 i hi)
      refine q_raise (.ex (.ex ?_))
      simp [hg]
    · have h0 : xs.sum ≠ 0 := fun e => hp (.inl e)
      have hm : mS xs o L i % xs.sum = 0 := Decidable.byContradiction fun e => hp (.inr e)
      have h3 : 0 < xs.sum := by omega
      have hlen : i < lim := by show _ < 16777216; omega
      refine q_expr (x := .val .non) (st1 := st ++ Dk ((List.range (i + 1)).map fun d => mS xs o L d / xs.sum) :: j2) ?_ ?_
      · show evE (callD pg dfs (n + 2)) _ [some x, some (.val (.int (o : Nat))), some (.val (.int (L : Nat))), some (.val (.int xs.sum)), some (.ref st.length), some (.val (.int i)), some (.val (.int (mS xs o L i))), c] _ = _
        simp [rdS_new, liveL_new, bmD, putL_new, Dy.op_fdiv h3 hs2, hlen, List.range_succ]
      · exact .nx ⟨.inr h3, fun d hd => by
          by_cases e : d = i
          · rw [e]; exact hm
          · exact h2 d (by omega), _, _, _, _, rfl, rfl⟩
  · rintro env s ⟨h1, h2, a, b, c, j, rfl, rfl⟩
    have hg : mGood xs o L := ⟨by omega, h2⟩
    rw [if_pos hg]
    refine q_ret (x := .ref st.length) (st1 := _) (by simp [rdS_new]; rfl) (.rt back_new)
theorem dk_ref {n : Nat} {st : Sto} {x : S} {o : Nat} (h : callD pg dfs (n + 3) 2 [rdS st x, .val (.int (o : Nat))] st = .ex ⟨1, []⟩ st) :
    callD pg dfs (n + 4) 11 [x, .val (.int (o : Nat))] st = .ok (.val (.bl true)) st := by
  refine q_call (d := d__law_refused) rfl rfl ?_
  have e1 : evSs (callD pg dfs (n + 3)) pg [.expr (.call 2 [.var 0, .var 1]), .ret (.bl false)] [some x, some (.val (.int (o : Nat)))] st = .ex ⟨1, []⟩ [some x, some (.val (.int (o : Nat)))] st := by
    refine q_exprX (Q := (· = _)) (ee := ⟨1, []⟩) (st1 := st) ?_ rfl
    simp only [e_call, es_cons, es_nil, e_var, List.getElem?_cons_zero, List.getElem?_cons_succ, getV_some, bind_ok, rdS_val, h]
  have e2 : evSs (callD pg dfs (n + 3)) pg c__law_refused [some x, some (.val (.int (o : Nat)))] st = .rt (.val (.bl true)) st := by
    show (match (match evSs (callD pg dfs (n + 3)) pg [.expr (.call 2 [.var 0, .var 1]), .ret (.bl false)] [some x, some (.val (.int (o : Nat)))] st with
      | .ex e env1 st1 => hand pg e env1 st1 [(1, .bl true)]
      | r => r) with
      | .nx env1 st1 => evSs (callD pg dfs (n + 3)) pg [] env1 st1
      | r => r) = _
    rw [e1]; rfl
  show Ret st.length _ (evSs (callD pg dfs (n + 3)) pg c__law_refused [some x, some (.val (.int (o : Nat)))] st)
  rw [e2]
  exact .rt back_val0
abbrev kWhole (o s : Nat) : List Int := (List.range (s + 1)).map fun p => wN s p * ((o : Int) - 1) ^ p
abbrev kOne (s : Nat) : List Int := 1 :: List.replicate s 0
abbrev kAlike (o s : Nat) : List Int := (kOne s).set s ((kOne s).getD s 0 + o - 1)
abbrev kSums (o s : Nat) : List Int := (List.range (s + 1)).map fun p => wN s p * (((o : Int) - 1) ^ p + (if p % 2 = 0 then (o : Int) - 1 else 1 - o)) / o
theorem w_small : ∀ s, s < 10 → ∀ p, p < s + 1 → -18446744073709551616 < wN (s : Nat) p ∧ wN (s : Nat) p < 18446744073709551616 := by decide +kernel
theorem dk_ways {n : Nat} {st : Sto} (s m : Nat) (hm : m ≤ s) (hs : s < 1000000000) : callD pg dfs (n + 1) 7 [.val (.int s), .val (.int m)] st = .ok (.val (.int (wN s m))) st := ways_ok rfl s m hm hs
theorem ev_one {cb : CB} {env : Dy.Env} {st : Sto} {s : Nat} (e : E) (he : ∀ st, evE cb e env st = .ok (.val (.int s)) st) (hs : s ≤ 100) (a b : Int) : evE cb (.bin .add (.lst [.int a]) (.bin .mul (.lst [.int b]) e)) env st = .ok (.ref (st.length + 3)) (st ++ [Dk [a], Dk [b], Dk (List.replicate s b), Dk (a :: List.replicate s b)]) := by
  have e1 : ∀ (a : Int) (st : Sto), evE cb (.lst [.int a]) env st = .ok (.ref st.length) (st ++ [Dk [a]]) := by
    intro a st; simp [lstD, tLI, show 1 ≤ lim by decide]
  have q := op_rep (st := st ++ [Dk [a]] ++ [Dk [b]]) (k := (st ++ [Dk [a]]).length) (v := b) (n := (s : Int)) liveL_new (by omega) (by omega) (by show _ ≤ 16777216; omega)
  have e2 : evE cb (.bin .mul (.lst [.int b]) e) env (st ++ [Dk [a]]) = .ok (.ref (st ++ [Dk [a]] ++ [Dk [b]]).length) (st ++ [Dk [a]] ++ [Dk [b]] ++ [Dk (List.replicate s b)]) := by
    rw [e_bin, e1, bind_ok, he, bind_ok, rdS_new, q]
    simp
  rw [e_bin, e1, bind_ok, e2, bind_ok]
  have r1 : rdS (st ++ [Dk [a]] ++ [Dk [b]] ++ [Dk (List.replicate s b)]) (.ref st.length) = .ref st.length := by
    have := rdS_new (st := st) (t := tLI [a]) (r := [Dk [b], Dk (List.replicate s b)])
    simpa using this
  have l1 : liveL (st ++ [Dk [a]] ++ [Dk [b]] ++ [Dk (List.replicate s b)]) (.ref st.length) = some [.int a] := by
    rw [show st ++ [Dk [a]] ++ [Dk [b]] ++ [Dk (List.replicate s b)] = st ++ .live (.lst [T.int a]) :: [Dk [b], Dk (List.replicate s b)] from by simp [tLI]]
    exact liveL_new
  have l2 : liveL (st ++ [Dk [a]] ++ [Dk [b]] ++ [Dk (List.replicate s b)]) (.ref (st ++ [Dk [a]] ++ [Dk [b]]).length) = some ((List.replicate s b).map T.int) := liveL_new
  rw [r1, op_cat l1 l2 (by simp; show _ ≤ 16777216; omega)]
  simp

abbrev kKnown (o s : Nat) : T := .lst [.tup [tLI (kWhole o s), tLI (kOne s)], .tup [tLI (kAlike o s), tLI (kSums o s)]]
theorem dk_known {n : Nat} {st : Sto} (o s : Nat) (ho1 : 2 ≤ o) (ho : o ≤ 9) (hs : s ≤ 9) :
    callD pg dfs (n + 4) 12 [.val (.int (o : Nat)), .val (.int (s : Nat))] st = .ok (.ref st.length) (st ++ [.live (kKnown o s)]) := by
  refine q_call (d := d__law_known) rfl rfl ?_
  have hir : ∀ (a b c d e : Option S) (z : Sto), evI (callD pg dfs (n + 3)) (.rng1 (.bin .add (.var 1) (.int (1)))) [some (.val (.int (o : Nat))), some (.val (.int (s : Nat))), a, b, c, d, e] z = .ok (.rng 0 (s + 1)) z := by
    intro a b c d e z
    have := iv_rng1 (cb := callD pg dfs (n + 3)) (a := .bin .add (.var 1) (.int (1))) (env := [some (.val (.int (o : Nat))), some (.val (.int (s : Nat))), a, b, c, d, e]) (st := z) (st1 := z) (j := (s + 1 : Nat)) (by simp) (by omega) (by omega)
    simpa using this
  have eo : (o : Int) - 1 = ((o - 1 : Nat) : Int) := by omega
  have pwd : ∀ p (z : Sto), p < s + 1 → callD pg dfs (n + 3) 8 [.val (.int ((o : Int) - 1)), .val (.int (p : Nat))] z = .ok (.val (.int (((o : Int) - 1) ^ p))) z := fun p z hp => dk_power8 p rfl (by omega) (by omega) (by omega)
  have hwy : ∀ p (z : Sto), p < s + 1 → callD pg dfs (n + 3) 7 [.val (.int (s : Nat)), .val (.int (p : Nat))] z = .ok (.val (.int (wN s p))) z := fun p z hp => dk_ways s p (by omega) (by omega)
  refine q_set (x := .ref (st.length + 0)) (st1 := st ++ [Dk (kWhole o s)]) ?_ ?_
  · have hc := e_comp0 (cb := callD pg dfs (n + 3)) (v := 3) (n := s + 1) (el := .bin .mul (.call 7 [.var 1, .var 3]) (.call 8 [.bin .sub (.var 0) (.int (1)), .var 3])) (own := [3]) (hir none none none none none st) (fun p => .int (wN s p * ((o : Int) - 1) ^ p)) (by show _ ≤ 16777216; omega) (by
      intro p acc hp
      have hw := w_small s (by omega) p hp
      show evE (callD pg dfs (n + 3)) _ [some (.val (.int (o : Nat))), some (.val (.int (s : Nat))), none, some (.val (.int p)), none, none, none] _ = _
      simp only [e_bin, e_var, e_int, e_call, es_cons, es_nil, List.getElem?_cons_zero, List.getElem?_cons_succ, getV_some, rdS_val, bind_ok, Dy.op_sub, hwy p _ hp, pwd p _ hp, Dy.op_mulL hw.1 hw.2])
    refine hc.trans ?_
    simp [Function.comp_def]
  refine q_set (x := .ref (st.length + 4)) (st1 := st ++ [Dk (kWhole o s), Dk [1], Dk [0], Dk (List.replicate s 0), Dk (kOne s)]) ?_ ?_
  · have := ev_one (cb := callD pg dfs (n + 3)) (env := [some (.val (.int (o : Nat))), some (.val (.int (s : Nat))), some (.ref (st.length + 0)), none, none, none, none]) (st := st ++ [Dk (kWhole o s)]) (s := s) (.var 1) (fun z => by simp) (by omega) 1 0
    refine this.trans ?_
    simp
  refine q_sub (z := .val (.int ((kOne s).getD s 0 + o - 1))) (st1 := st ++ [Dk (kWhole o s), Dk [1], Dk [0], Dk (List.replicate s 0), Dk (kOne s)]) (x := .ref (st.length + 4)) (st2 := st ++ [Dk (kWhole o s), Dk [1], Dk [0], Dk (List.replicate s 0), Dk (kOne s)]) (y := .val (.int (s : Nat))) (st3 := st ++ [Dk (kWhole o s), Dk [1], Dk [0], Dk (List.replicate s 0), Dk (kOne s)]) (st4 := st ++ [Dk (kWhole o s), Dk [1], Dk [0], Dk (List.replicate s 0), Dk (kAlike o s)]) ?_ ?_ ?_ ?_ ?_
  · show evE (callD pg dfs (n + 3)) _ [some (.val (.int (o : Nat))), some (.val (.int (s : Nat))), some (.ref (st.length + 0)), none, some (.ref (st.length + 4)), none, none] _ = _
    have hv : view (st ++ [Dk (kWhole o s), Dk [1], Dk [0], Dk (List.replicate s 0), Dk (kOne s)]) (.ref (st.length + 4)) = some (tLI (kOne s)) := viewN rfl
    have hr : rdS (st ++ [Dk (kWhole o s), Dk [1], Dk [0], Dk (List.replicate s 0), Dk (kOne s)]) (.ref (st.length + 4)) = .ref (st.length + 4) := rdN rfl
    have hl : s < (kOne s).length := by simp
    have hg : (kOne s).getD s 0 = (kOne s)[s] := by rw [List.getD_eq_getElem?_getD, List.getElem?_eq_getElem hl]; rfl
    generalize st ++ [Dk (kWhole o s), Dk [1], Dk [0], Dk (List.replicate s 0), Dk (kOne s)] = z at *
    simp only [e_bin, e_idx, e_var, e_int, List.getElem?_cons_zero, List.getElem?_cons_succ, getV_some, rdS_val, bind_ok, Dy.op_sub, Dy.op_add, hr, idx_int hv hl, hg]
  · simp only [e_var, List.getElem?_cons_zero, List.getElem?_cons_succ, getV_some]
    show R.ok (rdS _ (.ref (st.length + 4))) _ = _
    rw [rdN rfl]
  · simp
  · have hl : s < ((kOne s).map T.int).length := by simp
    rw [sub_nat (liveN rfl) hl, putN]
    show some (st ++ [Dk (kWhole o s), Dk [1], Dk [0], Dk (List.replicate s 0), Cel.live (.lst (((kOne s).map T.int).set s (.int ((kOne s).getD s 0 + o - 1))))]) = _
    rw [← List.map_set]
  refine q_set (x := .ref (st.length + 5)) (st1 := st ++ [Dk (kWhole o s), Dk [1], Dk [0], Dk (List.replicate s 0), Dk (kAlike o s), Dk []]) ?_ ?_
  · simp [lstD, tLI]
  refine q_for0 (hir (some (.ref (st.length + 0))) none (some (.ref (st.length + 4))) (some (.ref (st.length + 5))) none _) (fun i env z => ∃ a b, env = [some (.val (.int (o : Nat))), some (.val (.int (s : Nat))), some (.ref (st.length + 0)), a, some (.ref (st.length + 4)), some (.ref (st.length + 5)), b] ∧ z = st ++ [Dk (kWhole o s), Dk [1], Dk [0], Dk (List.replicate s 0), Dk (kAlike o s), Dk ((List.range i).map fun p => wN s p * (((o : Int) - 1) ^ p + (if p % 2 = 0 then (o : Int) - 1 else 1 - o)) / o)]) ⟨none, none, rfl, rfl⟩ ?_ ?_
  · rintro i env z hi ⟨a, b, rfl, rfl⟩
    refine FlNx.out ?_
    refine q_set (x := .val (.int (if i % 2 = 0 then (o : Int) - 1 else 1 - o))) (st1 := st ++ [Dk (kWhole o s), Dk [1], Dk [0], Dk (List.replicate s 0), Dk (kAlike o s), Dk ((List.range i).map fun p => wN s p * (((o : Int) - 1) ^ p + (if p % 2 = 0 then (o : Int) - 1 else 1 - o)) / o)]) ?_ ?_
    · show evE (callD pg dfs (n + 3)) _ [some (.val (.int (o : Nat))), some (.val (.int (s : Nat))), some (.ref (st.length + 0)), some (.val (.int i)), some (.ref (st.length + 4)), some (.ref (st.length + 5)), b] _ = _
      by_cases h : i % 2 = 0
      · have h' : (i : Int) % 2 = 0 := by omega
        simp [Dy.op_mod (show (0:Int) < 2 by omega), h, h']
      · have h' : (i : Int) % 2 = 1 := by omega
        simp [Dy.op_mod (show (0:Int) < 2 by omega), h, h']
    refine q_expr (x := .val .non) (st1 := st ++ [Dk (kWhole o s), Dk [1], Dk [0], Dk (List.replicate s 0), Dk (kAlike o s), Dk ((List.range (i + 1)).map fun p => wN s p * (((o : Int) - 1) ^ p + (if p % 2 = 0 then (o : Int) - 1 else 1 - o)) / o)]) ?_ ?_
    · show evE (callD pg dfs (n + 3)) _ [some (.val (.int (o : Nat))), some (.val (.int (s : Nat))), some (.ref (st.length + 0)), some (.val (.int i)), some (.ref (st.length + 4)), some (.ref (st.length + 5)), some (.val (.int (if i % 2 = 0 then (o : Int) - 1 else 1 - o)))] _ = _
      have hr : rdS (st ++ [Dk (kWhole o s), Dk [1], Dk [0], Dk (List.replicate s 0), Dk (kAlike o s), Dk ((List.range i).map fun p => wN s p * (((o : Int) - 1) ^ p + (if p % 2 = 0 then (o : Int) - 1 else 1 - o)) / o)]) (.ref (st.length + 5)) = .ref (st.length + 5) := rdN rfl
      have hv : liveL (st ++ [Dk (kWhole o s), Dk [1], Dk [0], Dk (List.replicate s 0), Dk (kAlike o s), Dk ((List.range i).map fun p => wN s p * (((o : Int) - 1) ^ p + (if p % 2 = 0 then (o : Int) - 1 else 1 - o)) / o)]) (.ref (st.length + 5)) = some (((List.range i).map fun p => wN s p * (((o : Int) - 1) ^ p + (if p % 2 = 0 then (o : Int) - 1 else 1 - o)) / o).map T.int) := liveN rfl
      have hw := w_small s (by omega) i hi
      have hp : putL (st ++ [Dk (kWhole o s), Dk [1], Dk [0], Dk (List.replicate s 0), Dk (kAlike o s), Dk ((List.range i).map fun p => wN s p * (((o : Int) - 1) ^ p + (if p % 2 = 0 then (o : Int) - 1 else 1 - o)) / o)]) (st.length + 5) ((((List.range i).map fun p => wN s p * (((o : Int) - 1) ^ p + (if p % 2 = 0 then (o : Int) - 1 else 1 - o)) / o).map T.int) ++ [.int (wN s i * (((o : Int) - 1) ^ i + (if i % 2 = 0 then (o : Int) - 1 else 1 - o)) / o)]) = st ++ [Dk (kWhole o s), Dk [1], Dk [0], Dk (List.replicate s 0), Dk (kAlike o s), Dk ((List.range (i + 1)).map fun p => wN s p * (((o : Int) - 1) ^ p + (if p % 2 = 0 then (o : Int) - 1 else 1 - o)) / o)] := by
        rw [putN]
        simp [List.range_succ]
      rw [← hp]
      generalize st ++ [Dk (kWhole o s), Dk [1], Dk [0], Dk (List.replicate s 0), Dk (kAlike o s), Dk ((List.range i).map fun p => wN s p * (((o : Int) - 1) ^ p + (if p % 2 = 0 then (o : Int) - 1 else 1 - o)) / o)] = z at *
      have hlen : i < lim := by show _ < 16777216; omega
      simp only [e_bm, e_bin, e_var, e_int, e_call, es_cons, es_nil, List.getElem?_cons_zero, List.getElem?_cons_succ, getV_some, rdS_val, bind_ok, Dy.op_sub, Dy.op_add, hr, hv, hwy i _ hi, pwd i _ hi, Dy.op_mulL hw.1 hw.2, Dy.op_fdiv (show (0 : Int) < o by omega) (show (o : Int) < 18446744073709551616 by omega)]
      simp [bmD, hv, hlen]
    · exact .nx ⟨_, _, rfl, rfl⟩
  · rintro env z ⟨a, b, rfl, rfl⟩
    have o1 : ∀ z, evE (callD pg dfs (n + 3)) (.var 1) [some (.val (.int (o : Nat))), some (.val (.int (s : Nat))), some (.ref (st.length + 0)), a, some (.ref (st.length + 4)), some (.ref (st.length + 5)), b] z = .ok (.val (.int s)) z := fun z => by simp
    have q1 := ev_one (cb := callD pg dfs (n + 3)) (env := [some (.val (.int (o : Nat))), some (.val (.int (s : Nat))), some (.ref (st.length + 0)), a, some (.ref (st.length + 4)), some (.ref (st.length + 5)), b]) (st := st ++ [Dk (kWhole o s), Dk [1], Dk [0], Dk (List.replicate s 0), Dk (kAlike o s), Dk (kSums o s)]) (s := s) (.var 1) o1 (by omega) 1 0
    have t1 : evE (callD pg dfs (n + 3)) (.tup [.var 2, .bin .add (.lst [.int (1)]) (.bin .mul (.lst [.int (0)]) (.var 1))]) [some (.val (.int (o : Nat))), some (.val (.int (s : Nat))), some (.ref (st.length + 0)), a, some (.ref (st.length + 4)), some (.ref (st.length + 5)), b] (st ++ [Dk (kWhole o s), Dk [1], Dk [0], Dk (List.replicate s 0), Dk (kAlike o s), Dk (kSums o s)]) = .ok (.val (.tup [tLI (kWhole o s), tLI (kOne s)])) (st ++ [.frz (tLI (kWhole o s)), Dk [1], Dk [0], Dk (List.replicate s 0), Dk (kAlike o s), Dk (kSums o s), Dk [1], Dk [0], Dk (List.replicate s 0), .frz (tLI (kOne s))]) := by
      rw [e_tup, es_cons, e_var]
      simp only [List.getElem?_cons_zero, List.getElem?_cons_succ, getV_some, bind_ok, es_cons, es_nil]
      rw [q1]
      have r0 : rdS (st ++ [Dk (kWhole o s), Dk [1], Dk [0], Dk (List.replicate s 0), Dk (kAlike o s), Dk (kSums o s)]) (.ref (st.length + 0)) = .ref (st.length + 0) := rdN rfl
      have l6 : (st ++ [Dk (kWhole o s), Dk [1], Dk [0], Dk (List.replicate s 0), Dk (kAlike o s), Dk (kSums o s)]).length + 3 = st.length + 9 := by simp
      rw [r0, l6, List.append_assoc]
      simp only [bind_ok, tupD, freezeL]
      have f0 : freeze (st ++ ([Dk (kWhole o s), Dk [1], Dk [0], Dk (List.replicate s 0), Dk (kAlike o s), Dk (kSums o s)] ++ [Dk [1], Dk [0], Dk (List.replicate s 0), Dk (kOne s)])) (.ref (st.length + 0)) = some (tLI (kWhole o s), st ++ [.frz (tLI (kWhole o s)), Dk [1], Dk [0], Dk (List.replicate s 0), Dk (kAlike o s), Dk (kSums o s), Dk [1], Dk [0], Dk (List.replicate s 0), Dk (kOne s)]) := frzN rfl
      have f1 : freeze (st ++ [.frz (tLI (kWhole o s)), Dk [1], Dk [0], Dk (List.replicate s 0), Dk (kAlike o s), Dk (kSums o s), Dk [1], Dk [0], Dk (List.replicate s 0), Dk (kOne s)]) (.ref (st.length + 9)) = some (tLI (kOne s), st ++ [.frz (tLI (kWhole o s)), Dk [1], Dk [0], Dk (List.replicate s 0), Dk (kAlike o s), Dk (kSums o s), Dk [1], Dk [0], Dk (List.replicate s 0), .frz (tLI (kOne s))]) := frzN rfl
      rw [f0]
      simp only []
      rw [f1]
      simp [show 2 ≤ lim by decide]
    have t2 : evE (callD pg dfs (n + 3)) (.tup [.var 4, .var 5]) [some (.val (.int (o : Nat))), some (.val (.int (s : Nat))), some (.ref (st.length + 0)), a, some (.ref (st.length + 4)), some (.ref (st.length + 5)), b] (st ++ [.frz (tLI (kWhole o s)), Dk [1], Dk [0], Dk (List.replicate s 0), Dk (kAlike o s), Dk (kSums o s), Dk [1], Dk [0], Dk (List.replicate s 0), .frz (tLI (kOne s))]) = .ok (.val (.tup [tLI (kAlike o s), tLI (kSums o s)])) (st ++ [.frz (tLI (kWhole o s)), Dk [1], Dk [0], Dk (List.replicate s 0), .frz (tLI (kAlike o s)), .frz (tLI (kSums o s)), Dk [1], Dk [0], Dk (List.replicate s 0), .frz (tLI (kOne s))]) := by
      rw [e_tup, es_cons, e_var]
      simp only [List.getElem?_cons_zero, List.getElem?_cons_succ, getV_some, bind_ok, es_cons, es_nil, e_var]
      have r4 : rdS (st ++ [.frz (tLI (kWhole o s)), Dk [1], Dk [0], Dk (List.replicate s 0), Dk (kAlike o s), Dk (kSums o s), Dk [1], Dk [0], Dk (List.replicate s 0), .frz (tLI (kOne s))]) (.ref (st.length + 4)) = .ref (st.length + 4) := rdN rfl
      have r5 : rdS (st ++ [.frz (tLI (kWhole o s)), Dk [1], Dk [0], Dk (List.replicate s 0), Dk (kAlike o s), Dk (kSums o s), Dk [1], Dk [0], Dk (List.replicate s 0), .frz (tLI (kOne s))]) (.ref (st.length + 5)) = .ref (st.length + 5) := rdN rfl
      rw [r4, r5]
      simp only [tupD, freezeL]
      have f0 : freeze (st ++ [.frz (tLI (kWhole o s)), Dk [1], Dk [0], Dk (List.replicate s 0), Dk (kAlike o s), Dk (kSums o s), Dk [1], Dk [0], Dk (List.replicate s 0), .frz (tLI (kOne s))]) (.ref (st.length + 4)) = some (tLI (kAlike o s), st ++ [.frz (tLI (kWhole o s)), Dk [1], Dk [0], Dk (List.replicate s 0), .frz (tLI (kAlike o s)), Dk (kSums o s), Dk [1], Dk [0], Dk (List.replicate s 0), .frz (tLI (kOne s))]) := frzN rfl
      have f1 : freeze (st ++ [.frz (tLI (kWhole o s)), Dk [1], Dk [0], Dk (List.replicate s 0), .frz (tLI (kAlike o s)), Dk (kSums o s), Dk [1], Dk [0], Dk (List.replicate s 0), .frz (tLI (kOne s))]) (.ref (st.length + 5)) = some (tLI (kSums o s), st ++ [.frz (tLI (kWhole o s)), Dk [1], Dk [0], Dk (List.replicate s 0), .frz (tLI (kAlike o s)), .frz (tLI (kSums o s)), Dk [1], Dk [0], Dk (List.replicate s 0), .frz (tLI (kOne s))]) := frzN rfl
      rw [f0]
      simp only []
      rw [f1]
      simp [show 2 ≤ lim by decide]
    refine q_ret (x := .ref (st.length + 10)) (st1 := st ++ ([.frz (tLI (kWhole o s)), Dk [1], Dk [0], Dk (List.replicate s 0), .frz (tLI (kAlike o s)), .frz (tLI (kSums o s)), Dk [1], Dk [0], Dk (List.replicate s 0), .frz (tLI (kOne s))] ++ [.live (kKnown o s)])) ?_ (.rt (back_far (st := st) (t := kKnown o s) (r := [.frz (tLI (kWhole o s)), Dk [1], Dk [0], Dk (List.replicate s 0), .frz (tLI (kAlike o s)), .frz (tLI (kSums o s)), Dk [1], Dk [0], Dk (List.replicate s 0), .frz (tLI (kOne s))])))
    rw [e_lst, es_cons, t1]
    simp only [bind_ok, es_cons, es_nil, t2]
    simp [lstD, show 2 ≤ lim by decide]

abbrev kRow (o s p : Nat) : List Int := (List.range (s + 1)).map fun d => kK o s d p
theorem fin_row : ∀ o : Nat, o < 10 → 2 ≤ o → ∀ s, s < 10 → ∀ p, p < s + 1 → (rT (pR 1 ((o : Int) - 1) (s - p)) (pR 1 (-1) p)).take (s + 1) = kRow o s p := by decide +kernel
theorem fin_rs : ∀ p, p < 10 → ∀ j, j < (pR 1 (-1) p).length → -18446744073709551616 < (pR 1 (-1) p).getD j 0 ∧ (pR 1 (-1) p).getD j 0 < 18446744073709551616 := by decide +kernel
def kW (o s p : Nat) : Int := wN s p * ((o : Int) - 1) ^ p
theorem fin_ws : ∀ o : Nat, o < 10 → 2 ≤ o → ∀ s, s < 10 → ∀ p, p < s + 1 → -18446744073709551616 < kW o s p ∧ kW o s p < 18446744073709551616 := by decide +kernel
theorem fin_ps : ∀ o : Nat, o < 10 → ∀ s, s < 10 → ((o : Nat) : Int) ^ s < 9223372036854775808 := by decide +kernel
def kOr (o s : Nat) : Prop := ∀ a, a < s + 1 → ∀ b, b < s + 1 → kW o s a * kK o s b a = kW o s b * kK o s a b ∧ kS (fun p => kW o s p * kK o s a p * kK o s b p) (s + 1) = (if a = b then 1 else 0) * (o : Int) ^ s * kW o s a
instance (o s : Nat) : Decidable (kOr o s) := inferInstanceAs (Decidable (∀ a, a < s + 1 → ∀ b, b < s + 1 → _))
theorem fin_or : ∀ o : Nat, o < 10 → 2 ≤ o → ∀ s, s < 10 → kOr o s := by decide +kernel
def kPair (o s : Nat) (xs ys : List Int) : Prop := xs.length = s + 1 ∧ 0 ≤ xs.sum ∧ xs.sum < 18446744073709551616 ∧ mGood xs o s ∧ ((List.range (s + 1)).map fun d => mS xs o s d / xs.sum) = ys
instance (o s : Nat) (xs ys : List Int) : Decidable (kPair o s xs ys) := inferInstanceAs (Decidable (_ ∧ _))
def kPairs (o s : Nat) : Prop := kPair o s (kWhole o s) (kOne s) ∧ kPair o s (kOne s) (kWhole o s) ∧ kPair o s (kAlike o s) (kSums o s) ∧ kPair o s (kSums o s) (kAlike o s)
instance (o s : Nat) : Decidable (kPairs o s) := inferInstanceAs (Decidable (_ ∧ _))
theorem fin_pair : ∀ o : Nat, o < 10 → 2 ≤ o → ∀ s, s < 10 → 1 ≤ s → kPairs o s := by decide +kernel
theorem fin_one : ∀ o : Nat, o < 10 → 2 ≤ o → kPair o 0 [1] [1] := by decide +kernel

abbrev LE (sc : S) (o s : Nat) (v5 v6 v7 v8 v9 v10 v11 v12 v13 v14 v15 v16 v17 v18 v19 : Option S) : Dy.Env := [some sc, some (.ref 0), some (.val (.int (o : Nat))), some (.val (.int (s : Nat))), some (.ref 2), v5, v6, v7, v8, v9, v10, v11, v12, v13, v14, v15, v16, v17, v18, v19]
abbrev kTab (o s : Nat) : List T := (List.range (s + 1)).map fun p => tLI (kRow o s p)
theorem lw_rng {n : Nat} {sc : S} {o s : Nat} (hs : s ≤ 9) (v5 v6 v7 v8 v9 v10 v11 v12 v13 v14 v15 v16 v17 v18 v19 : Option S) (z : Sto) : evI (callD pg dfs n) (.rng1 (.bin .add (.var 3) (.int (1)))) (LE sc o s v5 v6 v7 v8 v9 v10 v11 v12 v13 v14 v15 v16 v17 v18 v19) z = .ok (.rng 0 (s + 1)) z := by
  have := iv_rng1 (cb := callD pg dfs n) (a := .bin .add (.var 3) (.int (1))) (env := LE sc o s v5 v6 v7 v8 v9 v10 v11 v12 v13 v14 v15 v16 v17 v18 v19) (st := z) (st1 := z) (j := (s + 1 : Nat)) (by simp) (by omega) (by omega)
  simpa using this
theorem seg1 {Q : Fl → Prop} (n : Nat) (sc : S) (o s : Nat) (ho1 : 2 ≤ o) (ho : o ≤ 9) (hs : s ≤ 9) (c0 c1 : Cel)
    (k : ∀ j v5 v6 v7, Q (evSs (callD pg dfs (n + 8)) pg (c_law.drop 5) (LE sc o s v5 v6 v7 none none none none none none none none none none none none) ([c0, c1] ++ .live (.lst (kTab o s)) :: j))) :
    Q (evSs (callD pg dfs (n + 8)) pg (c_law.drop 4) (LE sc o s none none none none none none none none none none none none none none none) ([c0, c1] ++ [.live (.lst [])])) := by
  refine q_for0 (lw_rng hs _ _ _ _ _ _ _ _ _ _ _ _ _ _ _ _) (fun i env z => ∃ j a b c, env = LE sc o s a b c none none none none none none none none none none none none ∧ z = [c0, c1] ++ .live (.lst ((List.range i).map fun p => tLI (kRow o s p))) :: j) ⟨[], none, none, none, rfl, rfl⟩ ?_ ?_
  · rintro i env z hi ⟨j, a, b, c, rfl, rfl⟩
    refine FlNx.out ?_
    generalize hz : [c0, c1] ++ Cel.live (.lst ((List.range i).map fun p => tLI (kRow o s p))) :: j = z
    have hrow := fin_row o (by omega) ho1 s (by omega) i hi
    have p1 := prow_ok (P := pg) (ds := dfs) (f := 9) (g := 10) (n := n + 6) (st := z) rfl rfl 1 ((o : Int) - 1) (s - i) (by omega) (by omega) (by omega)
    have p2 := prow_ok (P := pg) (ds := dfs) (f := 9) (g := 10) (n := n + 6) (st := z ++ [Dk (pR 1 ((o : Int) - 1) (s - i))]) rfl rfl 1 (-1) i (by omega) (by omega) (by omega)
    have p3 := rtimes_ok (P := pg) (ds := dfs) (f := 9) (n := n + 7) (st := z ++ [Dk (pR 1 ((o : Int) - 1) (s - i))] ++ [Dk (pR 1 (-1) i)]) (x := .ref z.length) (y := .ref (z ++ [Dk (pR 1 ((o : Int) - 1) (s - i))]).length) rfl (pR 1 ((o : Int) - 1) (s - i)) (pR 1 (-1) i) (by rw [List.append_assoc]; exact is_new) is_new (by rw [pR_len]; omega) (by rw [pR_len]; omega) (fin_rs i (by omega))
    generalize hA : pR 1 ((o : Int) - 1) (s - i) = A at *
    generalize hB : pR 1 (-1) i = B at *
    have es : (s : Int) - i = ((s - i : Nat) : Int) := by omega
    refine q_set (x := .ref (z ++ [Dk A] ++ [Dk B] ++ [Dk (rT A B)]).length) (st1 := z ++ [Dk A] ++ [Dk B] ++ [Dk (rT A B)] ++ [Dk (kRow o s i)]) ?_ ?_
    · show evE (callD pg dfs (n + 8)) _ (LE sc o s (some (.val (.int i))) b c none none none none none none none none none none none none) z = _
      have e1 : evE (callD pg dfs (n + 8)) (.call 10 [.int (1), .bin .sub (.var 2) (.int (1)), .bin .sub (.var 3) (.var 5)]) (LE sc o s (some (.val (.int i))) b c none none none none none none none none none none none none) z = .ok (.ref z.length) (z ++ [Dk A]) := by
        simp only [e_call, es_cons, es_nil, e_bin, e_int, e_var, List.getElem?_cons_zero, List.getElem?_cons_succ, getV_some, rdS_val, bind_ok, Dy.op_sub, es]
        exact p1
      have e2 : evE (callD pg dfs (n + 8)) (.call 10 [.int (1), .neg (.int (1)), .var 5]) (LE sc o s (some (.val (.int i))) b c none none none none none none none none none none none none) (z ++ [Dk A]) = .ok (.ref (z ++ [Dk A]).length) (z ++ [Dk A] ++ [Dk B]) := by
        simp only [e_call, es_cons, es_nil, e_neg, negD_int, e_int, e_var, List.getElem?_cons_zero, List.getElem?_cons_succ, getV_some, rdS_val, bind_ok]
        exact p2
      have v3 : view (z ++ [Dk A] ++ [Dk B] ++ [Dk (rT A B)]) (.ref (z ++ [Dk A] ++ [Dk B]).length) = some (tLI (rT A B)) := view_new
      have es1 : (s : Int) + 1 = ((s + 1 : Nat) : Int) := by omega
      rw [e_slc, e_call, es_cons, e1, bind_ok, es_cons, e2]
      simp only [bind_ok, es_nil]
      rw [p3]
      simp only [bind_ok, o_nil, o_cons, e_bin, e_int, e_var, List.getElem?_cons_zero, List.getElem?_cons_succ, getV_some, rdS_val, Dy.op_add, es1, bnd_int]
      rw [slc_to _ v3, hrow]
    refine q_set (x := .ref (z ++ [Dk A] ++ [Dk B] ++ [Dk (rT A B)] ++ [Dk (kRow o s i)]).length) (st1 := z ++ [Dk A] ++ [Dk B] ++ [Dk (rT A B)] ++ [Dk (kRow o s i)] ++ [Dk (kRow o s i)]) ?_ ?_
    · have hc := e_comp0 (cb := callD pg dfs (n + 8)) (v := 8) (n := s + 1) (el := .call 1 [.var 2, .var 3, .var 8, .var 5]) (own := [8]) (lw_rng (sc := sc) (o := o) hs (some (.val (.int i))) (some (.ref (z ++ [Dk A] ++ [Dk B] ++ [Dk (rT A B)]).length)) c none none none none none none none none none none none none (z ++ [Dk A] ++ [Dk B] ++ [Dk (rT A B)] ++ [Dk (kRow o s i)])) (fun d => .int (kK o s d i)) (by show _ ≤ 16777216; omega) (by
        intro d acc hd
        show evE (callD pg dfs (n + 8)) _ (LE sc o s (some (.val (.int i))) (some (.ref (z ++ [Dk A] ++ [Dk B] ++ [Dk (rT A B)]).length)) c (some (.val (.int d))) none none none none none none none none none none none) _ = _
        simp only [e_var, e_call, es_cons, es_nil, List.getElem?_cons_zero, List.getElem?_cons_succ, getV_some, bind_ok, rdS_val, dk_kr o s d i ho1 ho hs (show d ≤ s by omega) (show i ≤ s by omega)])
      refine hc.trans ?_
      simp [Function.comp_def]
    refine q_if (c := false) (st1 := z ++ [Dk A] ++ [Dk B] ++ [Dk (rT A B)] ++ [Dk (kRow o s i)] ++ [Dk (kRow o s i)]) ?_ (fun h => nomatch h) (fun _ => ?_)
    · have hsame := same_ok (P := pg) (ds := dfs) (f := 5) (g := 6) (n := n + 6) (dd := 1) (t := tLI (kRow o s i)) (x := .ref (z ++ [Dk A] ++ [Dk B] ++ [Dk (rT A B)] ++ [Dk (kRow o s i)]).length) (y := .ref (z ++ [Dk A] ++ [Dk B] ++ [Dk (rT A B)]).length) (st := z ++ [Dk A] ++ [Dk B] ++ [Dk (rT A B)] ++ [Dk (kRow o s i)] ++ [Dk (kRow o s i)]) rfl rfl (by omega) (by omega) (okT_LI _ (by simp; show _ ≤ 16777216; omega)) is_new (by rw [List.append_assoc]; exact is_new)
      have r1 : rdS (z ++ [Dk A] ++ [Dk B] ++ [Dk (rT A B)] ++ [Dk (kRow o s i)] ++ [Dk (kRow o s i)]) (.ref (z ++ [Dk A] ++ [Dk B] ++ [Dk (rT A B)] ++ [Dk (kRow o s i)]).length) = .ref (z ++ [Dk A] ++ [Dk B] ++ [Dk (rT A B)] ++ [Dk (kRow o s i)]).length := rdS_new
      have r2 : rdS (z ++ [Dk A] ++ [Dk B] ++ [Dk (rT A B)] ++ [Dk (kRow o s i)] ++ [Dk (kRow o s i)]) (.ref (z ++ [Dk A] ++ [Dk B] ++ [Dk (rT A B)]).length) = .ref (z ++ [Dk A] ++ [Dk B] ++ [Dk (rT A B)]).length := by rw [List.append_assoc]; exact rdS_new
      show (evE (callD pg dfs (n + 8)) _ (LE sc o s (some (.val (.int i))) (some (.ref (z ++ [Dk A] ++ [Dk B] ++ [Dk (rT A B)]).length)) (some (.ref (z ++ [Dk A] ++ [Dk B] ++ [Dk (rT A B)] ++ [Dk (kRow o s i)]).length)) none none none none none none none none none none none none) _).bind truD = _
      simp only [e_not, e_var, e_call, es_cons, es_nil, List.getElem?_cons_zero, List.getElem?_cons_succ, getV_some, bind_ok, r1, r2, hsame, tru_bl]
      rfl
    have f1 : freeze (z ++ [Dk A] ++ [Dk B] ++ [Dk (rT A B)] ++ [Dk (kRow o s i)] ++ [Dk (kRow o s i)]) (.ref (z ++ [Dk A] ++ [Dk B] ++ [Dk (rT A B)] ++ [Dk (kRow o s i)]).length) = some (tLI (kRow o s i), z ++ [Dk A] ++ [Dk B] ++ [Dk (rT A B)] ++ [Dk (kRow o s i)] ++ [.frz (tLI (kRow o s i))]) := frz_new
    have hz2 : ∀ r, z ++ r = [c0, c1] ++ Cel.live (.lst ((List.range i).map fun p => tLI (kRow o s p))) :: (j ++ r) := by
      intro r; rw [← hz]; simp
    have l2 : ∀ r, liveL (z ++ r) (.ref 2) = some ((List.range i).map fun p => tLI (kRow o s p)) := by
      intro r; rw [hz2]; exact liveL_new (st := [c0, c1])
    have d2 : ∀ r, rdS (z ++ r) (.ref 2) = .ref 2 := by
      intro r; rw [hz2]; exact rdS_new (st := [c0, c1])
    have u2 : ∀ r ts, putL (z ++ r) 2 ts = [c0, c1] ++ Cel.live (.lst ts) :: (j ++ r) := by
      intro r ts; rw [hz2]; exact putL_new (st := [c0, c1])
    have hlen : ((List.range i).map fun p => tLI (kRow o s p)).length < lim := by simp; show _ < 16777216; omega
    refine q_expr (x := .val .non) (st1 := [c0, c1] ++ Cel.live (.lst (((List.range i).map fun p => tLI (kRow o s p)) ++ [tLI (kRow o s i)])) :: (j ++ ([Dk A] ++ ([Dk B] ++ ([Dk (rT A B)] ++ ([Dk (kRow o s i)] ++ [Cel.frz (tLI (kRow o s i))])))))) ?_ ?_
    · show evE (callD pg dfs (n + 8)) _ (LE sc o s (some (.val (.int i))) (some (.ref (z ++ [Dk A] ++ [Dk B] ++ [Dk (rT A B)]).length)) (some (.ref (z ++ [Dk A] ++ [Dk B] ++ [Dk (rT A B)] ++ [Dk (kRow o s i)]).length)) none none none none none none none none none none none none) _ = _
      have r1 : rdS (z ++ [Dk A] ++ [Dk B] ++ [Dk (rT A B)] ++ [Dk (kRow o s i)] ++ [Dk (kRow o s i)]) (.ref (z ++ [Dk A] ++ [Dk B] ++ [Dk (rT A B)] ++ [Dk (kRow o s i)]).length) = .ref (z ++ [Dk A] ++ [Dk B] ++ [Dk (rT A B)] ++ [Dk (kRow o s i)]).length := rdS_new
      have as1 : ∀ w : Cel, z ++ [Dk A] ++ [Dk B] ++ [Dk (rT A B)] ++ [Dk (kRow o s i)] ++ [w] = z ++ ([Dk A] ++ ([Dk B] ++ ([Dk (rT A B)] ++ ([Dk (kRow o s i)] ++ [w])))) := fun w => by simp only [List.append_assoc]
      have d2' : rdS (z ++ [Dk A] ++ [Dk B] ++ [Dk (rT A B)] ++ [Dk (kRow o s i)] ++ [Dk (kRow o s i)]) (.ref 2) = .ref 2 := by rw [as1]; exact d2 _
      have l2' : liveL (z ++ [Dk A] ++ [Dk B] ++ [Dk (rT A B)] ++ [Dk (kRow o s i)] ++ [Dk (kRow o s i)]) (.ref 2) = some ((List.range i).map fun p => tLI (kRow o s p)) := by rw [as1]; exact l2 _
      simp only [e_bm, e_var, es_cons, es_nil, List.getElem?_cons_zero, List.getElem?_cons_succ, getV_some, bind_ok, r1, d2', l2', Option.isSome_some, if_true]
      simp only [bmD, f1]
      rw [as1, l2]
      simp only []
      rw [if_pos hlen, u2]
    · refine .nx ⟨j ++ ([Dk A] ++ ([Dk B] ++ ([Dk (rT A B)] ++ ([Dk (kRow o s i)] ++ [Cel.frz (tLI (kRow o s i))])))), _, _, _, rfl, ?_⟩
      rw [List.range_succ, List.map_append]; rfl
  · rintro env z ⟨j, a, b, c, rfl, rfl⟩
    exact k j a b c

abbrev kWs (o s : Nat) : List Int := (List.range (s + 1)).map (kW o s)
/-- what stands in the store after the table and the weights -/
structure Base (o s : Nat) (z : Sto) (kw : Nat) : Prop where
  tab : view z (.ref 2) = some (.lst (kTab o s))
  tabR : rdS z (.ref 2) = .ref 2
  w : view z (.ref kw) = some (tLI (kWs o s))
  wR : rdS z (.ref kw) = .ref kw
theorem Base.app {o s kw : Nat} {z r : Sto} (h : Base o s z kw) : Base o s (z ++ r) kw :=
  ⟨view_app h.tab, by rw [rdS_app h.tab, h.tabR], view_app h.w, by rw [rdS_app h.w, h.wR]⟩
theorem Base.ix2 {o s kw : Nat} {z : Sto} (h : Base o s z kw) {a b : Nat} (ha : a < s + 1) (hb : b < s + 1) : idxD (.ref 2) (.val (.int a)) z = .ok (.val (tLI (kRow o s a))) z ∧ idxD (.val (tLI (kRow o s a))) (.val (.int b)) z = .ok (.val (.int (kK o s b a))) z := by
  constructor
  · rw [idx_nat h.tab (by simpa using ha)]
    simp
  · rw [idx_int (xs := kRow o s a) rfl (by simpa using hb)]
    simp
theorem Base.ixw {o s kw : Nat} {z : Sto} (h : Base o s z kw) {a : Nat} (ha : a < s + 1) : idxD (.ref kw) (.val (.int a)) z = .ok (.val (.int (kW o s a))) z := by
  rw [idx_int h.w (by simpa using ha)]
  simp
theorem seg2 {Q : Fl → Prop} (n : Nat) (sc : S) (o s : Nat) (ho1 : 2 ≤ o) (ho : o ≤ 9) (hs : s ≤ 9) (c0 c1 : Cel) (j : Sto) (v5 v6 v7 : Option S)
    (k : ∀ kw r v10 v11 v12, 2 < kw → (∀ ys, Base o s ([Dk ys, c1] ++ .live (.lst (kTab o s)) :: r) kw) → Q (evSs (callD pg dfs (n + 8)) pg (c_law.drop 7) (LE sc o s v5 v6 v7 none (some (.ref kw)) v10 v11 v12 none none none none none none none) ([c0, c1] ++ .live (.lst (kTab o s)) :: r))) :
    Q (evSs (callD pg dfs (n + 8)) pg (c_law.drop 5) (LE sc o s v5 v6 v7 none none none none none none none none none none none none) ([c0, c1] ++ .live (.lst (kTab o s)) :: j)) := by
  have eo : (o : Int) - 1 = ((o - 1 : Nat) : Int) := by omega
  have pwd : ∀ p (z : Sto), p < s + 1 → callD pg dfs (n + 8) 8 [.val (.int ((o : Int) - 1)), .val (.int (p : Nat))] z = .ok (.val (.int (((o : Int) - 1) ^ p))) z := fun p z hp => dk_power8 p rfl (by omega) (by omega) (by omega)
  have hwy : ∀ p (z : Sto), p < s + 1 → callD pg dfs (n + 8) 7 [.val (.int (s : Nat)), .val (.int (p : Nat))] z = .ok (.val (.int (wN s p))) z := fun p z hp => dk_ways s p (by omega) (by omega)
  have pws : ∀ (z : Sto), callD pg dfs (n + 8) 8 [.val (.int (o : Nat)), .val (.int (s : Nat))] z = .ok (.val (.int ((o : Int) ^ s))) z := fun z => dk_power8 s rfl (by omega) (by omega) (by omega)
  have hb : ∀ ys, Base o s ([Dk ys, c1] ++ .live (.lst (kTab o s)) :: (j ++ [Dk (kWs o s)])) (3 + j.length) := by
    intro ys
    have e : ([Dk ys, c1] ++ Cel.live (.lst (kTab o s)) :: (j ++ [Dk (kWs o s)])) = ([Dk ys, c1] ++ Cel.live (.lst (kTab o s)) :: j) ++ [Dk (kWs o s)] := by simp
    have el : ([Dk ys, c1] ++ Cel.live (.lst (kTab o s)) :: j).length = 3 + j.length := by simp; omega
    refine ⟨view_new (st := [Dk ys, c1]), rdS_new (st := [Dk ys, c1]), ?_, ?_⟩
    · rw [e, ← el]; exact view_new
    · rw [e, ← el]; exact rdS_new
  have e0 : ([c0, c1] ++ Cel.live (.lst (kTab o s)) :: j) ++ [Dk (kWs o s)] = ([c0, c1] ++ Cel.live (.lst (kTab o s)) :: (j ++ [Dk (kWs o s)])) := by simp
  have el0 : ([c0, c1] ++ Cel.live (.lst (kTab o s)) :: j).length = 3 + j.length := by simp; omega
  have hb0 : Base o s (([c0, c1] ++ Cel.live (.lst (kTab o s)) :: j) ++ [Dk (kWs o s)]) (3 + j.length) := by
    refine ⟨by rw [e0]; exact view_new (st := [c0, c1]), by rw [e0]; exact rdS_new (st := [c0, c1]), ?_, ?_⟩
    · rw [← el0]; exact view_new
    · rw [← el0]; exact rdS_new
  refine q_set (x := .ref (3 + j.length)) (st1 := ([c0, c1] ++ Cel.live (.lst (kTab o s)) :: j) ++ [Dk (kWs o s)]) ?_ ?_
  · have hc := e_comp0 (cb := callD pg dfs (n + 8)) (v := 5) (n := s + 1) (el := .bin .mul (.call 7 [.var 3, .var 5]) (.call 8 [.bin .sub (.var 2) (.int (1)), .var 5])) (own := [5]) (lw_rng (sc := sc) (o := o) hs v5 v6 v7 none none none none none none none none none none none none ([c0, c1] ++ .live (.lst (kTab o s)) :: j)) (fun p => .int (kW o s p)) (by show _ ≤ 16777216; omega) (by
      intro p acc hp
      have hw := w_small s (by omega) p hp
      show evE (callD pg dfs (n + 8)) _ (LE sc o s (some (.val (.int p))) v6 v7 none none none none none none none none none none none none) _ = _
      simp only [e_bin, e_var, e_int, e_call, es_cons, es_nil, List.getElem?_cons_zero, List.getElem?_cons_succ, getV_some, rdS_val, bind_ok, Dy.op_sub, hwy p _ hp, pwd p _ hp, Dy.op_mulL hw.1 hw.2]
      rfl)
    rw [el0] at hc
    refine hc.trans ?_
    simp [Function.comp_def]
  generalize hz1 : ([c0, c1] ++ Cel.live (.lst (kTab o s)) :: j) ++ [Dk (kWs o s)] = z1 at *
  refine q_for0 (lw_rng hs _ _ _ _ _ _ _ _ _ _ _ _ _ _ _ _) (fun i env z => ∃ r a b c, env = LE sc o s v5 v6 v7 none (some (.ref (3 + j.length))) a b c none none none none none none none ∧ z = z1 ++ r) ⟨[], none, none, none, rfl, by simp⟩ ?_ ?_
  · rintro i env z hi ⟨r, a, b, c, rfl, rfl⟩
    refine FlNx.out ?_
    refine q_for0 (lw_rng hs _ _ _ _ _ _ _ _ _ _ _ _ _ _ _ _) (fun m env z => ∃ r b c, env = LE sc o s v5 v6 v7 none (some (.ref (3 + j.length))) (some (.val (.int i))) b c none none none none none none none ∧ z = z1 ++ r) ⟨r, b, c, rfl, rfl⟩ ?_ ?_
    · rintro m env z hm ⟨r, b, c, rfl, rfl⟩
      refine FlNx.out ?_
      have hor := fin_or o (by omega) ho1 s (by omega) i hi m hm
      have hB : Base o s (z1 ++ r) (3 + j.length) := hb0.app
      have hB2 : ∀ r', Base o s (z1 ++ r ++ r') (3 + j.length) := fun r' => hB.app
      generalize hz2 : z1 ++ r = z2 at *
      refine q_if (c := false) (st1 := z2) ?_ (fun h => nomatch h) (fun _ => ?_)
      · show (evE (callD pg dfs (n + 8)) _ (LE sc o s v5 v6 v7 none (some (.ref (3 + j.length))) (some (.val (.int i))) (some (.val (.int m))) c none none none none none none none) _).bind truD = _
        have h1 := fin_ws o (by omega) ho1 s (by omega) i hi
        have h2 := fin_ws o (by omega) ho1 s (by omega) m hm
        simp only [e_cmp, e_bin, e_idx, e_var, List.getElem?_cons_zero, List.getElem?_cons_succ, getV_some, rdS_val, bind_ok, hB.tabR, hB.wR, hB.ixw hi, hB.ixw hm, (hB.ix2 hi hm).1, (hB.ix2 hi hm).2, (hB.ix2 hm hi).1, (hB.ix2 hm hi).2, Dy.op_mulL h1.1 h1.2, Dy.op_mulL h2.1 h2.2, c_ne, hor.1, tru_bl]
        simp
      have hcol : ∀ p, p < s + 1 → kK o s i p = kK o s i p := fun _ _ => rfl
      refine q_set (x := .val (.int (kS (fun p => kW o s p * kK o s i p * kK o s m p) (s + 1)))) (st1 := z2 ++ [Dk ((List.range (s + 1)).map fun p => kW o s p * kK o s i p * kK o s m p)]) ?_ ?_
      · have hc := e_comp0 (cb := callD pg dfs (n + 8)) (v := 5) (n := s + 1) (el := .bin .mul (.bin .mul (.idx (.var 9) (.var 5)) (.idx (.idx (.var 4) (.var 5)) (.var 10))) (.idx (.idx (.var 4) (.var 5)) (.var 11))) (own := [5]) (lw_rng (sc := sc) (o := o) hs v5 v6 v7 none (some (.ref (3 + j.length))) (some (.val (.int i))) (some (.val (.int m))) c none none none none none none none z2) (fun p => .int (kW o s p * kK o s i p * kK o s m p)) (by show _ ≤ 16777216; omega) (by
          intro p acc hp
          have hw := fin_ws o (by omega) ho1 s (by omega) p hp
          have hk := kK_small o (by omega) s (by omega) m hm p hp
          have hB := hB2 [.live (.lst acc)]
          show evE (callD pg dfs (n + 8)) _ (LE sc o s (some (.val (.int p))) v6 v7 none (some (.ref (3 + j.length))) (some (.val (.int i))) (some (.val (.int m))) c none none none none none none none) _ = _
          simp only [e_bin, e_idx, e_var, List.getElem?_cons_zero, List.getElem?_cons_succ, getV_some, rdS_val, bind_ok, hB.tabR, hB.wR, hB.ixw hp, (hB.ix2 hp hi).1, (hB.ix2 hp hi).2, (hB.ix2 hp hm).2, Dy.op_mulL hw.1 hw.2, Dy.op_mulR hk.1 hk.2])
        have hc' : evE (callD pg dfs (n + 8)) (.comp (.bin .mul (.bin .mul (.idx (.var 9) (.var 5)) (.idx (.idx (.var 4) (.var 5)) (.var 10))) (.idx (.idx (.var 4) (.var 5)) (.var 11))) (.nm 5) (.rng1 (.bin .add (.var 3) (.int (1)))) [] [5]) (LE sc o s v5 v6 v7 none (some (.ref (3 + j.length))) (some (.val (.int i))) (some (.val (.int m))) c none none none none none none none) z2 = .ok (.ref z2.length) (z2 ++ [Dk ((List.range (s + 1)).map fun p => kW o s p * kK o s i p * kK o s m p)]) := by
          rw [hc]; simp [Function.comp_def]
        show evE (callD pg dfs (n + 8)) _ (LE sc o s v5 v6 v7 none (some (.ref (3 + j.length))) (some (.val (.int i))) (some (.val (.int m))) c none none none none none none none) _ = _
        rw [e_bi, es_cons, hc']
        simp only [bind_ok, es_nil]
        rw [b_sum view_new, kS_sum]
      have hB := hB2 [Dk ((List.range (s + 1)).map fun p => kW o s p * kK o s i p * kK o s m p)]
      generalize hz3 : z2 ++ [Dk ((List.range (s + 1)).map fun p => kW o s p * kK o s i p * kK o s m p)] = z3 at *
      refine q_if (c := false) (st1 := z3) ?_ (fun h => nomatch h) (fun _ => ?_)
      · have h1 := fin_ws o (by omega) ho1 s (by omega) i hi
        show (evE (callD pg dfs (n + 8)) _ (LE sc o s v5 v6 v7 none (some (.ref (3 + j.length))) (some (.val (.int i))) (some (.val (.int m))) (some (.val (.int (kS (fun p => kW o s p * kK o s i p * kK o s m p) (s + 1))))) none none none none none none none) _).bind truD = _
        have hb1 : PyProof.Rows.b2i ((i : Int) == (m : Int)) = if i = m then 1 else 0 := by
          by_cases h : i = m
          · simp [h, PyProof.Rows.b2i]
          · have : ¬ (i : Int) = m := by omega
            simp [h, this, PyProof.Rows.b2i]
        have hb2 : -18446744073709551616 < (if i = m then (1 : Int) else 0) := by split <;> omega
        have hb3 : (if i = m then (1 : Int) else 0) < 18446744073709551616 := by split <;> omega
        simp only [e_cmp, e_bin, e_bi, e_idx, e_call, es_cons, es_nil, e_var, List.getElem?_cons_zero, List.getElem?_cons_succ, getV_some, rdS_val, bind_ok, hB.wR, hB.ixw hi, c_eq, b_intB, hb1, pws, Dy.op_mulL hb2 hb3, Dy.op_mulR h1.1 h1.2, c_ne, hor.2, tru_bl]
        simp
      · refine .nx ⟨r ++ [Dk ((List.range (s + 1)).map fun p => kW o s p * kK o s i p * kK o s m p)], _, _, rfl, ?_⟩
        rw [← hz3, ← hz2, List.append_assoc]
    · rintro env z ⟨r, b, c, rfl, rfl⟩
      exact .nx ⟨_, _, _, _, rfl, rfl⟩
  · rintro env z ⟨r, a, b, c, rfl, rfl⟩
    have := k (3 + j.length) (j ++ [Dk (kWs o s)] ++ r) a b c (by omega) (by
      intro ys
      have := (hb ys).app (r := r)
      simpa using this)
    rw [← hz1]
    simpa using this
theorem mac_pair {n : Nat} {st : Sto} {x : S} {o s : Nat} {xs ys : List Int} (ho1 : 2 ≤ o) (ho : o ≤ 9) (hs : s ≤ 9) (hx : Is st x (tLI xs)) (h : kPair o s xs ys) : callD pg dfs (n + 3) 2 [x, .val (.int (o : Nat))] st = .ok (.ref st.length) (st ++ [Dk ys]) := by
  obtain ⟨h1, h2, h3, h4, h5⟩ := h
  rw [dk_mac xs o s ho1 ho hs hx h1 h2 h3, if_pos h4, h5]
theorem mac_zero {n : Nat} {st : Sto} {x : S} {o s : Nat} {xs : List Int} (ho1 : 2 ≤ o) (ho : o ≤ 9) (hs : s ≤ 9) (hx : Is st x (tLI xs)) (h1 : xs.length = s + 1) (h : xs.sum = 0) : callD pg dfs (n + 3) 2 [x, .val (.int (o : Nat))] st = .ex ⟨1, []⟩ st := by
  rw [dk_mac xs o s ho1 ho hs hx h1 (by omega) (by omega), if_neg (fun g => g.1 h)]
theorem lst1 {cb : CB} {env : Dy.Env} {st : Sto} (a : Int) : evE cb (.lst [.int a]) env st = .ok (.ref st.length) (st ++ [Dk [a]]) := by
  simp [lstD, tLI, show 1 ≤ lim by decide]
theorem seg3 {Q : Fl → Prop} (hQ : ∀ st, Q (.rt (.val (.bl true)) st)) (n : Nat) (sc : S) (o s : Nat) (ho1 : 2 ≤ o) (ho : o ≤ 9) (hs : s ≤ 9) (v5 v6 v7 v8 v9 v10 v11 v12 v13 v14 v15 v16 v17 v18 v19 : Option S) (z : Sto)
    (k : 1 ≤ s → Q (evSs (callD pg dfs (n + 8)) pg (c_law.drop 8) (LE sc o s v5 v6 v7 v8 v9 v10 v11 v12 v13 v14 v15 v16 v17 v18 v19) z)) :
    Q (evSs (callD pg dfs (n + 8)) pg (c_law.drop 7) (LE sc o s v5 v6 v7 v8 v9 v10 v11 v12 v13 v14 v15 v16 v17 v18 v19) z) := by
  refine q_ifP (p := s = 0) (st1 := z) ?_ (fun h => ?_) (fun h => k (by omega))
  · simp only [e_cmp, e_var, e_int, List.getElem?_cons_zero, List.getElem?_cons_succ, getV_some, rdS_val, bind_ok, c_eq, tru_bl]
    congr 1
    by_cases h : s = 0
    · simp [h]
    · have : ¬ (s : Int) = 0 := by omega
      simp [h, this]
  · subst h
    have m1 := mac_pair (n := n + 5) (st := z ++ [Dk [1]]) (x := .ref z.length) ho1 ho (by omega) is_new (fin_one o (by omega) ho1)
    have s1 := same_ok (P := pg) (ds := dfs) (f := 5) (g := 6) (n := n + 6) (dd := 1) (t := tLI [1]) (x := .ref (z ++ [Dk [1]]).length) (y := .ref (z ++ [Dk [1]] ++ [Dk [1]]).length) (st := z ++ [Dk [1]] ++ [Dk [1]] ++ [Dk [1]]) rfl rfl (by omega) (by omega) (okT_LI _ (by decide)) (by rw [List.append_assoc]; exact is_new) is_new
    have m2 := dk_ref (n := n + 4) (st := z ++ [Dk [1]] ++ [Dk [1]] ++ [Dk [1]] ++ [Dk [0]]) (x := .ref (z ++ [Dk [1]] ++ [Dk [1]] ++ [Dk [1]]).length) (o := o) (by
      rw [rdS_new]
      exact mac_zero (s := 0) (xs := [0]) ho1 ho (by omega) is_new rfl rfl)
    refine q_ret (x := .val (.bl true)) (st1 := z ++ [Dk [1]] ++ [Dk [1]] ++ [Dk [1]] ++ [Dk [0]]) ?_ (hQ _)
    simp only [e_andv, e_call, es_cons, es_nil, lst1, e_var, List.getElem?_cons_zero, List.getElem?_cons_succ, getV_some, rdS_val, bind_ok]
    rw [m1]
    simp only [bind_ok]
    rw [s1]
    simp only [bind_ok, bl_bl, if_true]
    rw [m2]
theorem known_body {n : Nat} {sc : S} {o s : Nat} {xs ys : List Int} (ho1 : 2 ≤ o) (ho : o ≤ 9) (hs : s ≤ 9) (v5 v6 v7 v8 v9 v10 v11 v12 v15 v16 v17 v18 v19 : Option S) (z : Sto) (h : kPair o s xs ys) (hy : ys.length = s + 1) :
    ∃ r v, evSs (callD pg dfs (n + 8)) pg [.set 15 (.bi .list [.var 13]), .if_ (.or_ (.not_ (.call 6 [.call 2 [.var 15, .var 2], .var 14])) (.cmp .ne (.var 15) (.var 13))) [.ret (.bl false)] []] (LE sc o s v5 v6 v7 v8 v9 v10 v11 v12 (some (.val (tLI xs))) (some (.val (tLI ys))) v15 v16 v17 v18 v19) z = .nx (LE sc o s v5 v6 v7 v8 v9 v10 v11 v12 (some (.val (tLI xs))) (some (.val (tLI ys))) v v16 v17 v18 v19) (z ++ r) := by
  refine ⟨[Dk xs] ++ [Dk ys], some (.ref z.length), ?_⟩
  refine q_set (Q := (· = _)) (x := .ref z.length) (st1 := z ++ [Dk xs]) ?_ ?_
  · simp only [e_bi, es_cons, es_nil, e_var, List.getElem?_cons_zero, List.getElem?_cons_succ, getV_some, rdS_val, bind_ok]
    rfl
  have m1 := mac_pair (n := n + 5) (st := z ++ [Dk xs]) (x := .ref z.length) ho1 ho hs is_new h
  have s1 := same_ok (P := pg) (ds := dfs) (f := 5) (g := 6) (n := n + 6) (dd := 1) (t := tLI ys) (x := .ref (z ++ [Dk xs]).length) (y := .val (tLI ys)) (st := z ++ [Dk xs] ++ [Dk ys]) rfl rfl (by omega) (by omega) (okT_LI _ (by show _ ≤ 16777216; omega)) is_new is_val
  have r1 : rdS (z ++ [Dk xs]) (.ref z.length) = .ref z.length := rdS_new
  have r2 : rdS (z ++ [Dk xs] ++ [Dk ys]) (.ref z.length) = .ref z.length := by rw [List.append_assoc]; exact rdS_new
  have v2 : view (z ++ [Dk xs] ++ [Dk ys]) (.ref z.length) = some (tLI xs) := by rw [List.append_assoc]; exact view_new
  refine q_if (Q := (· = _)) (c := false) (st1 := z ++ [Dk xs] ++ [Dk ys]) ?_ (fun h => nomatch h) (fun _ => ?_)
  · show (evE (callD pg dfs (n + 8)) _ (LE sc o s v5 v6 v7 v8 v9 v10 v11 v12 (some (.val (tLI xs))) (some (.val (tLI ys))) (some (.ref z.length)) v16 v17 v18 v19) _).bind truD = _
    simp only [e_or, e_not, e_cmp, e_call, es_cons, es_nil, e_var, List.getElem?_cons_zero, List.getElem?_cons_succ, getV_some, rdS_val, bind_ok, r1]
    rw [m1]
    simp only [bind_ok]
    rw [s1]
    simp only [bind_ok, tru_bl, Bool.not_true, if_false, r2]
    have c1 : cmpD .ne (.ref z.length) (.val (tLI xs)) (z ++ [Dk xs] ++ [Dk ys]) = .ok (.val (.bl false)) (z ++ [Dk xs] ++ [Dk ys]) := by
      simp only [cmpD, v2, view_val, eqT_LI]
      rfl
    simp only [Bool.false_eq_true, if_false, bind_ok, e_cmp, e_var, List.getElem?_cons_zero, List.getElem?_cons_succ, getV_some, rdS_val, r2, c1, tru_bl]
  · simp only [List.append_assoc]
    rfl

theorem seg4 {Q : Fl → Prop} (n : Nat) (sc : S) (o s : Nat) (ho1 : 2 ≤ o) (ho : o ≤ 9) (hs : s ≤ 9) (hs1 : 1 ≤ s) (v5 v6 v7 v8 v9 v10 v11 v12 : Option S) (z : Sto)
    (k : ∀ r v10 v11 v13 v14 v15, Q (evSs (callD pg dfs (n + 8)) pg (c_law.drop 9) (LE sc o s v5 v6 v7 v8 v9 v10 v11 v12 v13 v14 v15 none none none none) (z ++ r))) :
    Q (evSs (callD pg dfs (n + 8)) pg (c_law.drop 8) (LE sc o s v5 v6 v7 v8 v9 v10 v11 v12 none none none none none none none) z) := by
  have hk := fin_pair o (by omega) ho1 s (by omega) hs1
  obtain ⟨p1, p2, p3, p4⟩ := hk
  have hi : evI (callD pg dfs (n + 8)) (.any (.call 12 [.var 2, .var 3])) (LE sc o s v5 v6 v7 v8 v9 v10 v11 v12 none none none none none none none) z = .ok (.lst (.ref z.length)) (z ++ [.live (kKnown o s)]) := by
    rw [iv_any]
    simp only [e_call, es_cons, es_nil, e_var, List.getElem?_cons_zero, List.getElem?_cons_succ, getV_some, rdS_val, bind_ok]
    rw [dk_known (n := n + 4) o s ho1 ho hs]
    simp only [bind_ok, srcD, view_new]
  have hv : ∀ r, view (z ++ .live (kKnown o s) :: r) (.ref z.length) = some (kKnown o s) := fun r => view_new
  refine q_loop (n := 2) hi (by simp only [Src.fuel, view_new]; rfl) (fun i env st => ∃ r v10 v11 v13 v14 v15, env = LE sc o s v5 v6 v7 v8 v9 v10 v11 v12 v13 v14 v15 none none none none ∧ st = z ++ .live (kKnown o s) :: r) ⟨[], _, _, _, _, _, rfl, rfl⟩ ?_ ?_ ?_
  · rintro env st ⟨r, a, b, c, d, e, rfl, rfl⟩
    simp only [Src.get, hv]
    rfl
  · rintro i env st hi ⟨r, a, b, c, d, e, rfl, rfl⟩
    have inner : ∀ (xs ys : List Int) (st : Sto), kPair o s xs ys → kPair o s ys xs → xs.length = s + 1 → ys.length = s + 1 → Step Q (fun env st' => ∃ r v10 v11 v13 v14 v15, env = LE sc o s v5 v6 v7 v8 v9 v10 v11 v12 v13 v14 v15 none none none none ∧ st' = st ++ r) (fun env st => Q (evSs (callD pg dfs (n + 8)) pg (c_law.drop 9) env st)) (evSs (callD pg dfs (n + 8)) pg [.for_ (.tup [.nm 13, .nm 14]) (.any (.tup [.tup [.var 10, .var 11], .tup [.var 11, .var 10]])) [.set 15 (.bi .list [.var 13]), .if_ (.or_ (.not_ (.call 6 [.call 2 [.var 15, .var 2], .var 14])) (.cmp .ne (.var 15) (.var 13))) [.ret (.bl false)] []]] (LE sc o s v5 v6 v7 v8 v9 (some (.val (tLI xs))) (some (.val (tLI ys))) v12 c d e none none none none) st) := by
      intro xs ys st h1 h2 l1 l2
      have hi : evI (callD pg dfs (n + 8)) (.any (.tup [.tup [.var 10, .var 11], .tup [.var 11, .var 10]])) (LE sc o s v5 v6 v7 v8 v9 (some (.val (tLI xs))) (some (.val (tLI ys))) v12 c d e none none none none) st = .ok (.tup (.val (.tup [.tup [tLI xs, tLI ys], .tup [tLI ys, tLI xs]]))) st := by
        rw [iv_any]
        simp only [e_tup, es_cons, es_nil, e_var, List.getElem?_cons_zero, List.getElem?_cons_succ, getV_some, rdS_val, bind_ok, tupD, freezeL_two]
        rfl
      refine q_loop (n := 2) hi rfl (fun i env st' => ∃ r v13 v14 v15, env = LE sc o s v5 v6 v7 v8 v9 (some (.val (tLI xs))) (some (.val (tLI ys))) v12 v13 v14 v15 none none none none ∧ st' = st ++ r) ⟨[], _, _, _, rfl, by simp⟩ ?_ ?_ ?_
      · rintro env st' _
        rfl
      · rintro i env st' hi ⟨r, c, d, e, rfl, rfl⟩
        have hi2 : i = 0 ∨ i = 1 := by omega
        rcases hi2 with rfl | rfl
        · obtain ⟨r', v, q⟩ := known_body (n := n) (sc := sc) ho1 ho hs v5 v6 v7 v8 v9 (some (.val (tLI xs))) (some (.val (tLI ys))) v12 e none none none none (st ++ r) h1 l2
          refine ⟨.val (.tup [tLI xs, tLI ys]), LE sc o s v5 v6 v7 v8 v9 (some (.val (tLI xs))) (some (.val (tLI ys))) v12 (some (.val (tLI xs))) (some (.val (tLI ys))) e none none none none, rfl, rfl, ?_⟩
          rw [q]
          exact .nx ⟨r ++ r', _, _, _, rfl, by simp⟩
        · obtain ⟨r', v, q⟩ := known_body (n := n) (sc := sc) ho1 ho hs v5 v6 v7 v8 v9 (some (.val (tLI xs))) (some (.val (tLI ys))) v12 e none none none none (st ++ r) h2 l1
          refine ⟨.val (.tup [tLI ys, tLI xs]), LE sc o s v5 v6 v7 v8 v9 (some (.val (tLI xs))) (some (.val (tLI ys))) v12 (some (.val (tLI ys))) (some (.val (tLI xs))) e none none none none, rfl, rfl, ?_⟩
          rw [q]
          exact .nx ⟨r ++ r', _, _, _, rfl, by simp⟩
      · rintro env st' ⟨r, c, d, e, rfl, rfl⟩
        exact .nx ⟨r, _, _, _, _, _, rfl, rfl⟩
    have fin : ∀ {z' : Sto} {fl : Fl}, Step Q (fun env st' => ∃ r v10 v11 v13 v14 v15, env = LE sc o s v5 v6 v7 v8 v9 v10 v11 v12 v13 v14 v15 none none none none ∧ st' = (z ++ .live (kKnown o s) :: z') ++ r) (fun env st => Q (evSs (callD pg dfs (n + 8)) pg (c_law.drop 9) env st)) fl → Step Q (fun env st => ∃ r v10 v11 v13 v14 v15, env = LE sc o s v5 v6 v7 v8 v9 v10 v11 v12 v13 v14 v15 none none none none ∧ st = z ++ .live (kKnown o s) :: r) (fun env st => Q (evSs (callD pg dfs (n + 8)) pg (c_law.drop 9) env st)) fl := by
      intro z' fl h
      rcases h.out with ⟨e, st, q, r, a1, a2, a3, a4, a5, q1, q2⟩ | ⟨e, st, q, r, a1, a2, a3, a4, a5, q1, q2⟩ | h | h | h
      · exact ⟨.inl ⟨e, st, q, z' ++ r, a1, a2, a3, a4, a5, q1, by rw [q2]; simp⟩⟩
      · exact ⟨.inr (.inl ⟨e, st, q, z' ++ r, a1, a2, a3, a4, a5, q1, by rw [q2]; simp⟩)⟩
      · exact ⟨.inr (.inr (.inl h))⟩
      · exact ⟨.inr (.inr (.inr (.inl h)))⟩
      · exact ⟨.inr (.inr (.inr (.inr h)))⟩
    have hi2 : i = 0 ∨ i = 1 := by omega
    rcases hi2 with rfl | rfl
    · refine ⟨.val (.tup [tLI (kWhole o s), tLI (kOne s)]), LE sc o s v5 v6 v7 v8 v9 (some (.val (tLI (kWhole o s)))) (some (.val (tLI (kOne s)))) v12 c d e none none none none, by simp only [Src.get, hv]; rfl, rfl, ?_⟩
      exact fin (inner _ _ _ p1 p2 (by simp) (by simp))
    · refine ⟨.val (.tup [tLI (kAlike o s), tLI (kSums o s)]), LE sc o s v5 v6 v7 v8 v9 (some (.val (tLI (kAlike o s)))) (some (.val (tLI (kSums o s)))) v12 c d e none none none none, by simp only [Src.get, hv]; rfl, rfl, ?_⟩
      exact fin (inner _ _ _ p3 p4 (by simp) (by simp))
  · rintro env st ⟨r, a, b, c, d, e, rfl, rfl⟩
    exact k _ a b c d e
theorem seg6 {Q : Fl → Prop} (hQ : ∀ st, Q (.rt (.val (.bl true)) st)) (n : Nat) (sc : S) (o s : Nat) (ho1 : 2 ≤ o) (ho : o ≤ 9) (hs : s ≤ 9) (hs1 : 1 ≤ s) (v5 v6 v7 v8 v9 v10 v11 v12 v13 v14 v15 v16 v17 v18 v19 : Option S) (z : Sto) :
    Q (evSs (callD pg dfs (n + 8)) pg (c_law.drop 14) (LE sc o s v5 v6 v7 v8 v9 v10 v11 v12 v13 v14 v15 v16 v17 v18 v19) z) := by
  have e1 : evE (callD pg dfs (n + 8)) (.lst [.int (1), .neg (.int (1))]) (LE sc o s v5 v6 v7 v8 v9 v10 v11 v12 v13 v14 v15 v16 v17 v18 v19) z = .ok (.ref z.length) (z ++ [Dk [1, -1]]) := by
    simp [lstD, tLI, show 2 ≤ lim by decide]
  have es : (s : Int) - 1 = ((s - 1 : Nat) : Int) := by omega
  have q := op_rep (st := z ++ [Dk [1, -1]] ++ [Dk [0]]) (k := (z ++ [Dk [1, -1]]).length) (v := 0) (n := ((s - 1 : Nat) : Int)) liveL_new (by omega) (by omega) (by show _ ≤ 16777216; omega)
  have e2 : evE (callD pg dfs (n + 8)) (.bin .mul (.lst [.int (0)]) (.bin .sub (.var 3) (.int (1)))) (LE sc o s v5 v6 v7 v8 v9 v10 v11 v12 v13 v14 v15 v16 v17 v18 v19) (z ++ [Dk [1, -1]]) = .ok (.ref (z ++ [Dk [1, -1]] ++ [Dk [0]]).length) (z ++ [Dk [1, -1]] ++ [Dk [0]] ++ [Dk (List.replicate (s - 1) 0)]) := by
    rw [e_bin, lst1, bind_ok]
    simp only [e_bin, e_var, e_int, List.getElem?_cons_zero, List.getElem?_cons_succ, getV_some, rdS_val, bind_ok, Dy.op_sub, es]
    rw [rdS_new, q]
    simp
  have l1 : liveL (z ++ [Dk [1, -1]] ++ [Dk [0]] ++ [Dk (List.replicate (s - 1) 0)]) (.ref z.length) = some ([1, -1].map T.int) := by
    rw [List.append_assoc, List.append_assoc]; exact liveL_new
  have r1 : rdS (z ++ [Dk [1, -1]] ++ [Dk [0]] ++ [Dk (List.replicate (s - 1) 0)]) (.ref z.length) = .ref z.length := by
    rw [List.append_assoc, List.append_assoc]; exact rdS_new
  have l2 : liveL (z ++ [Dk [1, -1]] ++ [Dk [0]] ++ [Dk (List.replicate (s - 1) 0)]) (.ref (z ++ [Dk [1, -1]] ++ [Dk [0]]).length) = some ((List.replicate (s - 1) 0).map T.int) := liveL_new
  have e3 : evE (callD pg dfs (n + 8)) (.bin .add (.lst [.int (1), .neg (.int (1))]) (.bin .mul (.lst [.int (0)]) (.bin .sub (.var 3) (.int (1))))) (LE sc o s v5 v6 v7 v8 v9 v10 v11 v12 v13 v14 v15 v16 v17 v18 v19) z = .ok (.ref (z ++ [Dk [1, -1]] ++ [Dk [0]] ++ [Dk (List.replicate (s - 1) 0)]).length) (z ++ [Dk [1, -1]] ++ [Dk [0]] ++ [Dk (List.replicate (s - 1) 0)] ++ [Dk ([1, -1] ++ List.replicate (s - 1) 0)]) := by
    rw [e_bin, e1, bind_ok, e2, bind_ok, r1, op_cat l1 l2 (by simp; show _ ≤ 16777216; omega), ← List.map_append]
  refine q_ret (x := .val (.bl true)) (st1 := z ++ [Dk [1, -1]] ++ [Dk [0]] ++ [Dk (List.replicate (s - 1) 0)] ++ [Dk ([1, -1] ++ List.replicate (s - 1) 0)]) ?_ (hQ _)
  have sm : ∀ m : Nat, (List.replicate m (0 : Int)).sum = 0 := by
    intro m; induction m with
    | zero => rfl
    | succ m ih => rw [List.replicate_succ, List.sum_cons, ih]; rfl
  have m2 := dk_ref (n := n + 4) (st := z ++ [Dk [1, -1]] ++ [Dk [0]] ++ [Dk (List.replicate (s - 1) 0)] ++ [Dk ([1, -1] ++ List.replicate (s - 1) 0)]) (x := .ref (z ++ [Dk [1, -1]] ++ [Dk [0]] ++ [Dk (List.replicate (s - 1) 0)]).length) (o := o) (by
      rw [rdS_new]
      exact mac_zero (s := s) (xs := [1, -1] ++ List.replicate (s - 1) 0) ho1 ho (by omega) is_new (by simp; omega) (by simp [sm]))
  rw [e_call, es_cons, e3]
  simp only [es_cons, es_nil, e_var, List.getElem?_cons_zero, List.getElem?_cons_succ, getV_some, rdS_val, bind_ok]
  rw [m2]
theorem e_compU {cb : CB} {el : E} {tg : G} {it : Dy.It} {cond : List E} {own : List Nat} {env : Dy.Env} {st : Sto} : evE cb (.comp el tg it cond own) env st = (evI cb it env st).bind fun src st1 => compN tg (evC cb cond) (evE cb el) src (wipeE env own) st1.length (src.fuel st1) 0 (st1 ++ [.live (.lst [])]) := id rfl
theorem seg5a (n : Nat) (sc : S) (o s : Nat) (hs : s ≤ 9) (v5 v6 v7 v8 v9 v10 v11 v12 v13 v14 v15 : Option S) (ys : List Int) (R : Sto) :
    ∃ (ys2 nums : List Int), nums.length = s + 1 ∧ (∀ v ∈ nums, (0 : Int) ≤ v ∧ v < 9) ∧ evE (callD pg dfs (n + 8)) (.comp (.call 4 [.var 1, .int (9)]) (.nm 17) (.rng1 (.bin .add (.var 3) (.int (1)))) [] [17]) (LE sc o s v5 v6 v7 v8 v9 v10 v11 v12 v13 v14 v15 none none none none) (Dk ys :: R) = .ok (.ref (Dk ys2 :: R).length) (Dk ys2 :: R ++ [Dk nums]) := by
  obtain ⟨acc, st2, h, ys2, nums, h1, h2, h3, h4⟩ := comp_gen (src := .rng 0 (s + 1)) (g := .nm 17) (n := s + 1) (k := (Dk ys :: R).length) (env0 := LE sc o s v5 v6 v7 v8 v9 v10 v11 v12 v13 v14 v15 none none none none) (cond := evC (callD pg dfs (n + 8)) []) (el := evE (callD pg dfs (n + 8)) (.call 4 [.var 1, .int (9)])) (fun i acc st => ∃ (ys2 nums : List Int), acc = nums.map T.int ∧ nums.length = i ∧ (∀ v ∈ nums, (0 : Int) ≤ v ∧ v < 9) ∧ st = Dk ys2 :: R ++ [Dk nums]) (by show _ ≤ 16777216; omega) (by
      rintro acc st _
      simp [Src.get])
    (by
      rintro i acc st hi ⟨ys2, nums, rfl, h2, h3, rfl⟩
      obtain ⟨v, ys3, w1, w2, w3⟩ := take_ok (P := pg) (ds := dfs) (n := n + 7) (f := 4) (k := 0) (xs := ys2) (m := 9) (st := Dk ys2 :: R ++ [Dk nums]) rfl rfl (by omega)
      refine ⟨.val (.int (0 + i)), LE sc o s v5 v6 v7 v8 v9 v10 v11 v12 v13 v14 v15 none (some (.val (.int (0 + i)))) none none, true, _, by simp [Src.get, hi], rfl, rfl, ?_⟩
      refine ⟨.val (.int v), Dk ys3 :: R ++ [Dk nums], .int v, Dk ys3 :: R ++ [Dk nums], ?_, rfl, liveL_new (st := Dk ys3 :: R), ys3, nums ++ [v], by simp, by simp [h2], ?_, ?_⟩
      · simp only [e_call, es_cons, es_nil, e_var, e_int, List.getElem?_cons_zero, List.getElem?_cons_succ, getV_some, bind_ok]
        exact w3
      · intro u hu
        rcases List.mem_append.1 hu with hu | hu
        · exact h3 u hu
        · simp at hu; subst hu; exact ⟨w1, w2⟩
      · have := putL_new (st := Dk ys3 :: R) (c := Dk nums) (ts := nums.map T.int ++ [T.int v]) (r := [])
        refine this.trans ?_
        simp) (s + 1) 0 [] (Dk ys :: R ++ [.live (.lst [])]) (by omega) (by simp) ⟨ys, [], rfl, rfl, by simp, rfl⟩
  refine ⟨ys2, nums, h2, h3, ?_⟩
  rw [e_compU, lw_rng hs]
  subst h4
  exact h
theorem mS_sum {nums : List Int} {o s d : Nat} : ((List.range (s + 1)).map fun p => nums.getD p 0 * kK o s d p).sum = mS nums o s d := kS_sum _ _
theorem seg5b {Q : Fl → Prop} (n : Nat) (sc : S) (o s : Nat) (ho1 : 2 ≤ o) (ho : o ≤ 9) (hs : s ≤ 9) (v5 v6 v7 v8 v10 v11 v12 v13 v14 v15 v17 : Option S) (kw kn : Nat) (nums : List Int) (hl : nums.length = s + 1) (z : Sto)
    (hB : Base o s z kw) (hn : view z (.ref kn) = some (tLI nums)) (hnr : rdS z (.ref kn) = .ref kn)
    (k : ∀ v8 r, Q (evSs (callD pg dfs (n + 8)) pg (c_law.drop 12) (LE sc o s v5 v6 v7 v8 (some (.ref kw)) v10 v11 v12 v13 v14 v15 (some (.ref kn)) v17 (some (.ref z.length)) none) (z ++ Dk ((List.range (s + 1)).map (mS nums o s)) :: r))) :
    Q (evSs (callD pg dfs (n + 8)) pg (c_law.drop 10) (LE sc o s v5 v6 v7 v8 (some (.ref kw)) v10 v11 v12 v13 v14 v15 (some (.ref kn)) v17 none none) z) := by
  refine q_set (x := .ref z.length) (st1 := z ++ [Dk []]) (by simp [lstD, tLI]) ?_
  refine q_for0 (lw_rng hs _ _ _ _ _ _ _ _ _ _ _ _ _ _ _ _) (fun i env st => ∃ v8 r, env = LE sc o s v5 v6 v7 v8 (some (.ref kw)) v10 v11 v12 v13 v14 v15 (some (.ref kn)) v17 (some (.ref z.length)) none ∧ st = z ++ Dk ((List.range i).map (mS nums o s)) :: r) ⟨v8, [], rfl, rfl⟩ ?_ ?_
  · rintro i env st hi ⟨v8, r, rfl, rfl⟩
    refine FlNx.out ?_
    have hB1 : ∀ x r', Base o s (z ++ x :: r') kw := fun x r' => hB.app
    have hn1 : ∀ r', view (z ++ r') (.ref kn) = some (tLI nums) := fun r' => view_app hn
    have hnr1 : ∀ r', rdS (z ++ r') (.ref kn) = .ref kn := fun r' => by rw [rdS_app hn, hnr]
    have hc := e_comp0 (cb := callD pg dfs (n + 8)) (v := 5) (n := s + 1) (el := .bin .mul (.idx (.var 16) (.var 5)) (.idx (.idx (.var 4) (.var 5)) (.var 8))) (own := [5]) (lw_rng (sc := sc) (o := o) hs v5 v6 v7 (some (.val (.int i))) (some (.ref kw)) v10 v11 v12 v13 v14 v15 (some (.ref kn)) v17 (some (.ref z.length)) none (z ++ Dk ((List.range i).map (mS nums o s)) :: r)) (fun p => .int (nums.getD p 0 * kK o s i p)) (by show _ ≤ 16777216; omega) (by
      intro p acc hp
      have hk := kK_small o (by omega) s (by omega) i hi p hp
      have hp' : p < nums.length := by omega
      have hget : nums.getD p 0 = nums[p] := by simp [hp']
      have hB := hB1 (Dk ((List.range i).map (mS nums o s))) (r ++ [.live (.lst acc)])
      have k2 := hn1 (Dk ((List.range i).map (mS nums o s)) :: (r ++ [.live (.lst acc)]))
      have k3 := hnr1 (Dk ((List.range i).map (mS nums o s)) :: (r ++ [.live (.lst acc)]))
      have ea : z ++ Dk ((List.range i).map (mS nums o s)) :: r ++ [.live (.lst acc)] = z ++ Dk ((List.range i).map (mS nums o s)) :: (r ++ [.live (.lst acc)]) := by simp
      rw [ea]
      generalize z ++ Dk ((List.range i).map (mS nums o s)) :: (r ++ [.live (.lst acc)]) = z' at *
      show evE (callD pg dfs (n + 8)) _ (LE sc o s (some (.val (.int p))) v6 v7 (some (.val (.int i))) (some (.ref kw)) v10 v11 v12 v13 v14 v15 (some (.ref kn)) v17 (some (.ref z.length)) none) z' = _
      simp only [e_bin, e_idx, e_var, List.getElem?_cons_zero, List.getElem?_cons_succ, getV_some, rdS_val, bind_ok, hB.tabR, k3, idx_int k2 hp', (hB.ix2 hp hi).1, (hB.ix2 hp hi).2, Dy.op_mulR hk.1 hk.2, hget])
    have hc' : evE (callD pg dfs (n + 8)) (.comp (.bin .mul (.idx (.var 16) (.var 5)) (.idx (.idx (.var 4) (.var 5)) (.var 8))) (.nm 5) (.rng1 (.bin .add (.var 3) (.int (1)))) [] [5]) (LE sc o s v5 v6 v7 (some (.val (.int i))) (some (.ref kw)) v10 v11 v12 v13 v14 v15 (some (.ref kn)) v17 (some (.ref z.length)) none) (z ++ Dk ((List.range i).map (mS nums o s)) :: r) = .ok (.ref (z ++ Dk ((List.range i).map (mS nums o s)) :: r).length) (z ++ Dk ((List.range i).map (mS nums o s)) :: r ++ [Dk ((List.range (s + 1)).map fun p => nums.getD p 0 * kK o s i p)]) := by
      rw [hc]; simp [Function.comp_def]
    have ea : z ++ Dk ((List.range i).map (mS nums o s)) :: r ++ [Dk ((List.range (s + 1)).map fun p => nums.getD p 0 * kK o s i p)] = z ++ Dk ((List.range i).map (mS nums o s)) :: (r ++ [Dk ((List.range (s + 1)).map fun p => nums.getD p 0 * kK o s i p)]) := by simp
    have hlen : ((List.range i).map (mS nums o s)).length < lim := by simp; show _ < 16777216; omega
    refine q_expr (x := .val .non) (st1 := z ++ Dk ((List.range (i + 1)).map (mS nums o s)) :: (r ++ [Dk ((List.range (s + 1)).map fun p => nums.getD p 0 * kK o s i p)])) ?_ (.nx ⟨_, _, rfl, rfl⟩)
    show evE (callD pg dfs (n + 8)) _ (LE sc o s v5 v6 v7 (some (.val (.int i))) (some (.ref kw)) v10 v11 v12 v13 v14 v15 (some (.ref kn)) v17 (some (.ref z.length)) none) _ = _
    rw [e_bm, e_var]
    simp only [List.getElem?_cons_zero, List.getElem?_cons_succ, getV_some, bind_ok, rdS_new, liveL_new, Option.isSome_some, if_true]
    rw [es_cons, e_bi, es_cons, hc']
    simp only [bind_ok, es_nil]
    rw [b_sum view_new, mS_sum]
    simp only [bind_ok, bmD, freeze_val]
    rw [ea]
    simp only [liveL_new]
    rw [if_pos (by simpa using hlen), putL_new, show List.range (i + 1) = List.range i ++ [i] from List.range_succ]
    simp
  · rintro env st ⟨v8, r, rfl, rfl⟩
    exact k v8 r

theorem seg5c {Q : Fl → Prop} (hQ : ∀ st, Q (.rt (.val (.bl true)) st)) (n : Nat) (sc : S) (o s : Nat) (ho1 : 2 ≤ o) (ho : o ≤ 9) (hs : s ≤ 9) (hs1 : 1 ≤ s) (v5 v6 v7 v8 v9 v10 v11 v12 v13 v14 v15 v17 : Option S) (kn ks : Nat) (nums : List Int) (hl : nums.length = s + 1) (h9 : ∀ v ∈ nums, (0 : Int) ≤ v ∧ v < 9) (z : Sto)
    (hn : view z (.ref kn) = some (tLI nums)) (hnr : rdS z (.ref kn) = .ref kn) (hm : view z (.ref ks) = some (tLI ((List.range (s + 1)).map (mS nums o s)))) (hmr : rdS z (.ref ks) = .ref ks) :
    Q (evSs (callD pg dfs (n + 8)) pg (c_law.drop 12) (LE sc o s v5 v6 v7 v8 v9 v10 v11 v12 v13 v14 v15 (some (.ref kn)) v17 (some (.ref ks)) none) z) := by
  have hs0 : ∀ xs : List Int, (∀ v ∈ xs, (0 : Int) ≤ v ∧ v < 9) → 0 ≤ xs.sum ∧ xs.sum ≤ 9 * xs.length := by
    intro xs; induction xs with
    | nil => intro _; simp
    | cons x xs ih =>
      intro h
      have h1 := h x (by simp)
      have h2 := ih (fun v hv => h v (by simp [hv]))
      rw [List.sum_cons, List.length_cons]
      omega
  have hsum := hs0 nums h9
  have hsum2 : nums.sum < 18446744073709551616 := by omega
  refine q_set (x := .val (.int nums.sum)) (st1 := z) ?_ ?_
  · simp only [e_bi, es_cons, es_nil, e_var, List.getElem?_cons_zero, List.getElem?_cons_succ, getV_some, bind_ok, hnr, b_sum hn]
  have hit : ∀ (v8 : Option S) (r : Sto), evI (callD pg dfs (n + 8)) (.any (.var 18)) (LE sc o s v5 v6 v7 v8 v9 v10 v11 v12 v13 v14 v15 (some (.ref kn)) v17 (some (.ref ks)) (some (.val (.int nums.sum)))) (z ++ r) = .ok (.lst (.ref ks)) (z ++ r) := by
    intro v8 r
    rw [iv_any]
    simp only [e_var, List.getElem?_cons_zero, List.getElem?_cons_succ, getV_some, bind_ok, rdS_app hm, hmr, srcD, view_app hm]
  have hfu : ∀ r : Sto, Src.fuel (z ++ r) (.lst (.ref ks)) = s + 1 + 1 := by
    intro r; simp only [Src.fuel, view_app hm]; simp
  have hg : ∀ i (r : Sto), i < s + 1 → Src.get (z ++ r) i (.lst (.ref ks)) = some (some (.val (.int (mS nums o s i)))) := by
    intro i r hi; simp only [Src.get, view_app hm]; simp [hi]
  have hg1 : ∀ (r : Sto), Src.get (z ++ r) (s + 1) (.lst (.ref ks)) = some none := by
    intro r; simp only [Src.get, view_app hm]; simp
  have hmac := dk_mac (n := n + 5) (st := z) (x := .ref kn) nums o s ho1 ho hs (.inr ⟨⟨_, rfl⟩, hn⟩) hl (by omega) hsum2
  have hcond : ∃ r, (evE (callD pg dfs (n + 8)) (.or_ (.cmp .eq (.var 19) (.int (0))) (.cmp .gt (.bi .len [.comp (.var 10) (.nm 10) (.any (.var 18)) [.cmp .ne (.bin .mod (.bi .int [.var 10]) (.var 19)) (.int (0))] [10]]) (.int (0)))) (LE sc o s v5 v6 v7 v8 v9 v10 v11 v12 v13 v14 v15 (some (.ref kn)) v17 (some (.ref ks)) (some (.val (.int nums.sum)))) z).bind truD = .ok (decide (¬ mGood nums o s)) (z ++ r) := by
    by_cases hz : nums.sum = 0
    · refine ⟨[], ?_⟩
      have : ¬ mGood nums o s := fun g => g.1 hz
      simp [hz, this]
    · have hpos : 0 < nums.sum := by omega
      obtain ⟨acc, st2, h, h1, h2⟩ := comp_gen (src := .lst (.ref ks)) (g := .nm 10) (n := s + 1) (k := z.length) (env0 := LE sc o s v5 v6 v7 v8 v9 none v11 v12 v13 v14 v15 (some (.ref kn)) v17 (some (.ref ks)) (some (.val (.int nums.sum)))) (cond := evC (callD pg dfs (n + 8)) [.cmp .ne (.bin .mod (.bi .int [.var 10]) (.var 19)) (.int (0))]) (el := evE (callD pg dfs (n + 8)) (.var 10)) (fun i acc st => st = z ++ [.live (.lst acc)] ∧ (acc.length = 0 ↔ ∀ d, d < i → mS nums o s d % nums.sum = 0)) (by show _ ≤ 16777216; omega) (by
          rintro acc st ⟨rfl, _⟩
          exact hg1 _)
        (by
          rintro i acc st hi ⟨rfl, hiff⟩
          refine ⟨.val (.int (mS nums o s i)), LE sc o s v5 v6 v7 v8 v9 (some (.val (.int (mS nums o s i)))) v11 v12 v13 v14 v15 (some (.ref kn)) v17 (some (.ref ks)) (some (.val (.int nums.sum))), decide (¬ mS nums o s i % nums.sum = 0), z ++ [.live (.lst acc)], hg i _ hi, rfl, ?_, ?_⟩
          · by_cases hd : mS nums o s i % nums.sum = 0 <;> simp [Dy.op_mod hpos, hd]
          · by_cases hd : mS nums o s i % nums.sum = 0
            · rw [if_neg (by simp [hd])]
              refine ⟨rfl, hiff.trans ⟨fun q d hd' => ?_, fun q d hd' => q d (by omega)⟩⟩
              by_cases e : d = i
              · rw [e]; exact hd
              · exact q d (by omega)
            · rw [if_pos (by simp [hd])]
              refine ⟨.val (.int (mS nums o s i)), z ++ [.live (.lst acc)], .int (mS nums o s i), z ++ [.live (.lst acc)], ?_, rfl, liveL_new, putL_new, ⟨fun q => absurd q (by simp), fun q => absurd (q i (by omega)) hd⟩⟩
              simp only [e_var, List.getElem?_cons_zero, List.getElem?_cons_succ, getV_some, rdS_val]) (s + 1) 0 [] (z ++ [.live (.lst [])]) (by omega) (by simp) ⟨rfl, by simp⟩
      refine ⟨[.live (.lst acc)], ?_⟩
      have hc : evE (callD pg dfs (n + 8)) (.comp (.var 10) (.nm 10) (.any (.var 18)) [.cmp .ne (.bin .mod (.bi .int [.var 10]) (.var 19)) (.int (0))] [10]) (LE sc o s v5 v6 v7 v8 v9 v10 v11 v12 v13 v14 v15 (some (.ref kn)) v17 (some (.ref ks)) (some (.val (.int nums.sum)))) z = .ok (.ref z.length) (z ++ [.live (.lst acc)]) := by
        have q1 := hit v8 []
        have q2 := hfu []
        rw [List.append_nil] at q1 q2
        rw [e_compU, q1, bind_ok, q2]
        rw [← h1]
        exact h
      have hd : decide (¬ mGood nums o s) = decide ((0 : Int) < acc.length) := by
        rw [decide_eq_decide]
        constructor
        · intro q
          have : ¬ acc.length = 0 := fun e => q ⟨hz, h2.1 e⟩
          omega
        · intro q g
          have := h2.2 g.2
          omega
      rw [hd]
      simp only [e_or, e_cmp, e_var, e_int, List.getElem?_cons_zero, List.getElem?_cons_succ, getV_some, rdS_val, bind_ok, c_eq, tru_bl, beq_iff_eq, hz, if_false]
      rw [e_bi, es_cons, hc]
      simp only [bind_ok, es_nil, b_len view_new, e_int, c_gt, tru_bl]
  obtain ⟨r, hcond⟩ := hcond
  refine q_if hcond (fun hb => ?_) (fun hb => ?_)
  · have hng : ¬ mGood nums o s := by simpa using hb
    have hm2 := dk_mac (n := n + 4) (st := z ++ r) (x := .ref kn) nums o s ho1 ho hs (.inr ⟨⟨_, rfl⟩, view_app hn⟩) hl (by omega) hsum2
    rw [if_neg hng] at hm2
    have href := dk_ref (n := n + 4) (st := z ++ r) (x := .ref kn) (o := o) (by rw [rdS_app hn, hnr]; exact hm2)
    refine q_if (c := false) (st1 := z ++ r) ?_ (fun h => nomatch h) (fun _ => seg6 hQ n sc o s ho1 ho hs hs1 _ _ _ _ _ _ _ _ _ _ _ _ _ _ _ _)
    show (evE (callD pg dfs (n + 8)) _ (LE sc o s v5 v6 v7 v8 v9 v10 v11 v12 v13 v14 v15 (some (.ref kn)) v17 (some (.ref ks)) (some (.val (.int nums.sum)))) _).bind truD = _
    simp only [e_not, e_call, es_cons, es_nil, e_var, List.getElem?_cons_zero, List.getElem?_cons_succ, getV_some, rdS_val, bind_ok, rdS_app hn, hnr]
    rw [href]
    rfl
  · have hgd : mGood nums o s := by simpa using hb
    have hm2 := dk_mac (n := n + 5) (st := z ++ r) (x := .ref kn) nums o s ho1 ho hs (.inr ⟨⟨_, rfl⟩, view_app hn⟩) hl (by omega) hsum2
    rw [if_pos hgd] at hm2
    have hpos : 0 < nums.sum := by have := hgd.1; omega
    generalize hL : (List.range (s + 1)).map (fun d => mS nums o s d / nums.sum) = L at hm2
    obtain ⟨j2, hc⟩ := comp_junk (src := .lst (.ref ks)) (v := 10) (n := s + 1) (k := (z ++ (r ++ [Dk L])).length) (env0 := LE sc o s v5 v6 v7 v8 v9 none v11 v12 v13 v14 v15 (some (.ref kn)) v17 (some (.ref ks)) (some (.val (.int nums.sum)))) (cond := evC (callD pg dfs (n + 8)) []) (el := evE (callD pg dfs (n + 8)) (.bin .fdiv (.var 10) (.var 19))) (pre := z ++ (r ++ [Dk L])) rfl (fun i => .val (.int (mS nums o s i))) (fun i => .int (mS nums o s i / nums.sum)) (by show _ ≤ 16777216; omega)
      (fun i xs j hi => by rw [List.append_assoc]; exact hg i _ hi) (fun xs j => by rw [List.append_assoc]; exact hg1 _) (fun i xs j hi => rfl)
      (fun i xs j hi => ⟨.val (.int (mS nums o s i / nums.sum)), _, j, by
        show evE (callD pg dfs (n + 8)) _ (LE sc o s v5 v6 v7 v8 v9 (some (.val (.int (mS nums o s i)))) v11 v12 v13 v14 v15 (some (.ref kn)) v17 (some (.ref ks)) (some (.val (.int nums.sum)))) _ = _
        simp only [e_bin, e_var, List.getElem?_cons_zero, List.getElem?_cons_succ, getV_some, rdS_val, bind_ok, Dy.op_fdiv hpos hsum2], rfl⟩) (s + 1) 0 [] [] (by omega) rfl
    have hcL : ([] ++ (List.range' 0 (s + 1)).map fun i => T.int (mS nums o s i / nums.sum)) = L.map T.int := by
      rw [← hL, List.range_eq_range']; simp [Function.comp_def]
    rw [hcL] at hc
    have hce : evE (callD pg dfs (n + 8)) (.comp (.bin .fdiv (.var 10) (.var 19)) (.nm 10) (.any (.var 18)) [] [10]) (LE sc o s v5 v6 v7 v8 v9 v10 v11 v12 v13 v14 v15 (some (.ref kn)) v17 (some (.ref ks)) (some (.val (.int nums.sum)))) (z ++ (r ++ [Dk L])) = .ok (.ref (z ++ (r ++ [Dk L])).length) (z ++ (r ++ [Dk L]) ++ Dk L :: j2) := by
      rw [e_compU, hit, bind_ok, hfu]
      exact hc
    have hLl : L.length = s + 1 := by rw [← hL]; simp
    have s1 := same_ok (P := pg) (ds := dfs) (f := 5) (g := 6) (n := n + 6) (dd := 1) (t := tLI L) (x := .ref (z ++ r).length) (y := .ref (z ++ (r ++ [Dk L])).length) (st := z ++ (r ++ [Dk L]) ++ Dk L :: j2) rfl rfl (by omega) (by omega) (okT_LI _ (by show _ ≤ 16777216; omega)) (by rw [← List.append_assoc z r, List.append_assoc (z ++ r)]; exact is_new) is_new
    refine q_if (c := false) (st1 := z ++ (r ++ [Dk L]) ++ Dk L :: j2) ?_ (fun h => nomatch h) (fun _ => seg6 hQ n sc o s ho1 ho hs hs1 _ _ _ _ _ _ _ _ _ _ _ _ _ _ _ _)
    show (evE (callD pg dfs (n + 8)) _ (LE sc o s v5 v6 v7 v8 v9 v10 v11 v12 v13 v14 v15 (some (.ref kn)) v17 (some (.ref ks)) (some (.val (.int nums.sum)))) _).bind truD = _
    rw [e_not, e_call, es_cons, e_call, es_cons, e_var]
    simp only [e_var, es_cons, es_nil, List.getElem?_cons_zero, List.getElem?_cons_succ, getV_some, rdS_val, bind_ok, rdS_app hn, hnr]
    rw [hm2]
    simp only [bind_ok]
    rw [List.append_assoc, hce]
    simp only [bind_ok]
    rw [s1]
    rfl

theorem seg5 {Q : Fl → Prop} (hQ : ∀ st, Q (.rt (.val (.bl true)) st)) (n : Nat) (sc : S) (o s : Nat) (ho1 : 2 ≤ o) (ho : o ≤ 9) (hs : s ≤ 9) (hs1 : 1 ≤ s) (v5 v6 v7 v8 v10 v11 v12 v13 v14 v15 : Option S) (kw : Nat) (ys : List Int) (R : Sto) (hB : ∀ ys r, Base o s (Dk ys :: R ++ r) kw) :
    Q (evSs (callD pg dfs (n + 8)) pg (c_law.drop 9) (LE sc o s v5 v6 v7 v8 (some (.ref kw)) v10 v11 v12 v13 v14 v15 none none none none) (Dk ys :: R)) := by
  obtain ⟨ys2, nums, h1, h2, h3⟩ := seg5a n sc o s hs v5 v6 v7 v8 (some (.ref kw)) v10 v11 v12 v13 v14 v15 ys R
  refine q_set h3 ?_
  refine seg5b n sc o s ho1 ho hs v5 v6 v7 v8 v10 v11 v12 v13 v14 v15 none kw (Dk ys2 :: R).length nums h1 (Dk ys2 :: R ++ [Dk nums]) (hB ys2 _) view_new rdS_new ?_
  intro v8 r
  refine seg5c hQ n sc o s ho1 ho hs hs1 v5 v6 v7 v8 (some (.ref kw)) v10 v11 v12 v13 v14 v15 none (Dk ys2 :: R).length (Dk ys2 :: R ++ [Dk nums]).length nums h1 h2 _ ?_ ?_ view_new rdS_new
  · rw [List.append_assoc]; exact view_new
  · rw [List.append_assoc]; exact rdS_new
theorem law_body (n : Nat) (ns : List Int) (hn : ns.length ≤ 63) : ∃ st', callD pg dfs (n + 9) 13 [.val (.lst (ns.map .int))] [] = .ok (.val (.bl true)) st' := by
  refine q_callP (fun r => ∃ st', r = .ok (.val (.bl true)) st') (d := d_law) rfl rfl ?_
  have hQ : ∀ st, Ret (List.length ([] : Sto)) (fun r => ∃ st', r = .ok (.val (.bl true)) st') (.rt (.val (.bl true)) st) := fun st => .rt ⟨_, rfl⟩
  generalize Ret (List.length ([] : Sto)) (fun r => ∃ st', r = .ok (.val (.bl true)) st') = Q at hQ ⊢
  obtain ⟨xs, hd⟩ := deck_ok (P := pg) (ds := dfs) (n := n + 7) (f := 3) (ns := ns) (C := 40) (B := 20) (st := []) rfl hn (by omega) (by omega)
  refine q_set (x := .ref 0) (st1 := [Dk xs]) ?_ ?_
  · simp only [e_call, es_cons, es_nil, e_int, bind_ok]
    show ((getV [] (some (some (.val (tLI ns))))).bind _).bind _ = _
    simp only [getV_some, rdS_val, bind_ok]
    exact hd
  obtain ⟨v, ys, v1, v2, ht⟩ := take_ok (P := pg) (ds := dfs) (n := n + 7) (f := 4) (k := 0) (xs := xs) (m := 7) (st := [Dk xs, Dk [2, 3, 4, 5, 7, 8, 9]]) rfl rfl (by omega)
  obtain ⟨w, rfl⟩ : ∃ w : Nat, v = w := ⟨v.toNat, by omega⟩
  have hw : w < 7 := by omega
  obtain ⟨o, ho1, ho, ho3⟩ : ∃ o : Nat, 2 ≤ o ∧ o ≤ 9 ∧ ([2, 3, 4, 5, 7, 8, 9] : List Int)[w] = (o : Int) := by
    have : w = 0 ∨ w = 1 ∨ w = 2 ∨ w = 3 ∨ w = 4 ∨ w = 5 ∨ w = 6 := by omega
    rcases this with rfl | rfl | rfl | rfl | rfl | rfl | rfl
    · exact ⟨2, by omega, by omega, rfl⟩
    · exact ⟨3, by omega, by omega, rfl⟩
    · exact ⟨4, by omega, by omega, rfl⟩
    · exact ⟨5, by omega, by omega, rfl⟩
    · exact ⟨7, by omega, by omega, rfl⟩
    · exact ⟨8, by omega, by omega, rfl⟩
    · exact ⟨9, by omega, by omega, rfl⟩
  refine q_set (x := .val (.int (o : Nat))) (st1 := [Dk ys, Dk [2, 3, 4, 5, 7, 8, 9]]) ?_ ?_
  · have e1 : ∀ env, evE (callD pg dfs (n + 8)) (.lst [.int (2), .int (3), .int (4), .int (5), .int (7), .int (8), .int (9)]) env [Dk xs] = .ok (.ref 1) [Dk xs, Dk [2, 3, 4, 5, 7, 8, 9]] := by
      intro env
      simp only [e_lst, es_cons, es_nil, e_int, bind_ok, lstD]
      rfl
    have e2 : evE (callD pg dfs (n + 8)) (.call 4 [.var 1, .int (7)]) [some (.val (.lst (ns.map .int))), some (.ref 0), none, none, none, none, none, none, none, none, none, none, none, none, none, none, none, none, none, none] [Dk xs, Dk [2, 3, 4, 5, 7, 8, 9]] = .ok (.val (.int w)) [Dk ys, Dk [2, 3, 4, 5, 7, 8, 9]] := by
      simp only [e_call, es_cons, es_nil, e_var, e_int, List.getElem?_cons_zero, List.getElem?_cons_succ, getV_some, bind_ok]
      exact ht
    show evE (callD pg dfs (n + 8)) _ [some (.val (.lst (ns.map .int))), some (.ref 0), none, none, none, none, none, none, none, none, none, none, none, none, none, none, none, none, none, none] _ = _
    rw [e_idx, e1, bind_ok, e2, bind_ok]
    rw [idx_int (xs := [2, 3, 4, 5, 7, 8, 9]) (i := w) rfl (by exact hw), ho3]
  obtain ⟨v', ys', v1', v2', ht'⟩ := take_ok (P := pg) (ds := dfs) (n := n + 7) (f := 4) (k := 0) (xs := ys) (m := 10) (st := [Dk ys, Dk [2, 3, 4, 5, 7, 8, 9]]) rfl rfl (by omega)
  obtain ⟨s, rfl⟩ : ∃ s : Nat, v' = s := ⟨v'.toNat, by omega⟩
  have hs : s ≤ 9 := by omega
  refine q_set (x := .val (.int (s : Nat))) (st1 := [Dk ys', Dk [2, 3, 4, 5, 7, 8, 9]]) ?_ ?_
  · show evE (callD pg dfs (n + 8)) _ [some (.val (.lst (ns.map .int))), some (.ref 0), some (.val (.int (o : Nat))), none, none, none, none, none, none, none, none, none, none, none, none, none, none, none, none, none] _ = _
    simp only [e_call, es_cons, es_nil, e_var, e_int, List.getElem?_cons_zero, List.getElem?_cons_succ, getV_some, bind_ok]
    exact ht'
  refine q_set (x := .ref 2) (st1 := [Dk ys', Dk [2, 3, 4, 5, 7, 8, 9]] ++ [.live (.lst [])]) ?_ ?_
  · simp only [e_lst, es_nil, bind_ok, lstD, freezeL_nil]
    rfl
  refine seg1 n (.val (.lst (ns.map .int))) o s ho1 ho hs (Dk ys') (Dk [2, 3, 4, 5, 7, 8, 9]) ?_
  intro j v5 v6 v7
  refine seg2 n (.val (.lst (ns.map .int))) o s ho1 ho hs (Dk ys') (Dk [2, 3, 4, 5, 7, 8, 9]) j v5 v6 v7 ?_
  intro kw r v10 v11 v12 hkw hB
  refine seg3 hQ n (.val (.lst (ns.map .int))) o s ho1 ho hs v5 v6 v7 none (some (.ref kw)) v10 v11 v12 none none none none none none none _ ?_
  intro hs1
  refine seg4 n (.val (.lst (ns.map .int))) o s ho1 ho hs hs1 v5 v6 v7 none (some (.ref kw)) v10 v11 v12 _ ?_
  intro r2 v10 v11 v13 v14 v15
  exact seg5 hQ n (.val (.lst (ns.map .int))) o s ho1 ho hs hs1 v5 v6 v7 none v10 v11 v12 v13 v14 v15 kw ys' ([Dk [2, 3, 4, 5, 7, 8, 9]] ++ .live (.lst (kTab o s)) :: r ++ r2) (fun ys r3 => by
    have := (hB ys).app (r := r2 ++ r3)
    simpa using this)
theorem law_true : ∀ ns : List Int, ns.length ≤ 63 → ∃ st', callD pg dfs 60 13 [.val (.lst (ns.map .int))] [] = .ok (.val (.bl true)) st' := fun ns hn => law_body 51 ns hn

theorem all_mk {l : PySem.W.OpenLaw} {w : World} {K : PySem.W.Frag} {h : Heap} {mg : Str → Option Value} {fa : Addr} (X : K.In h) (G : h.Ns mainGlobals mg) (hfa : mg "law" = some (.ref fa))
    {e0 e1 f0 f1 f2 f3 f4 f5 f6 f7 f8 f9 f10 f11 f12 f13 : Addr}
    {od0 an0 od1 an1 od2 an2 od3 an3 od4 an4 od5 an5 od6 an6 od7 an7 od8 an8 od9 an9 od10 an10 od11 an11 od12 an12 od13 an13 : Option Addr} {sl0 sl1 sl2 sl3 sl4 sl5 sl6 sl7 sl8 sl9 sl10 sl11 sl12 sl13 : Array (Option Value)} {oc0 kV0 dc0 pm0 cd0 ct0 oc1 kV1 dc1 pm1 cd1 ct1 oc2 kV2 dc2 pm2 cd2 ct2 oc3 kV3 dc3 pm3 cd3 ct3 oc4 kV4 dc4 pm4 cd4 ct4 oc5 kV5 dc5 pm5 cd5 ct5 oc6 kV6 dc6 pm6 cd6 ct6 oc7 kV7 dc7 pm7 cd7 ct7 oc8 kV8 dc8 pm8 cd8 ct8 oc9 kV9 dc9 pm9 cd9 ct9 oc10 kV10 dc10 pm10 cd10 ct10 oc11 kV11 dc11 pm11 cd11 ct11 oc12 kV12 dc12 pm12 cd12 ct12 oc13 kV13 dc13 pm13 cd13 ct13 : Value}
    (b_len : PySem.W.nsIn K mainGlobals "len" = some none)
    (b_abs : PySem.W.nsIn K mainGlobals "abs" = some none)
    (b_int : PySem.W.nsIn K mainGlobals "int" = some none)
    (b_list : PySem.W.nsIn K mainGlobals "list" = some none)
    (b_tuple : PySem.W.nsIn K mainGlobals "tuple" = some none)
    (b_sum : PySem.W.nsIn K mainGlobals "sum" = some none)
    (b_range : PySem.W.nsIn K mainGlobals "range" = some none)
    (b_isinstance : PySem.W.nsIn K mainGlobals "isinstance" = some none)
    (b_bool : PySem.W.nsIn K mainGlobals "bool" = some none)
    (b_str : PySem.W.nsIn K mainGlobals "str" = some none)
    (o_comb : PySem.W.nsIn K mainGlobals "comb" = some (some (.builtin "math.comb")))
    (e0a : PySem.W.nsIn K mainGlobals "TreeError" = some (some (.ref e0)))
    (e0b : PySem.W.excIn K e0 [.type "ValueError", .type "Exception", .type "BaseException", .type "object"] "ValueError.__new__" = true)
    (e0f : PySem.W.hasDictIn K e0 = true)
    (e0c : PySem.W.keepIn K (.ref e0) = true)
    (e0d : PySem.W.subIn K (.ref e0) (.type "BaseException") = some true)
    (e0e : PySem.W.typeIn K (.ref e0) = some (.type "type"))
    (e1a : PySem.W.nsIn K mainGlobals "InvalidDivision" = some (some (.ref e1)))
    (e1b : PySem.W.excIn K e1 [.type "ValueError", .type "Exception", .type "BaseException", .type "object"] "ValueError.__new__" = true)
    (e1f : PySem.W.hasDictIn K e1 = true)
    (e1c : PySem.W.keepIn K (.ref e1) = true)
    (e1d : PySem.W.subIn K (.ref e1) (.type "BaseException") = some true)
    (e1e : PySem.W.typeIn K (.ref e1) = some (.type "type"))
    (x0_0 : PySem.W.subIn K (.ref e0) (.ref e0) = some true)
    (x0_1 : PySem.W.subIn K (.ref e0) (.ref e1) = some false)
    (x1_0 : PySem.W.subIn K (.ref e1) (.ref e0) = some true)
    (x1_1 : PySem.W.subIn K (.ref e1) (.ref e1) = some true)
    (a0 : PySem.W.nsIn K mainGlobals "integer_power" = some (some (.ref f0)))
    (l0 : K.lookup f0 = some ⟨oc0, od0, .func (PySem.W.fnOf "integer_power" "integer_power" (defArgs s_integer_power) (defBody s_integer_power) (defScope s_integer_power) .none kV0 dc0 pm0 an0 cd0 ct0), sl0⟩)
    (c0 : PySem.W.codeIn K cd0 "integer_power" = true)
    (k0 : PySem.W.keepIn K (.ref f0) = true)
    (a1 : PySem.W.nsIn K mainGlobals "krawtchouk" = some (some (.ref f1)))
    (l1 : K.lookup f1 = some ⟨oc1, od1, .func (PySem.W.fnOf "krawtchouk" "krawtchouk" (defArgs s_krawtchouk) (defBody s_krawtchouk) (defScope s_krawtchouk) .none kV1 dc1 pm1 an1 cd1 ct1), sl1⟩)
    (c1 : PySem.W.codeIn K cd1 "krawtchouk" = true)
    (k1 : PySem.W.keepIn K (.ref f1) = true)
    (a2 : PySem.W.nsIn K mainGlobals "macwilliams" = some (some (.ref f2)))
    (l2 : K.lookup f2 = some ⟨oc2, od2, .func (PySem.W.fnOf "macwilliams" "macwilliams" (defArgs s_macwilliams) (defBody s_macwilliams) (defScope s_macwilliams) .none kV2 dc2 pm2 an2 cd2 ct2), sl2⟩)
    (c2 : PySem.W.codeIn K cd2 "macwilliams" = true)
    (k2 : PySem.W.keepIn K (.ref f2) = true)
    (a3 : PySem.W.nsIn K mainGlobals "_law_deck" = some (some (.ref f3)))
    (l3 : K.lookup f3 = some ⟨oc3, od3, .func (PySem.W.fnOf "_law_deck" "_law_deck" (defArgs s__law_deck) (defBody s__law_deck) (defScope s__law_deck) .none kV3 dc3 pm3 an3 cd3 ct3), sl3⟩)
    (c3 : PySem.W.codeIn K cd3 "_law_deck" = true)
    (k3 : PySem.W.keepIn K (.ref f3) = true)
    (a4 : PySem.W.nsIn K mainGlobals "_law_take" = some (some (.ref f4)))
    (l4 : K.lookup f4 = some ⟨oc4, od4, .func (PySem.W.fnOf "_law_take" "_law_take" (defArgs s__law_take) (defBody s__law_take) (defScope s__law_take) .none kV4 dc4 pm4 an4 cd4 ct4), sl4⟩)
    (c4 : PySem.W.codeIn K cd4 "_law_take" = true)
    (k4 : PySem.W.keepIn K (.ref f4) = true)
    (a5 : PySem.W.nsIn K mainGlobals "_law_plain" = some (some (.ref f5)))
    (l5 : K.lookup f5 = some ⟨oc5, od5, .func (PySem.W.fnOf "_law_plain" "_law_plain" (defArgs s__law_plain) (defBody s__law_plain) (defScope s__law_plain) .none kV5 dc5 pm5 an5 cd5 ct5), sl5⟩)
    (c5 : PySem.W.codeIn K cd5 "_law_plain" = true)
    (k5 : PySem.W.keepIn K (.ref f5) = true)
    (a6 : PySem.W.nsIn K mainGlobals "_law_same" = some (some (.ref f6)))
    (l6 : K.lookup f6 = some ⟨oc6, od6, .func (PySem.W.fnOf "_law_same" "_law_same" (defArgs s__law_same) (defBody s__law_same) (defScope s__law_same) .none kV6 dc6 pm6 an6 cd6 ct6), sl6⟩)
    (c6 : PySem.W.codeIn K cd6 "_law_same" = true)
    (k6 : PySem.W.keepIn K (.ref f6) = true)
    (a7 : PySem.W.nsIn K mainGlobals "_law_ways" = some (some (.ref f7)))
    (l7 : K.lookup f7 = some ⟨oc7, od7, .func (PySem.W.fnOf "_law_ways" "_law_ways" (defArgs s__law_ways) (defBody s__law_ways) (defScope s__law_ways) .none kV7 dc7 pm7 an7 cd7 ct7), sl7⟩)
    (c7 : PySem.W.codeIn K cd7 "_law_ways" = true)
    (k7 : PySem.W.keepIn K (.ref f7) = true)
    (a8 : PySem.W.nsIn K mainGlobals "_law_power" = some (some (.ref f8)))
    (l8 : K.lookup f8 = some ⟨oc8, od8, .func (PySem.W.fnOf "_law_power" "_law_power" (defArgs s__law_power) (defBody s__law_power) (defScope s__law_power) .none kV8 dc8 pm8 an8 cd8 ct8), sl8⟩)
    (c8 : PySem.W.codeIn K cd8 "_law_power" = true)
    (k8 : PySem.W.keepIn K (.ref f8) = true)
    (a9 : PySem.W.nsIn K mainGlobals "_law_row_times" = some (some (.ref f9)))
    (l9 : K.lookup f9 = some ⟨oc9, od9, .func (PySem.W.fnOf "_law_row_times" "_law_row_times" (defArgs s__law_row_times) (defBody s__law_row_times) (defScope s__law_row_times) .none kV9 dc9 pm9 an9 cd9 ct9), sl9⟩)
    (c9 : PySem.W.codeIn K cd9 "_law_row_times" = true)
    (k9 : PySem.W.keepIn K (.ref f9) = true)
    (a10 : PySem.W.nsIn K mainGlobals "_law_power_row" = some (some (.ref f10)))
    (l10 : K.lookup f10 = some ⟨oc10, od10, .func (PySem.W.fnOf "_law_power_row" "_law_power_row" (defArgs s__law_power_row) (defBody s__law_power_row) (defScope s__law_power_row) .none kV10 dc10 pm10 an10 cd10 ct10), sl10⟩)
    (c10 : PySem.W.codeIn K cd10 "_law_power_row" = true)
    (k10 : PySem.W.keepIn K (.ref f10) = true)
    (a11 : PySem.W.nsIn K mainGlobals "_law_refused" = some (some (.ref f11)))
    (l11 : K.lookup f11 = some ⟨oc11, od11, .func (PySem.W.fnOf "_law_refused" "_law_refused" (defArgs s__law_refused) (defBody s__law_refused) (defScope s__law_refused) .none kV11 dc11 pm11 an11 cd11 ct11), sl11⟩)
    (c11 : PySem.W.codeIn K cd11 "_law_refused" = true)
    (k11 : PySem.W.keepIn K (.ref f11) = true)
    (a12 : PySem.W.nsIn K mainGlobals "_law_known" = some (some (.ref f12)))
    (l12 : K.lookup f12 = some ⟨oc12, od12, .func (PySem.W.fnOf "_law_known" "_law_known" (defArgs s__law_known) (defBody s__law_known) (defScope s__law_known) .none kV12 dc12 pm12 an12 cd12 ct12), sl12⟩)
    (c12 : PySem.W.codeIn K cd12 "_law_known" = true)
    (k12 : PySem.W.keepIn K (.ref f12) = true)
    (a13 : PySem.W.nsIn K mainGlobals "law" = some (some (.ref f13)))
    (l13 : K.lookup f13 = some ⟨oc13, od13, .func (PySem.W.fnOf "law" "law" (defArgs s_law) (defBody s_law) (defScope s_law) .none kV13 dc13 pm13 an13 cd13 ct13), sl13⟩)
    (c13 : PySem.W.codeIn K cd13 "law" = true)
    (k13 : PySem.W.keepIn K (.ref f13) = true)
    (hlaw : ∀ ns : List Int, ns.length ≤ 63 → ∃ st', callD pg dfs 60 13 [.val (.lst (ns.map .int))] [] = .ok (.val (.bl true)) st') :
    ∃ fd : FuncData, (∀ (s : Shared) (v : Value), BindsTo s fd ⟨[v], []⟩ [("script", v)]) ∧ ∀ base : Heap, K.In base → base.Ns mainGlobals mg → FnOk l.prog w K mg base (L2.CX l.prog w) 121 fa fd ["script"] (spLaw K) := by
  have e := (PySem.W.mg_of X G a13).symm.trans hfa
  cases e
  let cl : Nat → Addr := fun i => match i with
    | 0 => e0
    | 1 => e1
    | _ => 0
  have F0 := fun_mk (st := s_integer_power) l0 c0 k0
  have D0 : DefAt info K mg dfs 0 "integer_power" f0 _ ["base", "exponent"] := ⟨⟨_, _, _, _, F0, f_integer_power, m_integer_power, rfl, rfl, rfl⟩, PySem.W.mg_of X G a0, F0.binds (ps := ["base", "exponent"]) fun _ _ _ _ _ _ us hl => match us, hl with | [_, _], _ => rfl⟩
  have F1 := fun_mk (st := s_krawtchouk) l1 c1 k1
  have D1 : DefAt info K mg dfs 1 "krawtchouk" f1 _ ["order", "length", "degree", "place"] := ⟨⟨_, _, _, _, F1, f_krawtchouk, m_krawtchouk, rfl, rfl, rfl⟩, PySem.W.mg_of X G a1, F1.binds (ps := ["order", "length", "degree", "place"]) fun _ _ _ _ _ _ us hl => match us, hl with | [_, _, _, _], _ => rfl⟩
  have F2 := fun_mk (st := s_macwilliams) l2 c2 k2
  have D2 : DefAt info K mg dfs 2 "macwilliams" f2 _ ["counts", "order"] := ⟨⟨_, _, _, _, F2, f_macwilliams, m_macwilliams, rfl, rfl, rfl⟩, PySem.W.mg_of X G a2, F2.binds (ps := ["counts", "order"]) fun _ _ _ _ _ _ us hl => match us, hl with | [_, _], _ => rfl⟩
  have F3 := fun_mk (st := s__law_deck) l3 c3 k3
  have D3 : DefAt info K mg dfs 3 "_law_deck" f3 _ ["script", "cells", "each"] := ⟨⟨_, _, _, _, F3, f__law_deck, m__law_deck, rfl, rfl, rfl⟩, PySem.W.mg_of X G a3, F3.binds (ps := ["script", "cells", "each"]) fun _ _ _ _ _ _ us hl => match us, hl with | [_, _, _], _ => rfl⟩
  have F4 := fun_mk (st := s__law_take) l4 c4 k4
  have D4 : DefAt info K mg dfs 4 "_law_take" f4 _ ["deck", "many"] := ⟨⟨_, _, _, _, F4, f__law_take, m__law_take, rfl, rfl, rfl⟩, PySem.W.mg_of X G a4, F4.binds (ps := ["deck", "many"]) fun _ _ _ _ _ _ us hl => match us, hl with | [_, _], _ => rfl⟩
  have F5 := fun_mk (st := s__law_plain) l5 c5 k5
  have D5 : DefAt info K mg dfs 5 "_law_plain" f5 _ ["value"] := ⟨⟨_, _, _, _, F5, f__law_plain, m__law_plain, rfl, rfl, rfl⟩, PySem.W.mg_of X G a5, F5.binds (ps := ["value"]) fun _ _ _ _ _ _ us hl => match us, hl with | [_], _ => rfl⟩
  have F6 := fun_mk (st := s__law_same) l6 c6 k6
  have D6 : DefAt info K mg dfs 6 "_law_same" f6 _ ["told", "due"] := ⟨⟨_, _, _, _, F6, f__law_same, m__law_same, rfl, rfl, rfl⟩, PySem.W.mg_of X G a6, F6.binds (ps := ["told", "due"]) fun _ _ _ _ _ _ us hl => match us, hl with | [_, _], _ => rfl⟩
  have F7 := fun_mk (st := s__law_ways) l7 c7 k7
  have D7 : DefAt info K mg dfs 7 "_law_ways" f7 _ ["size", "many"] := ⟨⟨_, _, _, _, F7, f__law_ways, m__law_ways, rfl, rfl, rfl⟩, PySem.W.mg_of X G a7, F7.binds (ps := ["size", "many"]) fun _ _ _ _ _ _ us hl => match us, hl with | [_, _], _ => rfl⟩
  have F8 := fun_mk (st := s__law_power) l8 c8 k8
  have D8 : DefAt info K mg dfs 8 "_law_power" f8 _ ["base", "exponent"] := ⟨⟨_, _, _, _, F8, f__law_power, m__law_power, rfl, rfl, rfl⟩, PySem.W.mg_of X G a8, F8.binds (ps := ["base", "exponent"]) fun _ _ _ _ _ _ us hl => match us, hl with | [_, _], _ => rfl⟩
  have F9 := fun_mk (st := s__law_row_times) l9 c9 k9
  have D9 : DefAt info K mg dfs 9 "_law_row_times" f9 _ ["one", "other"] := ⟨⟨_, _, _, _, F9, f__law_row_times, m__law_row_times, rfl, rfl, rfl⟩, PySem.W.mg_of X G a9, F9.binds (ps := ["one", "other"]) fun _ _ _ _ _ _ us hl => match us, hl with | [_, _], _ => rfl⟩
  have F10 := fun_mk (st := s__law_power_row) l10 c10 k10
  have D10 : DefAt info K mg dfs 10 "_law_power_row" f10 _ ["one", "two", "many"] := ⟨⟨_, _, _, _, F10, f__law_power_row, m__law_power_row, rfl, rfl, rfl⟩, PySem.W.mg_of X G a10, F10.binds (ps := ["one", "two", "many"]) fun _ _ _ _ _ _ us hl => match us, hl with | [_, _, _], _ => rfl⟩
  have F11 := fun_mk (st := s__law_refused) l11 c11 k11
  have D11 : DefAt info K mg dfs 11 "_law_refused" f11 _ ["counts", "order"] := ⟨⟨_, _, _, _, F11, f__law_refused, m__law_refused, rfl, rfl, rfl⟩, PySem.W.mg_of X G a11, F11.binds (ps := ["counts", "order"]) fun _ _ _ _ _ _ us hl => match us, hl with | [_, _], _ => rfl⟩
  have F12 := fun_mk (st := s__law_known) l12 c12 k12
  have D12 : DefAt info K mg dfs 12 "_law_known" f12 _ ["order", "size"] := ⟨⟨_, _, _, _, F12, f__law_known, m__law_known, rfl, rfl, rfl⟩, PySem.W.mg_of X G a12, F12.binds (ps := ["order", "size"]) fun _ _ _ _ _ _ us hl => match us, hl with | [_, _], _ => rfl⟩
  have F13 := fun_mk (st := s_law) l13 c13 k13
  have D13 : DefAt info K mg dfs 13 "law" fa _ ["script"] := ⟨⟨_, _, _, _, F13, f_law, m_law, rfl, rfl, rfl⟩, PySem.W.mg_of X G a13, F13.binds (ps := ["script"]) fun _ _ _ _ _ _ us hl => match us, hl with | [_], _ => rfl⟩
  have T : Pro info K mg cl pg dfs :=
    { blt := fun x hx => by
        simp only [blts, List.mem_cons, List.not_mem_nil, or_false] at hx
        rcases hx with rfl | rfl | rfl | rfl | rfl | rfl | rfl | rfl | rfl | rfl
        · exact PySem.W.mg_none_of X G b_len
        · exact PySem.W.mg_none_of X G b_abs
        · exact PySem.W.mg_none_of X G b_int
        · exact PySem.W.mg_none_of X G b_list
        · exact PySem.W.mg_none_of X G b_tuple
        · exact PySem.W.mg_none_of X G b_sum
        · exact PySem.W.mg_none_of X G b_range
        · exact PySem.W.mg_none_of X G b_isinstance
        · exact PySem.W.mg_none_of X G b_bool
        · exact PySem.W.mg_none_of X G b_str
      mods := fun b h1 h2 => by
        cases b <;> first
          | exact PySem.W.mg_of X G o_comb
          | (cases h1; done)
          | (exact absurd h2 (by decide +kernel))
      defs := fun f x h => by
        match f, h with
        | 0, h => cases h; exact ⟨_, _, _, D0⟩
        | 1, h => cases h; exact ⟨_, _, _, D1⟩
        | 2, h => cases h; exact ⟨_, _, _, D2⟩
        | 3, h => cases h; exact ⟨_, _, _, D3⟩
        | 4, h => cases h; exact ⟨_, _, _, D4⟩
        | 5, h => cases h; exact ⟨_, _, _, D5⟩
        | 6, h => cases h; exact ⟨_, _, _, D6⟩
        | 7, h => cases h; exact ⟨_, _, _, D7⟩
        | 8, h => cases h; exact ⟨_, _, _, D8⟩
        | 9, h => cases h; exact ⟨_, _, _, D9⟩
        | 10, h => cases h; exact ⟨_, _, _, D10⟩
        | 11, h => cases h; exact ⟨_, _, _, D11⟩
        | 12, h => cases h; exact ⟨_, _, _, D12⟩
        | 13, h => cases h; exact ⟨_, _, _, D13⟩
        | f + 14, h => simp at h
      excs := fun c x h => by
        match c, h with
        | 0, h => cases h; exact ⟨PySem.W.mg_of X G e0a, e0b, e0c, e0d, e0e⟩
        | 1, h => cases h; exact ⟨PySem.W.mg_of X G e1a, e1b, e1c, e1d, e1e⟩
        | c + 2, h => simp at h
      sub := fun i j hi hj => by
        match i, j, hi, hj with
        | 0, 0, _, _ => exact PySem.W.exm_ref e0d e0f e0e x0_0
        | 0, 1, _, _ => exact PySem.W.exm_ref e1d e1f e1e x0_1
        | 1, 0, _, _ => exact PySem.W.exm_ref e0d e0f e0e x1_0
        | 1, 1, _, _ => exact PySem.W.exm_ref e1d e1f e1e x1_1
        | 0, j + 2, _, hj => exact absurd (show j + 2 < 2 from hj) (by omega)
        | 1, j + 2, _, hj => exact absurd (show j + 2 < 2 from hj) (by omega)
        | i + 2, _, hi, _ => exact absurd (show i + 2 < 2 from hi) (by omega) }
  exact ⟨_, fun s v => .of_eq rfl, fun base _ _ => law_ok T D13 hlaw⟩
end Law
open PySem PySem.W PyProof.Rows
set_option maxRecDepth 100000 in
set_option maxHeartbeats 0 in
theorem PySem.Challenge.cw_treework_k36_whole_numbers_of_krawtchouk_holds : PySem.Challenge.rw_treework_k36_whole_numbers_of_krawtchouk.Holds := by
  w_on; o_law; k_head; (case hw => w_witness2)
  k_fill
  refine L2.walk_of (l := PySem.Challenge.rw_treework_k36_whole_numbers_of_krawtchouk) (n := 63) (k := 121) (x := "script") (CX := fun w => L2.CX PySem.Challenge.rw_treework_k36_whole_numbers_of_krawtchouk.prog w) (sp := fun w => Dy.spLaw _) rfl (by decide) rfl ⟨rfl, by decide, by decide⟩ (fun w h Y => PySem.W.kIn_of Y) ?F (fun w H a ns hl _ hs => ⟨a, ns, rfl, hs, hl, fun _ => rfl⟩) (fun w H s e s' h => by obtain ⟨_, _, _, _, _, _, _, _, _, _, _, _, z⟩ := h; exact z)
  case F =>
    intro w mg fa h KX G hmg
    refine' Law.all_mk KX G hmg ?b_len ?b_abs ?b_int ?b_list ?b_tuple ?b_sum ?b_range ?b_isinstance ?b_bool ?b_str ?o_comb ?e0a ?e0b ?e0f ?e0c ?e0d ?e0e ?e1a ?e1b ?e1f ?e1c ?e1d ?e1e ?x0_0 ?x0_1 ?x1_0 ?x1_1 ?a0 ?l0 ?c0 ?k0 ?a1 ?l1 ?c1 ?k1 ?a2 ?l2 ?c2 ?k2 ?a3 ?l3 ?c3 ?k3 ?a4 ?l4 ?c4 ?k4 ?a5 ?l5 ?c5 ?k5 ?a6 ?l6 ?c6 ?k6 ?a7 ?l7 ?c7 ?k7 ?a8 ?l8 ?c8 ?k8 ?a9 ?l9 ?c9 ?k9 ?a10 ?l10 ?c10 ?k10 ?a11 ?l11 ?c11 ?k11 ?a12 ?l12 ?c12 ?k12 ?a13 ?l13 ?c13 ?k13 ?hlaw
    (case b_len => k_is)
    (case b_abs => k_is)
    (case b_int => k_is)
    (case b_list => k_is)
    (case b_tuple => k_is)
    (case b_sum => k_is)
    (case b_range => k_is)
    (case b_isinstance => k_is)
    (case b_bool => k_is)
    (case b_str => k_is)
    (case o_comb => k_is)
    (case e0a => k_is)
    (case e0b => k_exc)
    (case e0f => k_is)
    (case e0c => k_is)
    (case e0d => k_is)
    (case e0e => k_is)
    (case e1a => k_is)
    (case e1b => k_exc)
    (case e1f => k_is)
    (case e1c => k_is)
    (case e1d => k_is)
    (case e1e => k_is)
    (case x0_0 => k_is)
    (case x0_1 => k_is)
    (case x1_0 => k_is)
    (case x1_1 => k_is)
    (case a0 => k_is)
    (case l0 => k_is)
    (case c0 => k_is)
    (case k0 => k_is)
    (case a1 => k_is)
    (case l1 => k_is)
    (case c1 => k_is)
    (case k1 => k_is)
    (case a2 => k_is)
    (case l2 => k_is)
    (case c2 => k_is)
    (case k2 => k_is)
    (case a3 => k_is)
    (case l3 => k_is)
    (case c3 => k_is)
    (case k3 => k_is)
    (case a4 => k_is)
    (case l4 => k_is)
    (case c4 => k_is)
    (case k4 => k_is)
    (case a5 => k_is)
    (case l5 => k_is)
    (case c5 => k_is)
    (case k5 => k_is)
    (case a6 => k_is)
    (case l6 => k_is)
    (case c6 => k_is)
    (case k6 => k_is)
    (case a7 => k_is)
    (case l7 => k_is)
    (case c7 => k_is)
    (case k7 => k_is)
    (case a8 => k_is)
    (case l8 => k_is)
    (case c8 => k_is)
    (case k8 => k_is)
    (case a9 => k_is)
    (case l9 => k_is)
    (case c9 => k_is)
    (case k9 => k_is)
    (case a10 => k_is)
    (case l10 => k_is)
    (case c10 => k_is)
    (case k10 => k_is)
    (case a11 => k_is)
    (case l11 => k_is)
    (case c11 => k_is)
    (case k11 => k_is)
    (case a12 => k_is)
    (case l12 => k_is)
    (case c12 => k_is)
    (case k12 => k_is)
    (case a13 => k_is)
    (case l13 => k_is)
    (case c13 => k_is)
    (case k13 => k_is)
    (case hlaw => exact Law.law_true)

